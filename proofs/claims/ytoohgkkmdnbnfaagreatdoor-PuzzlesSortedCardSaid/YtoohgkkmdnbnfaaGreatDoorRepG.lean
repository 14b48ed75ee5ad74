/-
  The arguments of the laws about sorting, as things; a start of the program in which its package variables read as they are laid.
-/
import Derived.Test.YtoohgkkmdnbnfaaGreatDoorCards
import Derived.Test.YtoohgkkmdnbnfaaGreatDoorLawG
import Derived.LaidMore
import Derived.Stop.Joined
set_option linter.all false
set_option maxHeartbeats 1000000
namespace Go.Proofs.YtoohgkkmdnbnfaaGreatDoor
open Go.Ideal Go.ChangeShapes Go.WideShapes Go.ChangeAt Go.RowKit Kd Canon
theorem own:ownKnob Tryz.prog.godebug=none:=by kernel_rfl
theorem kids:Kids Tryz.prog (·<Tryz.prog.types.size):=kids_rows (by kernel_rfl) (by kernel_rfl)
theorem full:∀t e,t<Tryz.prog.types.size->Tryz.prog.underlying t=some (.slice e)->0<Tryz.prog.cellsOf e:=slices_full_of Tryz.prog (by kernel_rfl)
def lC:List TypeId:=[35,59,22,3]
theorem Gd:∀t,t∈lC->PlainT Tryz.prog (·∈lC) t:=Lx (by kernel_rfl)
theorem small:∀t,t∈lC->t<Tryz.prog.types.size:=λt ht=>by
 have h:200<Tryz.prog.types.size:=dN (by kernel_rfl);have h2:∀t∈lC,Nat.ble t 200=true:=by decide
 exact Nat.lt_of_le_of_lt (dN (h2 t ht)) h
theorem Gf:dL Tryz.prog 35=false:=by kernel_rfl
theorem Qn:dL Tryz.prog 3=false:=by kernel_rfl
theorem xN:jd Tryz.prog 3 fo qE:=Nb Tryz.underlying3
theorem Qo:jd Tryz.prog 22 (fw fo) (Ah qE):=ER Tryz.underlying22 (by kernel_rfl) xN
def Gg(g:Clue):Prop:=g.values.length<9223372036854775808
set_option maxRecDepth 100000 in
theorem Qp:jd Tryz.prog 59 az Gg:=
 (Nc Tryz.underlying59 (by kernel_rfl) (by kernel_rfl) (.cons xN (by kernel_rfl) (.cons xN (by kernel_rfl) (.cons Qo (by kernel_rfl) .nil)))).conv (λa y hG=>⟨⟨a.1,a.2.1,a.2.2.1⟩,y.2.2.1,rfl,rfl,hG.2.2.1.1⟩)
theorem Gh:jd Tryz.prog 35 (fw az) (Ah Gg):=ER Tryz.underlying35 (by kernel_rfl) Qp
set_option maxRecDepth 100000 in
theorem Gi(os:Os)(args:Array Value):laidMetH Tryz.prog Rows.puzzlesSortSpecRow.laid ((World.doorLaid Tryz.prog 4000 os).forCall (λ_ _=>0) ⟨#[],args,[]⟩).memory:=
 laidMetH_of_parts3 (fuel:=8) (laidMet_of_run' 8 (by kernel_rfl) (by kernel_rfl)) (by kernel_rfl) (by kernel_rfl)
