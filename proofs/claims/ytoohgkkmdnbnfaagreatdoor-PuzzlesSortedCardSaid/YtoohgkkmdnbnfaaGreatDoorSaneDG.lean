/-
  kinds.Compile of the example is known; kinds.Check of what it gives.
-/
import Derived.Test.YtoohgkkmdnbnfaaGreatDoorSaneCG
set_option linter.all false
namespace Go.Proofs.YtoohgkkmdnbnfaaGreatDoor
open Go.Ideal
noncomputable def uh:Nat->Option (aK->IH->Option (Value×IH)):=λf=>cond (Nat.beq f 33) (some (qJ 6 xI qN mF 33 [qM] Bd)) (ug f)
theorem PG{q:aK}{h:IH}{v:Value}{h':IH}(hm:qJ 6 xI qN mF 33 [qM] Bd q h=some (v,h')):CALL Tryz.prog q h (λr pm h2=>r=.ok v/\pm=none/\h2=h'):=
 Fg (by kernel_rfl) (vI PD PE) hm
theorem FV{f:Nat}{g:aK->IH->Option (Value×IH)}(hm:uh f=some g){q:aK}{h:IH}{v:Value}{h':IH}(ht:g q h=some (v,h')):CALL Tryz.prog q h (λr pm h2=>r=.ok v/\pm=none/\h2=h'):=by
 simp only[uh]at hm;cases h1:Nat.beq f 33 with
 |true=>rw[h1]at hm;cases hm;exact PG ht
 |false=>rw[h1]at hm;exact FT hm ht
noncomputable def FW:Env:=iV Tryz.prog (vG 254 301) uh
theorem PI:l7 FW:=oJ _ _ _ (by
 intro f q h v h' hm _ _;cases e:uh f with
 |none=>rw[e]at hm;cases hm
 |some g=>rw[e]at hm;exact FV e hm)
noncomputable def Be:Value:=.agg ⟨[aX [107],.int .i64 (.ofNat 1),.int .i64 (.ofNat 1),.int .i64 (.ofNat 2),.int .i64 (.ofNat 2),.slice none 0 0,.slice (some ⟨249,0,some 2⟩) 2 2,.slice none 0 0,.slice (some ⟨298,0,some 6⟩) 1 1,.slice (some ⟨307,0,some 12⟩) 2 2,.int .i64 (.ofNat 1),.int .i64 (.ofNat 2),.int .i64 (.ofNat 2),.slice none 0 0,.slice (some ⟨397,0,some 1⟩) 4 4,.slice (some ⟨422,0,some 0⟩) 4 4,.slice (some ⟨1161,0,some 1⟩) 8 8]⟩
theorem PK:(pR FW 1000000).call ⟨.func 36,[Be],[],none⟩ ⟨heapT qN,mF,mF⟩ (gives (.int .i64 (.ofNat 0)) mF)=true:=by kernel_rfl
