/-
  kinds.Compile of the example is known; kinds.Check of what it gives.
-/
import Derived.Test.YtoohgkkmdnbnfaaGreatDoorSaneCF
set_option linter.all false
namespace Go.Proofs.YtoohgkkmdnbnfaaGreatDoor
open Go.Ideal
noncomputable def Eu:Nat->Option (dN->IH->Option (Value×IH)):=λf=>cond (Nat.beq f 33) (some (Bv 6 Ir BL wy 33 [BK] MM)) (Et f)
theorem ad6{q:dN}{h:IH}{v:Value}{h':IH}(hm:Bv 6 Ir BL wy 33 [BK] MM q h=some (v,h')):CALL Tryz.prog q h (λr pm h2=>r=.ok v/\pm=none/\h2=h'):=
 RX (by kernel_rfl) (Du ad4 ad5) hm
theorem TU{f:Nat}{g:dN->IH->Option (Value×IH)}(hm:Eu f=some g){q:dN}{h:IH}{v:Value}{h':IH}(ht:g q h=some (v,h')):CALL Tryz.prog q h (λr pm h2=>r=.ok v/\pm=none/\h2=h'):=by
 simp only[Eu]at hm;cases h1:Nat.beq f 33 with
 |true=>rw[h1]at hm;cases hm;exact ad6 ht
 |false=>rw[h1]at hm;exact TS hm ht
noncomputable def TV:Env:=nu Tryz.prog (FX 254 301) Eu
theorem ad7:vF TV:=xq _ _ _ (by
 intro f q h v h' hm _ _;cases e:Eu f with
 |none=>rw[e]at hm;cases hm
 |some g=>rw[e]at hm;exact TU e hm)
noncomputable def MN:Value:=.agg ⟨[eU [107],.int .i64 (.ofNat 1),.int .i64 (.ofNat 1),.int .i64 (.ofNat 2),.int .i64 (.ofNat 2),.slice none 0 0,.slice (some ⟨249,0,some 2⟩) 2 2,.slice none 0 0,.slice (some ⟨298,0,some 6⟩) 1 1,.slice (some ⟨307,0,some 12⟩) 2 2,.int .i64 (.ofNat 1),.int .i64 (.ofNat 2),.int .i64 (.ofNat 2),.slice none 0 0,.slice (some ⟨397,0,some 1⟩) 4 4,.slice (some ⟨422,0,some 0⟩) 4 4,.slice (some ⟨1161,0,some 1⟩) 8 8]⟩
theorem ad8:(yU TV 1000000).call ⟨.func 36,[MN],[],none⟩ ⟨heapT BL,wy,wy⟩ (gives (.int .i64 (.ofNat 0)) wy)=true:=by kernel_rfl
