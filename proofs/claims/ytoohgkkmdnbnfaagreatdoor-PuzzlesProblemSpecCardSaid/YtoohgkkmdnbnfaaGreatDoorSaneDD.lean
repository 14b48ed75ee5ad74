/-
  kinds.Compile of the example is known; kinds.Check of what it gives.
-/
import Derived.Test.YtoohgkkmdnbnfaaGreatDoorSaneCD
set_option linter.all false
namespace Go.Proofs.YtoohgkkmdnbnfaaGreatDoor
open Go.Ideal
noncomputable def ED:Nat->Option (dP->IH->Option (Value×IH)):=λf=>cond (Nat.beq f 33) (some (BG 6 IQ BX wF 33 [BV] M9)) (EC f)
theorem aeg{q:dP}{h:IH}{v:Value}{h':IH}(hm:BG 6 IQ BX wF 33 [BV] M9 q h=some (v,h')):CALL Tryz.prog q h (λr pm h2=>r=.ok v/\pm=none/\h2=h'):=
 Sq (by kernel_rfl) (DI aee aef) hm
theorem Uo{f:Nat}{g:dP->IH->Option (Value×IH)}(hm:ED f=some g){q:dP}{h:IH}{v:Value}{h':IH}(ht:g q h=some (v,h')):CALL Tryz.prog q h (λr pm h2=>r=.ok v/\pm=none/\h2=h'):=by
 simp only[ED]at hm;cases h1:Nat.beq f 33 with
 |true=>rw[h1]at hm;cases hm;exact aeg ht
 |false=>rw[h1]at hm;exact Um hm ht
noncomputable def Uq:Env:=nE Tryz.prog (Gf 254 301) ED
theorem aeh:vN Uq:=xD _ _ _ (by
 intro f q h v h' hm _ _;cases e:ED f with
 |none=>rw[e]at hm;cases hm
 |some g=>rw[e]at hm;exact Uo e hm)
noncomputable def Na:Value:=.agg ⟨[eZ [107],.int .i64 (.ofNat 1),.int .i64 (.ofNat 1),.int .i64 (.ofNat 2),.int .i64 (.ofNat 2),.slice none 0 0,.slice (some ⟨249,0,some 2⟩) 2 2,.slice none 0 0,.slice (some ⟨298,0,some 6⟩) 1 1,.slice (some ⟨307,0,some 12⟩) 2 2,.int .i64 (.ofNat 1),.int .i64 (.ofNat 2),.int .i64 (.ofNat 2),.slice none 0 0,.slice (some ⟨397,0,some 1⟩) 4 4,.slice (some ⟨422,0,some 0⟩) 4 4,.slice (some ⟨1161,0,some 1⟩) 8 8]⟩
theorem aei:(y9 Uq 1000000).call ⟨.func 36,[Na],[],none⟩ ⟨heapT BX,wF,wF⟩ (gives (.int .i64 (.ofNat 0)) wF)=true:=by kernel_rfl
