/-
  ranking.Ranking of the open example, known; sane() is true.
-/
import Derived.Test.YtjmgkllpcidhjaaGreatDoorSaneBE
set_option linter.all false
set_option maxRecDepth 10000
namespace Go.Proofs.YtjmgkllpcidhjaaGreatDoor
open Go.Ideal
noncomputable def KS:Value:=.tuple ⟨[.agg ⟨[.slice (some ⟨496,0,some 1⟩) 2 2,.slice (some ⟨500,0,some 1⟩) 2 2,.slice (some ⟨517,0,some 2⟩) 1 1]⟩,.int .i64 (.ofNat 0)]⟩
noncomputable def KT:List (Nat×aM):=(496,.cells [.int .i64 (.ofNat 1),.int .i64 (.ofNat 1)])::(500,.cells [.int .i64 (.ofNat 2),.int .i64 (.ofNat 2)])::(517,.cells [.int .i64 (.ofNat 0),.int .i64 (.ofNat 1)])::rE
theorem Us:(oQ yB 1000000).call ⟨.func 22,A9,[],none⟩ ⟨heapT rE,313,4⟩ (yg 313 4 KT 521 KS)=true:=by kernel_rfl
noncomputable def Ba:Nat->Option (aQ->IH->Option (Value×IH)):=λf=>cond (Nat.beq f 22) (some (ry rE 313 4 KT 521 22 A9 KS)) (Fy f)
theorem Ut{f:Nat}{g:aQ->IH->Option (Value×IH)}(hm:Ba f=some g){q:aQ}{h:IH}{v:Value}{h':IH}(ht:g q h=some (v,h')):CALL Tryz.prog q h (λr pm h2=>r=.ok v/\pm=none/\h2=h'):=by
 simp only[Ba]at hm;cases h1:Nat.beq f 22 with
 |true=>rw[h1]at hm;cases hm;exact EU (sW A8 Us) ht
 |false=>rw[h1]at hm;exact Ur hm ht
noncomputable def KU:Env:=nN Tryz.prog oU Ba
theorem Uu:qO KU:=xG _ _ _ (by
 intro f q h v h' hm _ _;cases e:Ba f with
 |none=>rw[e]at hm;cases hm
 |some g=>rw[e]at hm;exact Ut e hm)
