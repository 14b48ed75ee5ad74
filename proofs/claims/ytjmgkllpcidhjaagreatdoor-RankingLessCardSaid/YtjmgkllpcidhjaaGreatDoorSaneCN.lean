/-
  ranking.Ranking of the open example, known; sane() is true.
-/
import Derived.Test.YtjmgkllpcidhjaaGreatDoorSaneBN
set_option linter.all false
set_option maxRecDepth 10000
namespace Go.Proofs.YtjmgkllpcidhjaaGreatDoor
open Go.Ideal
noncomputable def TH:Value:=.tuple ⟨[.agg ⟨[.slice (some ⟨496,0,some 1⟩) 2 2,.slice (some ⟨500,0,some 1⟩) 2 2,.slice (some ⟨517,0,some 2⟩) 1 1]⟩,.int .i64 (.ofNat 0)]⟩
noncomputable def TI:List (Nat×bB):=(496,.cells [.int .i64 (.ofNat 1),.int .i64 (.ofNat 1)])::(500,.cells [.int .i64 (.ofNat 2),.int .i64 (.ofNat 2)])::(517,.cells [.int .i64 (.ofNat 0),.int .i64 (.ofNat 1)])::wV
theorem ael:(uB DN 1000000).call ⟨.func 22,GR,[],none⟩ ⟨heapT wV,313,4⟩ (Dk 313 4 TI 521 TH)=true:=by kernel_rfl
noncomputable def GV:Nat->Option (bQ->IH->Option (Value×IH)):=λf=>cond (Nat.beq f 22) (some (wI wV 313 4 TI 521 22 GR TH)) (ME f)
theorem aem{f:Nat}{g:bQ->IH->Option (Value×IH)}(hm:GV f=some g){q:bQ}{h:IH}{v:Value}{h':IH}(ht:g q h=some (v,h')):CALL Tryz.prog q h (λr pm h2=>r=.ok v/\pm=none/\h2=h'):=by
 simp only[GV]at hm;cases h1:Nat.beq f 22 with
 |true=>rw[h1]at hm;cases hm;exact LA (xY GQ ael) ht
 |false=>rw[h1]at hm;exact aek hm ht
noncomputable def TJ:Env:=pR Tryz.prog pU GV
theorem aen:wy TJ:=zV _ _ _ (by
 intro f q h v h' hm _ _;cases e:GV f with
 |none=>rw[e]at hm;cases hm
 |some g=>rw[e]at hm;exact aem e hm)
