/- Part. -/
import Derived.Test.YtignbinlipkmfaaGreatDoorSaneAR
set_option linter.all false
namespace Go.Proofs.YtignbinlipkmfaaGreatDoor
open Go.Ideal
noncomputable def aem:ae (Nat×aN):=[e6]
noncomputable def aen:ae ah:=[dX [107,105,110,100,32,107,32,118,101,114,115,105,111,110,32,49,32,123,32,103,114,105,100,32,115,113,117,97,114,101,32,50,32,98,121,32,49,59,32,115,121,109,98,111,108,115,32,97,32,61,32,49,44,32,98,32,61,32,50,59,32,114,117,108,101,32,114,58,32,101,97,99,104,32,114,111,119,115,32,100,105,102,102,101,114,101,110,116,59,32,125]]
noncomputable def aeo:ah:=.tuple ⟨[.agg ⟨[dX [107],.int .i64 (.ofNat 1),.int .i64 (.ofNat 1),.int .i64 (.ofNat 2),.int .i64 (.ofNat 1),.slice none 0 0,.slice (some ⟨184,0,some 2⟩) 2 2,.slice none 0 0,.slice none 0 0,.slice (some ⟨220,0,some 12⟩) 1 1,.int .i64 (.ofNat 1),.int .i64 (.ofNat 2),.int .i64 (.ofNat 1),.slice none 0 0,.slice (some ⟨277,0,some 1⟩) 2 2,.slice (some ⟨296,0,some 0⟩) 2 2,.slice (some ⟨692,0,some 1⟩) 8 8]⟩,.int .i64 (.ofNat 0),.int .i64 (.ofNat 0)]⟩
def Fb:Nat:=693
noncomputable def QA:ae (Nat×aN):=[e6,K8,e220,K9,e296,e303,e311,La,Lb,Lc,Ld,Lf,Lg,Lh,Li,Lj,Ll,Lm,Lp,Lr,Ls,Lt,Lu,Lv,Lx,LA]
def auf:(oZ Fa 1000000).call ⟨.func 59,aen,[],none⟩ ⟨heapT aem,7,6⟩ (tK 7 6 QA Fb aeo)=true:=th
noncomputable def aep:bD->IH->ak (ah×IH):=sQ aem 7 6 QA Fb 59 aen aeo
variable{q:bD}{h h':IH}{v:ah}
def aug(hk:aep q h=some (v,h')):CALL Tryz.prog q h (λr pm h2=>r=.ok v/\pm=none/\h2=h'):=vF (.jP _ (qB H6 auf) λ_ _ _ h=>vX h) hk
noncomputable def QB:ah:=.agg ⟨[dX [107],.int .i64 (.ofNat 1),.int .i64 (.ofNat 1),.int .i64 (.ofNat 2),.int .i64 (.ofNat 1),.slice none 0 0,.slice (some ⟨184,0,some 2⟩) 2 2,.slice none 0 0,.slice none 0 0,.slice (some ⟨220,0,some 12⟩) 1 1,.int .i64 (.ofNat 1),.int .i64 (.ofNat 2),.int .i64 (.ofNat 1),.slice none 0 0,.slice (some ⟨277,0,some 1⟩) 2 2,.slice (some ⟨296,0,some 0⟩) 2 2,.slice (some ⟨692,0,some 1⟩) 8 8]⟩
def auh:(oZ Fa 1000000).call ⟨.func 32,[QB],[],none⟩ ⟨heapT QA,Fb,Fb⟩ (gives (.int .i64 (.ofNat 0)) Fb)=true:=th
noncomputable def aeq:bD->IH->ak (ah×IH):=known QA Fb 32 [QB] (.int .i64 (.ofNat 0))
def aui(hm:aeq q h=some (v,h')):CALL Tryz.prog q h (λr pm h2=>r=.ok v/\pm=none/\h2=h'):=
 SA th th th (by show Tryz.prog.globals.size<=Fb;rw[globals];decide) (.jP _ (qB H6 auh) λ_ _ _ hg=>NL hg) hm
noncomputable def QC:Nat->ak (bD->IH->ak (ah×IH)):=λf=>cond (Nat.beq f 32) (some (aeq)) (xA f)
def auj{f:Nat}{g:bD->IH->ak (ah×IH)}(hm:QC f=some g){q:bD}{h:IH}{v:ah}{h':IH}(ht:g q h=some (v,h')):CALL Tryz.prog q h (λr pm h2=>r=.ok v/\pm=none/\h2=h'):=by
 simp only[QC]at hm;cases h1:Nat.beq f 32 with
 |true=>rw[h1]at hm;cases hm;exact aui ht
 |false=>rw[h1]at hm;exact Bt hm ht
noncomputable def aer:Env:=ni Tryz.prog (zh 231 291) QC
def auk:sH aer:=uu _ _ _ (by
 intro f q h v h' hm _ _;cases e:QC f with
 |none=>rw[e]at hm;cases hm
 |some g=>rw[e]at hm;exact auj e hm)
