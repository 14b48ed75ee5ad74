/- Part. -/
import Derived.Test.YtignbinlipkmfaaGreatDoorSaneBR
set_option linter.all false
namespace Go.Proofs.YtignbinlipkmfaaGreatDoor
open Go.Ideal
noncomputable def aeL:ae (Nat×aN):=[e6,K8,e220,K9,e296,e303,e311,La,Lb,Lc,Ld,Lf,Lg,Lh,Li,Lj,Ll,Lm,Lp,Lr,Ls,Lt,Lu,Lv,Lx,LA,Qw,aec,aed]
noncomputable def aeM:ae ah:=[QB]
noncomputable def aeN:ah:=.tuple ⟨[.slice (some ⟨868,0,some 1⟩) 2 2,.int .i64 (.ofNat 0)]⟩
def aeO:Nat:=883
noncomputable def aeP:ae (Nat×aN):=[e6,K8,e220,K9,e296,e303,e311,La,Lb,Lc,Ld,Lf,Lg,Lh,Li,Lj,Ll,Lm,Lp,Lr,Ls,Lt,Lu,Lv,Lx,LA,Qw,aec,aed,
 (739,.cells [nI 0,nI 1]),
 (758,.cells [nI 1,nI 0]),
 (868,.cells [nS 739 0 2,nS 758 0 2])]
def auC:(oZ aer 1000000).call ⟨.func 11,aeM,[],none⟩ ⟨heapT aeL,696,6⟩ (tK 696 6 aeP aeO aeN)=true:=th
noncomputable def aeQ:bD->IH->ak (ah×IH):=sQ aeL 696 6 aeP aeO 11 aeM aeN
variable{q:bD}{h h':IH}{v:ah}
def auD(hk:aeQ q h=some (v,h')):CALL Tryz.prog q h (λr pm h2=>r=.ok v/\pm=none/\h2=h'):=vF (.jP _ (qB auk auC) λ_ _ _ h=>vX h) hk
noncomputable def QK:Nat->ak (bD->IH->ak (ah×IH)):=λf=>cond (Nat.beq f 11) (some (aeQ)) (xA f)
def auE{f:Nat}{g:bD->IH->ak (ah×IH)}(hm:QK f=some g){q:bD}{h:IH}{v:ah}{h':IH}(ht:g q h=some (v,h')):CALL Tryz.prog q h (λr pm h2=>r=.ok v/\pm=none/\h2=h'):=by
 simp only[QK]at hm;cases h1:Nat.beq f 11 with
 |true=>rw[h1]at hm;cases hm;exact auD ht
 |false=>rw[h1]at hm;exact Bt hm ht
noncomputable def aeR:Env:=ni Tryz.prog (zh 231 291) QK
def auF:sH aeR:=uu _ _ _ (by
 intro f q h v h' hm _ _;cases e:QK f with
 |none=>rw[e]at hm;cases hm
 |some g=>rw[e]at hm;exact auE e hm)
noncomputable def aeS:ae (Nat×aN):=[e6,K8,e220,K9,e296,e303,e311,La,Lb,Lc,Ld,Lf,Lg,Lh,Li,Lj,Ll,Lm,Lp,Lr,Ls,Lt,Lu,Lv,Lx,LA,Qw]
noncomputable def aeT:ae ah:=[QB]
noncomputable def aeU:ah:=.tuple ⟨[.agg ⟨[.slice (some ⟨974,0,some 1⟩) 2 2,.slice (some ⟨1022,0,some 1⟩) 2 2]⟩,.int .i64 (.ofNat 0)]⟩
def aeV:Nat:=1023
noncomputable def aeW:ae (Nat×aN):=[e6,K8,e220,K9,e296,e303,e311,La,Lb,Lc,Ld,Lf,Lg,Lh,Li,Lj,Ll,Lm,Lp,Lr,Ls,Lt,Lu,Lv,Lx,LA,Qw,pQ,pR,pU,pV]
def auG:(oZ aeR 1000000).call ⟨.func 13,aeT,[],none⟩ ⟨heapT aeS,694,6⟩ (tK 694 6 aeW aeV aeU)=true:=th
noncomputable def aeX:bD->IH->ak (ah×IH):=sQ aeS 694 6 aeW aeV 13 aeT aeU
def auH(hk:aeX q h=some (v,h')):CALL Tryz.prog q h (λr pm h2=>r=.ok v/\pm=none/\h2=h'):=vF (.jP _ (qB auF auG) λ_ _ _ h=>vX h) hk
