/- Part. -/
import Derived.Test.YtignbinlipkmfaaGreatDoorSaneER
import Derived.Test.YtignbinlipkmfaaGreatDoorSaneFR
import Derived.Test.YtignbinlipkmfaaGreatDoorSaneGR
set_option linter.all false
namespace Go.Proofs.YtignbinlipkmfaaGreatDoor
open Go.Ideal
noncomputable def orElse(a b:bD->IH->ak (ah×IH)):bD->IH->ak (ah×IH):=λq h=>match a q h with
 |some x=>some x
 |none=>b q h
def H7{P:Program}{a b:bD->IH->ak (ah×IH)}(ha:∀{q h v h'},a q h=some (v,h')->CALL P q h (λr pm h2=>r=.ok v/\pm=none/\h2=h'))(hb:∀{q h v h'},b q h=some (v,h')->CALL P q h (λr pm h2=>r=.ok v/\pm=none/\h2=h'))
 {q:bD} {h:IH} {v:ah} {h':IH} (hk:orElse a b q h=some (v,h')):CALL P q h (λr pm h2=>r=.ok v/\pm=none/\h2=h'):=by
 unfold orElse at hk;split at hk
 .rename_i x hx;cases hk;exact ha hx
 .exact hb hk
noncomputable def cpK:bD->IH->ak (ah×IH):=orElse aep (orElse aev aeI)
variable{q:bD}{h h':IH}{v:ah}
def auU(hk:cpK q h=some (v,h')):CALL Tryz.prog q h (λr pm h2=>r=.ok v/\pm=none/\h2=h'):=H7 aug (λhk=>H7 aum auw hk) hk
noncomputable def grK:bD->IH->ak (ah×IH):=orElse aeX (orElse afa afn)
def auV(hk:grK q h=some (v,h')):CALL Tryz.prog q h (λr pm h2=>r=.ok v/\pm=none/\h2=h'):=H7 auH (λhk=>H7 auN auT hk) hk
noncomputable def Wp:Nat->ak (bD->IH->ak (ah×IH)):=λf=>cond (Nat.beq f 59) (some (cpK)) (xA f)
variable{f:Nat}{g:bD->IH->ak (ah×IH)}
def auW(hm:Wp f=some g){q:bD}{h:IH}{v:ah}{h':IH}(ht:g q h=some (v,h')):CALL Tryz.prog q h (λr pm h2=>r=.ok v/\pm=none/\h2=h'):=by
 simp only[Wp]at hm;cases h1:Nat.beq f 59 with
 |true=>rw[h1]at hm;cases hm;exact auU ht
 |false=>rw[h1]at hm;exact Bt hm ht
noncomputable def MO:Nat->ak (bD->IH->ak (ah×IH)):=λf=>cond (Nat.beq f 13) (some (grK)) (Wp f)
def afq(hm:MO f=some g){q:bD}{h:IH}{v:ah}{h':IH}(ht:g q h=some (v,h')):CALL Tryz.prog q h (λr pm h2=>r=.ok v/\pm=none/\h2=h'):=by
 simp only[MO]at hm;cases h1:Nat.beq f 13 with
 |true=>rw[h1]at hm;cases hm;exact auV ht
 |false=>rw[h1]at hm;exact auW hm ht
noncomputable def QN:Env:=ni Tryz.prog (zh 231 291) MO
def Wq:sH QN:=uu _ _ _ (by
 intro f q h v h' hm _ _;cases e:MO f with
 |none=>rw[e]at hm;cases hm
 |some g=>rw[e]at hm;exact afq e hm)
noncomputable def afr:ae (Nat×aN):=[]
noncomputable def afs:ae ah:=[dX [101,97,99,104,32,114,111,119,115,32,100,105,102,102,101,114,101,110,116]]
noncomputable def aft:ah:=.tuple ⟨[.agg ⟨[.slice (some ⟨974,0,some 1⟩) 2 2,.slice (some ⟨1022,0,some 1⟩) 2 2]⟩,.int .i64 (.ofNat 0)]⟩
def afu:Nat:=1023
noncomputable def afv:ae (Nat×aN):=[pQ,pR,pU,pV]
def auX:(oZ QN 1000000).call ⟨.func 30,afs,[],none⟩ ⟨heapT afr,6,6⟩ (tK 6 6 afv afu aft)=true:=th
noncomputable def afw:bD->IH->ak (ah×IH):=sQ afr 6 6 afv afu 30 afs aft
def auY(hk:afw q h=some (v,h')):CALL Tryz.prog q h (λr pm h2=>r=.ok v/\pm=none/\h2=h'):=vF (.jP _ (qB Wq auX) λ_ _ _ h=>vX h) hk
noncomputable def afx:ae (Nat×aN):=[pQ,pR,pU,pV,qJ]
noncomputable def afy:ae ah:=[dX [101,97,99,104,32,114,111,119,115,32,114,105,115,101]]
noncomputable def afz:ah:=.tuple ⟨[.agg ⟨[.slice (some ⟨1976,0,some 0⟩) 1 1,.slice (some ⟨2022,0,some 1⟩) 2 2]⟩,.int .i64 (.ofNat 0)]⟩
def afA:Nat:=2023
noncomputable def afB:ae (Nat×aN):=[pQ,pR,pU,pV,qJ,xu,xy,xz]
def auZ:(oZ QN 1000000).call ⟨.func 30,afy,[],none⟩ ⟨heapT afx,1024,6⟩ (tK 1024 6 afB afA afz)=true:=th
noncomputable def afC:bD->IH->ak (ah×IH):=sQ afx 1024 6 afB afA 30 afy afz
def au0(hk:afC q h=some (v,h')):CALL Tryz.prog q h (λr pm h2=>r=.ok v/\pm=none/\h2=h'):=vF (.jP _ (qB Wq auZ) λ_ _ _ h=>vX h) hk
noncomputable def afD:ae (Nat×aN):=[pQ,pR,pU,pV,qJ,xu,xy,xz,zU]
noncomputable def afE:ae ah:=[dX [110,111,116,32,123,32,97,32,125,32,98,101,115,105,100,101,32,123,32,98,32,125]]
noncomputable def afF:ah:=.tuple ⟨[.agg ⟨[.slice (some ⟨2993,0,some 1⟩) 2 2,.slice (some ⟨3023,0,some 1⟩) 2 2]⟩,.int .i64 (.ofNat 0)]⟩
def afG:Nat:=3024
noncomputable def afH:ae (Nat×aN):=[pQ,pR,pU,pV,qJ,xu,xy,xz,zU,aei,aej,aek,ael]
def au3:(oZ QN 1000000).call ⟨.func 30,afE,[],none⟩ ⟨heapT afD,2024,6⟩ (tK 2024 6 afH afG afF)=true:=th
noncomputable def afI:bD->IH->ak (ah×IH):=sQ afD 2024 6 afH afG 30 afE afF
def au4(hk:afI q h=some (v,h')):CALL Tryz.prog q h (λr pm h2=>r=.ok v/\pm=none/\h2=h'):=vF (.jP _ (qB Wq au3) λ_ _ _ h=>vX h) hk
noncomputable def prK:bD->IH->ak (ah×IH):=orElse afw (orElse afC afI)
def au5(hk:prK q h=some (v,h')):CALL Tryz.prog q h (λr pm h2=>r=.ok v/\pm=none/\h2=h'):=H7 auY (λhk=>H7 au0 au4 hk) hk
noncomputable def QO:Nat->ak (bD->IH->ak (ah×IH)):=λf=>cond (Nat.beq f 30) (some (prK)) (MO f)
def au6(hm:QO f=some g){q:bD}{h:IH}{v:ah}{h':IH}(ht:g q h=some (v,h')):CALL Tryz.prog q h (λr pm h2=>r=.ok v/\pm=none/\h2=h'):=by
 simp only[QO]at hm;cases h1:Nat.beq f 30 with
 |true=>rw[h1]at hm;cases hm;exact au5 ht
 |false=>rw[h1]at hm;exact afq hm ht
noncomputable def afK:Env:=ni Tryz.prog (zh 231 291) QO
def au7:sH afK:=uu _ _ _ (by
 intro f q h v h' hm _ _;cases e:QO f with
 |none=>rw[e]at hm;cases hm
 |some g=>rw[e]at hm;exact au6 e hm)
def au8:(oZ afK 1000000).call ⟨.func 9,[],[],none⟩ ⟨.leaf,6,6⟩ (gives (.bool true) 6)=true:=th
def au9:CALL Tryz.prog ⟨.func 9,[],[],none⟩ ⟨.leaf,6,6⟩ (λr pm h=>pm=none/\r=.ok (.bool true)/\h.low=6):=
 .jP _ (qB au7 au8) λ_ _ _ hg=>NL hg
def ava(h:IH)(hn:6<=h.next):CALL Tryz.prog ⟨.func 9,[],[],none⟩ h (λr pm h'=>pm=none/\r=.ok (.bool true)/\h'=h):=
 .memo ⟨.leaf,6,6⟩ (.bool true) rfl rfl rfl hn (by rw[globals];exact bI _) (by intro i o ho;cases ho) _ au9 (λr pm h' q=>q) ⟨rfl,rfl,rfl⟩
def avb:dF Tryz.prog 9 [] [Oz 6] (.bool true):=alc ava
