/- Part. -/
import Derived.Test.YtignbinlipkmfaaGreatDoorSaneDR
set_option linter.all false
namespace Go.Proofs.YtignbinlipkmfaaGreatDoor
open Go.Ideal
noncomputable def afb:ae (Nat×aN):=[pQ,pR,pU,pV,qJ,xu,xy,xz,zU,Dk,Mg,Mh,Mi,Mj,Mk,Ml,Mm,Mo,Mq,Mr,Ms,Mt,Mv,Mw,Mx,MB,MC,ME,MF,MG,MH,MI,MJ,MK,ML,MM,MN,Qy,aeg,aeh]
noncomputable def afc:ae ah:=[QI]
noncomputable def afd:ah:=.tuple ⟨[.slice (some ⟨2919,0,some 1⟩) 2 2,.int .i64 (.ofNat 0)]⟩
def afe:Nat:=2934
noncomputable def aff:ae (Nat×aN):=[pQ,pR,pU,pV,qJ,xu,xy,xz,zU,Dk,Mg,Mh,Mi,Mj,Mk,Ml,Mm,Mo,Mq,Mr,Ms,Mt,Mv,Mw,Mx,MB,MC,ME,MF,MG,MH,MI,MJ,MK,ML,MM,MN,Qy,aeg,aeh,
 (2790,.cells [nI 0,nI 1]),
 (2809,.cells [nI 1,nI 0]),
 (2919,.cells [nS 2790 0 2,nS 2809 0 2])]
def auO:(oZ aeK 1000000).call ⟨.func 11,afc,[],none⟩ ⟨heapT afb,2747,6⟩ (tK 2747 6 aff afe afd)=true:=th
noncomputable def afg:bD->IH->ak (ah×IH):=sQ afb 2747 6 aff afe 11 afc afd
variable{q:bD}{h h':IH}{v:ah}
def auP(hk:afg q h=some (v,h')):CALL Tryz.prog q h (λr pm h2=>r=.ok v/\pm=none/\h2=h'):=vF (.jP _ (qB auB auO) λ_ _ _ h=>vX h) hk
noncomputable def QM:Nat->ak (bD->IH->ak (ah×IH)):=λf=>cond (Nat.beq f 11) (some (afg)) (xA f)
def auQ{f:Nat}{g:bD->IH->ak (ah×IH)}(hm:QM f=some g){q:bD}{h:IH}{v:ah}{h':IH}(ht:g q h=some (v,h')):CALL Tryz.prog q h (λr pm h2=>r=.ok v/\pm=none/\h2=h'):=by
 simp only[QM]at hm;cases h1:Nat.beq f 11 with
 |true=>rw[h1]at hm;cases hm;exact auP ht
 |false=>rw[h1]at hm;exact Bt hm ht
noncomputable def afh:Env:=ni Tryz.prog (zh 231 291) QM
def auR:sH afh:=uu _ _ _ (by
 intro f q h v h' hm _ _;cases e:QM f with
 |none=>rw[e]at hm;cases hm
 |some g=>rw[e]at hm;exact auQ e hm)
noncomputable def afi:ae (Nat×aN):=[pQ,pR,pU,pV,qJ,xu,xy,xz,zU,Dk,Mg,Mh,Mi,Mj,Mk,Ml,Mm,Mo,Mq,Mr,Ms,Mt,Mv,Mw,Mx,MB,MC,ME,MF,MG,MH,MI,MJ,MK,ML,MM,MN,Qy]
noncomputable def afj:ae ah:=[QI]
noncomputable def afk:ah:=.tuple ⟨[.agg ⟨[.slice (some ⟨2993,0,some 1⟩) 2 2,.slice (some ⟨3023,0,some 1⟩) 2 2]⟩,.int .i64 (.ofNat 0)]⟩
def afl:Nat:=3024
noncomputable def afm:ae (Nat×aN):=[pQ,pR,pU,pV,qJ,xu,xy,xz,zU,Dk,Mg,Mh,Mi,Mj,Mk,Ml,Mm,Mo,Mq,Mr,Ms,Mt,Mv,Mw,Mx,MB,MC,ME,MF,MG,MH,MI,MJ,MK,ML,MM,MN,Qy,aei,aej,aek,ael]
def auS:(oZ afh 1000000).call ⟨.func 13,afj,[],none⟩ ⟨heapT afi,2745,6⟩ (tK 2745 6 afm afl afk)=true:=th
noncomputable def afn:bD->IH->ak (ah×IH):=sQ afi 2745 6 afm afl 13 afj afk
def auT(hk:afn q h=some (v,h')):CALL Tryz.prog q h (λr pm h2=>r=.ok v/\pm=none/\h2=h'):=vF (.jP _ (qB auR auS) λ_ _ _ h=>vX h) hk
