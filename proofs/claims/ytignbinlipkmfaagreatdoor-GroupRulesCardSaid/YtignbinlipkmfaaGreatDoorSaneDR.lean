/- Part. -/
import Derived.Test.YtignbinlipkmfaaGreatDoorSaneAR
set_option linter.all false
namespace Go.Proofs.YtignbinlipkmfaaGreatDoor
open Go.Ideal
noncomputable def aey:ae (Nat×aN):=[pQ,pR,pU,pV,qJ,xu,xy,xz,zU,Dk,aea,aeb]
noncomputable def aez:ae ah:=[dX [107,105,110,100,32,107,32,118,101,114,115,105,111,110,32,49,32,123,32,103,114,105,100,32,115,113,117,97,114,101,32,50,32,98,121,32,49,59,32,115,121,109,98,111,108,115,32,97,32,61,32,49,44,32,98,32,61,32,50,59,32,114,117,108,101,32,114,58,32,110,111,116,32,123,32,97,32,125,32,98,101,115,105,100,101,32,123,32,98,32,125,59,32,125]]
noncomputable def aeA:ah:=.tuple ⟨[.slice (some ⟨2210,0,some 4⟩) 33 33,.int .i64 (.ofNat 0),.int .i64 (.ofNat 0)]⟩
def aeB:Nat:=2211
noncomputable def aeC:ae (Nat×aN):=[pQ,pR,pU,pV,qJ,xu,xy,xz,zU,Dk,aea,aeb,
 (2210,.cells [nI 1,dX [107,105,110,100],nI 0,nI 0,nI 1,dX [107],nI 0,nI 5,nI 1,dX [118,101,114,115,105,111,110],nI 0,nI 7,nI 2,dX [],nI 1,nI 15,nI 3,dX [123],nI 0,nI 17,nI 1,dX [103,114,105,100],nI 0,nI 19,nI 1,dX [115,113,117,97,114,101],nI 0,nI 24,nI 2,dX [],nI 2,nI 31,nI 1,dX [98,121],nI 0,nI 33,nI 2,dX [],nI 1,nI 36,nI 3,dX [59],nI 0,nI 37,nI 1,dX [115,121,109,98,111,108,115],nI 0,nI 39,nI 1,dX [97],nI 0,nI 47,nI 3,dX [61],nI 0,nI 49,nI 2,dX [],nI 1,nI 51,nI 3,dX [44],nI 0,nI 52,nI 1,dX [98],nI 0,nI 54,nI 3,dX [61],nI 0,nI 56,nI 2,dX [],nI 2,nI 58,nI 3,dX [59],nI 0,nI 59,nI 1,dX [114,117,108,101],nI 0,nI 61,nI 1,dX [114],nI 0,nI 66,nI 3,dX [58],nI 0,nI 67,nI 1,dX [110,111,116],nI 0,nI 69,nI 3,dX [123],nI 0,nI 73,nI 1,dX [97],nI 0,nI 75,nI 3,dX [125],nI 0,nI 77,nI 1,dX [98,101,115,105,100,101],nI 0,nI 79,nI 3,dX [123],nI 0,nI 86,nI 1,dX [98],nI 0,nI 88,nI 3,dX [125],nI 0,nI 90,nI 3,dX [59],nI 0,nI 91,nI 3,dX [125],nI 0,nI 93])]
def aur:(oZ Fa 1000000).call ⟨.func 181,aez,[],none⟩ ⟨heapT aey,2027,6⟩ (tK 2027 6 aeC aeB aeA)=true:=th
noncomputable def aeD:bD->IH->ak (ah×IH):=sQ aey 2027 6 aeC aeB 181 aez aeA
variable{q:bD}{h h':IH}{v:ah}
def aus(hk:aeD q h=some (v,h')):CALL Tryz.prog q h (λr pm h2=>r=.ok v/\pm=none/\h2=h'):=vF (.jP _ (qB H6 aur) λ_ _ _ h=>vX h) hk
noncomputable def QG:Nat->ak (bD->IH->ak (ah×IH)):=λf=>cond (Nat.beq f 181) (some (aeD)) (xA f)
variable{f:Nat}{g:bD->IH->ak (ah×IH)}
def aut(hm:QG f=some g){q:bD}{h:IH}{v:ah}{h':IH}(ht:g q h=some (v,h')):CALL Tryz.prog q h (λr pm h2=>r=.ok v/\pm=none/\h2=h'):=by
 simp only[QG]at hm;cases h1:Nat.beq f 181 with
 |true=>rw[h1]at hm;cases hm;exact aus ht
 |false=>rw[h1]at hm;exact Bt hm ht
noncomputable def aeE:Env:=ni Tryz.prog (zh 231 291) QG
def auu:sH aeE:=uu _ _ _ (by
 intro f q h v h' hm _ _;cases e:QG f with
 |none=>rw[e]at hm;cases hm
 |some g=>rw[e]at hm;exact aut e hm)
noncomputable def aeF:ae (Nat×aN):=[pQ,pR,pU,pV,qJ,xu,xy,xz,zU,Dk]
noncomputable def aeG:ae ah:=[dX [107,105,110,100,32,107,32,118,101,114,115,105,111,110,32,49,32,123,32,103,114,105,100,32,115,113,117,97,114,101,32,50,32,98,121,32,49,59,32,115,121,109,98,111,108,115,32,97,32,61,32,49,44,32,98,32,61,32,50,59,32,114,117,108,101,32,114,58,32,110,111,116,32,123,32,97,32,125,32,98,101,115,105,100,101,32,123,32,98,32,125,59,32,125]]
noncomputable def aeH:ah:=.tuple ⟨[.agg ⟨[dX [107],.int .i64 (.ofNat 1),.int .i64 (.ofNat 1),.int .i64 (.ofNat 2),.int .i64 (.ofNat 1),.slice none 0 0,.slice (some ⟨2228,0,some 2⟩) 2 2,.slice none 0 0,.slice none 0 0,.slice (some ⟨2271,0,some 12⟩) 1 1,.int .i64 (.ofNat 1),.int .i64 (.ofNat 2),.int .i64 (.ofNat 1),.slice none 0 0,.slice (some ⟨2328,0,some 1⟩) 2 2,.slice (some ⟨2347,0,some 0⟩) 2 2,.slice (some ⟨2743,0,some 1⟩) 8 8]⟩,.int .i64 (.ofNat 0),.int .i64 (.ofNat 0)]⟩
def Ff:Nat:=2744
noncomputable def QH:ae (Nat×aN):=[pQ,pR,pU,pV,qJ,xu,xy,xz,zU,Dk,Mg,Mh,Mi,Mj,Mk,Ml,Mm,Mo,Mq,Mr,Ms,Mt,Mv,Mw,Mx,MB,MC,ME,MF,MG,MH,MI,MJ,MK,ML,MM,MN]
def auv:(oZ aeE 1000000).call ⟨.func 59,aeG,[],none⟩ ⟨heapT aeF,2025,6⟩ (tK 2025 6 QH Ff aeH)=true:=th
noncomputable def aeI:bD->IH->ak (ah×IH):=sQ aeF 2025 6 QH Ff 59 aeG aeH
def auw(hk:aeI q h=some (v,h')):CALL Tryz.prog q h (λr pm h2=>r=.ok v/\pm=none/\h2=h'):=vF (.jP _ (qB auu auv) λ_ _ _ h=>vX h) hk
noncomputable def QI:ah:=.agg ⟨[dX [107],.int .i64 (.ofNat 1),.int .i64 (.ofNat 1),.int .i64 (.ofNat 2),.int .i64 (.ofNat 1),.slice none 0 0,.slice (some ⟨2228,0,some 2⟩) 2 2,.slice none 0 0,.slice none 0 0,.slice (some ⟨2271,0,some 12⟩) 1 1,.int .i64 (.ofNat 1),.int .i64 (.ofNat 2),.int .i64 (.ofNat 1),.slice none 0 0,.slice (some ⟨2328,0,some 1⟩) 2 2,.slice (some ⟨2347,0,some 0⟩) 2 2,.slice (some ⟨2743,0,some 1⟩) 8 8]⟩
def auy:(oZ Fa 1000000).call ⟨.func 32,[QI],[],none⟩ ⟨heapT QH,Ff,Ff⟩ (gives (.int .i64 (.ofNat 0)) Ff)=true:=th
noncomputable def aeJ:bD->IH->ak (ah×IH):=known QH Ff 32 [QI] (.int .i64 (.ofNat 0))
def auz(hm:aeJ q h=some (v,h')):CALL Tryz.prog q h (λr pm h2=>r=.ok v/\pm=none/\h2=h'):=
 SA th th th (by show Tryz.prog.globals.size<=Ff;rw[globals];decide) (.jP _ (qB H6 auy) λ_ _ _ hg=>NL hg) hm
noncomputable def QJ:Nat->ak (bD->IH->ak (ah×IH)):=λf=>cond (Nat.beq f 32) (some (aeJ)) (xA f)
def auA(hm:QJ f=some g){q:bD}{h:IH}{v:ah}{h':IH}(ht:g q h=some (v,h')):CALL Tryz.prog q h (λr pm h2=>r=.ok v/\pm=none/\h2=h'):=by
 simp only[QJ]at hm;cases h1:Nat.beq f 32 with
 |true=>rw[h1]at hm;cases hm;exact auz ht
 |false=>rw[h1]at hm;exact Bt hm ht
noncomputable def aeK:Env:=ni Tryz.prog (zh 231 291) QJ
def auB:sH aeK:=uu _ _ _ (by
 intro f q h v h' hm _ _;cases e:QJ f with
 |none=>rw[e]at hm;cases hm
 |some g=>rw[e]at hm;exact auA e hm)
