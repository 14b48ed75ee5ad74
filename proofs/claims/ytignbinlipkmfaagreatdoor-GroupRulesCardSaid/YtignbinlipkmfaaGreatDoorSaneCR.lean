/- Part. -/
import Derived.Test.YtignbinlipkmfaaGreatDoorSaneAR
set_option linter.all false
namespace Go.Proofs.YtignbinlipkmfaaGreatDoor
open Go.Ideal
noncomputable def aes:ae (Nat×aN):=[pQ,pR,pU,pV,qJ,HZ]
noncomputable def aet:ae ah:=[dX [107,105,110,100,32,107,32,118,101,114,115,105,111,110,32,49,32,123,32,103,114,105,100,32,115,113,117,97,114,101,32,50,32,98,121,32,49,59,32,115,121,109,98,111,108,115,32,97,32,61,32,49,44,32,98,32,61,32,50,59,32,114,117,108,101,32,114,58,32,101,97,99,104,32,114,111,119,115,32,114,105,115,101,59,32,125]]
noncomputable def aeu:ah:=.tuple ⟨[.agg ⟨[dX [107],.int .i64 (.ofNat 1),.int .i64 (.ofNat 1),.int .i64 (.ofNat 2),.int .i64 (.ofNat 1),.slice none 0 0,.slice (some ⟨1202,0,some 2⟩) 2 2,.slice none 0 0,.slice none 0 0,.slice (some ⟨1238,0,some 12⟩) 1 1,.int .i64 (.ofNat 1),.int .i64 (.ofNat 2),.int .i64 (.ofNat 1),.slice none 0 0,.slice (some ⟨1295,0,some 1⟩) 2 2,.slice (some ⟨1314,0,some 0⟩) 2 2,.slice (some ⟨1710,0,some 1⟩) 8 8]⟩,.int .i64 (.ofNat 0),.int .i64 (.ofNat 0)]⟩
def Fe:Nat:=1711
noncomputable def QD:ae (Nat×aN):=[pQ,pR,pU,pV,qJ,HZ,LB,LC,LD,LF,LG,LH,LJ,LK,LM,LP,LQ,LU,LV,LW,LX,LY,LZ,L6,L8,L9,Ma,Mc,Md,Me,Mf]
def aul:(oZ Fa 1000000).call ⟨.func 59,aet,[],none⟩ ⟨heapT aes,1025,6⟩ (tK 1025 6 QD Fe aeu)=true:=th
noncomputable def aev:bD->IH->ak (ah×IH):=sQ aes 1025 6 QD Fe 59 aet aeu
variable{q:bD}{h h':IH}{v:ah}
def aum(hk:aev q h=some (v,h')):CALL Tryz.prog q h (λr pm h2=>r=.ok v/\pm=none/\h2=h'):=vF (.jP _ (qB H6 aul) λ_ _ _ h=>vX h) hk
noncomputable def QE:ah:=.agg ⟨[dX [107],.int .i64 (.ofNat 1),.int .i64 (.ofNat 1),.int .i64 (.ofNat 2),.int .i64 (.ofNat 1),.slice none 0 0,.slice (some ⟨1202,0,some 2⟩) 2 2,.slice none 0 0,.slice none 0 0,.slice (some ⟨1238,0,some 12⟩) 1 1,.int .i64 (.ofNat 1),.int .i64 (.ofNat 2),.int .i64 (.ofNat 1),.slice none 0 0,.slice (some ⟨1295,0,some 1⟩) 2 2,.slice (some ⟨1314,0,some 0⟩) 2 2,.slice (some ⟨1710,0,some 1⟩) 8 8]⟩
def aun:(oZ Fa 1000000).call ⟨.func 32,[QE],[],none⟩ ⟨heapT QD,Fe,Fe⟩ (gives (.int .i64 (.ofNat 0)) Fe)=true:=th
noncomputable def aew:bD->IH->ak (ah×IH):=known QD Fe 32 [QE] (.int .i64 (.ofNat 0))
def auo(hm:aew q h=some (v,h')):CALL Tryz.prog q h (λr pm h2=>r=.ok v/\pm=none/\h2=h'):=
 SA th th th (by show Tryz.prog.globals.size<=Fe;rw[globals];decide) (.jP _ (qB H6 aun) λ_ _ _ hg=>NL hg) hm
noncomputable def QF:Nat->ak (bD->IH->ak (ah×IH)):=λf=>cond (Nat.beq f 32) (some (aew)) (xA f)
def aup{f:Nat}{g:bD->IH->ak (ah×IH)}(hm:QF f=some g){q:bD}{h:IH}{v:ah}{h':IH}(ht:g q h=some (v,h')):CALL Tryz.prog q h (λr pm h2=>r=.ok v/\pm=none/\h2=h'):=by
 simp only[QF]at hm;cases h1:Nat.beq f 32 with
 |true=>rw[h1]at hm;cases hm;exact auo ht
 |false=>rw[h1]at hm;exact Bt hm ht
noncomputable def aex:Env:=ni Tryz.prog (zh 231 291) QF
def auq:sH aex:=uu _ _ _ (by
 intro f q h v h' hm _ _;cases e:QF f with
 |none=>rw[e]at hm;cases hm
 |some g=>rw[e]at hm;exact aup e hm)
