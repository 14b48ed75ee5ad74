/- Part. -/
import Derived.Test.YtignbinlipkmfaaGreatDoorSaneCR
set_option linter.all false
namespace Go.Proofs.YtignbinlipkmfaaGreatDoor
open Go.Ideal
noncomputable def aeY:ae (Nat×aN):=[pQ,pR,pU,pV,qJ,HZ,LB,LC,LD,LF,LG,LH,LJ,LK,LM,LP,LQ,LU,LV,LW,LX,LY,LZ,L6,L8,L9,Ma,Mc,Md,Me,Mf,Qx,aee,aef]
noncomputable def aeZ:ae ah:=[QE]
noncomputable def ae0:ah:=.tuple ⟨[.slice (some ⟨1886,0,some 1⟩) 2 2,.int .i64 (.ofNat 0)]⟩
def ae1:Nat:=1901
noncomputable def ae2:ae (Nat×aN):=[pQ,pR,pU,pV,qJ,HZ,LB,LC,LD,LF,LG,LH,LJ,LK,LM,LP,LQ,LU,LV,LW,LX,LY,LZ,L6,L8,L9,Ma,Mc,Md,Me,Mf,Qx,aee,aef,
 (1757,.cells [nI 0,nI 1]),
 (1776,.cells [nI 1,nI 0]),
 (1886,.cells [nS 1757 0 2,nS 1776 0 2])]
def auI:(oZ aex 1000000).call ⟨.func 11,aeZ,[],none⟩ ⟨heapT aeY,1714,6⟩ (tK 1714 6 ae2 ae1 ae0)=true:=th
noncomputable def ae3:bD->IH->ak (ah×IH):=sQ aeY 1714 6 ae2 ae1 11 aeZ ae0
variable{q:bD}{h h':IH}{v:ah}
def auJ(hk:ae3 q h=some (v,h')):CALL Tryz.prog q h (λr pm h2=>r=.ok v/\pm=none/\h2=h'):=vF (.jP _ (qB auq auI) λ_ _ _ h=>vX h) hk
noncomputable def QL:Nat->ak (bD->IH->ak (ah×IH)):=λf=>cond (Nat.beq f 11) (some (ae3)) (xA f)
def auK{f:Nat}{g:bD->IH->ak (ah×IH)}(hm:QL f=some g){q:bD}{h:IH}{v:ah}{h':IH}(ht:g q h=some (v,h')):CALL Tryz.prog q h (λr pm h2=>r=.ok v/\pm=none/\h2=h'):=by
 simp only[QL]at hm;cases h1:Nat.beq f 11 with
 |true=>rw[h1]at hm;cases hm;exact auJ ht
 |false=>rw[h1]at hm;exact Bt hm ht
noncomputable def ae4:Env:=ni Tryz.prog (zh 231 291) QL
def auL:sH ae4:=uu _ _ _ (by
 intro f q h v h' hm _ _;cases e:QL f with
 |none=>rw[e]at hm;cases hm
 |some g=>rw[e]at hm;exact auK e hm)
noncomputable def ae5:ae (Nat×aN):=[pQ,pR,pU,pV,qJ,HZ,LB,LC,LD,LF,LG,LH,LJ,LK,LM,LP,LQ,LU,LV,LW,LX,LY,LZ,L6,L8,L9,Ma,Mc,Md,Me,Mf,Qx]
noncomputable def ae6:ae ah:=[QE]
noncomputable def ae7:ah:=.tuple ⟨[.agg ⟨[.slice (some ⟨1976,0,some 0⟩) 1 1,.slice (some ⟨2022,0,some 1⟩) 2 2]⟩,.int .i64 (.ofNat 0)]⟩
def ae8:Nat:=2023
noncomputable def ae9:ae (Nat×aN):=[pQ,pR,pU,pV,qJ,HZ,LB,LC,LD,LF,LG,LH,LJ,LK,LM,LP,LQ,LU,LV,LW,LX,LY,LZ,L6,L8,L9,Ma,Mc,Md,Me,Mf,Qx,xu,xy,xz]
def auM:(oZ ae4 1000000).call ⟨.func 13,ae6,[],none⟩ ⟨heapT ae5,1712,6⟩ (tK 1712 6 ae9 ae8 ae7)=true:=th
noncomputable def afa:bD->IH->ak (ah×IH):=sQ ae5 1712 6 ae9 ae8 13 ae6 ae7
def auN(hk:afa q h=some (v,h')):CALL Tryz.prog q h (λr pm h2=>r=.ok v/\pm=none/\h2=h'):=vF (.jP _ (qB auL auM) λ_ _ _ h=>vX h) hk
