/- Part. -/
import Derived.Test.YtignbinlipkmfaaGreatDoorSaneEG
import Derived.Test.YtignbinlipkmfaaGreatDoorSaneFG
import Derived.Test.YtignbinlipkmfaaGreatDoorSaneGG
set_option linter.all false
namespace Go.Proofs.YtignbinlipkmfaaGreatDoor
open Go.Ideal
noncomputable def orElse(a b:aX->IH->aj (ah×IH)):aX->IH->aj (ah×IH):=λq h=>match a q h with
 |some x=>some x
 |none=>b q h
def Fh{P:Program}{a b:aX->IH->aj (ah×IH)}(ha:∀{q h v h'},a q h=some (v,h')->CALL P q h (λr pm h2=>r=.ok v/\pm=none/\h2=h'))(hb:∀{q h v h'},b q h=some (v,h')->CALL P q h (λr pm h2=>r=.ok v/\pm=none/\h2=h'))
 {q:aX} {h:IH} {v:ah} {h':IH} (hk:orElse a b q h=some (v,h')):CALL P q h (λr pm h2=>r=.ok v/\pm=none/\h2=h'):=by
 unfold orElse at hk;split at hk
 .rename_i x hx;cases hk;exact ha hx
 .exact hb hk
noncomputable def cpK:aX->IH->aj (ah×IH):=orElse aaE (orElse aaK aaX)
variable{q:aX}{h h':IH}{v:ah}
def ap4(hk:cpK q h=some (v,h')):CALL Tryz.prog q h (λr pm h2=>r=.ok v/\pm=none/\h2=h'):=Fh apq (λhk=>Fh apw apG hk) hk
noncomputable def grK:aX->IH->aj (ah×IH):=orElse abd (orElse abr abF)
def ap5(hk:grK q h=some (v,h')):CALL Tryz.prog q h (λr pm h2=>r=.ok v/\pm=none/\h2=h'):=Fh apR (λhk=>Fh apX ap3 hk) hk
noncomputable def Sk:Nat->aj (aX->IH->aj (ah×IH)):=λf=>cond (Nat.beq f 59) (some (cpK)) (vD f)
variable{f:Nat}{g:aX->IH->aj (ah×IH)}
def ap6(hm:Sk f=some g){q:aX}{h:IH}{v:ah}{h':IH}(ht:g q h=some (v,h')):CALL Tryz.prog q h (λr pm h2=>r=.ok v/\pm=none/\h2=h'):=by
 simp only[Sk]at hm;cases h1:Nat.beq f 59 with
 |true=>rw[h1]at hm;cases hm;exact ap4 ht
 |false=>rw[h1]at hm;exact zG hm ht
noncomputable def IE:Nat->aj (aX->IH->aj (ah×IH)):=λf=>cond (Nat.beq f 13) (some (grK)) (Sk f)
def abI(hm:IE f=some g){q:aX}{h:IH}{v:ah}{h':IH}(ht:g q h=some (v,h')):CALL Tryz.prog q h (λr pm h2=>r=.ok v/\pm=none/\h2=h'):=by
 simp only[IE]at hm;cases h1:Nat.beq f 13 with
 |true=>rw[h1]at hm;cases hm;exact ap5 ht
 |false=>rw[h1]at hm;exact ap6 hm ht
noncomputable def M0:Env:=lX Tryz.prog (xz 231 291) IE
def Sl:qH M0:=rT _ _ _ (by
 intro f q h v h' hm _ _;cases e:IE f with
 |none=>rw[e]at hm;cases hm
 |some g=>rw[e]at hm;exact abI e hm)
noncomputable def abJ:ae (Nat×bG):=[]
noncomputable def abK:ae ah:=[aR [101,97,99,104,32,114,111,119,115,32,100,105,102,102,101,114,101,110,116]]
noncomputable def abL:ah:=.tuple ⟨[.agg ⟨[.slice (some ⟨974,0,some 1⟩) 2 2,.slice (some ⟨1022,0,some 1⟩) 2 2]⟩,.int .i64 (.ofNat 0)]⟩
def abM:Nat:=1023
noncomputable def abN:ae (Nat×bG):=[(964,.cells [.int .i64 (.ofNat 0),.int .i64 (.ofNat 1)]),
 (970,.cells [.int .i64 (.ofNat 1),.int .i64 (.ofNat 0)]),
 (974,.cells [.slice (some ⟨964,0,some 0⟩) 2 2,.slice (some ⟨970,0,some 0⟩) 2 2]),
 (1022,.cells [.int .i64 (.ofNat 0),.int .i64 (.ofNat 0)])]
def ap7:(nI M0 1000000).call ⟨.func 30,abK,[],none⟩ ⟨heapT abJ,6,6⟩ (qZ 6 6 abN abM abL)=true:=qk
noncomputable def abO:aX->IH->aj (ah×IH):=qO abJ 6 6 abN abM 30 abK abL
def ap8(hk:abO q h=some (v,h')):CALL Tryz.prog q h (λr pm h2=>r=.ok v/\pm=none/\h2=h'):=tH (.ji _ (oK Sl ap7) λ_ _ _ h=>ug h) hk
noncomputable def abP:ae (Nat×bG):=[(964,.cells [.int .i64 (.ofNat 0),.int .i64 (.ofNat 1)]),
 (970,.cells [.int .i64 (.ofNat 1),.int .i64 (.ofNat 0)]),
 (974,.cells [.slice (some ⟨964,0,some 0⟩) 2 2,.slice (some ⟨970,0,some 0⟩) 2 2]),
 (1022,.cells [.int .i64 (.ofNat 0),.int .i64 (.ofNat 0)]),
 (1023,.cells [.slice (some ⟨974,0,some 1⟩) 2 2,.slice (some ⟨1022,0,some 1⟩) 2 2])]
noncomputable def abQ:ae ah:=[aR [101,97,99,104,32,114,111,119,115,32,114,105,115,101]]
noncomputable def abR:ah:=.tuple ⟨[.agg ⟨[.slice (some ⟨1976,0,some 0⟩) 1 1,.slice (some ⟨2022,0,some 1⟩) 2 2]⟩,.int .i64 (.ofNat 0)]⟩
def abS:Nat:=2023
noncomputable def abT:ae (Nat×bG):=[(964,.cells [.int .i64 (.ofNat 0),.int .i64 (.ofNat 1)]),
 (970,.cells [.int .i64 (.ofNat 1),.int .i64 (.ofNat 0)]),
 (974,.cells [.slice (some ⟨964,0,some 0⟩) 2 2,.slice (some ⟨970,0,some 0⟩) 2 2]),
 (1022,.cells [.int .i64 (.ofNat 0),.int .i64 (.ofNat 0)]),
 (1023,.cells [.slice (some ⟨974,0,some 1⟩) 2 2,.slice (some ⟨1022,0,some 1⟩) 2 2]),
 (1975,.cells [.int .i64 (.ofNat 0),.int .i64 (.ofNat 1)]),
 (1976,.cells [.slice (some ⟨1975,0,some 0⟩) 2 2]),
 (2022,.cells [.int .i64 (.ofNat 0),.int .i64 (.ofNat 1)])]
def ap9:(nI M0 1000000).call ⟨.func 30,abQ,[],none⟩ ⟨heapT abP,1024,6⟩ (qZ 1024 6 abT abS abR)=true:=qk
noncomputable def abU:aX->IH->aj (ah×IH):=qO abP 1024 6 abT abS 30 abQ abR
def aqa(hk:abU q h=some (v,h')):CALL Tryz.prog q h (λr pm h2=>r=.ok v/\pm=none/\h2=h'):=tH (.ji _ (oK Sl ap9) λ_ _ _ h=>ug h) hk
noncomputable def abV:ae (Nat×bG):=[(964,.cells [.int .i64 (.ofNat 0),.int .i64 (.ofNat 1)]),
 (970,.cells [.int .i64 (.ofNat 1),.int .i64 (.ofNat 0)]),
 (974,.cells [.slice (some ⟨964,0,some 0⟩) 2 2,.slice (some ⟨970,0,some 0⟩) 2 2]),
 (1022,.cells [.int .i64 (.ofNat 0),.int .i64 (.ofNat 0)]),
 (1023,.cells [.slice (some ⟨974,0,some 1⟩) 2 2,.slice (some ⟨1022,0,some 1⟩) 2 2]),
 (1975,.cells [.int .i64 (.ofNat 0),.int .i64 (.ofNat 1)]),
 (1976,.cells [.slice (some ⟨1975,0,some 0⟩) 2 2]),
 (2022,.cells [.int .i64 (.ofNat 0),.int .i64 (.ofNat 1)]),
 (2023,.cells [.slice (some ⟨1976,0,some 0⟩) 1 1,.slice (some ⟨2022,0,some 1⟩) 2 2])]
noncomputable def abW:ae ah:=[aR [110,111,116,32,123,32,97,32,125,32,98,101,115,105,100,101,32,123,32,98,32,125]]
noncomputable def abX:ah:=.tuple ⟨[.agg ⟨[.slice (some ⟨2993,0,some 1⟩) 2 2,.slice (some ⟨3023,0,some 1⟩) 2 2]⟩,.int .i64 (.ofNat 0)]⟩
def abY:Nat:=3024
noncomputable def abZ:ae (Nat×bG):=[(964,.cells [.int .i64 (.ofNat 0),.int .i64 (.ofNat 1)]),
 (970,.cells [.int .i64 (.ofNat 1),.int .i64 (.ofNat 0)]),
 (974,.cells [.slice (some ⟨964,0,some 0⟩) 2 2,.slice (some ⟨970,0,some 0⟩) 2 2]),
 (1022,.cells [.int .i64 (.ofNat 0),.int .i64 (.ofNat 0)]),
 (1023,.cells [.slice (some ⟨974,0,some 1⟩) 2 2,.slice (some ⟨1022,0,some 1⟩) 2 2]),
 (1975,.cells [.int .i64 (.ofNat 0),.int .i64 (.ofNat 1)]),
 (1976,.cells [.slice (some ⟨1975,0,some 0⟩) 2 2]),
 (2022,.cells [.int .i64 (.ofNat 0),.int .i64 (.ofNat 1)]),
 (2023,.cells [.slice (some ⟨1976,0,some 0⟩) 1 1,.slice (some ⟨2022,0,some 1⟩) 2 2]),
 (2983,.cells [.int .i64 (.ofNat 0),.int .i64 (.ofNat 1)]),
 (2989,.cells [.int .i64 (.ofNat 1),.int .i64 (.ofNat 0)]),
 (2993,.cells [.slice (some ⟨2983,0,some 0⟩) 2 2,.slice (some ⟨2989,0,some 0⟩) 2 2]),
 (3023,.cells [.int .i64 (.ofNat 0),.int .i64 (.ofNat 1)])]
def aqb:(nI M0 1000000).call ⟨.func 30,abW,[],none⟩ ⟨heapT abV,2024,6⟩ (qZ 2024 6 abZ abY abX)=true:=qk
noncomputable def ab0:aX->IH->aj (ah×IH):=qO abV 2024 6 abZ abY 30 abW abX
def aqc(hk:ab0 q h=some (v,h')):CALL Tryz.prog q h (λr pm h2=>r=.ok v/\pm=none/\h2=h'):=tH (.ji _ (oK Sl aqb) λ_ _ _ h=>ug h) hk
noncomputable def prK:aX->IH->aj (ah×IH):=orElse abO (orElse abU ab0)
def aqd(hk:prK q h=some (v,h')):CALL Tryz.prog q h (λr pm h2=>r=.ok v/\pm=none/\h2=h'):=Fh ap8 (λhk=>Fh aqa aqc hk) hk
noncomputable def M3:Nat->aj (aX->IH->aj (ah×IH)):=λf=>cond (Nat.beq f 30) (some (prK)) (IE f)
def aqe(hm:M3 f=some g){q:aX}{h:IH}{v:ah}{h':IH}(ht:g q h=some (v,h')):CALL Tryz.prog q h (λr pm h2=>r=.ok v/\pm=none/\h2=h'):=by
 simp only[M3]at hm;cases h1:Nat.beq f 30 with
 |true=>rw[h1]at hm;cases hm;exact aqd ht
 |false=>rw[h1]at hm;exact abI hm ht
noncomputable def ab2:Env:=lX Tryz.prog (xz 231 291) M3
def aqf:qH ab2:=rT _ _ _ (by
 intro f q h v h' hm _ _;cases e:M3 f with
 |none=>rw[e]at hm;cases hm
 |some g=>rw[e]at hm;exact aqe e hm)
def aqg:(nI ab2 1000000).call ⟨.func 9,[],[],none⟩ ⟨.leaf,6,6⟩ (gives (.bool true) 6)=true:=qk
def aqh:CALL Tryz.prog ⟨.func 9,[],[],none⟩ ⟨.leaf,6,6⟩ (λr pm h=>pm=none/\r=.ok (.bool true)/\h.low=6):=
 .ji _ (oK aqf aqg) λ_ _ _ hg=>JB hg
def aqi(h:IH)(hn:6<=h.next):CALL Tryz.prog ⟨.func 9,[],[],none⟩ h (λr pm h'=>pm=none/\r=.ok (.bool true)/\h'=h):=
 .memo ⟨.leaf,6,6⟩ (.bool true) rfl rfl rfl hn (by rw[globals];exact bz _) (by intro i o ho;cases ho) _ aqh (λr pm h' q=>q) ⟨rfl,rfl,rfl⟩
def ab3:eU Tryz.prog 9 [] [Hl 6] (.bool true):=ahK aqi
