/- Part. -/
import Derived.Test.YtignbinlipkmfaaGreatDoorSaneEK
import Derived.Test.YtignbinlipkmfaaGreatDoorSaneFK
import Derived.Test.YtignbinlipkmfaaGreatDoorSaneGK
set_option linter.all false
namespace Go.Proofs.YtignbinlipkmfaaGreatDoor
open Go.Ideal
noncomputable def orElse(a b:bA->IH->ak (ah×IH)):bA->IH->ak (ah×IH):=λq h=>match a q h with
 |some x=>some x
 |none=>b q h
def Ey{P:Program}{a b:bA->IH->ak (ah×IH)}(ha:∀{q h v h'},a q h=some (v,h')->CALL P q h (λr pm h2=>r=.ok v/\pm=none/\h2=h'))(hb:∀{q h v h'},b q h=some (v,h')->CALL P q h (λr pm h2=>r=.ok v/\pm=none/\h2=h'))
 {q:bA} {h:IH} {v:ah} {h':IH} (hk:orElse a b q h=some (v,h')):CALL P q h (λr pm h2=>r=.ok v/\pm=none/\h2=h'):=by
 unfold orElse at hk;split at hk
 .rename_i x hx;cases hk;exact ha hx
 .exact hb hk
noncomputable def cpK:bA->IH->ak (ah×IH):=orElse Zh (orElse Zn ZB)
variable{q:bA}{h h':IH}{v:ah}
def anp(hk:cpK q h=some (v,h')):CALL Tryz.prog q h (λr pm h2=>r=.ok v/\pm=none/\h2=h'):=Ey amL (λhk=>Ey amR am1 hk) hk
noncomputable def grK:bA->IH->ak (ah×IH):=orElse ZR (orElse Z8 aal)
def anq(hk:grK q h=some (v,h')):CALL Tryz.prog q h (λr pm h2=>r=.ok v/\pm=none/\h2=h'):=Ey anb (λhk=>Ey ani ano hk) hk
noncomputable def Rk:Nat->ak (bA->IH->ak (ah×IH)):=λf=>cond (Nat.beq f 59) (some (cpK)) (vB f)
variable{f:Nat}{g:bA->IH->ak (ah×IH)}
def anr(hm:Rk f=some g){q:bA}{h:IH}{v:ah}{h':IH}(ht:g q h=some (v,h')):CALL Tryz.prog q h (λr pm h2=>r=.ok v/\pm=none/\h2=h'):=by
 simp only[Rk]at hm;cases h1:Nat.beq f 59 with
 |true=>rw[h1]at hm;cases hm;exact anp ht
 |false=>rw[h1]at hm;exact zo hm ht
noncomputable def Hq:Nat->ak (bA->IH->ak (ah×IH)):=λf=>cond (Nat.beq f 13) (some (grK)) (Rk f)
def aao(hm:Hq f=some g){q:bA}{h:IH}{v:ah}{h':IH}(ht:g q h=some (v,h')):CALL Tryz.prog q h (λr pm h2=>r=.ok v/\pm=none/\h2=h'):=by
 simp only[Hq]at hm;cases h1:Nat.beq f 13 with
 |true=>rw[h1]at hm;cases hm;exact anq ht
 |false=>rw[h1]at hm;exact anr hm ht
noncomputable def Mg:Env:=mg Tryz.prog (xB 231 291) Hq
def Rl:qG Mg:=rP _ _ _ (by
 intro f q h v h' hm _ _;cases e:Hq f with
 |none=>rw[e]at hm;cases hm
 |some g=>rw[e]at hm;exact aao e hm)
noncomputable def aap:ae (Nat×bO):=[]
noncomputable def aaq:ae ah:=[aW [101,97,99,104,32,114,111,119,115,32,100,105,102,102,101,114,101,110,116]]
noncomputable def aar:ah:=.tuple ⟨[.agg ⟨[.slice (some ⟨974,0,some 1⟩) 2 2,.slice (some ⟨1022,0,some 1⟩) 2 2]⟩,.int .i64 (.ofNat 0)]⟩
def aas:Nat:=1023
noncomputable def aat:ae (Nat×bO):=[(964,.cells [.int .i64 (.ofNat 0),.int .i64 (.ofNat 1)]),
 (970,.cells [.int .i64 (.ofNat 1),.int .i64 (.ofNat 0)]),
 (974,.cells [.slice (some ⟨964,0,some 0⟩) 2 2,.slice (some ⟨970,0,some 0⟩) 2 2]),
 (1022,.cells [.int .i64 (.ofNat 0),.int .i64 (.ofNat 0)])]
def ant:(nL Mg 1000000).call ⟨.func 30,aaq,[],none⟩ ⟨heapT aap,6,6⟩ (qX 6 6 aat aas aar)=true:=tv
noncomputable def aau:bA->IH->ak (ah×IH):=qK aap 6 6 aat aas 30 aaq aar
def anu(hk:aau q h=some (v,h')):CALL Tryz.prog q h (λr pm h2=>r=.ok v/\pm=none/\h2=h'):=tL (.kv _ (oW Rl ant) λ_ _ _ h=>ul h) hk
noncomputable def aav:ae (Nat×bO):=[(964,.cells [.int .i64 (.ofNat 0),.int .i64 (.ofNat 1)]),
 (970,.cells [.int .i64 (.ofNat 1),.int .i64 (.ofNat 0)]),
 (974,.cells [.slice (some ⟨964,0,some 0⟩) 2 2,.slice (some ⟨970,0,some 0⟩) 2 2]),
 (1022,.cells [.int .i64 (.ofNat 0),.int .i64 (.ofNat 0)]),
 (1023,.cells [.slice (some ⟨974,0,some 1⟩) 2 2,.slice (some ⟨1022,0,some 1⟩) 2 2])]
noncomputable def aaw:ae ah:=[aW [101,97,99,104,32,114,111,119,115,32,114,105,115,101]]
noncomputable def aax:ah:=.tuple ⟨[.agg ⟨[.slice (some ⟨1976,0,some 0⟩) 1 1,.slice (some ⟨2022,0,some 1⟩) 2 2]⟩,.int .i64 (.ofNat 0)]⟩
def aay:Nat:=2023
noncomputable def aaz:ae (Nat×bO):=[(964,.cells [.int .i64 (.ofNat 0),.int .i64 (.ofNat 1)]),
 (970,.cells [.int .i64 (.ofNat 1),.int .i64 (.ofNat 0)]),
 (974,.cells [.slice (some ⟨964,0,some 0⟩) 2 2,.slice (some ⟨970,0,some 0⟩) 2 2]),
 (1022,.cells [.int .i64 (.ofNat 0),.int .i64 (.ofNat 0)]),
 (1023,.cells [.slice (some ⟨974,0,some 1⟩) 2 2,.slice (some ⟨1022,0,some 1⟩) 2 2]),
 (1975,.cells [.int .i64 (.ofNat 0),.int .i64 (.ofNat 1)]),
 (1976,.cells [.slice (some ⟨1975,0,some 0⟩) 2 2]),
 (2022,.cells [.int .i64 (.ofNat 0),.int .i64 (.ofNat 1)])]
def anv:(nL Mg 1000000).call ⟨.func 30,aaw,[],none⟩ ⟨heapT aav,1024,6⟩ (qX 1024 6 aaz aay aax)=true:=tv
noncomputable def aaA:bA->IH->ak (ah×IH):=qK aav 1024 6 aaz aay 30 aaw aax
def anw(hk:aaA q h=some (v,h')):CALL Tryz.prog q h (λr pm h2=>r=.ok v/\pm=none/\h2=h'):=tL (.kv _ (oW Rl anv) λ_ _ _ h=>ul h) hk
noncomputable def aaB:ae (Nat×bO):=[(964,.cells [.int .i64 (.ofNat 0),.int .i64 (.ofNat 1)]),
 (970,.cells [.int .i64 (.ofNat 1),.int .i64 (.ofNat 0)]),
 (974,.cells [.slice (some ⟨964,0,some 0⟩) 2 2,.slice (some ⟨970,0,some 0⟩) 2 2]),
 (1022,.cells [.int .i64 (.ofNat 0),.int .i64 (.ofNat 0)]),
 (1023,.cells [.slice (some ⟨974,0,some 1⟩) 2 2,.slice (some ⟨1022,0,some 1⟩) 2 2]),
 (1975,.cells [.int .i64 (.ofNat 0),.int .i64 (.ofNat 1)]),
 (1976,.cells [.slice (some ⟨1975,0,some 0⟩) 2 2]),
 (2022,.cells [.int .i64 (.ofNat 0),.int .i64 (.ofNat 1)]),
 (2023,.cells [.slice (some ⟨1976,0,some 0⟩) 1 1,.slice (some ⟨2022,0,some 1⟩) 2 2])]
noncomputable def aaC:ae ah:=[aW [110,111,116,32,123,32,97,32,125,32,98,101,115,105,100,101,32,123,32,98,32,125]]
noncomputable def aaD:ah:=.tuple ⟨[.agg ⟨[.slice (some ⟨2993,0,some 1⟩) 2 2,.slice (some ⟨3023,0,some 1⟩) 2 2]⟩,.int .i64 (.ofNat 0)]⟩
def aaE:Nat:=3024
noncomputable def aaF:ae (Nat×bO):=[(964,.cells [.int .i64 (.ofNat 0),.int .i64 (.ofNat 1)]),
 (970,.cells [.int .i64 (.ofNat 1),.int .i64 (.ofNat 0)]),
 (974,.cells [.slice (some ⟨964,0,some 0⟩) 2 2,.slice (some ⟨970,0,some 0⟩) 2 2]),
 (1022,.cells [.int .i64 (.ofNat 0),.int .i64 (.ofNat 0)]),
 (1023,.cells [.slice (some ⟨974,0,some 1⟩) 2 2,.slice (some ⟨1022,0,some 1⟩) 2 2]),
 (1975,.cells [.int .i64 (.ofNat 0),.int .i64 (.ofNat 1)]),
 (1976,.cells [.slice (some ⟨1975,0,some 0⟩) 2 2]),
 (2022,.cells [.int .i64 (.ofNat 0),.int .i64 (.ofNat 1)]),
 (2023,.cells [.slice (some ⟨1976,0,some 0⟩) 1 1,.slice (some ⟨2022,0,some 1⟩) 2 2]),
 (2983,.cells [.int .i64 (.ofNat 0),.int .i64 (.ofNat 1)]),
 (2989,.cells [.int .i64 (.ofNat 1),.int .i64 (.ofNat 0)]),
 (2993,.cells [.slice (some ⟨2983,0,some 0⟩) 2 2,.slice (some ⟨2989,0,some 0⟩) 2 2]),
 (3023,.cells [.int .i64 (.ofNat 0),.int .i64 (.ofNat 1)])]
def anx:(nL Mg 1000000).call ⟨.func 30,aaC,[],none⟩ ⟨heapT aaB,2024,6⟩ (qX 2024 6 aaF aaE aaD)=true:=tv
noncomputable def aaG:bA->IH->ak (ah×IH):=qK aaB 2024 6 aaF aaE 30 aaC aaD
def anz(hk:aaG q h=some (v,h')):CALL Tryz.prog q h (λr pm h2=>r=.ok v/\pm=none/\h2=h'):=tL (.kv _ (oW Rl anx) λ_ _ _ h=>ul h) hk
noncomputable def prK:bA->IH->ak (ah×IH):=orElse aau (orElse aaA aaG)
def anA(hk:prK q h=some (v,h')):CALL Tryz.prog q h (λr pm h2=>r=.ok v/\pm=none/\h2=h'):=Ey anu (λhk=>Ey anw anz hk) hk
noncomputable def Mh:Nat->ak (bA->IH->ak (ah×IH)):=λf=>cond (Nat.beq f 30) (some (prK)) (Hq f)
def anB(hm:Mh f=some g){q:bA}{h:IH}{v:ah}{h':IH}(ht:g q h=some (v,h')):CALL Tryz.prog q h (λr pm h2=>r=.ok v/\pm=none/\h2=h'):=by
 simp only[Mh]at hm;cases h1:Nat.beq f 30 with
 |true=>rw[h1]at hm;cases hm;exact anA ht
 |false=>rw[h1]at hm;exact aao hm ht
noncomputable def aaI:Env:=mg Tryz.prog (xB 231 291) Mh
def anC:qG aaI:=rP _ _ _ (by
 intro f q h v h' hm _ _;cases e:Mh f with
 |none=>rw[e]at hm;cases hm
 |some g=>rw[e]at hm;exact anB e hm)
def anD:(nL aaI 1000000).call ⟨.func 9,[],[],none⟩ ⟨.leaf,6,6⟩ (gives (.bool true) 6)=true:=tv
def anE:CALL Tryz.prog ⟨.func 9,[],[],none⟩ ⟨.leaf,6,6⟩ (λr pm h=>pm=none/\r=.ok (.bool true)/\h.low=6):=
 .kv _ (oW anC anD) λ_ _ _ hg=>I4 hg
def anF(h:IH)(hn:6<=h.next):CALL Tryz.prog ⟨.func 9,[],[],none⟩ h (λr pm h'=>pm=none/\r=.ok (.bool true)/\h'=h):=
 .memo ⟨.leaf,6,6⟩ (.bool true) rfl rfl rfl hn (by rw[globals];exact bQ _) (by intro i o ho;cases ho) _ anE (λr pm h' q=>q) ⟨rfl,rfl,rfl⟩
def aaJ:dL Tryz.prog 9 [] [Gl 6] (.bool true):=agC anF
