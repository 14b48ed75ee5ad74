/- Part. -/
import Derived.Test.YtignbinlipkmfaaGreatDoorSaneAG
set_option linter.all false
namespace Go.Proofs.YtignbinlipkmfaaGreatDoor
open Go.Ideal
noncomputable def aaH:ae (Nat×bG):=[(964,.cells [.int .i64 (.ofNat 0),.int .i64 (.ofNat 1)]),
 (970,.cells [.int .i64 (.ofNat 1),.int .i64 (.ofNat 0)]),
 (974,.cells [.slice (some ⟨964,0,some 0⟩) 2 2,.slice (some ⟨970,0,some 0⟩) 2 2]),
 (1022,.cells [.int .i64 (.ofNat 0),.int .i64 (.ofNat 0)]),
 (1023,.cells [.slice (some ⟨974,0,some 1⟩) 2 2,.slice (some ⟨1022,0,some 1⟩) 2 2]),
 (1024,.cells [.slice none 0 0,.slice none 0 0])]
noncomputable def aaI:ae ah:=[aR [107,105,110,100,32,107,32,118,101,114,115,105,111,110,32,49,32,123,32,103,114,105,100,32,115,113,117,97,114,101,32,50,32,98,121,32,49,59,32,115,121,109,98,111,108,115,32,97,32,61,32,49,44,32,98,32,61,32,50,59,32,114,117,108,101,32,114,58,32,101,97,99,104,32,114,111,119,115,32,114,105,115,101,59,32,125]]
noncomputable def aaJ:ah:=.tuple ⟨[.agg ⟨[aR [107],.int .i64 (.ofNat 1),.int .i64 (.ofNat 1),.int .i64 (.ofNat 2),.int .i64 (.ofNat 1),.slice none 0 0,.slice (some ⟨1202,0,some 2⟩) 2 2,.slice none 0 0,.slice none 0 0,.slice (some ⟨1238,0,some 12⟩) 1 1,.int .i64 (.ofNat 1),.int .i64 (.ofNat 2),.int .i64 (.ofNat 1),.slice none 0 0,.slice (some ⟨1295,0,some 1⟩) 2 2,.slice (some ⟨1314,0,some 0⟩) 2 2,.slice (some ⟨1710,0,some 1⟩) 8 8]⟩,.int .i64 (.ofNat 0),.int .i64 (.ofNat 0)]⟩
def Dg:Nat:=1711
noncomputable def MN:ae (Nat×bG):=[(964,.cells [.int .i64 (.ofNat 0),.int .i64 (.ofNat 1)]),
 (970,.cells [.int .i64 (.ofNat 1),.int .i64 (.ofNat 0)]),
 (974,.cells [.slice (some ⟨964,0,some 0⟩) 2 2,.slice (some ⟨970,0,some 0⟩) 2 2]),
 (1022,.cells [.int .i64 (.ofNat 0),.int .i64 (.ofNat 0)]),
 (1023,.cells [.slice (some ⟨974,0,some 1⟩) 2 2,.slice (some ⟨1022,0,some 1⟩) 2 2]),
 (1024,.cells [.slice none 0 0,.slice none 0 0]),
 (1202,.cells [aR [97],.int .i64 (.ofNat 1),aR [98],.int .i64 (.ofNat 2)]),
 (1238,.cells [aR [114],aR [114,111,119,115],.int .i64 (.ofNat 4),.int .i64 (.ofNat 1),.slice none 0 0,.slice none 0 0,.int .i64 (.ofNat 0),.int .i64 (.ofNat 0),.int .i64 (.ofNat 0),.int .i64 (.ofNat 0),aR [],.int .i64 (.negSucc 0)]),
 (1295,.cells [.int .i64 (.ofNat 0),.int .i64 (.ofNat 1)]),
 (1314,.cells [.slice (some ⟨1321,0,some 1⟩) 1 1,.slice (some ⟨1329,0,some 1⟩) 1 1]),
 (1321,.cells [.int .i64 (.ofNat 1)]),
 (1329,.cells [.int .i64 (.ofNat 0)]),
 (1369,.cells [.int .i64 (.ofNat 0)]),
 (1372,.cells [.int .i64 (.ofNat 1)]),
 (1374,.cells [.slice (some ⟨1369,0,some 0⟩) 1 1,.slice (some ⟨1372,0,some 0⟩) 1 1]),
 (1428,.cells [.int .i64 (.ofNat 0),.int .i64 (.ofNat 1)]),
 (1432,.cells [.slice (some ⟨1428,0,some 1⟩) 2 2]),
 (1482,.cells [.int .i64 (.ofNat 0)]),
 (1486,.cells [.int .i64 (.ofNat 1)]),
 (1492,.cells [.slice (some ⟨1482,0,some 1⟩) 1 1,.slice (some ⟨1486,0,some 1⟩) 1 1]),
 (1554,.cells [.slice (some ⟨1561,0,some 1⟩) 1 1,.slice (some ⟨1569,0,some 1⟩) 1 1]),
 (1561,.cells [.int .i64 (.ofNat 1)]),
 (1569,.cells [.int .i64 (.ofNat 0)]),
 (1614,.cells [.int .i64 (.ofNat 0),.int .i64 (.ofNat 1)]),
 (1620,.cells [.int .i64 (.ofNat 0),.int .i64 (.ofNat 1)]),
 (1622,.cells [.slice (some ⟨1614,0,some 1⟩) 2 2,.slice (some ⟨1620,0,some 1⟩) 2 2]),
 (1662,.cells [.int .i64 (.ofNat 0),.int .i64 (.ofNat 1)]),
 (1664,.cells [.slice (some ⟨1662,0,some 0⟩) 2 2]),
 (1707,.cells [.int .i64 (.ofNat 0),.int .i64 (.ofNat 1)]),
 (1708,.cells [.slice (some ⟨1707,0,some 1⟩) 2 2]),
 (1710,.cells [.slice (some ⟨1374,0,some 1⟩) 2 2,.slice (some ⟨1432,0,some 1⟩) 1 1,.slice (some ⟨1492,0,some 1⟩) 2 2,.slice none 0 0,.slice (some ⟨1554,0,some 0⟩) 2 2,.slice (some ⟨1622,0,some 1⟩) 2 2,.slice (some ⟨1664,0,some 1⟩) 1 1,.slice (some ⟨1708,0,some 0⟩) 1 1])]
def apv:(nI De 1000000).call ⟨.func 59,aaI,[],none⟩ ⟨heapT aaH,1025,6⟩ (qZ 1025 6 MN Dg aaJ)=true:=qk
noncomputable def aaK:aX->IH->aj (ah×IH):=qO aaH 1025 6 MN Dg 59 aaI aaJ
variable{q:aX}{h h':IH}{v:ah}
def apw(hk:aaK q h=some (v,h')):CALL Tryz.prog q h (λr pm h2=>r=.ok v/\pm=none/\h2=h'):=tH (.ji _ (oK Fg apv) λ_ _ _ h=>ug h) hk
noncomputable def MO:ah:=.agg ⟨[aR [107],.int .i64 (.ofNat 1),.int .i64 (.ofNat 1),.int .i64 (.ofNat 2),.int .i64 (.ofNat 1),.slice none 0 0,.slice (some ⟨1202,0,some 2⟩) 2 2,.slice none 0 0,.slice none 0 0,.slice (some ⟨1238,0,some 12⟩) 1 1,.int .i64 (.ofNat 1),.int .i64 (.ofNat 2),.int .i64 (.ofNat 1),.slice none 0 0,.slice (some ⟨1295,0,some 1⟩) 2 2,.slice (some ⟨1314,0,some 0⟩) 2 2,.slice (some ⟨1710,0,some 1⟩) 8 8]⟩
def apx:(nI De 1000000).call ⟨.func 32,[MO],[],none⟩ ⟨heapT MN,Dg,Dg⟩ (gives (.int .i64 (.ofNat 0)) Dg)=true:=qk
noncomputable def aaL:aX->IH->aj (ah×IH):=known MN Dg 32 [MO] (.int .i64 (.ofNat 0))
def apy(hm:aaL q h=some (v,h')):CALL Tryz.prog q h (λr pm h2=>r=.ok v/\pm=none/\h2=h'):=
 OI qk qk qk (by show Tryz.prog.globals.size<=Dg;rw[globals];decide) (.ji _ (oK Fg apx) λ_ _ _ hg=>JB hg) hm
noncomputable def MP:Nat->aj (aX->IH->aj (ah×IH)):=λf=>cond (Nat.beq f 32) (some (aaL)) (vD f)
def apz{f:Nat}{g:aX->IH->aj (ah×IH)}(hm:MP f=some g){q:aX}{h:IH}{v:ah}{h':IH}(ht:g q h=some (v,h')):CALL Tryz.prog q h (λr pm h2=>r=.ok v/\pm=none/\h2=h'):=by
 simp only[MP]at hm;cases h1:Nat.beq f 32 with
 |true=>rw[h1]at hm;cases hm;exact apy ht
 |false=>rw[h1]at hm;exact zG hm ht
noncomputable def aaM:Env:=lX Tryz.prog (xz 231 291) MP
def apA:qH aaM:=rT _ _ _ (by
 intro f q h v h' hm _ _;cases e:MP f with
 |none=>rw[e]at hm;cases hm
 |some g=>rw[e]at hm;exact apz e hm)
