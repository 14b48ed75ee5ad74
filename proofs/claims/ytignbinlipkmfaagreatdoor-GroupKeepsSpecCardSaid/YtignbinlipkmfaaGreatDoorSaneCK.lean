/- Part. -/
import Derived.Test.YtignbinlipkmfaaGreatDoorSaneAK
set_option linter.all false
namespace Go.Proofs.YtignbinlipkmfaaGreatDoor
open Go.Ideal
noncomputable def Zk:ae (Nat×bO):=[(964,.cells [.int .i64 (.ofNat 0),.int .i64 (.ofNat 1)]),
 (970,.cells [.int .i64 (.ofNat 1),.int .i64 (.ofNat 0)]),
 (974,.cells [.slice (some ⟨964,0,some 0⟩) 2 2,.slice (some ⟨970,0,some 0⟩) 2 2]),
 (1022,.cells [.int .i64 (.ofNat 0),.int .i64 (.ofNat 0)]),
 (1023,.cells [.slice (some ⟨974,0,some 1⟩) 2 2,.slice (some ⟨1022,0,some 1⟩) 2 2]),
 (1024,.cells [.slice none 0 0,.slice none 0 0])]
noncomputable def Zl:ae ah:=[aW [107,105,110,100,32,107,32,118,101,114,115,105,111,110,32,49,32,123,32,103,114,105,100,32,115,113,117,97,114,101,32,50,32,98,121,32,49,59,32,115,121,109,98,111,108,115,32,97,32,61,32,49,44,32,98,32,61,32,50,59,32,114,117,108,101,32,114,58,32,101,97,99,104,32,114,111,119,115,32,114,105,115,101,59,32,125]]
noncomputable def Zm:ah:=.tuple ⟨[.agg ⟨[aW [107],.int .i64 (.ofNat 1),.int .i64 (.ofNat 1),.int .i64 (.ofNat 2),.int .i64 (.ofNat 1),.slice none 0 0,.slice (some ⟨1202,0,some 2⟩) 2 2,.slice none 0 0,.slice none 0 0,.slice (some ⟨1238,0,some 12⟩) 1 1,.int .i64 (.ofNat 1),.int .i64 (.ofNat 2),.int .i64 (.ofNat 1),.slice none 0 0,.slice (some ⟨1295,0,some 1⟩) 2 2,.slice (some ⟨1314,0,some 0⟩) 2 2,.slice (some ⟨1710,0,some 1⟩) 8 8]⟩,.int .i64 (.ofNat 0),.int .i64 (.ofNat 0)]⟩
def Cx:Nat:=1711
noncomputable def LY:ae (Nat×bO):=[(964,.cells [.int .i64 (.ofNat 0),.int .i64 (.ofNat 1)]),
 (970,.cells [.int .i64 (.ofNat 1),.int .i64 (.ofNat 0)]),
 (974,.cells [.slice (some ⟨964,0,some 0⟩) 2 2,.slice (some ⟨970,0,some 0⟩) 2 2]),
 (1022,.cells [.int .i64 (.ofNat 0),.int .i64 (.ofNat 0)]),
 (1023,.cells [.slice (some ⟨974,0,some 1⟩) 2 2,.slice (some ⟨1022,0,some 1⟩) 2 2]),
 (1024,.cells [.slice none 0 0,.slice none 0 0]),
 (1202,.cells [aW [97],.int .i64 (.ofNat 1),aW [98],.int .i64 (.ofNat 2)]),
 (1238,.cells [aW [114],aW [114,111,119,115],.int .i64 (.ofNat 4),.int .i64 (.ofNat 1),.slice none 0 0,.slice none 0 0,.int .i64 (.ofNat 0),.int .i64 (.ofNat 0),.int .i64 (.ofNat 0),.int .i64 (.ofNat 0),aW [],.int .i64 (.negSucc 0)]),
 (1295,.cells [.int .i64 (.ofNat 0),.int .i64 (.ofNat 1)]),
 (1314,.cells [.slice (some ⟨1321,0,some 1⟩) 1 1,.slice (some ⟨1329,0,some 1⟩) 1 1]),
 (1321,.cells [.int .i64 (.ofNat 1)]),
 (1329,.cells [.int .i64 (.ofNat 0)]),
 (1369,.cells [.int .i64 (.ofNat 0)]),
 (1372,.cells [.int .i64 (.ofNat 1)]),
 (1374,.cells [.slice (some ⟨1369,0,some 0⟩) 1 1,.slice (some ⟨1372,0,some 0⟩) 1 1]),
 (1428,.cells [.int .i64 (.ofNat 0),.int .i64 (.ofNat 1)]),
 (1432,.cells [.slice (some ⟨1428,0,some 1⟩) 2 2]),
 (1482,.cells [.int .i64 (.ofNat 0)]),
 (1486,.cells [.int .i64 (.ofNat 1)]),
 (1492,.cells [.slice (some ⟨1482,0,some 1⟩) 1 1,.slice (some ⟨1486,0,some 1⟩) 1 1]),
 (1554,.cells [.slice (some ⟨1561,0,some 1⟩) 1 1,.slice (some ⟨1569,0,some 1⟩) 1 1]),
 (1561,.cells [.int .i64 (.ofNat 1)]),
 (1569,.cells [.int .i64 (.ofNat 0)]),
 (1614,.cells [.int .i64 (.ofNat 0),.int .i64 (.ofNat 1)]),
 (1620,.cells [.int .i64 (.ofNat 0),.int .i64 (.ofNat 1)]),
 (1622,.cells [.slice (some ⟨1614,0,some 1⟩) 2 2,.slice (some ⟨1620,0,some 1⟩) 2 2]),
 (1662,.cells [.int .i64 (.ofNat 0),.int .i64 (.ofNat 1)]),
 (1664,.cells [.slice (some ⟨1662,0,some 0⟩) 2 2]),
 (1707,.cells [.int .i64 (.ofNat 0),.int .i64 (.ofNat 1)]),
 (1708,.cells [.slice (some ⟨1707,0,some 1⟩) 2 2]),
 (1710,.cells [.slice (some ⟨1374,0,some 1⟩) 2 2,.slice (some ⟨1432,0,some 1⟩) 1 1,.slice (some ⟨1492,0,some 1⟩) 2 2,.slice none 0 0,.slice (some ⟨1554,0,some 0⟩) 2 2,.slice (some ⟨1622,0,some 1⟩) 2 2,.slice (some ⟨1664,0,some 1⟩) 1 1,.slice (some ⟨1708,0,some 0⟩) 1 1])]
def amQ:(nL Cv 1000000).call ⟨.func 59,Zl,[],none⟩ ⟨heapT Zk,1025,6⟩ (qX 1025 6 LY Cx Zm)=true:=tv
noncomputable def Zn:bA->IH->ak (ah×IH):=qK Zk 1025 6 LY Cx 59 Zl Zm
variable{q:bA}{h h':IH}{v:ah}
def amR(hk:Zn q h=some (v,h')):CALL Tryz.prog q h (λr pm h2=>r=.ok v/\pm=none/\h2=h'):=tL (.kv _ (oW Ex amQ) λ_ _ _ h=>ul h) hk
noncomputable def LZ:ah:=.agg ⟨[aW [107],.int .i64 (.ofNat 1),.int .i64 (.ofNat 1),.int .i64 (.ofNat 2),.int .i64 (.ofNat 1),.slice none 0 0,.slice (some ⟨1202,0,some 2⟩) 2 2,.slice none 0 0,.slice none 0 0,.slice (some ⟨1238,0,some 12⟩) 1 1,.int .i64 (.ofNat 1),.int .i64 (.ofNat 2),.int .i64 (.ofNat 1),.slice none 0 0,.slice (some ⟨1295,0,some 1⟩) 2 2,.slice (some ⟨1314,0,some 0⟩) 2 2,.slice (some ⟨1710,0,some 1⟩) 8 8]⟩
def amS:(nL Cv 1000000).call ⟨.func 32,[LZ],[],none⟩ ⟨heapT LY,Cx,Cx⟩ (gives (.int .i64 (.ofNat 0)) Cx)=true:=tv
noncomputable def Zo:bA->IH->ak (ah×IH):=known LY Cx 32 [LZ] (.int .i64 (.ofNat 0))
def amT(hm:Zo q h=some (v,h')):CALL Tryz.prog q h (λr pm h2=>r=.ok v/\pm=none/\h2=h'):=
 Oa tv tv tv (by show Tryz.prog.globals.size<=Cx;rw[globals];decide) (.kv _ (oW Ex amS) λ_ _ _ hg=>I4 hg) hm
noncomputable def L6:Nat->ak (bA->IH->ak (ah×IH)):=λf=>cond (Nat.beq f 32) (some (Zo)) (vB f)
def amU{f:Nat}{g:bA->IH->ak (ah×IH)}(hm:L6 f=some g){q:bA}{h:IH}{v:ah}{h':IH}(ht:g q h=some (v,h')):CALL Tryz.prog q h (λr pm h2=>r=.ok v/\pm=none/\h2=h'):=by
 simp only[L6]at hm;cases h1:Nat.beq f 32 with
 |true=>rw[h1]at hm;cases hm;exact amT ht
 |false=>rw[h1]at hm;exact zo hm ht
noncomputable def Zp:Env:=mg Tryz.prog (xB 231 291) L6
def amV:qG Zp:=rP _ _ _ (by
 intro f q h v h' hm _ _;cases e:L6 f with
 |none=>rw[e]at hm;cases hm
 |some g=>rw[e]at hm;exact amU e hm)
