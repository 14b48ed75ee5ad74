/- Part. -/
import Derived.Test.YtignbinlipkmfaaGreatDoorSaneAK
set_option linter.all false
namespace Go.Proofs.YtignbinlipkmfaaGreatDoor
open Go.Ideal
noncomputable def Ze:ae (Nat×bO):=[(6,.cells [.slice none 0 0,.slice none 0 0])]
noncomputable def Zf:ae ah:=[aW [107,105,110,100,32,107,32,118,101,114,115,105,111,110,32,49,32,123,32,103,114,105,100,32,115,113,117,97,114,101,32,50,32,98,121,32,49,59,32,115,121,109,98,111,108,115,32,97,32,61,32,49,44,32,98,32,61,32,50,59,32,114,117,108,101,32,114,58,32,101,97,99,104,32,114,111,119,115,32,100,105,102,102,101,114,101,110,116,59,32,125]]
noncomputable def Zg:ah:=.tuple ⟨[.agg ⟨[aW [107],.int .i64 (.ofNat 1),.int .i64 (.ofNat 1),.int .i64 (.ofNat 2),.int .i64 (.ofNat 1),.slice none 0 0,.slice (some ⟨184,0,some 2⟩) 2 2,.slice none 0 0,.slice none 0 0,.slice (some ⟨220,0,some 12⟩) 1 1,.int .i64 (.ofNat 1),.int .i64 (.ofNat 2),.int .i64 (.ofNat 1),.slice none 0 0,.slice (some ⟨277,0,some 1⟩) 2 2,.slice (some ⟨296,0,some 0⟩) 2 2,.slice (some ⟨692,0,some 1⟩) 8 8]⟩,.int .i64 (.ofNat 0),.int .i64 (.ofNat 0)]⟩
def Cw:Nat:=693
noncomputable def LV:ae (Nat×bO):=[(6,.cells [.slice none 0 0,.slice none 0 0]),
 (184,.cells [aW [97],.int .i64 (.ofNat 1),aW [98],.int .i64 (.ofNat 2)]),
 (220,.cells [aW [114],aW [114,111,119,115],.int .i64 (.ofNat 1),.int .i64 (.ofNat 1),.slice none 0 0,.slice none 0 0,.int .i64 (.ofNat 0),.int .i64 (.ofNat 0),.int .i64 (.ofNat 0),.int .i64 (.ofNat 0),aW [],.int .i64 (.negSucc 0)]),
 (277,.cells [.int .i64 (.ofNat 0),.int .i64 (.ofNat 1)]),
 (296,.cells [.slice (some ⟨303,0,some 1⟩) 1 1,.slice (some ⟨311,0,some 1⟩) 1 1]),
 (303,.cells [.int .i64 (.ofNat 1)]),
 (311,.cells [.int .i64 (.ofNat 0)]),
 (351,.cells [.int .i64 (.ofNat 0)]),
 (354,.cells [.int .i64 (.ofNat 1)]),
 (356,.cells [.slice (some ⟨351,0,some 0⟩) 1 1,.slice (some ⟨354,0,some 0⟩) 1 1]),
 (410,.cells [.int .i64 (.ofNat 0),.int .i64 (.ofNat 1)]),
 (414,.cells [.slice (some ⟨410,0,some 1⟩) 2 2]),
 (464,.cells [.int .i64 (.ofNat 0)]),
 (468,.cells [.int .i64 (.ofNat 1)]),
 (474,.cells [.slice (some ⟨464,0,some 1⟩) 1 1,.slice (some ⟨468,0,some 1⟩) 1 1]),
 (536,.cells [.slice (some ⟨543,0,some 1⟩) 1 1,.slice (some ⟨551,0,some 1⟩) 1 1]),
 (543,.cells [.int .i64 (.ofNat 1)]),
 (551,.cells [.int .i64 (.ofNat 0)]),
 (596,.cells [.int .i64 (.ofNat 0),.int .i64 (.ofNat 1)]),
 (602,.cells [.int .i64 (.ofNat 0),.int .i64 (.ofNat 1)]),
 (604,.cells [.slice (some ⟨596,0,some 1⟩) 2 2,.slice (some ⟨602,0,some 1⟩) 2 2]),
 (644,.cells [.int .i64 (.ofNat 0),.int .i64 (.ofNat 1)]),
 (646,.cells [.slice (some ⟨644,0,some 0⟩) 2 2]),
 (689,.cells [.int .i64 (.ofNat 0),.int .i64 (.ofNat 1)]),
 (690,.cells [.slice (some ⟨689,0,some 1⟩) 2 2]),
 (692,.cells [.slice (some ⟨356,0,some 1⟩) 2 2,.slice (some ⟨414,0,some 1⟩) 1 1,.slice (some ⟨474,0,some 1⟩) 2 2,.slice none 0 0,.slice (some ⟨536,0,some 0⟩) 2 2,.slice (some ⟨604,0,some 1⟩) 2 2,.slice (some ⟨646,0,some 1⟩) 1 1,.slice (some ⟨690,0,some 0⟩) 1 1])]
def amK:(nL Cv 1000000).call ⟨.func 59,Zf,[],none⟩ ⟨heapT Ze,7,6⟩ (qX 7 6 LV Cw Zg)=true:=tv
noncomputable def Zh:bA->IH->ak (ah×IH):=qK Ze 7 6 LV Cw 59 Zf Zg
variable{q:bA}{h h':IH}{v:ah}
def amL(hk:Zh q h=some (v,h')):CALL Tryz.prog q h (λr pm h2=>r=.ok v/\pm=none/\h2=h'):=tL (.kv _ (oW Ex amK) λ_ _ _ h=>ul h) hk
noncomputable def LW:ah:=.agg ⟨[aW [107],.int .i64 (.ofNat 1),.int .i64 (.ofNat 1),.int .i64 (.ofNat 2),.int .i64 (.ofNat 1),.slice none 0 0,.slice (some ⟨184,0,some 2⟩) 2 2,.slice none 0 0,.slice none 0 0,.slice (some ⟨220,0,some 12⟩) 1 1,.int .i64 (.ofNat 1),.int .i64 (.ofNat 2),.int .i64 (.ofNat 1),.slice none 0 0,.slice (some ⟨277,0,some 1⟩) 2 2,.slice (some ⟨296,0,some 0⟩) 2 2,.slice (some ⟨692,0,some 1⟩) 8 8]⟩
def amM:(nL Cv 1000000).call ⟨.func 32,[LW],[],none⟩ ⟨heapT LV,Cw,Cw⟩ (gives (.int .i64 (.ofNat 0)) Cw)=true:=tv
noncomputable def Zi:bA->IH->ak (ah×IH):=known LV Cw 32 [LW] (.int .i64 (.ofNat 0))
def amN(hm:Zi q h=some (v,h')):CALL Tryz.prog q h (λr pm h2=>r=.ok v/\pm=none/\h2=h'):=
 Oa tv tv tv (by show Tryz.prog.globals.size<=Cw;rw[globals];decide) (.kv _ (oW Ex amM) λ_ _ _ hg=>I4 hg) hm
noncomputable def LX:Nat->ak (bA->IH->ak (ah×IH)):=λf=>cond (Nat.beq f 32) (some (Zi)) (vB f)
def amO{f:Nat}{g:bA->IH->ak (ah×IH)}(hm:LX f=some g){q:bA}{h:IH}{v:ah}{h':IH}(ht:g q h=some (v,h')):CALL Tryz.prog q h (λr pm h2=>r=.ok v/\pm=none/\h2=h'):=by
 simp only[LX]at hm;cases h1:Nat.beq f 32 with
 |true=>rw[h1]at hm;cases hm;exact amN ht
 |false=>rw[h1]at hm;exact zo hm ht
noncomputable def Zj:Env:=mg Tryz.prog (xB 231 291) LX
def amP:qG Zj:=rP _ _ _ (by
 intro f q h v h' hm _ _;cases e:LX f with
 |none=>rw[e]at hm;cases hm
 |some g=>rw[e]at hm;exact amO e hm)
