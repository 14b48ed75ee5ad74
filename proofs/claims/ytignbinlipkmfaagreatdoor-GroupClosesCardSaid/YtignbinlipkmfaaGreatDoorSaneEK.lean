/- Part. -/
import Derived.Test.YtignbinlipkmfaaGreatDoorSaneBK
set_option linter.all false
namespace Go.Proofs.YtignbinlipkmfaaGreatDoor
open Go.Ideal
noncomputable def ZF:ae (Nat×bO):=[(6,.cells [.slice none 0 0,.slice none 0 0]),
 (184,.cells [aW [97],.int .i64 (.ofNat 1),aW [98],.int .i64 (.ofNat 2)]),
 (220,.cells [aW [114],aW [114,111,119,115],.int .i64 (.ofNat 1),.int .i64 (.ofNat 1),.slice none 0 0,.slice none 0 0,.int .i64 (.ofNat 0),.int .i64 (.ofNat 0),.int .i64 (.ofNat 0),.int .i64 (.ofNat 0),aW [],.int .i64 (.negSucc 0)]),
 (277,.cells [.int .i64 (.ofNat 0),.int .i64 (.ofNat 1)]),
 (296,.cells [.slice (some ⟨303,0,some 1⟩) 1 1,.slice (some ⟨311,0,some 1⟩) 1 1]),
 (303,.cells [.int .i64 (.ofNat 1)]),
 (311,.cells [.int .i64 (.ofNat 0)]),
 (351,.cells [.int .i64 (.ofNat 0)]),
 (354,.cells [.int .i64 (.ofNat 1)]),
 (356,.cells [.slice (some ⟨351,0,some 0⟩) 1 1,.slice (some ⟨354,0,some 0⟩) 1 1]),
 (410,.cells [.int .i64 (.ofNat 0),.int .i64 (.ofNat 1)]),
 (414,.cells [.slice (some ⟨410,0,some 1⟩) 2 2]),
 (464,.cells [.int .i64 (.ofNat 0)]),
 (468,.cells [.int .i64 (.ofNat 1)]),
 (474,.cells [.slice (some ⟨464,0,some 1⟩) 1 1,.slice (some ⟨468,0,some 1⟩) 1 1]),
 (536,.cells [.slice (some ⟨543,0,some 1⟩) 1 1,.slice (some ⟨551,0,some 1⟩) 1 1]),
 (543,.cells [.int .i64 (.ofNat 1)]),
 (551,.cells [.int .i64 (.ofNat 0)]),
 (596,.cells [.int .i64 (.ofNat 0),.int .i64 (.ofNat 1)]),
 (602,.cells [.int .i64 (.ofNat 0),.int .i64 (.ofNat 1)]),
 (604,.cells [.slice (some ⟨596,0,some 1⟩) 2 2,.slice (some ⟨602,0,some 1⟩) 2 2]),
 (644,.cells [.int .i64 (.ofNat 0),.int .i64 (.ofNat 1)]),
 (646,.cells [.slice (some ⟨644,0,some 0⟩) 2 2]),
 (689,.cells [.int .i64 (.ofNat 0),.int .i64 (.ofNat 1)]),
 (690,.cells [.slice (some ⟨689,0,some 1⟩) 2 2]),
 (692,.cells [.slice (some ⟨356,0,some 1⟩) 2 2,.slice (some ⟨414,0,some 1⟩) 1 1,.slice (some ⟨474,0,some 1⟩) 2 2,.slice none 0 0,.slice (some ⟨536,0,some 0⟩) 2 2,.slice (some ⟨604,0,some 1⟩) 2 2,.slice (some ⟨646,0,some 1⟩) 1 1,.slice (some ⟨690,0,some 0⟩) 1 1]),
 (693,.cells [aW [107],.int .i64 (.ofNat 1),.int .i64 (.ofNat 1),.int .i64 (.ofNat 2),.int .i64 (.ofNat 1),.slice none 0 0,.slice (some ⟨184,0,some 2⟩) 2 2,.slice none 0 0,.slice none 0 0,.slice (some ⟨220,0,some 12⟩) 1 1,.int .i64 (.ofNat 1),.int .i64 (.ofNat 2),.int .i64 (.ofNat 1),.slice none 0 0,.slice (some ⟨277,0,some 1⟩) 2 2,.slice (some ⟨296,0,some 0⟩) 2 2,.slice (some ⟨692,0,some 1⟩) 8 8]),
 (694,.cells [aW [107],.int .i64 (.ofNat 1),.int .i64 (.ofNat 1),.int .i64 (.ofNat 2),.int .i64 (.ofNat 1),.slice none 0 0,.slice (some ⟨184,0,some 2⟩) 2 2,.slice none 0 0,.slice none 0 0,.slice (some ⟨220,0,some 12⟩) 1 1,.int .i64 (.ofNat 1),.int .i64 (.ofNat 2),.int .i64 (.ofNat 1),.slice none 0 0,.slice (some ⟨277,0,some 1⟩) 2 2,.slice (some ⟨296,0,some 0⟩) 2 2,.slice (some ⟨692,0,some 1⟩) 8 8]),
 (695,.cells [.slice none 0 0,.slice none 0 0])]
noncomputable def ZG:ae ah:=[LW]
noncomputable def ZH:ah:=.tuple ⟨[.slice (some ⟨868,0,some 1⟩) 2 2,.int .i64 (.ofNat 0)]⟩
def ZI:Nat:=883
noncomputable def ZJ:ae (Nat×bO):=[(6,.cells [.slice none 0 0,.slice none 0 0]),
 (184,.cells [aW [97],.int .i64 (.ofNat 1),aW [98],.int .i64 (.ofNat 2)]),
 (220,.cells [aW [114],aW [114,111,119,115],.int .i64 (.ofNat 1),.int .i64 (.ofNat 1),.slice none 0 0,.slice none 0 0,.int .i64 (.ofNat 0),.int .i64 (.ofNat 0),.int .i64 (.ofNat 0),.int .i64 (.ofNat 0),aW [],.int .i64 (.negSucc 0)]),
 (277,.cells [.int .i64 (.ofNat 0),.int .i64 (.ofNat 1)]),
 (296,.cells [.slice (some ⟨303,0,some 1⟩) 1 1,.slice (some ⟨311,0,some 1⟩) 1 1]),
 (303,.cells [.int .i64 (.ofNat 1)]),
 (311,.cells [.int .i64 (.ofNat 0)]),
 (351,.cells [.int .i64 (.ofNat 0)]),
 (354,.cells [.int .i64 (.ofNat 1)]),
 (356,.cells [.slice (some ⟨351,0,some 0⟩) 1 1,.slice (some ⟨354,0,some 0⟩) 1 1]),
 (410,.cells [.int .i64 (.ofNat 0),.int .i64 (.ofNat 1)]),
 (414,.cells [.slice (some ⟨410,0,some 1⟩) 2 2]),
 (464,.cells [.int .i64 (.ofNat 0)]),
 (468,.cells [.int .i64 (.ofNat 1)]),
 (474,.cells [.slice (some ⟨464,0,some 1⟩) 1 1,.slice (some ⟨468,0,some 1⟩) 1 1]),
 (536,.cells [.slice (some ⟨543,0,some 1⟩) 1 1,.slice (some ⟨551,0,some 1⟩) 1 1]),
 (543,.cells [.int .i64 (.ofNat 1)]),
 (551,.cells [.int .i64 (.ofNat 0)]),
 (596,.cells [.int .i64 (.ofNat 0),.int .i64 (.ofNat 1)]),
 (602,.cells [.int .i64 (.ofNat 0),.int .i64 (.ofNat 1)]),
 (604,.cells [.slice (some ⟨596,0,some 1⟩) 2 2,.slice (some ⟨602,0,some 1⟩) 2 2]),
 (644,.cells [.int .i64 (.ofNat 0),.int .i64 (.ofNat 1)]),
 (646,.cells [.slice (some ⟨644,0,some 0⟩) 2 2]),
 (689,.cells [.int .i64 (.ofNat 0),.int .i64 (.ofNat 1)]),
 (690,.cells [.slice (some ⟨689,0,some 1⟩) 2 2]),
 (692,.cells [.slice (some ⟨356,0,some 1⟩) 2 2,.slice (some ⟨414,0,some 1⟩) 1 1,.slice (some ⟨474,0,some 1⟩) 2 2,.slice none 0 0,.slice (some ⟨536,0,some 0⟩) 2 2,.slice (some ⟨604,0,some 1⟩) 2 2,.slice (some ⟨646,0,some 1⟩) 1 1,.slice (some ⟨690,0,some 0⟩) 1 1]),
 (693,.cells [aW [107],.int .i64 (.ofNat 1),.int .i64 (.ofNat 1),.int .i64 (.ofNat 2),.int .i64 (.ofNat 1),.slice none 0 0,.slice (some ⟨184,0,some 2⟩) 2 2,.slice none 0 0,.slice none 0 0,.slice (some ⟨220,0,some 12⟩) 1 1,.int .i64 (.ofNat 1),.int .i64 (.ofNat 2),.int .i64 (.ofNat 1),.slice none 0 0,.slice (some ⟨277,0,some 1⟩) 2 2,.slice (some ⟨296,0,some 0⟩) 2 2,.slice (some ⟨692,0,some 1⟩) 8 8]),
 (694,.cells [aW [107],.int .i64 (.ofNat 1),.int .i64 (.ofNat 1),.int .i64 (.ofNat 2),.int .i64 (.ofNat 1),.slice none 0 0,.slice (some ⟨184,0,some 2⟩) 2 2,.slice none 0 0,.slice none 0 0,.slice (some ⟨220,0,some 12⟩) 1 1,.int .i64 (.ofNat 1),.int .i64 (.ofNat 2),.int .i64 (.ofNat 1),.slice none 0 0,.slice (some ⟨277,0,some 1⟩) 2 2,.slice (some ⟨296,0,some 0⟩) 2 2,.slice (some ⟨692,0,some 1⟩) 8 8]),
 (695,.cells [.slice none 0 0,.slice none 0 0]),
 (739,.cells [.int .i64 (.ofNat 0),.int .i64 (.ofNat 1)]),
 (758,.cells [.int .i64 (.ofNat 1),.int .i64 (.ofNat 0)]),
 (868,.cells [.slice (some ⟨739,0,some 0⟩) 2 2,.slice (some ⟨758,0,some 0⟩) 2 2])]
def am6:(nL Zj 1000000).call ⟨.func 11,ZG,[],none⟩ ⟨heapT ZF,696,6⟩ (qX 696 6 ZJ ZI ZH)=true:=tv
noncomputable def ZK:bA->IH->ak (ah×IH):=qK ZF 696 6 ZJ ZI 11 ZG ZH
variable{q:bA}{h h':IH}{v:ah}
def am7(hk:ZK q h=some (v,h')):CALL Tryz.prog q h (λr pm h2=>r=.ok v/\pm=none/\h2=h'):=tL (.kv _ (oW amP am6) λ_ _ _ h=>ul h) hk
noncomputable def Md:Nat->ak (bA->IH->ak (ah×IH)):=λf=>cond (Nat.beq f 11) (some (ZK)) (vB f)
def am8{f:Nat}{g:bA->IH->ak (ah×IH)}(hm:Md f=some g){q:bA}{h:IH}{v:ah}{h':IH}(ht:g q h=some (v,h')):CALL Tryz.prog q h (λr pm h2=>r=.ok v/\pm=none/\h2=h'):=by
 simp only[Md]at hm;cases h1:Nat.beq f 11 with
 |true=>rw[h1]at hm;cases hm;exact am7 ht
 |false=>rw[h1]at hm;exact zo hm ht
noncomputable def ZL:Env:=mg Tryz.prog (xB 231 291) Md
def am9:qG ZL:=rP _ _ _ (by
 intro f q h v h' hm _ _;cases e:Md f with
 |none=>rw[e]at hm;cases hm
 |some g=>rw[e]at hm;exact am8 e hm)
noncomputable def ZM:ae (Nat×bO):=[(6,.cells [.slice none 0 0,.slice none 0 0]),
 (184,.cells [aW [97],.int .i64 (.ofNat 1),aW [98],.int .i64 (.ofNat 2)]),
 (220,.cells [aW [114],aW [114,111,119,115],.int .i64 (.ofNat 1),.int .i64 (.ofNat 1),.slice none 0 0,.slice none 0 0,.int .i64 (.ofNat 0),.int .i64 (.ofNat 0),.int .i64 (.ofNat 0),.int .i64 (.ofNat 0),aW [],.int .i64 (.negSucc 0)]),
 (277,.cells [.int .i64 (.ofNat 0),.int .i64 (.ofNat 1)]),
 (296,.cells [.slice (some ⟨303,0,some 1⟩) 1 1,.slice (some ⟨311,0,some 1⟩) 1 1]),
 (303,.cells [.int .i64 (.ofNat 1)]),
 (311,.cells [.int .i64 (.ofNat 0)]),
 (351,.cells [.int .i64 (.ofNat 0)]),
 (354,.cells [.int .i64 (.ofNat 1)]),
 (356,.cells [.slice (some ⟨351,0,some 0⟩) 1 1,.slice (some ⟨354,0,some 0⟩) 1 1]),
 (410,.cells [.int .i64 (.ofNat 0),.int .i64 (.ofNat 1)]),
 (414,.cells [.slice (some ⟨410,0,some 1⟩) 2 2]),
 (464,.cells [.int .i64 (.ofNat 0)]),
 (468,.cells [.int .i64 (.ofNat 1)]),
 (474,.cells [.slice (some ⟨464,0,some 1⟩) 1 1,.slice (some ⟨468,0,some 1⟩) 1 1]),
 (536,.cells [.slice (some ⟨543,0,some 1⟩) 1 1,.slice (some ⟨551,0,some 1⟩) 1 1]),
 (543,.cells [.int .i64 (.ofNat 1)]),
 (551,.cells [.int .i64 (.ofNat 0)]),
 (596,.cells [.int .i64 (.ofNat 0),.int .i64 (.ofNat 1)]),
 (602,.cells [.int .i64 (.ofNat 0),.int .i64 (.ofNat 1)]),
 (604,.cells [.slice (some ⟨596,0,some 1⟩) 2 2,.slice (some ⟨602,0,some 1⟩) 2 2]),
 (644,.cells [.int .i64 (.ofNat 0),.int .i64 (.ofNat 1)]),
 (646,.cells [.slice (some ⟨644,0,some 0⟩) 2 2]),
 (689,.cells [.int .i64 (.ofNat 0),.int .i64 (.ofNat 1)]),
 (690,.cells [.slice (some ⟨689,0,some 1⟩) 2 2]),
 (692,.cells [.slice (some ⟨356,0,some 1⟩) 2 2,.slice (some ⟨414,0,some 1⟩) 1 1,.slice (some ⟨474,0,some 1⟩) 2 2,.slice none 0 0,.slice (some ⟨536,0,some 0⟩) 2 2,.slice (some ⟨604,0,some 1⟩) 2 2,.slice (some ⟨646,0,some 1⟩) 1 1,.slice (some ⟨690,0,some 0⟩) 1 1]),
 (693,.cells [aW [107],.int .i64 (.ofNat 1),.int .i64 (.ofNat 1),.int .i64 (.ofNat 2),.int .i64 (.ofNat 1),.slice none 0 0,.slice (some ⟨184,0,some 2⟩) 2 2,.slice none 0 0,.slice none 0 0,.slice (some ⟨220,0,some 12⟩) 1 1,.int .i64 (.ofNat 1),.int .i64 (.ofNat 2),.int .i64 (.ofNat 1),.slice none 0 0,.slice (some ⟨277,0,some 1⟩) 2 2,.slice (some ⟨296,0,some 0⟩) 2 2,.slice (some ⟨692,0,some 1⟩) 8 8])]
noncomputable def ZN:ae ah:=[LW]
noncomputable def ZO:ah:=.tuple ⟨[.agg ⟨[.slice (some ⟨974,0,some 1⟩) 2 2,.slice (some ⟨1022,0,some 1⟩) 2 2]⟩,.int .i64 (.ofNat 0)]⟩
def ZP:Nat:=1023
noncomputable def ZQ:ae (Nat×bO):=[(6,.cells [.slice none 0 0,.slice none 0 0]),
 (184,.cells [aW [97],.int .i64 (.ofNat 1),aW [98],.int .i64 (.ofNat 2)]),
 (220,.cells [aW [114],aW [114,111,119,115],.int .i64 (.ofNat 1),.int .i64 (.ofNat 1),.slice none 0 0,.slice none 0 0,.int .i64 (.ofNat 0),.int .i64 (.ofNat 0),.int .i64 (.ofNat 0),.int .i64 (.ofNat 0),aW [],.int .i64 (.negSucc 0)]),
 (277,.cells [.int .i64 (.ofNat 0),.int .i64 (.ofNat 1)]),
 (296,.cells [.slice (some ⟨303,0,some 1⟩) 1 1,.slice (some ⟨311,0,some 1⟩) 1 1]),
 (303,.cells [.int .i64 (.ofNat 1)]),
 (311,.cells [.int .i64 (.ofNat 0)]),
 (351,.cells [.int .i64 (.ofNat 0)]),
 (354,.cells [.int .i64 (.ofNat 1)]),
 (356,.cells [.slice (some ⟨351,0,some 0⟩) 1 1,.slice (some ⟨354,0,some 0⟩) 1 1]),
 (410,.cells [.int .i64 (.ofNat 0),.int .i64 (.ofNat 1)]),
 (414,.cells [.slice (some ⟨410,0,some 1⟩) 2 2]),
 (464,.cells [.int .i64 (.ofNat 0)]),
 (468,.cells [.int .i64 (.ofNat 1)]),
 (474,.cells [.slice (some ⟨464,0,some 1⟩) 1 1,.slice (some ⟨468,0,some 1⟩) 1 1]),
 (536,.cells [.slice (some ⟨543,0,some 1⟩) 1 1,.slice (some ⟨551,0,some 1⟩) 1 1]),
 (543,.cells [.int .i64 (.ofNat 1)]),
 (551,.cells [.int .i64 (.ofNat 0)]),
 (596,.cells [.int .i64 (.ofNat 0),.int .i64 (.ofNat 1)]),
 (602,.cells [.int .i64 (.ofNat 0),.int .i64 (.ofNat 1)]),
 (604,.cells [.slice (some ⟨596,0,some 1⟩) 2 2,.slice (some ⟨602,0,some 1⟩) 2 2]),
 (644,.cells [.int .i64 (.ofNat 0),.int .i64 (.ofNat 1)]),
 (646,.cells [.slice (some ⟨644,0,some 0⟩) 2 2]),
 (689,.cells [.int .i64 (.ofNat 0),.int .i64 (.ofNat 1)]),
 (690,.cells [.slice (some ⟨689,0,some 1⟩) 2 2]),
 (692,.cells [.slice (some ⟨356,0,some 1⟩) 2 2,.slice (some ⟨414,0,some 1⟩) 1 1,.slice (some ⟨474,0,some 1⟩) 2 2,.slice none 0 0,.slice (some ⟨536,0,some 0⟩) 2 2,.slice (some ⟨604,0,some 1⟩) 2 2,.slice (some ⟨646,0,some 1⟩) 1 1,.slice (some ⟨690,0,some 0⟩) 1 1]),
 (693,.cells [aW [107],.int .i64 (.ofNat 1),.int .i64 (.ofNat 1),.int .i64 (.ofNat 2),.int .i64 (.ofNat 1),.slice none 0 0,.slice (some ⟨184,0,some 2⟩) 2 2,.slice none 0 0,.slice none 0 0,.slice (some ⟨220,0,some 12⟩) 1 1,.int .i64 (.ofNat 1),.int .i64 (.ofNat 2),.int .i64 (.ofNat 1),.slice none 0 0,.slice (some ⟨277,0,some 1⟩) 2 2,.slice (some ⟨296,0,some 0⟩) 2 2,.slice (some ⟨692,0,some 1⟩) 8 8]),
 (964,.cells [.int .i64 (.ofNat 0),.int .i64 (.ofNat 1)]),
 (970,.cells [.int .i64 (.ofNat 1),.int .i64 (.ofNat 0)]),
 (974,.cells [.slice (some ⟨964,0,some 0⟩) 2 2,.slice (some ⟨970,0,some 0⟩) 2 2]),
 (1022,.cells [.int .i64 (.ofNat 0),.int .i64 (.ofNat 0)])]
def ana:(nL ZL 1000000).call ⟨.func 13,ZN,[],none⟩ ⟨heapT ZM,694,6⟩ (qX 694 6 ZQ ZP ZO)=true:=tv
noncomputable def ZR:bA->IH->ak (ah×IH):=qK ZM 694 6 ZQ ZP 13 ZN ZO
def anb(hk:ZR q h=some (v,h')):CALL Tryz.prog q h (λr pm h2=>r=.ok v/\pm=none/\h2=h'):=tL (.kv _ (oW am9 ana) λ_ _ _ h=>ul h) hk
