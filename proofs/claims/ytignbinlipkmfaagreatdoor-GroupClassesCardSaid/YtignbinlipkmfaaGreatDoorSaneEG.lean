/- Part. -/
import Derived.Test.YtignbinlipkmfaaGreatDoorSaneBG
set_option linter.all false
namespace Go.Proofs.YtignbinlipkmfaaGreatDoor
open Go.Ideal
noncomputable def aa0:ae (Nat×bG):=[(6,.cells [.slice none 0 0,.slice none 0 0]),
 (184,.cells [aR [97],.int .i64 (.ofNat 1),aR [98],.int .i64 (.ofNat 2)]),
 (220,.cells [aR [114],aR [114,111,119,115],.int .i64 (.ofNat 1),.int .i64 (.ofNat 1),.slice none 0 0,.slice none 0 0,.int .i64 (.ofNat 0),.int .i64 (.ofNat 0),.int .i64 (.ofNat 0),.int .i64 (.ofNat 0),aR [],.int .i64 (.negSucc 0)]),
 (277,.cells [.int .i64 (.ofNat 0),.int .i64 (.ofNat 1)]),
 (296,.cells [.slice (some ⟨303,0,some 1⟩) 1 1,.slice (some ⟨311,0,some 1⟩) 1 1]),
 (303,.cells [.int .i64 (.ofNat 1)]),
 (311,.cells [.int .i64 (.ofNat 0)]),
 (351,.cells [.int .i64 (.ofNat 0)]),
 (354,.cells [.int .i64 (.ofNat 1)]),
 (356,.cells [.slice (some ⟨351,0,some 0⟩) 1 1,.slice (some ⟨354,0,some 0⟩) 1 1]),
 (410,.cells [.int .i64 (.ofNat 0),.int .i64 (.ofNat 1)]),
 (414,.cells [.slice (some ⟨410,0,some 1⟩) 2 2]),
 (464,.cells [.int .i64 (.ofNat 0)]),
 (468,.cells [.int .i64 (.ofNat 1)]),
 (474,.cells [.slice (some ⟨464,0,some 1⟩) 1 1,.slice (some ⟨468,0,some 1⟩) 1 1]),
 (536,.cells [.slice (some ⟨543,0,some 1⟩) 1 1,.slice (some ⟨551,0,some 1⟩) 1 1]),
 (543,.cells [.int .i64 (.ofNat 1)]),
 (551,.cells [.int .i64 (.ofNat 0)]),
 (596,.cells [.int .i64 (.ofNat 0),.int .i64 (.ofNat 1)]),
 (602,.cells [.int .i64 (.ofNat 0),.int .i64 (.ofNat 1)]),
 (604,.cells [.slice (some ⟨596,0,some 1⟩) 2 2,.slice (some ⟨602,0,some 1⟩) 2 2]),
 (644,.cells [.int .i64 (.ofNat 0),.int .i64 (.ofNat 1)]),
 (646,.cells [.slice (some ⟨644,0,some 0⟩) 2 2]),
 (689,.cells [.int .i64 (.ofNat 0),.int .i64 (.ofNat 1)]),
 (690,.cells [.slice (some ⟨689,0,some 1⟩) 2 2]),
 (692,.cells [.slice (some ⟨356,0,some 1⟩) 2 2,.slice (some ⟨414,0,some 1⟩) 1 1,.slice (some ⟨474,0,some 1⟩) 2 2,.slice none 0 0,.slice (some ⟨536,0,some 0⟩) 2 2,.slice (some ⟨604,0,some 1⟩) 2 2,.slice (some ⟨646,0,some 1⟩) 1 1,.slice (some ⟨690,0,some 0⟩) 1 1]),
 (693,.cells [aR [107],.int .i64 (.ofNat 1),.int .i64 (.ofNat 1),.int .i64 (.ofNat 2),.int .i64 (.ofNat 1),.slice none 0 0,.slice (some ⟨184,0,some 2⟩) 2 2,.slice none 0 0,.slice none 0 0,.slice (some ⟨220,0,some 12⟩) 1 1,.int .i64 (.ofNat 1),.int .i64 (.ofNat 2),.int .i64 (.ofNat 1),.slice none 0 0,.slice (some ⟨277,0,some 1⟩) 2 2,.slice (some ⟨296,0,some 0⟩) 2 2,.slice (some ⟨692,0,some 1⟩) 8 8]),
 (694,.cells [aR [107],.int .i64 (.ofNat 1),.int .i64 (.ofNat 1),.int .i64 (.ofNat 2),.int .i64 (.ofNat 1),.slice none 0 0,.slice (some ⟨184,0,some 2⟩) 2 2,.slice none 0 0,.slice none 0 0,.slice (some ⟨220,0,some 12⟩) 1 1,.int .i64 (.ofNat 1),.int .i64 (.ofNat 2),.int .i64 (.ofNat 1),.slice none 0 0,.slice (some ⟨277,0,some 1⟩) 2 2,.slice (some ⟨296,0,some 0⟩) 2 2,.slice (some ⟨692,0,some 1⟩) 8 8]),
 (695,.cells [.slice none 0 0,.slice none 0 0])]
noncomputable def aa1:ae ah:=[ML]
noncomputable def aa2:ah:=.tuple ⟨[.slice (some ⟨868,0,some 1⟩) 2 2,.int .i64 (.ofNat 0)]⟩
def aa3:Nat:=883
noncomputable def aa4:ae (Nat×bG):=[(6,.cells [.slice none 0 0,.slice none 0 0]),
 (184,.cells [aR [97],.int .i64 (.ofNat 1),aR [98],.int .i64 (.ofNat 2)]),
 (220,.cells [aR [114],aR [114,111,119,115],.int .i64 (.ofNat 1),.int .i64 (.ofNat 1),.slice none 0 0,.slice none 0 0,.int .i64 (.ofNat 0),.int .i64 (.ofNat 0),.int .i64 (.ofNat 0),.int .i64 (.ofNat 0),aR [],.int .i64 (.negSucc 0)]),
 (277,.cells [.int .i64 (.ofNat 0),.int .i64 (.ofNat 1)]),
 (296,.cells [.slice (some ⟨303,0,some 1⟩) 1 1,.slice (some ⟨311,0,some 1⟩) 1 1]),
 (303,.cells [.int .i64 (.ofNat 1)]),
 (311,.cells [.int .i64 (.ofNat 0)]),
 (351,.cells [.int .i64 (.ofNat 0)]),
 (354,.cells [.int .i64 (.ofNat 1)]),
 (356,.cells [.slice (some ⟨351,0,some 0⟩) 1 1,.slice (some ⟨354,0,some 0⟩) 1 1]),
 (410,.cells [.int .i64 (.ofNat 0),.int .i64 (.ofNat 1)]),
 (414,.cells [.slice (some ⟨410,0,some 1⟩) 2 2]),
 (464,.cells [.int .i64 (.ofNat 0)]),
 (468,.cells [.int .i64 (.ofNat 1)]),
 (474,.cells [.slice (some ⟨464,0,some 1⟩) 1 1,.slice (some ⟨468,0,some 1⟩) 1 1]),
 (536,.cells [.slice (some ⟨543,0,some 1⟩) 1 1,.slice (some ⟨551,0,some 1⟩) 1 1]),
 (543,.cells [.int .i64 (.ofNat 1)]),
 (551,.cells [.int .i64 (.ofNat 0)]),
 (596,.cells [.int .i64 (.ofNat 0),.int .i64 (.ofNat 1)]),
 (602,.cells [.int .i64 (.ofNat 0),.int .i64 (.ofNat 1)]),
 (604,.cells [.slice (some ⟨596,0,some 1⟩) 2 2,.slice (some ⟨602,0,some 1⟩) 2 2]),
 (644,.cells [.int .i64 (.ofNat 0),.int .i64 (.ofNat 1)]),
 (646,.cells [.slice (some ⟨644,0,some 0⟩) 2 2]),
 (689,.cells [.int .i64 (.ofNat 0),.int .i64 (.ofNat 1)]),
 (690,.cells [.slice (some ⟨689,0,some 1⟩) 2 2]),
 (692,.cells [.slice (some ⟨356,0,some 1⟩) 2 2,.slice (some ⟨414,0,some 1⟩) 1 1,.slice (some ⟨474,0,some 1⟩) 2 2,.slice none 0 0,.slice (some ⟨536,0,some 0⟩) 2 2,.slice (some ⟨604,0,some 1⟩) 2 2,.slice (some ⟨646,0,some 1⟩) 1 1,.slice (some ⟨690,0,some 0⟩) 1 1]),
 (693,.cells [aR [107],.int .i64 (.ofNat 1),.int .i64 (.ofNat 1),.int .i64 (.ofNat 2),.int .i64 (.ofNat 1),.slice none 0 0,.slice (some ⟨184,0,some 2⟩) 2 2,.slice none 0 0,.slice none 0 0,.slice (some ⟨220,0,some 12⟩) 1 1,.int .i64 (.ofNat 1),.int .i64 (.ofNat 2),.int .i64 (.ofNat 1),.slice none 0 0,.slice (some ⟨277,0,some 1⟩) 2 2,.slice (some ⟨296,0,some 0⟩) 2 2,.slice (some ⟨692,0,some 1⟩) 8 8]),
 (694,.cells [aR [107],.int .i64 (.ofNat 1),.int .i64 (.ofNat 1),.int .i64 (.ofNat 2),.int .i64 (.ofNat 1),.slice none 0 0,.slice (some ⟨184,0,some 2⟩) 2 2,.slice none 0 0,.slice none 0 0,.slice (some ⟨220,0,some 12⟩) 1 1,.int .i64 (.ofNat 1),.int .i64 (.ofNat 2),.int .i64 (.ofNat 1),.slice none 0 0,.slice (some ⟨277,0,some 1⟩) 2 2,.slice (some ⟨296,0,some 0⟩) 2 2,.slice (some ⟨692,0,some 1⟩) 8 8]),
 (695,.cells [.slice none 0 0,.slice none 0 0]),
 (739,.cells [.int .i64 (.ofNat 0),.int .i64 (.ofNat 1)]),
 (758,.cells [.int .i64 (.ofNat 1),.int .i64 (.ofNat 0)]),
 (868,.cells [.slice (some ⟨739,0,some 0⟩) 2 2,.slice (some ⟨758,0,some 0⟩) 2 2])]
def apL:(nI aaG 1000000).call ⟨.func 11,aa1,[],none⟩ ⟨heapT aa0,696,6⟩ (qZ 696 6 aa4 aa3 aa2)=true:=qk
noncomputable def aa5:aX->IH->aj (ah×IH):=qO aa0 696 6 aa4 aa3 11 aa1 aa2
variable{q:aX}{h h':IH}{v:ah}
def apM(hk:aa5 q h=some (v,h')):CALL Tryz.prog q h (λr pm h2=>r=.ok v/\pm=none/\h2=h'):=tH (.ji _ (oK apu apL) λ_ _ _ h=>ug h) hk
noncomputable def MW:Nat->aj (aX->IH->aj (ah×IH)):=λf=>cond (Nat.beq f 11) (some (aa5)) (vD f)
def apO{f:Nat}{g:aX->IH->aj (ah×IH)}(hm:MW f=some g){q:aX}{h:IH}{v:ah}{h':IH}(ht:g q h=some (v,h')):CALL Tryz.prog q h (λr pm h2=>r=.ok v/\pm=none/\h2=h'):=by
 simp only[MW]at hm;cases h1:Nat.beq f 11 with
 |true=>rw[h1]at hm;cases hm;exact apM ht
 |false=>rw[h1]at hm;exact zG hm ht
noncomputable def aa6:Env:=lX Tryz.prog (xz 231 291) MW
def apP:qH aa6:=rT _ _ _ (by
 intro f q h v h' hm _ _;cases e:MW f with
 |none=>rw[e]at hm;cases hm
 |some g=>rw[e]at hm;exact apO e hm)
noncomputable def aa7:ae (Nat×bG):=[(6,.cells [.slice none 0 0,.slice none 0 0]),
 (184,.cells [aR [97],.int .i64 (.ofNat 1),aR [98],.int .i64 (.ofNat 2)]),
 (220,.cells [aR [114],aR [114,111,119,115],.int .i64 (.ofNat 1),.int .i64 (.ofNat 1),.slice none 0 0,.slice none 0 0,.int .i64 (.ofNat 0),.int .i64 (.ofNat 0),.int .i64 (.ofNat 0),.int .i64 (.ofNat 0),aR [],.int .i64 (.negSucc 0)]),
 (277,.cells [.int .i64 (.ofNat 0),.int .i64 (.ofNat 1)]),
 (296,.cells [.slice (some ⟨303,0,some 1⟩) 1 1,.slice (some ⟨311,0,some 1⟩) 1 1]),
 (303,.cells [.int .i64 (.ofNat 1)]),
 (311,.cells [.int .i64 (.ofNat 0)]),
 (351,.cells [.int .i64 (.ofNat 0)]),
 (354,.cells [.int .i64 (.ofNat 1)]),
 (356,.cells [.slice (some ⟨351,0,some 0⟩) 1 1,.slice (some ⟨354,0,some 0⟩) 1 1]),
 (410,.cells [.int .i64 (.ofNat 0),.int .i64 (.ofNat 1)]),
 (414,.cells [.slice (some ⟨410,0,some 1⟩) 2 2]),
 (464,.cells [.int .i64 (.ofNat 0)]),
 (468,.cells [.int .i64 (.ofNat 1)]),
 (474,.cells [.slice (some ⟨464,0,some 1⟩) 1 1,.slice (some ⟨468,0,some 1⟩) 1 1]),
 (536,.cells [.slice (some ⟨543,0,some 1⟩) 1 1,.slice (some ⟨551,0,some 1⟩) 1 1]),
 (543,.cells [.int .i64 (.ofNat 1)]),
 (551,.cells [.int .i64 (.ofNat 0)]),
 (596,.cells [.int .i64 (.ofNat 0),.int .i64 (.ofNat 1)]),
 (602,.cells [.int .i64 (.ofNat 0),.int .i64 (.ofNat 1)]),
 (604,.cells [.slice (some ⟨596,0,some 1⟩) 2 2,.slice (some ⟨602,0,some 1⟩) 2 2]),
 (644,.cells [.int .i64 (.ofNat 0),.int .i64 (.ofNat 1)]),
 (646,.cells [.slice (some ⟨644,0,some 0⟩) 2 2]),
 (689,.cells [.int .i64 (.ofNat 0),.int .i64 (.ofNat 1)]),
 (690,.cells [.slice (some ⟨689,0,some 1⟩) 2 2]),
 (692,.cells [.slice (some ⟨356,0,some 1⟩) 2 2,.slice (some ⟨414,0,some 1⟩) 1 1,.slice (some ⟨474,0,some 1⟩) 2 2,.slice none 0 0,.slice (some ⟨536,0,some 0⟩) 2 2,.slice (some ⟨604,0,some 1⟩) 2 2,.slice (some ⟨646,0,some 1⟩) 1 1,.slice (some ⟨690,0,some 0⟩) 1 1]),
 (693,.cells [aR [107],.int .i64 (.ofNat 1),.int .i64 (.ofNat 1),.int .i64 (.ofNat 2),.int .i64 (.ofNat 1),.slice none 0 0,.slice (some ⟨184,0,some 2⟩) 2 2,.slice none 0 0,.slice none 0 0,.slice (some ⟨220,0,some 12⟩) 1 1,.int .i64 (.ofNat 1),.int .i64 (.ofNat 2),.int .i64 (.ofNat 1),.slice none 0 0,.slice (some ⟨277,0,some 1⟩) 2 2,.slice (some ⟨296,0,some 0⟩) 2 2,.slice (some ⟨692,0,some 1⟩) 8 8])]
noncomputable def aa8:ae ah:=[ML]
noncomputable def aa9:ah:=.tuple ⟨[.agg ⟨[.slice (some ⟨974,0,some 1⟩) 2 2,.slice (some ⟨1022,0,some 1⟩) 2 2]⟩,.int .i64 (.ofNat 0)]⟩
def aba:Nat:=1023
noncomputable def abb:ae (Nat×bG):=[(6,.cells [.slice none 0 0,.slice none 0 0]),
 (184,.cells [aR [97],.int .i64 (.ofNat 1),aR [98],.int .i64 (.ofNat 2)]),
 (220,.cells [aR [114],aR [114,111,119,115],.int .i64 (.ofNat 1),.int .i64 (.ofNat 1),.slice none 0 0,.slice none 0 0,.int .i64 (.ofNat 0),.int .i64 (.ofNat 0),.int .i64 (.ofNat 0),.int .i64 (.ofNat 0),aR [],.int .i64 (.negSucc 0)]),
 (277,.cells [.int .i64 (.ofNat 0),.int .i64 (.ofNat 1)]),
 (296,.cells [.slice (some ⟨303,0,some 1⟩) 1 1,.slice (some ⟨311,0,some 1⟩) 1 1]),
 (303,.cells [.int .i64 (.ofNat 1)]),
 (311,.cells [.int .i64 (.ofNat 0)]),
 (351,.cells [.int .i64 (.ofNat 0)]),
 (354,.cells [.int .i64 (.ofNat 1)]),
 (356,.cells [.slice (some ⟨351,0,some 0⟩) 1 1,.slice (some ⟨354,0,some 0⟩) 1 1]),
 (410,.cells [.int .i64 (.ofNat 0),.int .i64 (.ofNat 1)]),
 (414,.cells [.slice (some ⟨410,0,some 1⟩) 2 2]),
 (464,.cells [.int .i64 (.ofNat 0)]),
 (468,.cells [.int .i64 (.ofNat 1)]),
 (474,.cells [.slice (some ⟨464,0,some 1⟩) 1 1,.slice (some ⟨468,0,some 1⟩) 1 1]),
 (536,.cells [.slice (some ⟨543,0,some 1⟩) 1 1,.slice (some ⟨551,0,some 1⟩) 1 1]),
 (543,.cells [.int .i64 (.ofNat 1)]),
 (551,.cells [.int .i64 (.ofNat 0)]),
 (596,.cells [.int .i64 (.ofNat 0),.int .i64 (.ofNat 1)]),
 (602,.cells [.int .i64 (.ofNat 0),.int .i64 (.ofNat 1)]),
 (604,.cells [.slice (some ⟨596,0,some 1⟩) 2 2,.slice (some ⟨602,0,some 1⟩) 2 2]),
 (644,.cells [.int .i64 (.ofNat 0),.int .i64 (.ofNat 1)]),
 (646,.cells [.slice (some ⟨644,0,some 0⟩) 2 2]),
 (689,.cells [.int .i64 (.ofNat 0),.int .i64 (.ofNat 1)]),
 (690,.cells [.slice (some ⟨689,0,some 1⟩) 2 2]),
 (692,.cells [.slice (some ⟨356,0,some 1⟩) 2 2,.slice (some ⟨414,0,some 1⟩) 1 1,.slice (some ⟨474,0,some 1⟩) 2 2,.slice none 0 0,.slice (some ⟨536,0,some 0⟩) 2 2,.slice (some ⟨604,0,some 1⟩) 2 2,.slice (some ⟨646,0,some 1⟩) 1 1,.slice (some ⟨690,0,some 0⟩) 1 1]),
 (693,.cells [aR [107],.int .i64 (.ofNat 1),.int .i64 (.ofNat 1),.int .i64 (.ofNat 2),.int .i64 (.ofNat 1),.slice none 0 0,.slice (some ⟨184,0,some 2⟩) 2 2,.slice none 0 0,.slice none 0 0,.slice (some ⟨220,0,some 12⟩) 1 1,.int .i64 (.ofNat 1),.int .i64 (.ofNat 2),.int .i64 (.ofNat 1),.slice none 0 0,.slice (some ⟨277,0,some 1⟩) 2 2,.slice (some ⟨296,0,some 0⟩) 2 2,.slice (some ⟨692,0,some 1⟩) 8 8]),
 (964,.cells [.int .i64 (.ofNat 0),.int .i64 (.ofNat 1)]),
 (970,.cells [.int .i64 (.ofNat 1),.int .i64 (.ofNat 0)]),
 (974,.cells [.slice (some ⟨964,0,some 0⟩) 2 2,.slice (some ⟨970,0,some 0⟩) 2 2]),
 (1022,.cells [.int .i64 (.ofNat 0),.int .i64 (.ofNat 0)])]
def apQ:(nI aa6 1000000).call ⟨.func 13,aa8,[],none⟩ ⟨heapT aa7,694,6⟩ (qZ 694 6 abb aba aa9)=true:=qk
noncomputable def abd:aX->IH->aj (ah×IH):=qO aa7 694 6 abb aba 13 aa8 aa9
def apR(hk:abd q h=some (v,h')):CALL Tryz.prog q h (λr pm h2=>r=.ok v/\pm=none/\h2=h'):=tH (.ji _ (oK apP apQ) λ_ _ _ h=>ug h) hk
