/- Part. -/
import Derived.Test.YtignbinlipkmfaaGreatDoorSaneAG
set_option linter.all false
namespace Go.Proofs.YtignbinlipkmfaaGreatDoor
open Go.Ideal
noncomputable def aaB:ae (Nat×bG):=[(6,.cells [.slice none 0 0,.slice none 0 0])]
noncomputable def aaC:ae ah:=[aR [107,105,110,100,32,107,32,118,101,114,115,105,111,110,32,49,32,123,32,103,114,105,100,32,115,113,117,97,114,101,32,50,32,98,121,32,49,59,32,115,121,109,98,111,108,115,32,97,32,61,32,49,44,32,98,32,61,32,50,59,32,114,117,108,101,32,114,58,32,101,97,99,104,32,114,111,119,115,32,100,105,102,102,101,114,101,110,116,59,32,125]]
noncomputable def aaD:ah:=.tuple ⟨[.agg ⟨[aR [107],.int .i64 (.ofNat 1),.int .i64 (.ofNat 1),.int .i64 (.ofNat 2),.int .i64 (.ofNat 1),.slice none 0 0,.slice (some ⟨184,0,some 2⟩) 2 2,.slice none 0 0,.slice none 0 0,.slice (some ⟨220,0,some 12⟩) 1 1,.int .i64 (.ofNat 1),.int .i64 (.ofNat 2),.int .i64 (.ofNat 1),.slice none 0 0,.slice (some ⟨277,0,some 1⟩) 2 2,.slice (some ⟨296,0,some 0⟩) 2 2,.slice (some ⟨692,0,some 1⟩) 8 8]⟩,.int .i64 (.ofNat 0),.int .i64 (.ofNat 0)]⟩
def Df:Nat:=693
noncomputable def MK:ae (Nat×bG):=[(6,.cells [.slice none 0 0,.slice none 0 0]),
 (184,.cells [aR [97],.int .i64 (.ofNat 1),aR [98],.int .i64 (.ofNat 2)]),
 (220,.cells [aR [114],aR [114,111,119,115],.int .i64 (.ofNat 1),.int .i64 (.ofNat 1),.slice none 0 0,.slice none 0 0,.int .i64 (.ofNat 0),.int .i64 (.ofNat 0),.int .i64 (.ofNat 0),.int .i64 (.ofNat 0),aR [],.int .i64 (.negSucc 0)]),
 (277,.cells [.int .i64 (.ofNat 0),.int .i64 (.ofNat 1)]),
 (296,.cells [.slice (some ⟨303,0,some 1⟩) 1 1,.slice (some ⟨311,0,some 1⟩) 1 1]),
 (303,.cells [.int .i64 (.ofNat 1)]),
 (311,.cells [.int .i64 (.ofNat 0)]),
 (351,.cells [.int .i64 (.ofNat 0)]),
 (354,.cells [.int .i64 (.ofNat 1)]),
 (356,.cells [.slice (some ⟨351,0,some 0⟩) 1 1,.slice (some ⟨354,0,some 0⟩) 1 1]),
 (410,.cells [.int .i64 (.ofNat 0),.int .i64 (.ofNat 1)]),
 (414,.cells [.slice (some ⟨410,0,some 1⟩) 2 2]),
 (464,.cells [.int .i64 (.ofNat 0)]),
 (468,.cells [.int .i64 (.ofNat 1)]),
 (474,.cells [.slice (some ⟨464,0,some 1⟩) 1 1,.slice (some ⟨468,0,some 1⟩) 1 1]),
 (536,.cells [.slice (some ⟨543,0,some 1⟩) 1 1,.slice (some ⟨551,0,some 1⟩) 1 1]),
 (543,.cells [.int .i64 (.ofNat 1)]),
 (551,.cells [.int .i64 (.ofNat 0)]),
 (596,.cells [.int .i64 (.ofNat 0),.int .i64 (.ofNat 1)]),
 (602,.cells [.int .i64 (.ofNat 0),.int .i64 (.ofNat 1)]),
 (604,.cells [.slice (some ⟨596,0,some 1⟩) 2 2,.slice (some ⟨602,0,some 1⟩) 2 2]),
 (644,.cells [.int .i64 (.ofNat 0),.int .i64 (.ofNat 1)]),
 (646,.cells [.slice (some ⟨644,0,some 0⟩) 2 2]),
 (689,.cells [.int .i64 (.ofNat 0),.int .i64 (.ofNat 1)]),
 (690,.cells [.slice (some ⟨689,0,some 1⟩) 2 2]),
 (692,.cells [.slice (some ⟨356,0,some 1⟩) 2 2,.slice (some ⟨414,0,some 1⟩) 1 1,.slice (some ⟨474,0,some 1⟩) 2 2,.slice none 0 0,.slice (some ⟨536,0,some 0⟩) 2 2,.slice (some ⟨604,0,some 1⟩) 2 2,.slice (some ⟨646,0,some 1⟩) 1 1,.slice (some ⟨690,0,some 0⟩) 1 1])]
def apo:(nI De 1000000).call ⟨.func 59,aaC,[],none⟩ ⟨heapT aaB,7,6⟩ (qZ 7 6 MK Df aaD)=true:=qk
noncomputable def aaE:aX->IH->aj (ah×IH):=qO aaB 7 6 MK Df 59 aaC aaD
variable{q:aX}{h h':IH}{v:ah}
def apq(hk:aaE q h=some (v,h')):CALL Tryz.prog q h (λr pm h2=>r=.ok v/\pm=none/\h2=h'):=tH (.ji _ (oK Fg apo) λ_ _ _ h=>ug h) hk
noncomputable def ML:ah:=.agg ⟨[aR [107],.int .i64 (.ofNat 1),.int .i64 (.ofNat 1),.int .i64 (.ofNat 2),.int .i64 (.ofNat 1),.slice none 0 0,.slice (some ⟨184,0,some 2⟩) 2 2,.slice none 0 0,.slice none 0 0,.slice (some ⟨220,0,some 12⟩) 1 1,.int .i64 (.ofNat 1),.int .i64 (.ofNat 2),.int .i64 (.ofNat 1),.slice none 0 0,.slice (some ⟨277,0,some 1⟩) 2 2,.slice (some ⟨296,0,some 0⟩) 2 2,.slice (some ⟨692,0,some 1⟩) 8 8]⟩
def apr:(nI De 1000000).call ⟨.func 32,[ML],[],none⟩ ⟨heapT MK,Df,Df⟩ (gives (.int .i64 (.ofNat 0)) Df)=true:=qk
noncomputable def aaF:aX->IH->aj (ah×IH):=known MK Df 32 [ML] (.int .i64 (.ofNat 0))
def aps(hm:aaF q h=some (v,h')):CALL Tryz.prog q h (λr pm h2=>r=.ok v/\pm=none/\h2=h'):=
 OI qk qk qk (by show Tryz.prog.globals.size<=Df;rw[globals];decide) (.ji _ (oK Fg apr) λ_ _ _ hg=>JB hg) hm
noncomputable def MM:Nat->aj (aX->IH->aj (ah×IH)):=λf=>cond (Nat.beq f 32) (some (aaF)) (vD f)
def apt{f:Nat}{g:aX->IH->aj (ah×IH)}(hm:MM f=some g){q:aX}{h:IH}{v:ah}{h':IH}(ht:g q h=some (v,h')):CALL Tryz.prog q h (λr pm h2=>r=.ok v/\pm=none/\h2=h'):=by
 simp only[MM]at hm;cases h1:Nat.beq f 32 with
 |true=>rw[h1]at hm;cases hm;exact aps ht
 |false=>rw[h1]at hm;exact zG hm ht
noncomputable def aaG:Env:=lX Tryz.prog (xz 231 291) MM
def apu:qH aaG:=rT _ _ _ (by
 intro f q h v h' hm _ _;cases e:MM f with
 |none=>rw[e]at hm;cases hm
 |some g=>rw[e]at hm;exact apt e hm)
