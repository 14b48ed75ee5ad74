/- Part. -/
import Derived.Test.YtignbinlipkmfaaGreatDoorSaneAG
set_option linter.all false
namespace Go.Proofs.YtignbinlipkmfaaGreatDoor
open Go.Ideal
noncomputable def aaN:ae (Nat×bG):=[(964,.cells [.int .i64 (.ofNat 0),.int .i64 (.ofNat 1)]),
 (970,.cells [.int .i64 (.ofNat 1),.int .i64 (.ofNat 0)]),
 (974,.cells [.slice (some ⟨964,0,some 0⟩) 2 2,.slice (some ⟨970,0,some 0⟩) 2 2]),
 (1022,.cells [.int .i64 (.ofNat 0),.int .i64 (.ofNat 0)]),
 (1023,.cells [.slice (some ⟨974,0,some 1⟩) 2 2,.slice (some ⟨1022,0,some 1⟩) 2 2]),
 (1975,.cells [.int .i64 (.ofNat 0),.int .i64 (.ofNat 1)]),
 (1976,.cells [.slice (some ⟨1975,0,some 0⟩) 2 2]),
 (2022,.cells [.int .i64 (.ofNat 0),.int .i64 (.ofNat 1)]),
 (2023,.cells [.slice (some ⟨1976,0,some 0⟩) 1 1,.slice (some ⟨2022,0,some 1⟩) 2 2]),
 (2024,.cells [.slice none 0 0,.slice none 0 0]),
 (2025,.cells [aR [],.int .i64 (.ofNat 0),.int .i64 (.ofNat 0),.int .i64 (.ofNat 0),.int .i64 (.ofNat 0),.slice none 0 0,.slice none 0 0,.slice none 0 0,.slice none 0 0,.slice none 0 0,.int .i64 (.ofNat 0),.int .i64 (.ofNat 0),.int .i64 (.ofNat 0),.slice none 0 0,.slice none 0 0,.slice none 0 0,.slice none 0 0]),
 (2026,.cells [aR [],.int .i64 (.ofNat 0),.int .i64 (.ofNat 0),.int .i64 (.ofNat 0),.int .i64 (.ofNat 0),.slice none 0 0,.slice none 0 0,.slice none 0 0,.slice none 0 0,.slice none 0 0])]
noncomputable def aaO:ae ah:=[aR [107,105,110,100,32,107,32,118,101,114,115,105,111,110,32,49,32,123,32,103,114,105,100,32,115,113,117,97,114,101,32,50,32,98,121,32,49,59,32,115,121,109,98,111,108,115,32,97,32,61,32,49,44,32,98,32,61,32,50,59,32,114,117,108,101,32,114,58,32,110,111,116,32,123,32,97,32,125,32,98,101,115,105,100,101,32,123,32,98,32,125,59,32,125]]
noncomputable def aaP:ah:=.tuple ⟨[.slice (some ⟨2210,0,some 4⟩) 33 33,.int .i64 (.ofNat 0),.int .i64 (.ofNat 0)]⟩
def aaQ:Nat:=2211
noncomputable def aaR:ae (Nat×bG):=[(964,.cells [.int .i64 (.ofNat 0),.int .i64 (.ofNat 1)]),
 (970,.cells [.int .i64 (.ofNat 1),.int .i64 (.ofNat 0)]),
 (974,.cells [.slice (some ⟨964,0,some 0⟩) 2 2,.slice (some ⟨970,0,some 0⟩) 2 2]),
 (1022,.cells [.int .i64 (.ofNat 0),.int .i64 (.ofNat 0)]),
 (1023,.cells [.slice (some ⟨974,0,some 1⟩) 2 2,.slice (some ⟨1022,0,some 1⟩) 2 2]),
 (1975,.cells [.int .i64 (.ofNat 0),.int .i64 (.ofNat 1)]),
 (1976,.cells [.slice (some ⟨1975,0,some 0⟩) 2 2]),
 (2022,.cells [.int .i64 (.ofNat 0),.int .i64 (.ofNat 1)]),
 (2023,.cells [.slice (some ⟨1976,0,some 0⟩) 1 1,.slice (some ⟨2022,0,some 1⟩) 2 2]),
 (2024,.cells [.slice none 0 0,.slice none 0 0]),
 (2025,.cells [aR [],.int .i64 (.ofNat 0),.int .i64 (.ofNat 0),.int .i64 (.ofNat 0),.int .i64 (.ofNat 0),.slice none 0 0,.slice none 0 0,.slice none 0 0,.slice none 0 0,.slice none 0 0,.int .i64 (.ofNat 0),.int .i64 (.ofNat 0),.int .i64 (.ofNat 0),.slice none 0 0,.slice none 0 0,.slice none 0 0,.slice none 0 0]),
 (2026,.cells [aR [],.int .i64 (.ofNat 0),.int .i64 (.ofNat 0),.int .i64 (.ofNat 0),.int .i64 (.ofNat 0),.slice none 0 0,.slice none 0 0,.slice none 0 0,.slice none 0 0,.slice none 0 0]),
 (2210,.cells [.int .i64 (.ofNat 1),aR [107,105,110,100],.int .i64 (.ofNat 0),.int .i64 (.ofNat 0),.int .i64 (.ofNat 1),aR [107],.int .i64 (.ofNat 0),.int .i64 (.ofNat 5),.int .i64 (.ofNat 1),aR [118,101,114,115,105,111,110],.int .i64 (.ofNat 0),.int .i64 (.ofNat 7),.int .i64 (.ofNat 2),aR [],.int .i64 (.ofNat 1),.int .i64 (.ofNat 15),.int .i64 (.ofNat 3),aR [123],.int .i64 (.ofNat 0),.int .i64 (.ofNat 17),.int .i64 (.ofNat 1),aR [103,114,105,100],.int .i64 (.ofNat 0),.int .i64 (.ofNat 19),.int .i64 (.ofNat 1),aR [115,113,117,97,114,101],.int .i64 (.ofNat 0),.int .i64 (.ofNat 24),.int .i64 (.ofNat 2),aR [],.int .i64 (.ofNat 2),.int .i64 (.ofNat 31),.int .i64 (.ofNat 1),aR [98,121],.int .i64 (.ofNat 0),.int .i64 (.ofNat 33),.int .i64 (.ofNat 2),aR [],.int .i64 (.ofNat 1),.int .i64 (.ofNat 36),.int .i64 (.ofNat 3),aR [59],.int .i64 (.ofNat 0),.int .i64 (.ofNat 37),.int .i64 (.ofNat 1),aR [115,121,109,98,111,108,115],.int .i64 (.ofNat 0),.int .i64 (.ofNat 39),.int .i64 (.ofNat 1),aR [97],.int .i64 (.ofNat 0),.int .i64 (.ofNat 47),.int .i64 (.ofNat 3),aR [61],.int .i64 (.ofNat 0),.int .i64 (.ofNat 49),.int .i64 (.ofNat 2),aR [],.int .i64 (.ofNat 1),.int .i64 (.ofNat 51),.int .i64 (.ofNat 3),aR [44],.int .i64 (.ofNat 0),.int .i64 (.ofNat 52),.int .i64 (.ofNat 1),aR [98],.int .i64 (.ofNat 0),.int .i64 (.ofNat 54),.int .i64 (.ofNat 3),aR [61],.int .i64 (.ofNat 0),.int .i64 (.ofNat 56),.int .i64 (.ofNat 2),aR [],.int .i64 (.ofNat 2),.int .i64 (.ofNat 58),.int .i64 (.ofNat 3),aR [59],.int .i64 (.ofNat 0),.int .i64 (.ofNat 59),.int .i64 (.ofNat 1),aR [114,117,108,101],.int .i64 (.ofNat 0),.int .i64 (.ofNat 61),.int .i64 (.ofNat 1),aR [114],.int .i64 (.ofNat 0),.int .i64 (.ofNat 66),.int .i64 (.ofNat 3),aR [58],.int .i64 (.ofNat 0),.int .i64 (.ofNat 67),.int .i64 (.ofNat 1),aR [110,111,116],.int .i64 (.ofNat 0),.int .i64 (.ofNat 69),.int .i64 (.ofNat 3),aR [123],.int .i64 (.ofNat 0),.int .i64 (.ofNat 73),.int .i64 (.ofNat 1),aR [97],.int .i64 (.ofNat 0),.int .i64 (.ofNat 75),.int .i64 (.ofNat 3),aR [125],.int .i64 (.ofNat 0),.int .i64 (.ofNat 77),.int .i64 (.ofNat 1),aR [98,101,115,105,100,101],.int .i64 (.ofNat 0),.int .i64 (.ofNat 79),.int .i64 (.ofNat 3),aR [123],.int .i64 (.ofNat 0),.int .i64 (.ofNat 86),.int .i64 (.ofNat 1),aR [98],.int .i64 (.ofNat 0),.int .i64 (.ofNat 88),.int .i64 (.ofNat 3),aR [125],.int .i64 (.ofNat 0),.int .i64 (.ofNat 90),.int .i64 (.ofNat 3),aR [59],.int .i64 (.ofNat 0),.int .i64 (.ofNat 91),.int .i64 (.ofNat 3),aR [125],.int .i64 (.ofNat 0),.int .i64 (.ofNat 93)])]
def apB:(nI De 1000000).call ⟨.func 181,aaO,[],none⟩ ⟨heapT aaN,2027,6⟩ (qZ 2027 6 aaR aaQ aaP)=true:=qk
noncomputable def aaS:aX->IH->aj (ah×IH):=qO aaN 2027 6 aaR aaQ 181 aaO aaP
variable{q:aX}{h h':IH}{v:ah}
def apC(hk:aaS q h=some (v,h')):CALL Tryz.prog q h (λr pm h2=>r=.ok v/\pm=none/\h2=h'):=tH (.ji _ (oK Fg apB) λ_ _ _ h=>ug h) hk
noncomputable def MQ:Nat->aj (aX->IH->aj (ah×IH)):=λf=>cond (Nat.beq f 181) (some (aaS)) (vD f)
variable{f:Nat}{g:aX->IH->aj (ah×IH)}
def apD(hm:MQ f=some g){q:aX}{h:IH}{v:ah}{h':IH}(ht:g q h=some (v,h')):CALL Tryz.prog q h (λr pm h2=>r=.ok v/\pm=none/\h2=h'):=by
 simp only[MQ]at hm;cases h1:Nat.beq f 181 with
 |true=>rw[h1]at hm;cases hm;exact apC ht
 |false=>rw[h1]at hm;exact zG hm ht
noncomputable def aaT:Env:=lX Tryz.prog (xz 231 291) MQ
def apE:qH aaT:=rT _ _ _ (by
 intro f q h v h' hm _ _;cases e:MQ f with
 |none=>rw[e]at hm;cases hm
 |some g=>rw[e]at hm;exact apD e hm)
noncomputable def aaU:ae (Nat×bG):=[(964,.cells [.int .i64 (.ofNat 0),.int .i64 (.ofNat 1)]),
 (970,.cells [.int .i64 (.ofNat 1),.int .i64 (.ofNat 0)]),
 (974,.cells [.slice (some ⟨964,0,some 0⟩) 2 2,.slice (some ⟨970,0,some 0⟩) 2 2]),
 (1022,.cells [.int .i64 (.ofNat 0),.int .i64 (.ofNat 0)]),
 (1023,.cells [.slice (some ⟨974,0,some 1⟩) 2 2,.slice (some ⟨1022,0,some 1⟩) 2 2]),
 (1975,.cells [.int .i64 (.ofNat 0),.int .i64 (.ofNat 1)]),
 (1976,.cells [.slice (some ⟨1975,0,some 0⟩) 2 2]),
 (2022,.cells [.int .i64 (.ofNat 0),.int .i64 (.ofNat 1)]),
 (2023,.cells [.slice (some ⟨1976,0,some 0⟩) 1 1,.slice (some ⟨2022,0,some 1⟩) 2 2]),
 (2024,.cells [.slice none 0 0,.slice none 0 0])]
noncomputable def aaV:ae ah:=[aR [107,105,110,100,32,107,32,118,101,114,115,105,111,110,32,49,32,123,32,103,114,105,100,32,115,113,117,97,114,101,32,50,32,98,121,32,49,59,32,115,121,109,98,111,108,115,32,97,32,61,32,49,44,32,98,32,61,32,50,59,32,114,117,108,101,32,114,58,32,110,111,116,32,123,32,97,32,125,32,98,101,115,105,100,101,32,123,32,98,32,125,59,32,125]]
noncomputable def aaW:ah:=.tuple ⟨[.agg ⟨[aR [107],.int .i64 (.ofNat 1),.int .i64 (.ofNat 1),.int .i64 (.ofNat 2),.int .i64 (.ofNat 1),.slice none 0 0,.slice (some ⟨2228,0,some 2⟩) 2 2,.slice none 0 0,.slice none 0 0,.slice (some ⟨2271,0,some 12⟩) 1 1,.int .i64 (.ofNat 1),.int .i64 (.ofNat 2),.int .i64 (.ofNat 1),.slice none 0 0,.slice (some ⟨2328,0,some 1⟩) 2 2,.slice (some ⟨2347,0,some 0⟩) 2 2,.slice (some ⟨2743,0,some 1⟩) 8 8]⟩,.int .i64 (.ofNat 0),.int .i64 (.ofNat 0)]⟩
def Dh:Nat:=2744
noncomputable def MS:ae (Nat×bG):=[(964,.cells [.int .i64 (.ofNat 0),.int .i64 (.ofNat 1)]),
 (970,.cells [.int .i64 (.ofNat 1),.int .i64 (.ofNat 0)]),
 (974,.cells [.slice (some ⟨964,0,some 0⟩) 2 2,.slice (some ⟨970,0,some 0⟩) 2 2]),
 (1022,.cells [.int .i64 (.ofNat 0),.int .i64 (.ofNat 0)]),
 (1023,.cells [.slice (some ⟨974,0,some 1⟩) 2 2,.slice (some ⟨1022,0,some 1⟩) 2 2]),
 (1975,.cells [.int .i64 (.ofNat 0),.int .i64 (.ofNat 1)]),
 (1976,.cells [.slice (some ⟨1975,0,some 0⟩) 2 2]),
 (2022,.cells [.int .i64 (.ofNat 0),.int .i64 (.ofNat 1)]),
 (2023,.cells [.slice (some ⟨1976,0,some 0⟩) 1 1,.slice (some ⟨2022,0,some 1⟩) 2 2]),
 (2024,.cells [.slice none 0 0,.slice none 0 0]),
 (2228,.cells [aR [97],.int .i64 (.ofNat 1),aR [98],.int .i64 (.ofNat 2)]),
 (2237,.cells [aR [97]]),
 (2241,.cells [aR [98]]),
 (2271,.cells [aR [114],aR [],.int .i64 (.ofNat 8),.int .i64 (.ofNat 0),.slice (some ⟨2237,0,some 0⟩) 1 1,.slice (some ⟨2241,0,some 0⟩) 1 1,.int .i64 (.ofNat 1),.int .i64 (.ofNat 2),.int .i64 (.ofNat 0),.int .i64 (.ofNat 0),aR [],.int .i64 (.negSucc 0)]),
 (2328,.cells [.int .i64 (.ofNat 0),.int .i64 (.ofNat 1)]),
 (2347,.cells [.slice (some ⟨2354,0,some 1⟩) 1 1,.slice (some ⟨2362,0,some 1⟩) 1 1]),
 (2354,.cells [.int .i64 (.ofNat 1)]),
 (2362,.cells [.int .i64 (.ofNat 0)]),
 (2402,.cells [.int .i64 (.ofNat 0)]),
 (2405,.cells [.int .i64 (.ofNat 1)]),
 (2407,.cells [.slice (some ⟨2402,0,some 0⟩) 1 1,.slice (some ⟨2405,0,some 0⟩) 1 1]),
 (2461,.cells [.int .i64 (.ofNat 0),.int .i64 (.ofNat 1)]),
 (2465,.cells [.slice (some ⟨2461,0,some 1⟩) 2 2]),
 (2515,.cells [.int .i64 (.ofNat 0)]),
 (2519,.cells [.int .i64 (.ofNat 1)]),
 (2525,.cells [.slice (some ⟨2515,0,some 1⟩) 1 1,.slice (some ⟨2519,0,some 1⟩) 1 1]),
 (2587,.cells [.slice (some ⟨2594,0,some 1⟩) 1 1,.slice (some ⟨2602,0,some 1⟩) 1 1]),
 (2594,.cells [.int .i64 (.ofNat 1)]),
 (2602,.cells [.int .i64 (.ofNat 0)]),
 (2647,.cells [.int .i64 (.ofNat 0),.int .i64 (.ofNat 1)]),
 (2653,.cells [.int .i64 (.ofNat 0),.int .i64 (.ofNat 1)]),
 (2655,.cells [.slice (some ⟨2647,0,some 1⟩) 2 2,.slice (some ⟨2653,0,some 1⟩) 2 2]),
 (2695,.cells [.int .i64 (.ofNat 0),.int .i64 (.ofNat 1)]),
 (2697,.cells [.slice (some ⟨2695,0,some 0⟩) 2 2]),
 (2740,.cells [.int .i64 (.ofNat 0),.int .i64 (.ofNat 1)]),
 (2741,.cells [.slice (some ⟨2740,0,some 1⟩) 2 2]),
 (2743,.cells [.slice (some ⟨2407,0,some 1⟩) 2 2,.slice (some ⟨2465,0,some 1⟩) 1 1,.slice (some ⟨2525,0,some 1⟩) 2 2,.slice none 0 0,.slice (some ⟨2587,0,some 0⟩) 2 2,.slice (some ⟨2655,0,some 1⟩) 2 2,.slice (some ⟨2697,0,some 1⟩) 1 1,.slice (some ⟨2741,0,some 0⟩) 1 1])]
def apF:(nI aaT 1000000).call ⟨.func 59,aaV,[],none⟩ ⟨heapT aaU,2025,6⟩ (qZ 2025 6 MS Dh aaW)=true:=qk
noncomputable def aaX:aX->IH->aj (ah×IH):=qO aaU 2025 6 MS Dh 59 aaV aaW
def apG(hk:aaX q h=some (v,h')):CALL Tryz.prog q h (λr pm h2=>r=.ok v/\pm=none/\h2=h'):=tH (.ji _ (oK apE apF) λ_ _ _ h=>ug h) hk
noncomputable def MU:ah:=.agg ⟨[aR [107],.int .i64 (.ofNat 1),.int .i64 (.ofNat 1),.int .i64 (.ofNat 2),.int .i64 (.ofNat 1),.slice none 0 0,.slice (some ⟨2228,0,some 2⟩) 2 2,.slice none 0 0,.slice none 0 0,.slice (some ⟨2271,0,some 12⟩) 1 1,.int .i64 (.ofNat 1),.int .i64 (.ofNat 2),.int .i64 (.ofNat 1),.slice none 0 0,.slice (some ⟨2328,0,some 1⟩) 2 2,.slice (some ⟨2347,0,some 0⟩) 2 2,.slice (some ⟨2743,0,some 1⟩) 8 8]⟩
def apH:(nI De 1000000).call ⟨.func 32,[MU],[],none⟩ ⟨heapT MS,Dh,Dh⟩ (gives (.int .i64 (.ofNat 0)) Dh)=true:=qk
noncomputable def aaY:aX->IH->aj (ah×IH):=known MS Dh 32 [MU] (.int .i64 (.ofNat 0))
def apI(hm:aaY q h=some (v,h')):CALL Tryz.prog q h (λr pm h2=>r=.ok v/\pm=none/\h2=h'):=
 OI qk qk qk (by show Tryz.prog.globals.size<=Dh;rw[globals];decide) (.ji _ (oK Fg apH) λ_ _ _ hg=>JB hg) hm
noncomputable def MV:Nat->aj (aX->IH->aj (ah×IH)):=λf=>cond (Nat.beq f 32) (some (aaY)) (vD f)
def apJ(hm:MV f=some g){q:aX}{h:IH}{v:ah}{h':IH}(ht:g q h=some (v,h')):CALL Tryz.prog q h (λr pm h2=>r=.ok v/\pm=none/\h2=h'):=by
 simp only[MV]at hm;cases h1:Nat.beq f 32 with
 |true=>rw[h1]at hm;cases hm;exact apI ht
 |false=>rw[h1]at hm;exact zG hm ht
noncomputable def aaZ:Env:=lX Tryz.prog (xz 231 291) MV
def apK:qH aaZ:=rT _ _ _ (by
 intro f q h v h' hm _ _;cases e:MV f with
 |none=>rw[e]at hm;cases hm
 |some g=>rw[e]at hm;exact apJ e hm)
