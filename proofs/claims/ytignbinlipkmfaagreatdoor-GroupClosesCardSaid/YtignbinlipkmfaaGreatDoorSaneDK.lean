/- Part. -/
import Derived.Test.YtignbinlipkmfaaGreatDoorSaneAK
set_option linter.all false
namespace Go.Proofs.YtignbinlipkmfaaGreatDoor
open Go.Ideal
noncomputable def Zq:ae (Nat×bO):=[(964,.cells [.int .i64 (.ofNat 0),.int .i64 (.ofNat 1)]),
 (970,.cells [.int .i64 (.ofNat 1),.int .i64 (.ofNat 0)]),
 (974,.cells [.slice (some ⟨964,0,some 0⟩) 2 2,.slice (some ⟨970,0,some 0⟩) 2 2]),
 (1022,.cells [.int .i64 (.ofNat 0),.int .i64 (.ofNat 0)]),
 (1023,.cells [.slice (some ⟨974,0,some 1⟩) 2 2,.slice (some ⟨1022,0,some 1⟩) 2 2]),
 (1975,.cells [.int .i64 (.ofNat 0),.int .i64 (.ofNat 1)]),
 (1976,.cells [.slice (some ⟨1975,0,some 0⟩) 2 2]),
 (2022,.cells [.int .i64 (.ofNat 0),.int .i64 (.ofNat 1)]),
 (2023,.cells [.slice (some ⟨1976,0,some 0⟩) 1 1,.slice (some ⟨2022,0,some 1⟩) 2 2]),
 (2024,.cells [.slice none 0 0,.slice none 0 0]),
 (2025,.cells [aW [],.int .i64 (.ofNat 0),.int .i64 (.ofNat 0),.int .i64 (.ofNat 0),.int .i64 (.ofNat 0),.slice none 0 0,.slice none 0 0,.slice none 0 0,.slice none 0 0,.slice none 0 0,.int .i64 (.ofNat 0),.int .i64 (.ofNat 0),.int .i64 (.ofNat 0),.slice none 0 0,.slice none 0 0,.slice none 0 0,.slice none 0 0]),
 (2026,.cells [aW [],.int .i64 (.ofNat 0),.int .i64 (.ofNat 0),.int .i64 (.ofNat 0),.int .i64 (.ofNat 0),.slice none 0 0,.slice none 0 0,.slice none 0 0,.slice none 0 0,.slice none 0 0])]
noncomputable def Zr:ae ah:=[aW [107,105,110,100,32,107,32,118,101,114,115,105,111,110,32,49,32,123,32,103,114,105,100,32,115,113,117,97,114,101,32,50,32,98,121,32,49,59,32,115,121,109,98,111,108,115,32,97,32,61,32,49,44,32,98,32,61,32,50,59,32,114,117,108,101,32,114,58,32,110,111,116,32,123,32,97,32,125,32,98,101,115,105,100,101,32,123,32,98,32,125,59,32,125]]
noncomputable def Zt:ah:=.tuple ⟨[.slice (some ⟨2210,0,some 4⟩) 33 33,.int .i64 (.ofNat 0),.int .i64 (.ofNat 0)]⟩
def Zu:Nat:=2211
noncomputable def Zv:ae (Nat×bO):=[(964,.cells [.int .i64 (.ofNat 0),.int .i64 (.ofNat 1)]),
 (970,.cells [.int .i64 (.ofNat 1),.int .i64 (.ofNat 0)]),
 (974,.cells [.slice (some ⟨964,0,some 0⟩) 2 2,.slice (some ⟨970,0,some 0⟩) 2 2]),
 (1022,.cells [.int .i64 (.ofNat 0),.int .i64 (.ofNat 0)]),
 (1023,.cells [.slice (some ⟨974,0,some 1⟩) 2 2,.slice (some ⟨1022,0,some 1⟩) 2 2]),
 (1975,.cells [.int .i64 (.ofNat 0),.int .i64 (.ofNat 1)]),
 (1976,.cells [.slice (some ⟨1975,0,some 0⟩) 2 2]),
 (2022,.cells [.int .i64 (.ofNat 0),.int .i64 (.ofNat 1)]),
 (2023,.cells [.slice (some ⟨1976,0,some 0⟩) 1 1,.slice (some ⟨2022,0,some 1⟩) 2 2]),
 (2024,.cells [.slice none 0 0,.slice none 0 0]),
 (2025,.cells [aW [],.int .i64 (.ofNat 0),.int .i64 (.ofNat 0),.int .i64 (.ofNat 0),.int .i64 (.ofNat 0),.slice none 0 0,.slice none 0 0,.slice none 0 0,.slice none 0 0,.slice none 0 0,.int .i64 (.ofNat 0),.int .i64 (.ofNat 0),.int .i64 (.ofNat 0),.slice none 0 0,.slice none 0 0,.slice none 0 0,.slice none 0 0]),
 (2026,.cells [aW [],.int .i64 (.ofNat 0),.int .i64 (.ofNat 0),.int .i64 (.ofNat 0),.int .i64 (.ofNat 0),.slice none 0 0,.slice none 0 0,.slice none 0 0,.slice none 0 0,.slice none 0 0]),
 (2210,.cells [.int .i64 (.ofNat 1),aW [107,105,110,100],.int .i64 (.ofNat 0),.int .i64 (.ofNat 0),.int .i64 (.ofNat 1),aW [107],.int .i64 (.ofNat 0),.int .i64 (.ofNat 5),.int .i64 (.ofNat 1),aW [118,101,114,115,105,111,110],.int .i64 (.ofNat 0),.int .i64 (.ofNat 7),.int .i64 (.ofNat 2),aW [],.int .i64 (.ofNat 1),.int .i64 (.ofNat 15),.int .i64 (.ofNat 3),aW [123],.int .i64 (.ofNat 0),.int .i64 (.ofNat 17),.int .i64 (.ofNat 1),aW [103,114,105,100],.int .i64 (.ofNat 0),.int .i64 (.ofNat 19),.int .i64 (.ofNat 1),aW [115,113,117,97,114,101],.int .i64 (.ofNat 0),.int .i64 (.ofNat 24),.int .i64 (.ofNat 2),aW [],.int .i64 (.ofNat 2),.int .i64 (.ofNat 31),.int .i64 (.ofNat 1),aW [98,121],.int .i64 (.ofNat 0),.int .i64 (.ofNat 33),.int .i64 (.ofNat 2),aW [],.int .i64 (.ofNat 1),.int .i64 (.ofNat 36),.int .i64 (.ofNat 3),aW [59],.int .i64 (.ofNat 0),.int .i64 (.ofNat 37),.int .i64 (.ofNat 1),aW [115,121,109,98,111,108,115],.int .i64 (.ofNat 0),.int .i64 (.ofNat 39),.int .i64 (.ofNat 1),aW [97],.int .i64 (.ofNat 0),.int .i64 (.ofNat 47),.int .i64 (.ofNat 3),aW [61],.int .i64 (.ofNat 0),.int .i64 (.ofNat 49),.int .i64 (.ofNat 2),aW [],.int .i64 (.ofNat 1),.int .i64 (.ofNat 51),.int .i64 (.ofNat 3),aW [44],.int .i64 (.ofNat 0),.int .i64 (.ofNat 52),.int .i64 (.ofNat 1),aW [98],.int .i64 (.ofNat 0),.int .i64 (.ofNat 54),.int .i64 (.ofNat 3),aW [61],.int .i64 (.ofNat 0),.int .i64 (.ofNat 56),.int .i64 (.ofNat 2),aW [],.int .i64 (.ofNat 2),.int .i64 (.ofNat 58),.int .i64 (.ofNat 3),aW [59],.int .i64 (.ofNat 0),.int .i64 (.ofNat 59),.int .i64 (.ofNat 1),aW [114,117,108,101],.int .i64 (.ofNat 0),.int .i64 (.ofNat 61),.int .i64 (.ofNat 1),aW [114],.int .i64 (.ofNat 0),.int .i64 (.ofNat 66),.int .i64 (.ofNat 3),aW [58],.int .i64 (.ofNat 0),.int .i64 (.ofNat 67),.int .i64 (.ofNat 1),aW [110,111,116],.int .i64 (.ofNat 0),.int .i64 (.ofNat 69),.int .i64 (.ofNat 3),aW [123],.int .i64 (.ofNat 0),.int .i64 (.ofNat 73),.int .i64 (.ofNat 1),aW [97],.int .i64 (.ofNat 0),.int .i64 (.ofNat 75),.int .i64 (.ofNat 3),aW [125],.int .i64 (.ofNat 0),.int .i64 (.ofNat 77),.int .i64 (.ofNat 1),aW [98,101,115,105,100,101],.int .i64 (.ofNat 0),.int .i64 (.ofNat 79),.int .i64 (.ofNat 3),aW [123],.int .i64 (.ofNat 0),.int .i64 (.ofNat 86),.int .i64 (.ofNat 1),aW [98],.int .i64 (.ofNat 0),.int .i64 (.ofNat 88),.int .i64 (.ofNat 3),aW [125],.int .i64 (.ofNat 0),.int .i64 (.ofNat 90),.int .i64 (.ofNat 3),aW [59],.int .i64 (.ofNat 0),.int .i64 (.ofNat 91),.int .i64 (.ofNat 3),aW [125],.int .i64 (.ofNat 0),.int .i64 (.ofNat 93)])]
def amW:(nL Cv 1000000).call ⟨.func 181,Zr,[],none⟩ ⟨heapT Zq,2027,6⟩ (qX 2027 6 Zv Zu Zt)=true:=tv
noncomputable def Zw:bA->IH->ak (ah×IH):=qK Zq 2027 6 Zv Zu 181 Zr Zt
variable{q:bA}{h h':IH}{v:ah}
def amX(hk:Zw q h=some (v,h')):CALL Tryz.prog q h (λr pm h2=>r=.ok v/\pm=none/\h2=h'):=tL (.kv _ (oW Ex amW) λ_ _ _ h=>ul h) hk
noncomputable def L8:Nat->ak (bA->IH->ak (ah×IH)):=λf=>cond (Nat.beq f 181) (some (Zw)) (vB f)
variable{f:Nat}{g:bA->IH->ak (ah×IH)}
def amY(hm:L8 f=some g){q:bA}{h:IH}{v:ah}{h':IH}(ht:g q h=some (v,h')):CALL Tryz.prog q h (λr pm h2=>r=.ok v/\pm=none/\h2=h'):=by
 simp only[L8]at hm;cases h1:Nat.beq f 181 with
 |true=>rw[h1]at hm;cases hm;exact amX ht
 |false=>rw[h1]at hm;exact zo hm ht
noncomputable def Zx:Env:=mg Tryz.prog (xB 231 291) L8
def amZ:qG Zx:=rP _ _ _ (by
 intro f q h v h' hm _ _;cases e:L8 f with
 |none=>rw[e]at hm;cases hm
 |some g=>rw[e]at hm;exact amY e hm)
noncomputable def Zy:ae (Nat×bO):=[(964,.cells [.int .i64 (.ofNat 0),.int .i64 (.ofNat 1)]),
 (970,.cells [.int .i64 (.ofNat 1),.int .i64 (.ofNat 0)]),
 (974,.cells [.slice (some ⟨964,0,some 0⟩) 2 2,.slice (some ⟨970,0,some 0⟩) 2 2]),
 (1022,.cells [.int .i64 (.ofNat 0),.int .i64 (.ofNat 0)]),
 (1023,.cells [.slice (some ⟨974,0,some 1⟩) 2 2,.slice (some ⟨1022,0,some 1⟩) 2 2]),
 (1975,.cells [.int .i64 (.ofNat 0),.int .i64 (.ofNat 1)]),
 (1976,.cells [.slice (some ⟨1975,0,some 0⟩) 2 2]),
 (2022,.cells [.int .i64 (.ofNat 0),.int .i64 (.ofNat 1)]),
 (2023,.cells [.slice (some ⟨1976,0,some 0⟩) 1 1,.slice (some ⟨2022,0,some 1⟩) 2 2]),
 (2024,.cells [.slice none 0 0,.slice none 0 0])]
noncomputable def Zz:ae ah:=[aW [107,105,110,100,32,107,32,118,101,114,115,105,111,110,32,49,32,123,32,103,114,105,100,32,115,113,117,97,114,101,32,50,32,98,121,32,49,59,32,115,121,109,98,111,108,115,32,97,32,61,32,49,44,32,98,32,61,32,50,59,32,114,117,108,101,32,114,58,32,110,111,116,32,123,32,97,32,125,32,98,101,115,105,100,101,32,123,32,98,32,125,59,32,125]]
noncomputable def ZA:ah:=.tuple ⟨[.agg ⟨[aW [107],.int .i64 (.ofNat 1),.int .i64 (.ofNat 1),.int .i64 (.ofNat 2),.int .i64 (.ofNat 1),.slice none 0 0,.slice (some ⟨2228,0,some 2⟩) 2 2,.slice none 0 0,.slice none 0 0,.slice (some ⟨2271,0,some 12⟩) 1 1,.int .i64 (.ofNat 1),.int .i64 (.ofNat 2),.int .i64 (.ofNat 1),.slice none 0 0,.slice (some ⟨2328,0,some 1⟩) 2 2,.slice (some ⟨2347,0,some 0⟩) 2 2,.slice (some ⟨2743,0,some 1⟩) 8 8]⟩,.int .i64 (.ofNat 0),.int .i64 (.ofNat 0)]⟩
def Cy:Nat:=2744
noncomputable def L9:ae (Nat×bO):=[(964,.cells [.int .i64 (.ofNat 0),.int .i64 (.ofNat 1)]),
 (970,.cells [.int .i64 (.ofNat 1),.int .i64 (.ofNat 0)]),
 (974,.cells [.slice (some ⟨964,0,some 0⟩) 2 2,.slice (some ⟨970,0,some 0⟩) 2 2]),
 (1022,.cells [.int .i64 (.ofNat 0),.int .i64 (.ofNat 0)]),
 (1023,.cells [.slice (some ⟨974,0,some 1⟩) 2 2,.slice (some ⟨1022,0,some 1⟩) 2 2]),
 (1975,.cells [.int .i64 (.ofNat 0),.int .i64 (.ofNat 1)]),
 (1976,.cells [.slice (some ⟨1975,0,some 0⟩) 2 2]),
 (2022,.cells [.int .i64 (.ofNat 0),.int .i64 (.ofNat 1)]),
 (2023,.cells [.slice (some ⟨1976,0,some 0⟩) 1 1,.slice (some ⟨2022,0,some 1⟩) 2 2]),
 (2024,.cells [.slice none 0 0,.slice none 0 0]),
 (2228,.cells [aW [97],.int .i64 (.ofNat 1),aW [98],.int .i64 (.ofNat 2)]),
 (2237,.cells [aW [97]]),
 (2241,.cells [aW [98]]),
 (2271,.cells [aW [114],aW [],.int .i64 (.ofNat 8),.int .i64 (.ofNat 0),.slice (some ⟨2237,0,some 0⟩) 1 1,.slice (some ⟨2241,0,some 0⟩) 1 1,.int .i64 (.ofNat 1),.int .i64 (.ofNat 2),.int .i64 (.ofNat 0),.int .i64 (.ofNat 0),aW [],.int .i64 (.negSucc 0)]),
 (2328,.cells [.int .i64 (.ofNat 0),.int .i64 (.ofNat 1)]),
 (2347,.cells [.slice (some ⟨2354,0,some 1⟩) 1 1,.slice (some ⟨2362,0,some 1⟩) 1 1]),
 (2354,.cells [.int .i64 (.ofNat 1)]),
 (2362,.cells [.int .i64 (.ofNat 0)]),
 (2402,.cells [.int .i64 (.ofNat 0)]),
 (2405,.cells [.int .i64 (.ofNat 1)]),
 (2407,.cells [.slice (some ⟨2402,0,some 0⟩) 1 1,.slice (some ⟨2405,0,some 0⟩) 1 1]),
 (2461,.cells [.int .i64 (.ofNat 0),.int .i64 (.ofNat 1)]),
 (2465,.cells [.slice (some ⟨2461,0,some 1⟩) 2 2]),
 (2515,.cells [.int .i64 (.ofNat 0)]),
 (2519,.cells [.int .i64 (.ofNat 1)]),
 (2525,.cells [.slice (some ⟨2515,0,some 1⟩) 1 1,.slice (some ⟨2519,0,some 1⟩) 1 1]),
 (2587,.cells [.slice (some ⟨2594,0,some 1⟩) 1 1,.slice (some ⟨2602,0,some 1⟩) 1 1]),
 (2594,.cells [.int .i64 (.ofNat 1)]),
 (2602,.cells [.int .i64 (.ofNat 0)]),
 (2647,.cells [.int .i64 (.ofNat 0),.int .i64 (.ofNat 1)]),
 (2653,.cells [.int .i64 (.ofNat 0),.int .i64 (.ofNat 1)]),
 (2655,.cells [.slice (some ⟨2647,0,some 1⟩) 2 2,.slice (some ⟨2653,0,some 1⟩) 2 2]),
 (2695,.cells [.int .i64 (.ofNat 0),.int .i64 (.ofNat 1)]),
 (2697,.cells [.slice (some ⟨2695,0,some 0⟩) 2 2]),
 (2740,.cells [.int .i64 (.ofNat 0),.int .i64 (.ofNat 1)]),
 (2741,.cells [.slice (some ⟨2740,0,some 1⟩) 2 2]),
 (2743,.cells [.slice (some ⟨2407,0,some 1⟩) 2 2,.slice (some ⟨2465,0,some 1⟩) 1 1,.slice (some ⟨2525,0,some 1⟩) 2 2,.slice none 0 0,.slice (some ⟨2587,0,some 0⟩) 2 2,.slice (some ⟨2655,0,some 1⟩) 2 2,.slice (some ⟨2697,0,some 1⟩) 1 1,.slice (some ⟨2741,0,some 0⟩) 1 1])]
def am0:(nL Zx 1000000).call ⟨.func 59,Zz,[],none⟩ ⟨heapT Zy,2025,6⟩ (qX 2025 6 L9 Cy ZA)=true:=tv
noncomputable def ZB:bA->IH->ak (ah×IH):=qK Zy 2025 6 L9 Cy 59 Zz ZA
def am1(hk:ZB q h=some (v,h')):CALL Tryz.prog q h (λr pm h2=>r=.ok v/\pm=none/\h2=h'):=tL (.kv _ (oW amZ am0) λ_ _ _ h=>ul h) hk
noncomputable def Ma:ah:=.agg ⟨[aW [107],.int .i64 (.ofNat 1),.int .i64 (.ofNat 1),.int .i64 (.ofNat 2),.int .i64 (.ofNat 1),.slice none 0 0,.slice (some ⟨2228,0,some 2⟩) 2 2,.slice none 0 0,.slice none 0 0,.slice (some ⟨2271,0,some 12⟩) 1 1,.int .i64 (.ofNat 1),.int .i64 (.ofNat 2),.int .i64 (.ofNat 1),.slice none 0 0,.slice (some ⟨2328,0,some 1⟩) 2 2,.slice (some ⟨2347,0,some 0⟩) 2 2,.slice (some ⟨2743,0,some 1⟩) 8 8]⟩
def am2:(nL Cv 1000000).call ⟨.func 32,[Ma],[],none⟩ ⟨heapT L9,Cy,Cy⟩ (gives (.int .i64 (.ofNat 0)) Cy)=true:=tv
noncomputable def ZC:bA->IH->ak (ah×IH):=known L9 Cy 32 [Ma] (.int .i64 (.ofNat 0))
def am3(hm:ZC q h=some (v,h')):CALL Tryz.prog q h (λr pm h2=>r=.ok v/\pm=none/\h2=h'):=
 Oa tv tv tv (by show Tryz.prog.globals.size<=Cy;rw[globals];decide) (.kv _ (oW Ex am2) λ_ _ _ hg=>I4 hg) hm
noncomputable def Mc:Nat->ak (bA->IH->ak (ah×IH)):=λf=>cond (Nat.beq f 32) (some (ZC)) (vB f)
def am4(hm:Mc f=some g){q:bA}{h:IH}{v:ah}{h':IH}(ht:g q h=some (v,h')):CALL Tryz.prog q h (λr pm h2=>r=.ok v/\pm=none/\h2=h'):=by
 simp only[Mc]at hm;cases h1:Nat.beq f 32 with
 |true=>rw[h1]at hm;cases hm;exact am3 ht
 |false=>rw[h1]at hm;exact zo hm ht
noncomputable def ZE:Env:=mg Tryz.prog (xB 231 291) Mc
def am5:qG ZE:=rP _ _ _ (by
 intro f q h v h' hm _ _;cases e:Mc f with
 |none=>rw[e]at hm;cases hm
 |some g=>rw[e]at hm;exact am4 e hm)
