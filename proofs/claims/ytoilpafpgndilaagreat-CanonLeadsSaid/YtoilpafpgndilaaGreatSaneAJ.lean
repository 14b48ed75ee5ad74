/- Part. -/
import Derived.Test.YtoilpafpgndilaaGreatChecked
import Derived.Test.YtoilpafpgndilaaGreatIdealKJ
set_option linter.all false
namespace Go.Proofs.YtoilpafpgndilaaGreat
open Go.Ideal
def Bn(l:ae Nat):ah:=.string ⟨⟨l.map UInt8.ofNat⟩⟩
noncomputable def NT:ah:=.agg ⟨[Bn [107],.int .i64 (.ofNat 1),.int .i64 (.ofNat 1),.int .i64 (.ofNat 3),.int .i64 (.ofNat 1),.slice none 0 0,.slice (some ⟨209,0,some 2⟩) 3 3,.slice none 0 0,.slice (some ⟨341,0,some 6⟩) 1 1,.slice (some ⟨353,0,some 12⟩) 1 1,.int .i64 (.ofNat 1),.int .i64 (.ofNat 3),.int .i64 (.ofNat 1),.slice none 0 0,.slice (some ⟨418,0,some 1⟩) 3 3,.slice (some ⟨488,0,some 1⟩) 3 3,.slice (some ⟨1767,0,some 1⟩) 8 8]⟩
def EL:Nat:=1770
noncomputable def NU:ae (Nat×dL):=[
 (209,.cells [Bn [97],.int .i64 (.ofNat 1),Bn [98],.int .i64 (.ofNat 2),Bn [99],.int .i64 (.ofNat 3)]),
 (341,.cells [Bn [99],Bn [99,101,108,108,115],.int .i64 (.ofNat 0),.int .i64 (.ofNat 1),.int .i64 (.ofNat 0),.int .i64 (.ofNat 0)]),
 (353,.cells [Bn [114],Bn [],.int .i64 (.ofNat 11),.int .i64 (.ofNat 0),.slice none 0 0,.slice none 0 0,.int .i64 (.ofNat 0),.int .i64 (.ofNat 0),.int .i64 (.ofNat 0),.int .i64 (.ofNat 0),Bn [99],.int .i64 (.ofNat 0)]),
 (418,.cells [.int .i64 (.ofNat 0),.int .i64 (.ofNat 1),.int .i64 (.ofNat 2)]),
 (441,.cells [.int .i64 (.ofNat 1)]),
 (467,.cells [.int .i64 (.ofNat 0),.int .i64 (.ofNat 2)]),
 (481,.cells [.int .i64 (.ofNat 1)]),
 (488,.cells [.slice (some ⟨441,0,some 1⟩) 1 1,.slice (some ⟨467,0,some 1⟩) 2 2,.slice (some ⟨481,0,some 1⟩) 1 1]),
 (562,.cells [.int .i64 (.ofNat 0)]),
 (567,.cells [.int .i64 (.ofNat 1)]),
 (572,.cells [.int .i64 (.ofNat 2)]),
 (574,.cells [.slice (some ⟨562,0,some 0⟩) 1 1,.slice (some ⟨567,0,some 0⟩) 1 1,.slice (some ⟨572,0,some 0⟩) 1 1]),
 (762,.cells [.int .i64 (.ofNat 0),.int .i64 (.ofNat 1),.int .i64 (.ofNat 2)]),
 (764,.cells [.slice (some ⟨762,0,some 1⟩) 3 3]),
 (1136,.cells [.int .i64 (.ofNat 0)]),
 (1148,.cells [.int .i64 (.ofNat 1)]),
 (1160,.cells [.int .i64 (.ofNat 2)]),
 (1162,.cells [.slice (some ⟨1136,0,some 1⟩) 1 1,.slice (some ⟨1148,0,some 1⟩) 1 1,.slice (some ⟨1160,0,some 1⟩) 1 1]),
 (1448,.cells [.int .i64 (.ofNat 1)]),
 (1474,.cells [.int .i64 (.ofNat 0),.int .i64 (.ofNat 2)]),
 (1488,.cells [.int .i64 (.ofNat 1)]),
 (1495,.cells [.slice (some ⟨1448,0,some 1⟩) 1 1,.slice (some ⟨1474,0,some 1⟩) 2 2,.slice (some ⟨1488,0,some 1⟩) 1 1]),
 (1580,.cells [.int .i64 (.ofNat 0),.int .i64 (.ofNat 1)]),
 (1590,.cells [.int .i64 (.ofNat 0),.int .i64 (.ofNat 1),.int .i64 (.ofNat 2)]),
 (1598,.cells [.int .i64 (.ofNat 1),.int .i64 (.ofNat 2)]),
 (1600,.cells [.slice (some ⟨1580,0,some 1⟩) 2 2,.slice (some ⟨1590,0,some 1⟩) 3 3,.slice (some ⟨1598,0,some 1⟩) 2 2]),
 (1676,.cells [.int .i64 (.ofNat 0),.int .i64 (.ofNat 1)]),
 (1681,.cells [.int .i64 (.ofNat 1),.int .i64 (.ofNat 2)]),
 (1683,.cells [.slice (some ⟨1676,0,some 0⟩) 2 2,.slice (some ⟨1681,0,some 0⟩) 2 2]),
 (1764,.cells [.int .i64 (.ofNat 0),.int .i64 (.ofNat 1),.int .i64 (.ofNat 2)]),
 (1765,.cells [.slice (some ⟨1764,0,some 1⟩) 3 3]),
 (1767,.cells [.slice (some ⟨574,0,some 1⟩) 3 3,.slice (some ⟨764,0,some 1⟩) 1 1,.slice (some ⟨1162,0,some 1⟩) 3 3,.slice none 0 0,.slice (some ⟨1495,0,some 1⟩) 3 3,.slice (some ⟨1600,0,some 1⟩) 3 3,.slice (some ⟨1683,0,some 1⟩) 2 2,.slice (some ⟨1765,0,some 0⟩) 1 1])]
def follows:Tryz.prog.follows .mixedOrders=true:=s8
def globals:Tryz.prog.globals.size=0:=s8
noncomputable def Ti:Env:=sI Tryz.prog (XV 94 372) sJ
def aaL:Ef Ti:=F3 _ _ _ (λf q h v h' hm=>by cases hm)
def ak5:(FB Ti 1000000).call ⟨.func 30,[.bool false],[],none⟩ ⟨.leaf,0,0⟩ (leaves NU EL NT)=true:=s8
def ak6:(FB Ti 1000000).call ⟨.func 74,[NT],[],none⟩ ⟨heapT NU,EL,EL⟩ (gives (.int .i64 (.ofNat 0)) EL)=true:=s8
noncomputable def aaM:Nat->ak (iI->IH->ak (ah×IH)):=λf=>
 cond (Nat.beq f 30) (some (Rn NU EL 30 [.bool false] NT)) (cond (Nat.beq f 74) (some (known NU EL 74 [NT] (.int .i64 (.ofNat 0)))) none)
noncomputable def aaN:Env:=sI Tryz.prog (XV 94 372) aaM
def ak7:Ef aaN:=F3 _ _ _ (by
 intro f q h v h' hm hpm ht;simp only[aaM]at hm;cases h1:Nat.beq f 30 with
 |true=>
  rw[h1]at hm;exact aie (LG aaL ak5) hm
 |false=>
  rw[h1]at hm;cases h2:Nat.beq f 74 with
  |true=>
   rw[h2]at hm;exact ag0 s8 s8 s8 (by show Tryz.prog.globals.size<=EL;rw[globals];exact bM _) (.uy _ (LG aaL ak6) λ_ _ _ hg=>XX hg) hm
  |false=>rw[h2]at hm;cases hm)
def ak8:(FB aaN 1000000).call ⟨.func 10,[],[],none⟩ ⟨.leaf,0,0⟩ (gives (.bool true) 0)=true:=s8
def ak9:CALL Tryz.prog ⟨.func 10,[],[],none⟩ ⟨.leaf,0,0⟩ (λr pm h=>pm=none/\r=.ok (.bool true)/\h.low=0):=
 .uy _ (LG ak7 ak8) λ_ _ _ hg=>XX hg
def ala(h:IH):CALL Tryz.prog ⟨.func 10,[],[],none⟩ h (λr pm h'=>pm=none/\r=.ok (.bool true)/\h'=h):=
 .memo ⟨.leaf,0,0⟩ (.bool true) rfl rfl rfl (bM _) (by rw[globals];exact bM _) (by intro i o ho;cases ho) _ ak9 (λr pm h' q=>q) ⟨rfl,rfl,rfl⟩
def Tj:dZ Tryz.prog 10 [] [] (.bool true):=aif ala
