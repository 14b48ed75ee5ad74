/- Part. -/
import Derived.Test.YtoilpafpgndilaaGreatChecked
import Derived.Test.YtoilpafpgndilaaGreatIdealKF
set_option linter.all false
namespace Go.Proofs.YtoilpafpgndilaaGreat
open Go.Ideal
def xY(l:kI Nat):vI:=.string ⟨⟨l.map UInt8.ofNat⟩⟩
noncomputable def JF:vI:=.agg ⟨[xY [107],.int .i64 (.ofNat 1),.int .i64 (.ofNat 1),.int .i64 (.ofNat 3),.int .i64 (.ofNat 1),.slice none 0 0,.slice (some ⟨209,0,some 2⟩) 3 3,.slice none 0 0,.slice (some ⟨341,0,some 6⟩) 1 1,.slice (some ⟨353,0,some 12⟩) 1 1,.int .i64 (.ofNat 1),.int .i64 (.ofNat 3),.int .i64 (.ofNat 1),.slice none 0 0,.slice (some ⟨418,0,some 1⟩) 3 3,.slice (some ⟨488,0,some 1⟩) 3 3,.slice (some ⟨1767,0,some 1⟩) 8 8]⟩
def Be:Nat:=1770
noncomputable def JG:kI (Nat×dN):=[
 (209,.cells [xY [97],.int .i64 (.ofNat 1),xY [98],.int .i64 (.ofNat 2),xY [99],.int .i64 (.ofNat 3)]),
 (341,.cells [xY [99],xY [99,101,108,108,115],.int .i64 (.ofNat 0),.int .i64 (.ofNat 1),.int .i64 (.ofNat 0),.int .i64 (.ofNat 0)]),
 (353,.cells [xY [114],xY [],.int .i64 (.ofNat 11),.int .i64 (.ofNat 0),.slice none 0 0,.slice none 0 0,.int .i64 (.ofNat 0),.int .i64 (.ofNat 0),.int .i64 (.ofNat 0),.int .i64 (.ofNat 0),xY [99],.int .i64 (.ofNat 0)]),
 (418,.cells [.int .i64 (.ofNat 0),.int .i64 (.ofNat 1),.int .i64 (.ofNat 2)]),
 (441,.cells [.int .i64 (.ofNat 1)]),
 (467,.cells [.int .i64 (.ofNat 0),.int .i64 (.ofNat 2)]),
 (481,.cells [.int .i64 (.ofNat 1)]),
 (488,.cells [.slice (some ⟨441,0,some 1⟩) 1 1,.slice (some ⟨467,0,some 1⟩) 2 2,.slice (some ⟨481,0,some 1⟩) 1 1]),
 (562,.cells [.int .i64 (.ofNat 0)]),
 (567,.cells [.int .i64 (.ofNat 1)]),
 (572,.cells [.int .i64 (.ofNat 2)]),
 (574,.cells [.slice (some ⟨562,0,some 0⟩) 1 1,.slice (some ⟨567,0,some 0⟩) 1 1,.slice (some ⟨572,0,some 0⟩) 1 1]),
 (762,.cells [.int .i64 (.ofNat 0),.int .i64 (.ofNat 1),.int .i64 (.ofNat 2)]),
 (764,.cells [.slice (some ⟨762,0,some 1⟩) 3 3]),
 (1136,.cells [.int .i64 (.ofNat 0)]),
 (1148,.cells [.int .i64 (.ofNat 1)]),
 (1160,.cells [.int .i64 (.ofNat 2)]),
 (1162,.cells [.slice (some ⟨1136,0,some 1⟩) 1 1,.slice (some ⟨1148,0,some 1⟩) 1 1,.slice (some ⟨1160,0,some 1⟩) 1 1]),
 (1448,.cells [.int .i64 (.ofNat 1)]),
 (1474,.cells [.int .i64 (.ofNat 0),.int .i64 (.ofNat 2)]),
 (1488,.cells [.int .i64 (.ofNat 1)]),
 (1495,.cells [.slice (some ⟨1448,0,some 1⟩) 1 1,.slice (some ⟨1474,0,some 1⟩) 2 2,.slice (some ⟨1488,0,some 1⟩) 1 1]),
 (1580,.cells [.int .i64 (.ofNat 0),.int .i64 (.ofNat 1)]),
 (1590,.cells [.int .i64 (.ofNat 0),.int .i64 (.ofNat 1),.int .i64 (.ofNat 2)]),
 (1598,.cells [.int .i64 (.ofNat 1),.int .i64 (.ofNat 2)]),
 (1600,.cells [.slice (some ⟨1580,0,some 1⟩) 2 2,.slice (some ⟨1590,0,some 1⟩) 3 3,.slice (some ⟨1598,0,some 1⟩) 2 2]),
 (1676,.cells [.int .i64 (.ofNat 0),.int .i64 (.ofNat 1)]),
 (1681,.cells [.int .i64 (.ofNat 1),.int .i64 (.ofNat 2)]),
 (1683,.cells [.slice (some ⟨1676,0,some 0⟩) 2 2,.slice (some ⟨1681,0,some 0⟩) 2 2]),
 (1764,.cells [.int .i64 (.ofNat 0),.int .i64 (.ofNat 1),.int .i64 (.ofNat 2)]),
 (1765,.cells [.slice (some ⟨1764,0,some 1⟩) 3 3]),
 (1767,.cells [.slice (some ⟨574,0,some 1⟩) 3 3,.slice (some ⟨764,0,some 1⟩) 1 1,.slice (some ⟨1162,0,some 1⟩) 3 3,.slice none 0 0,.slice (some ⟨1495,0,some 1⟩) 3 3,.slice (some ⟨1600,0,some 1⟩) 3 3,.slice (some ⟨1683,0,some 1⟩) 2 2,.slice (some ⟨1765,0,some 0⟩) 1 1])]
def follows:Tryz.prog.follows .mixedOrders=true:=Ax
def globals:Tryz.prog.globals.size=0:=Ax
noncomputable def NW:Env:=pX Tryz.prog (anK 94 372) pY
def Vf:Au NW:=Cr _ _ _ (λf q h v h' hm=>by cases hm)
def aeS:(BV NW 1000000).call ⟨.func 30,[.bool false],[],none⟩ ⟨.leaf,0,0⟩ (leaves JG Be JF)=true:=Ax
def aeT:(BV NW 1000000).call ⟨.func 74,[JF],[],none⟩ ⟨heapT JG,Be,Be⟩ (gives (.int .i64 (.ofNat 0)) Be)=true:=Ax
noncomputable def Vg:Nat->x8 (gM->IH->x8 (vI×IH)):=λf=>
 cond (Nat.beq f 30) (some (MH JG Be 30 [.bool false] JF)) (cond (Nat.beq f 74) (some (known JG Be 74 [JF] (.int .i64 (.ofNat 0)))) none)
noncomputable def Vh:Env:=pX Tryz.prog (anK 94 372) Vg
def aeU:Au Vh:=Cr _ _ _ (by
 intro f q h v h' hm hpm ht;simp only[Vg]at hm;cases h1:Nat.beq f 30 with
 |true=>
  rw[h1]at hm;exact acz (Hf Vf aeS) hm
 |false=>
  rw[h1]at hm;cases h2:Nat.beq f 74 with
  |true=>
   rw[h2]at hm;exact aa8 Ax Ax Ax (by show Tryz.prog.globals.size<=Be;rw[globals];exact bR _) (.vT _ (Hf Vf aeT) λ_ _ _ hg=>RH hg) hm
  |false=>rw[h2]at hm;cases hm)
def aeV:(BV Vh 1000000).call ⟨.func 10,[],[],none⟩ ⟨.leaf,0,0⟩ (gives (.bool true) 0)=true:=Ax
def aeW:CALL Tryz.prog ⟨.func 10,[],[],none⟩ ⟨.leaf,0,0⟩ (λr pm h=>pm=none/\r=.ok (.bool true)/\h.low=0):=
 .vT _ (Hf aeU aeV) λ_ _ _ hg=>RH hg
def aeX(h:IH):CALL Tryz.prog ⟨.func 10,[],[],none⟩ h (λr pm h'=>pm=none/\r=.ok (.bool true)/\h'=h):=
 .memo ⟨.leaf,0,0⟩ (.bool true) rfl rfl rfl (bR _) (by rw[globals];exact bR _) (by intro i o ho;cases ho) _ aeW (λr pm h' q=>q) ⟨rfl,rfl,rfl⟩
def Vi:dD Tryz.prog 10 [] [] (.bool true):=acA aeX
