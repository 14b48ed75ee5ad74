/-
  Part SaneAW.
-/
import Derived.Test.YtfakljdleblkoaaGreatChecked
import Derived.Test.YtfakljdleblkoaaGreatIdealMW
set_option linter.all false
namespace Go.Proofs.YtfakljdleblkoaaGreat
open Go.Ideal
def xA(l:List Nat):Value:=.string ⟨⟨l.map UInt8.ofNat⟩⟩
noncomputable def Jb:Value:=.agg ⟨[xA [114,111,119],.int .i64 (.ofNat 1),.int .i64 (.ofNat 1),.int .i64 (.ofNat 3),.int .i64 (.ofNat 1),.slice none 0 0,.slice (some ⟨1,0,some 0⟩) 2 2,.slice none 0 0,.slice (some ⟨21,0,some 6⟩) 1 1,.slice (some ⟨36,0,some 12⟩) 1 1,.int .i64 (.ofNat 1),.int .i64 (.ofNat 3),.int .i64 (.ofNat 1),.slice none 0 0,.slice (some ⟨102,0,some 1⟩) 3 3,.slice (some ⟨172,0,some 1⟩) 3 3,.slice (some ⟨1451,0,some 1⟩) 8 8]⟩
def Am:Nat:=1453
noncomputable def Jc:List (Nat×dQ):=[
 (1,.cells [xA [97],.int .i64 (.ofNat 0),xA [98],.int .i64 (.ofNat 1)]),
 (3,.cells [xA [98]]),
 (21,.cells [xA [110],xA [114,111,119,115],.int .i64 (.ofNat 1),.int .i64 (.ofNat 3),.int .i64 (.ofNat 0),.int .i64 (.ofNat 0)]),
 (36,.cells [xA [114],xA [114,111,119,115],.int .i64 (.ofNat 5),.int .i64 (.ofNat 1),.slice (some ⟨3,0,some 0⟩) 1 1,.slice none 0 0,.int .i64 (.ofNat 2),.int .i64 (.ofNat 0),.int .i64 (.ofNat 0),.int .i64 (.ofNat 0),xA [110],.int .i64 (.ofNat 0)]),
 (102,.cells [.int .i64 (.ofNat 0),.int .i64 (.ofNat 1),.int .i64 (.ofNat 2)]),
 (125,.cells [.int .i64 (.ofNat 1)]),
 (151,.cells [.int .i64 (.ofNat 0),.int .i64 (.ofNat 2)]),
 (165,.cells [.int .i64 (.ofNat 1)]),
 (172,.cells [.slice (some ⟨125,0,some 1⟩) 1 1,.slice (some ⟨151,0,some 1⟩) 2 2,.slice (some ⟨165,0,some 1⟩) 1 1]),
 (246,.cells [.int .i64 (.ofNat 0)]),
 (251,.cells [.int .i64 (.ofNat 1)]),
 (256,.cells [.int .i64 (.ofNat 2)]),
 (258,.cells [.slice (some ⟨246,0,some 0⟩) 1 1,.slice (some ⟨251,0,some 0⟩) 1 1,.slice (some ⟨256,0,some 0⟩) 1 1]),
 (446,.cells [.int .i64 (.ofNat 0),.int .i64 (.ofNat 1),.int .i64 (.ofNat 2)]),
 (448,.cells [.slice (some ⟨446,0,some 1⟩) 3 3]),
 (820,.cells [.int .i64 (.ofNat 0)]),
 (832,.cells [.int .i64 (.ofNat 1)]),
 (844,.cells [.int .i64 (.ofNat 2)]),
 (846,.cells [.slice (some ⟨820,0,some 1⟩) 1 1,.slice (some ⟨832,0,some 1⟩) 1 1,.slice (some ⟨844,0,some 1⟩) 1 1]),
 (1132,.cells [.int .i64 (.ofNat 1)]),
 (1158,.cells [.int .i64 (.ofNat 0),.int .i64 (.ofNat 2)]),
 (1172,.cells [.int .i64 (.ofNat 1)]),
 (1179,.cells [.slice (some ⟨1132,0,some 1⟩) 1 1,.slice (some ⟨1158,0,some 1⟩) 2 2,.slice (some ⟨1172,0,some 1⟩) 1 1]),
 (1264,.cells [.int .i64 (.ofNat 0),.int .i64 (.ofNat 1)]),
 (1274,.cells [.int .i64 (.ofNat 0),.int .i64 (.ofNat 1),.int .i64 (.ofNat 2)]),
 (1282,.cells [.int .i64 (.ofNat 1),.int .i64 (.ofNat 2)]),
 (1284,.cells [.slice (some ⟨1264,0,some 1⟩) 2 2,.slice (some ⟨1274,0,some 1⟩) 3 3,.slice (some ⟨1282,0,some 1⟩) 2 2]),
 (1360,.cells [.int .i64 (.ofNat 0),.int .i64 (.ofNat 1)]),
 (1365,.cells [.int .i64 (.ofNat 1),.int .i64 (.ofNat 2)]),
 (1367,.cells [.slice (some ⟨1360,0,some 0⟩) 2 2,.slice (some ⟨1365,0,some 0⟩) 2 2]),
 (1448,.cells [.int .i64 (.ofNat 0),.int .i64 (.ofNat 1),.int .i64 (.ofNat 2)]),
 (1449,.cells [.slice (some ⟨1448,0,some 1⟩) 3 3]),
 (1451,.cells [.slice (some ⟨258,0,some 1⟩) 3 3,.slice (some ⟨448,0,some 1⟩) 1 1,.slice (some ⟨846,0,some 1⟩) 3 3,.slice none 0 0,.slice (some ⟨1179,0,some 1⟩) 3 3,.slice (some ⟨1284,0,some 1⟩) 3 3,.slice (some ⟨1367,0,some 1⟩) 2 2,.slice (some ⟨1449,0,some 0⟩) 1 1])]
theorem follows:Tryz.prog.follows .mixedOrders=true:=vA
theorem globals:Tryz.prog.globals.size=0:=vA
noncomputable def Np:Env:=pu Tryz.prog (QM 69 319) pz
theorem Ui:zQ Np:=BD _ _ _ (λf q h v h' hm=>by cases hm)
theorem ad8:(Bh Np 1000000).call ⟨.func 28,[],[],none⟩ ⟨.leaf,0,0⟩ (leaves Jc Am Jb)=true:=vA
theorem ad9:(Bh Np 1000000).call ⟨.func 30,[Jb],[],none⟩ ⟨heapT Jc,Am,Am⟩ (gives (.int .i64 (.ofNat 0)) Am)=true:=vA
noncomputable def Uj:Nat->Option (gD->IH->Option (Value×IH)):=λf=>
 cond (Nat.beq f 28) (some (Lx Jc Am 28 Jb)) (cond (Nat.beq f 30) (some (known Jc Am 30 [Jb] (.int .i64 (.ofNat 0)))) none)
noncomputable def Uk:Env:=pu Tryz.prog (QM 69 319) Uj
theorem aea:zQ Uk:=BD _ _ _ (by
 intro f q h v h' hm hpm ht;simp only[Uj]at hm;cases h1:Nat.beq f 28 with
 |true=>
  rw[h1]at hm;exact aao (Gu Ui ad8) hm
 |false=>
  rw[h1]at hm;cases h2:Nat.beq f 30 with
  |true=>
   rw[h2]at hm;exact aan vA vA vA (by show Tryz.prog.globals.size<=Am;rw[globals];exact bQ _) (.qY _ (Gu Ui ad9) λ_ _ _ hg=>QO hg) hm
  |false=>rw[h2]at hm;cases hm)
theorem aeb:(Bh Uk 1000000).call ⟨.func 10,[],[],none⟩ ⟨.leaf,0,0⟩ (gives (.bool true) 0)=true:=vA
theorem aec:CALL Tryz.prog ⟨.func 10,[],[],none⟩ ⟨.leaf,0,0⟩ (λr pm h=>pm=none/\r=.ok (.bool true)/\h.low=0):=
 .qY _ (Gu aea aeb) λ_ _ _ hg=>QO hg
theorem aed(h:IH):CALL Tryz.prog ⟨.func 10,[],[],none⟩ h (λr pm h'=>pm=none/\r=.ok (.bool true)/\h'=h):=
 .memo ⟨.leaf,0,0⟩ (.bool true) rfl rfl rfl (bQ _) (by rw[globals];exact bQ _) (by intro i o ho;cases ho) _ aec (λr pm h' q=>q) ⟨rfl,rfl,rfl⟩
theorem aee:dL Tryz.prog 10 [] [] (.bool true):=abK aed
