/-
  kinds.Compile of the example's source.
-/
import Derived.Test.YtoohgkkmdnbnfaaGreatDoorSaneBA
set_option linter.all false
namespace Go.Proofs.YtoohgkkmdnbnfaaGreatDoor
open Go.Ideal
noncomputable def Nq:Value:=.tuple ⟨[.agg ⟨[fw [107],.int .i64 (.ofNat 1),.int .i64 (.ofNat 1),.int .i64 (.ofNat 2),.int .i64 (.ofNat 2),.slice none 0 0,.slice (some ⟨249,0,some 2⟩) 2 2,.slice none 0 0,.slice (some ⟨298,0,some 6⟩) 1 1,.slice (some ⟨307,0,some 12⟩) 2 2,.int .i64 (.ofNat 1),.int .i64 (.ofNat 2),.int .i64 (.ofNat 2),.slice none 0 0,.slice (some ⟨397,0,some 1⟩) 4 4,.slice (some ⟨422,0,some 0⟩) 4 4,.slice (some ⟨1161,0,some 1⟩) 8 8]⟩,.int .i64 (.ofNat 0),.int .i64 (.ofNat 0)]⟩
def wL:Nat:=1162
noncomputable def Cs:List (Nat×dG):=[
 (249,.cells [fw [97],.int .i64 (.ofNat 1),fw [98],.int .i64 (.ofNat 2)]),
 (298,.cells [fw [99],fw [99,101,108,108,115],.int .i64 (.ofNat 0),.int .i64 (.ofNat 1),.int .i64 (.ofNat 0),.int .i64 (.ofNat 0)]),
 (307,.cells [fw [114],fw [114,111,119,115],.int .i64 (.ofNat 1),.int .i64 (.ofNat 1),.slice none 0 0,.slice none 0 0,.int .i64 (.ofNat 0),.int .i64 (.ofNat 0),.int .i64 (.ofNat 0),.int .i64 (.ofNat 0),fw [],.int .i64 (.negSucc 0),fw [103],fw [],.int .i64 (.ofNat 11),.int .i64 (.ofNat 0),.slice none 0 0,.slice none 0 0,.int .i64 (.ofNat 0),.int .i64 (.ofNat 0),.int .i64 (.ofNat 0),.int .i64 (.ofNat 0),fw [99],.int .i64 (.ofNat 0)]),
 (397,.cells [.int .i64 (.ofNat 0),.int .i64 (.ofNat 1),.int .i64 (.ofNat 2),.int .i64 (.ofNat 3)]),
 (422,.cells [.slice (some ⟨433,0,some 1⟩) 2 2,.slice (some ⟨442,0,some 1⟩) 2 2,.slice (some ⟨452,0,some 1⟩) 2 2,.slice (some ⟨461,0,some 1⟩) 2 2]),
 (433,.cells [.int .i64 (.ofNat 1),.int .i64 (.ofNat 2)]),
 (442,.cells [.int .i64 (.ofNat 0),.int .i64 (.ofNat 3)]),
 (452,.cells [.int .i64 (.ofNat 0),.int .i64 (.ofNat 3)]),
 (461,.cells [.int .i64 (.ofNat 1),.int .i64 (.ofNat 2)]),
 (527,.cells [.int .i64 (.ofNat 0)]),
 (530,.cells [.int .i64 (.ofNat 1)]),
 (533,.cells [.int .i64 (.ofNat 2)]),
 (536,.cells [.int .i64 (.ofNat 3)]),
 (538,.cells [.slice (some ⟨527,0,some 0⟩) 1 1,.slice (some ⟨530,0,some 0⟩) 1 1,.slice (some ⟨533,0,some 0⟩) 1 1,.slice (some ⟨536,0,some 0⟩) 1 1]),
 (620,.cells [.int .i64 (.ofNat 0),.int .i64 (.ofNat 1)]),
 (628,.cells [.int .i64 (.ofNat 2),.int .i64 (.ofNat 3)]),
 (634,.cells [.slice (some ⟨620,0,some 1⟩) 2 2,.slice (some ⟨628,0,some 1⟩) 2 2]),
 (720,.cells [.int .i64 (.ofNat 0),.int .i64 (.ofNat 2)]),
 (724,.cells [.int .i64 (.ofNat 1),.int .i64 (.ofNat 3)]),
 (730,.cells [.slice (some ⟨720,0,some 1⟩) 2 2,.slice (some ⟨724,0,some 1⟩) 2 2]),
 (817,.cells [.int .i64 (.ofNat 0),.int .i64 (.ofNat 3)]),
 (838,.cells [.int .i64 (.ofNat 1),.int .i64 (.ofNat 2)]),
 (846,.cells [.slice (some ⟨817,0,some 1⟩) 2 2,.slice (some ⟨838,0,some 1⟩) 2 2]),
 (874,.cells [.slice (some ⟨885,0,some 1⟩) 2 2,.slice (some ⟨894,0,some 1⟩) 2 2,.slice (some ⟨904,0,some 1⟩) 2 2,.slice (some ⟨913,0,some 1⟩) 2 2]),
 (885,.cells [.int .i64 (.ofNat 1),.int .i64 (.ofNat 2)]),
 (894,.cells [.int .i64 (.ofNat 0),.int .i64 (.ofNat 3)]),
 (904,.cells [.int .i64 (.ofNat 0),.int .i64 (.ofNat 3)]),
 (913,.cells [.int .i64 (.ofNat 1),.int .i64 (.ofNat 2)]),
 (984,.cells [.int .i64 (.ofNat 0),.int .i64 (.ofNat 1),.int .i64 (.ofNat 2)]),
 (990,.cells [.int .i64 (.ofNat 0),.int .i64 (.ofNat 1),.int .i64 (.ofNat 3)]),
 (996,.cells [.int .i64 (.ofNat 0),.int .i64 (.ofNat 2),.int .i64 (.ofNat 3)]),
 (1002,.cells [.int .i64 (.ofNat 1),.int .i64 (.ofNat 2),.int .i64 (.ofNat 3)]),
 (1004,.cells [.slice (some ⟨984,0,some 1⟩) 3 3,.slice (some ⟨990,0,some 1⟩) 3 3,.slice (some ⟨996,0,some 1⟩) 3 3,.slice (some ⟨1002,0,some 1⟩) 3 3]),
 (1072,.cells [.int .i64 (.ofNat 0),.int .i64 (.ofNat 1)]),
 (1075,.cells [.int .i64 (.ofNat 0),.int .i64 (.ofNat 2)]),
 (1078,.cells [.int .i64 (.ofNat 1),.int .i64 (.ofNat 3)]),
 (1081,.cells [.int .i64 (.ofNat 2),.int .i64 (.ofNat 3)]),
 (1083,.cells [.slice (some ⟨1072,0,some 0⟩) 2 2,.slice (some ⟨1075,0,some 0⟩) 2 2,.slice (some ⟨1078,0,some 0⟩) 2 2,.slice (some ⟨1081,0,some 0⟩) 2 2]),
 (1158,.cells [.int .i64 (.ofNat 0),.int .i64 (.ofNat 1),.int .i64 (.ofNat 2),.int .i64 (.ofNat 3)]),
 (1159,.cells [.slice (some ⟨1158,0,some 1⟩) 4 4]),
 (1161,.cells [.slice (some ⟨538,0,some 1⟩) 4 4,.slice (some ⟨634,0,some 1⟩) 2 2,.slice (some ⟨730,0,some 1⟩) 2 2,.slice (some ⟨846,0,some 1⟩) 2 2,.slice (some ⟨874,0,some 0⟩) 4 4,.slice (some ⟨1004,0,some 1⟩) 4 4,.slice (some ⟨1083,0,some 1⟩) 4 4,.slice (some ⟨1159,0,some 0⟩) 1 1])]
theorem aeW:(zl UL 1000000).call ⟨.func 33,[Cr],[],none⟩ I7 (Im 6 Cs wL Nq)=true:=by kernel_rfl
