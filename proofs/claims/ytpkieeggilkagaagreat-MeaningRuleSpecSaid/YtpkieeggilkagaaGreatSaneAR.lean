/-
  Part SaneAR.
-/
import Derived.Test.YtpkieeggilkagaaGreatSaneHR
set_option linter.all false
namespace Go.Proofs.YtpkieeggilkagaaGreat
open Go.Ideal
noncomputable def Jy:Value:=.agg ⟨[iU [114,111,119],.int .i64 (.ofNat 1),.int .i64 (.ofNat 1),.int .i64 (.ofNat 3),.int .i64 (.ofNat 1),.slice none 0 0,.slice (some ⟨6,0,some 0⟩) 2 2,.slice none 0 0,.slice (some ⟨24,0,some 6⟩) 1 1,.slice (some ⟨50,0,some 12⟩) 2 2,.int .i64 (.ofNat 1),.int .i64 (.ofNat 3),.int .i64 (.ofNat 1),.slice none 0 0,.slice (some ⟨132,0,some 1⟩) 3 3,.slice (some ⟨202,0,some 1⟩) 3 3,.slice (some ⟨1481,0,some 1⟩) 8 8]⟩
def AP:Nat:=1483
noncomputable def Jz:List (Nat×dH):=[
 (0,.cells [iU [98]]),
 (1,.cells [iU [108],iU [],.int .i64 (.ofNat 10),.int .i64 (.ofNat 0),.slice (some ⟨0,0,some 0⟩) 1 1,.slice none 0 0,.int .i64 (.ofNat 2),.int .i64 (.ofNat 0),.int .i64 (.ofNat 0),.int .i64 (.ofNat 0),iU [],.int .i64 (.negSucc 0)]),
 (2,.cells [iU [98]]),
 (3,.cells [iU [114],iU [114,111,119,115],.int .i64 (.ofNat 5),.int .i64 (.ofNat 1),.slice (some ⟨2,0,some 0⟩) 1 1,.slice none 0 0,.int .i64 (.ofNat 2),.int .i64 (.ofNat 0),.int .i64 (.ofNat 0),.int .i64 (.ofNat 0),iU [110],.int .i64 (.ofNat 0)]),
 (4,.cells [iU [108],iU [],.int .i64 (.ofNat 10),.int .i64 (.ofNat 0),.slice (some ⟨0,0,some 0⟩) 1 1,.slice none 0 0,.int .i64 (.ofNat 2),.int .i64 (.ofNat 0),.int .i64 (.ofNat 0),.int .i64 (.ofNat 0),iU [],.int .i64 (.negSucc 0),iU [114],iU [114,111,119,115],.int .i64 (.ofNat 5),.int .i64 (.ofNat 1),.slice (some ⟨2,0,some 0⟩) 1 1,.slice none 0 0,.int .i64 (.ofNat 2),.int .i64 (.ofNat 0),.int .i64 (.ofNat 0),.int .i64 (.ofNat 0),iU [110],.int .i64 (.ofNat 0)]),
 (6,.cells [iU [97],.int .i64 (.ofNat 0),iU [98],.int .i64 (.ofNat 1)]),
 (24,.cells [iU [110],iU [114,111,119,115],.int .i64 (.ofNat 1),.int .i64 (.ofNat 3),.int .i64 (.ofNat 0),.int .i64 (.ofNat 0)]),
 (50,.cells [iU [108],iU [],.int .i64 (.ofNat 10),.int .i64 (.ofNat 0),.slice (some ⟨0,0,some 0⟩) 1 1,.slice none 0 0,.int .i64 (.ofNat 2),.int .i64 (.ofNat 0),.int .i64 (.ofNat 0),.int .i64 (.ofNat 0),iU [],.int .i64 (.negSucc 0),iU [114],iU [114,111,119,115],.int .i64 (.ofNat 5),.int .i64 (.ofNat 1),.slice (some ⟨2,0,some 0⟩) 1 1,.slice none 0 0,.int .i64 (.ofNat 2),.int .i64 (.ofNat 0),.int .i64 (.ofNat 0),.int .i64 (.ofNat 0),iU [110],.int .i64 (.ofNat 0)]),
 (132,.cells [.int .i64 (.ofNat 0),.int .i64 (.ofNat 1),.int .i64 (.ofNat 2)]),
 (155,.cells [.int .i64 (.ofNat 1)]),
 (181,.cells [.int .i64 (.ofNat 0),.int .i64 (.ofNat 2)]),
 (195,.cells [.int .i64 (.ofNat 1)]),
 (202,.cells [.slice (some ⟨155,0,some 1⟩) 1 1,.slice (some ⟨181,0,some 1⟩) 2 2,.slice (some ⟨195,0,some 1⟩) 1 1]),
 (276,.cells [.int .i64 (.ofNat 0)]),
 (281,.cells [.int .i64 (.ofNat 1)]),
 (286,.cells [.int .i64 (.ofNat 2)]),
 (288,.cells [.slice (some ⟨276,0,some 0⟩) 1 1,.slice (some ⟨281,0,some 0⟩) 1 1,.slice (some ⟨286,0,some 0⟩) 1 1]),
 (476,.cells [.int .i64 (.ofNat 0),.int .i64 (.ofNat 1),.int .i64 (.ofNat 2)]),
 (478,.cells [.slice (some ⟨476,0,some 1⟩) 3 3]),
 (850,.cells [.int .i64 (.ofNat 0)]),
 (862,.cells [.int .i64 (.ofNat 1)]),
 (874,.cells [.int .i64 (.ofNat 2)]),
 (876,.cells [.slice (some ⟨850,0,some 1⟩) 1 1,.slice (some ⟨862,0,some 1⟩) 1 1,.slice (some ⟨874,0,some 1⟩) 1 1]),
 (1162,.cells [.int .i64 (.ofNat 1)]),
 (1188,.cells [.int .i64 (.ofNat 0),.int .i64 (.ofNat 2)]),
 (1202,.cells [.int .i64 (.ofNat 1)]),
 (1209,.cells [.slice (some ⟨1162,0,some 1⟩) 1 1,.slice (some ⟨1188,0,some 1⟩) 2 2,.slice (some ⟨1202,0,some 1⟩) 1 1]),
 (1294,.cells [.int .i64 (.ofNat 0),.int .i64 (.ofNat 1)]),
 (1304,.cells [.int .i64 (.ofNat 0),.int .i64 (.ofNat 1),.int .i64 (.ofNat 2)]),
 (1312,.cells [.int .i64 (.ofNat 1),.int .i64 (.ofNat 2)]),
 (1314,.cells [.slice (some ⟨1294,0,some 1⟩) 2 2,.slice (some ⟨1304,0,some 1⟩) 3 3,.slice (some ⟨1312,0,some 1⟩) 2 2]),
 (1390,.cells [.int .i64 (.ofNat 0),.int .i64 (.ofNat 1)]),
 (1395,.cells [.int .i64 (.ofNat 1),.int .i64 (.ofNat 2)]),
 (1397,.cells [.slice (some ⟨1390,0,some 0⟩) 2 2,.slice (some ⟨1395,0,some 0⟩) 2 2]),
 (1478,.cells [.int .i64 (.ofNat 0),.int .i64 (.ofNat 1),.int .i64 (.ofNat 2)]),
 (1479,.cells [.slice (some ⟨1478,0,some 1⟩) 3 3]),
 (1481,.cells [.slice (some ⟨288,0,some 1⟩) 3 3,.slice (some ⟨478,0,some 1⟩) 1 1,.slice (some ⟨876,0,some 1⟩) 3 3,.slice none 0 0,.slice (some ⟨1209,0,some 1⟩) 3 3,.slice (some ⟨1314,0,some 1⟩) 3 3,.slice (some ⟨1397,0,some 1⟩) 2 2,.slice (some ⟨1479,0,some 0⟩) 1 1])]
theorem aec:(BN NN 1000000).call ⟨.func 31,UI,[],none⟩ UH (leaves Jz AP Jy)=true:=by kernel_rfl
