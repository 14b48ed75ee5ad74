/-
  Types of rules: a rule of any kind.
-/
import Derived.Test.YtoohgkkmdnbnfaaGreatDoorLibFF
set_option linter.all false
set_option maxRecDepth 10000
set_option maxHeartbeats 4000000
namespace Go.Proofs.YtoohgkkmdnbnfaaGreatDoor
open Go.Ideal Kd
theorem aeF{d:bD}{r:aS}{vh vs vr vc vu v1 v2:Value}(hc:d.aI.length<=4096)(hn1:r.names.length<9223372036854775808)(hn2:r.others.length<9223372036854775808)(hk:r.kind=5):qB d r vh vs vr vc vu v1 v2:=by
 have hx:fO r.kind=⟨true,true,false,false,false,true,true,3⟩:=by rw[hk];rfl
 clear hk;exact qC
theorem aeG{d:bD}{r:aS}{vh vs vr vc vu v1 v2:Value}(hc:d.aI.length<=4096)(hn1:r.names.length<9223372036854775808)(hn2:r.others.length<9223372036854775808)(hk:r.kind=6):qB d r vh vs vr vc vu v1 v2:=by
 have hx:fO r.kind=⟨false,false,false,false,false,true,true,0⟩:=by rw[hk];rfl
 clear hk;exact qC
theorem aeH{d:bD}{r:aS}{vh vs vr vc vu v1 v2:Value}(hc:d.aI.length<=4096)(hn1:r.names.length<9223372036854775808)(hn2:r.others.length<9223372036854775808)(hk:r.kind=7):qB d r vh vs vr vc vu v1 v2:=by
 have hx:fO r.kind=⟨false,false,false,false,true,true,true,0⟩:=by rw[hk];rfl
 clear hk;exact qC
theorem aeI{d:bD}{r:aS}{vh vs vr vc vu v1 v2:Value}(hc:d.aI.length<=4096)(hn1:r.names.length<9223372036854775808)(hn2:r.others.length<9223372036854775808)(hk:r.kind=8):qB d r vh vs vr vc vu v1 v2:=by
 have hx:fO r.kind=⟨false,true,true,false,false,true,true,0⟩:=by rw[hk];rfl
 clear hk;exact qC
theorem aeJ{d:bD}{r:aS}{vh vs vr vc vu v1 v2:Value}(hc:d.aI.length<=4096)(hn1:r.names.length<9223372036854775808)(hn2:r.others.length<9223372036854775808)(hk:r.kind=9):qB d r vh vs vr vc vu v1 v2:=by
 have hx:fO r.kind=⟨false,true,false,false,false,true,true,0⟩:=by rw[hk];rfl
 clear hk;exact qC
