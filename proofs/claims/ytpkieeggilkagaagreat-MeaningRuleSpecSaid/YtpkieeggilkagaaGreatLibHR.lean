/-
  Part LibHR.
-/
import Derived.Test.YtpkieeggilkagaaGreatLibGR
set_option linter.all false
set_option maxRecDepth 10000
set_option maxHeartbeats 4000000
namespace Go.Proofs.YtpkieeggilkagaaGreat
open Go.Ideal Kd
theorem af9{d:bG}{r:bB}{vh vs vr vc vu v1 v2:Value}(hc:d.aM.length<=4096)(hn1:r.names.length<9223372036854775808)(hn2:r.others.length<9223372036854775808)(hk:r.kind=5):rW d r vh vs vr vc vu v1 v2:=by
 have hx:fF r.kind=⟨true,true,false,false,false,true,true,3⟩:=by rw[hk];rfl
 clear hk;exact rX
theorem aga{d:bG}{r:bB}{vh vs vr vc vu v1 v2:Value}(hc:d.aM.length<=4096)(hn1:r.names.length<9223372036854775808)(hn2:r.others.length<9223372036854775808)(hk:r.kind=6):rW d r vh vs vr vc vu v1 v2:=by
 have hx:fF r.kind=⟨false,false,false,false,false,true,true,0⟩:=by rw[hk];rfl
 clear hk;exact rX
theorem agb{d:bG}{r:bB}{vh vs vr vc vu v1 v2:Value}(hc:d.aM.length<=4096)(hn1:r.names.length<9223372036854775808)(hn2:r.others.length<9223372036854775808)(hk:r.kind=7):rW d r vh vs vr vc vu v1 v2:=by
 have hx:fF r.kind=⟨false,false,false,false,true,true,true,0⟩:=by rw[hk];rfl
 clear hk;exact rX
theorem agc{d:bG}{r:bB}{vh vs vr vc vu v1 v2:Value}(hc:d.aM.length<=4096)(hn1:r.names.length<9223372036854775808)(hn2:r.others.length<9223372036854775808)(hk:r.kind=8):rW d r vh vs vr vc vu v1 v2:=by
 have hx:fF r.kind=⟨false,true,true,false,false,true,true,0⟩:=by rw[hk];rfl
 clear hk;exact rX
theorem agd{d:bG}{r:bB}{vh vs vr vc vu v1 v2:Value}(hc:d.aM.length<=4096)(hn1:r.names.length<9223372036854775808)(hn2:r.others.length<9223372036854775808)(hk:r.kind=9):rW d r vh vs vr vc vu v1 v2:=by
 have hx:fF r.kind=⟨false,true,false,false,false,true,true,0⟩:=by rw[hk];rfl
 clear hk;exact rX
