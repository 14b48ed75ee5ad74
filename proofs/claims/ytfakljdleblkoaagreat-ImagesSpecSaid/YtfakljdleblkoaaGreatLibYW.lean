/-
  Part LibYW.
-/
import Derived.Test.YtfakljdleblkoaaGreatLibXW
set_option linter.all false
set_option maxRecDepth 10000
set_option maxHeartbeats 4000000
namespace Go.Proofs.YtfakljdleblkoaaGreat
open Go.Ideal Kd
variable{d:bE}{r:bA}{vh vs vr vc vu v1 v2:Value}
theorem afx(hc:d.aJ.length<=4096)(hn1:r.names.length<9223372036854775808)(hn2:r.others.length<9223372036854775808)(hk:r.kind=5):rM d r vh vs vr vc vu v1 v2:=by
 have hx:fH r.kind=⟨true,true,false,false,false,true,true,3⟩:=xo
 clear hk;exact rO
theorem afy(hc:d.aJ.length<=4096)(hn1:r.names.length<9223372036854775808)(hn2:r.others.length<9223372036854775808)(hk:r.kind=6):rM d r vh vs vr vc vu v1 v2:=by
 have hx:fH r.kind=⟨false,false,false,false,false,true,true,0⟩:=xo
 clear hk;exact rO
theorem afz(hc:d.aJ.length<=4096)(hn1:r.names.length<9223372036854775808)(hn2:r.others.length<9223372036854775808)(hk:r.kind=7):rM d r vh vs vr vc vu v1 v2:=by
 have hx:fH r.kind=⟨false,false,false,false,true,true,true,0⟩:=xo
 clear hk;exact rO
theorem afA(hc:d.aJ.length<=4096)(hn1:r.names.length<9223372036854775808)(hn2:r.others.length<9223372036854775808)(hk:r.kind=8):rM d r vh vs vr vc vu v1 v2:=by
 have hx:fH r.kind=⟨false,true,true,false,false,true,true,0⟩:=xo
 clear hk;exact rO
theorem afB(hc:d.aJ.length<=4096)(hn1:r.names.length<9223372036854775808)(hn2:r.others.length<9223372036854775808)(hk:r.kind=9):rM d r vh vs vr vc vu v1 v2:=by
 exact qe
