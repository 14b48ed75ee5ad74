/-
  Types of rules: shapes, what can be read.
-/
import Derived.Test.YtfakljdleblkoaaGreatLibXM
set_option linter.all false
set_option maxRecDepth 10000
set_option maxHeartbeats 4000000
namespace Go.Proofs.YtfakljdleblkoaaGreat
open Go.Ideal Kd
theorem aiY{d:dN}{r:bV}{vh vs vr vc vu v1 v2:Value}(hc:d.bI.length<=4096)(hn1:r.names.length<9223372036854775808)(hn2:r.others.length<9223372036854775808)(hk:r.kind=5):sH d r vh vs vr vc vu v1 v2:=by
 have hx:ic r.kind=⟨true,true,false,false,false,true,true,3⟩:=by rw[hk];rfl
 clear hk;exact sI
theorem aiZ{d:dN}{r:bV}{vh vs vr vc vu v1 v2:Value}(hc:d.bI.length<=4096)(hn1:r.names.length<9223372036854775808)(hn2:r.others.length<9223372036854775808)(hk:r.kind=6):sH d r vh vs vr vc vu v1 v2:=by
 have hx:ic r.kind=⟨false,false,false,false,false,true,true,0⟩:=by rw[hk];rfl
 clear hk;exact sI
theorem ai0{d:dN}{r:bV}{vh vs vr vc vu v1 v2:Value}(hc:d.bI.length<=4096)(hn1:r.names.length<9223372036854775808)(hn2:r.others.length<9223372036854775808)(hk:r.kind=7):sH d r vh vs vr vc vu v1 v2:=by
 have hx:ic r.kind=⟨false,false,false,false,true,true,true,0⟩:=by rw[hk];rfl
 clear hk;exact sI
theorem ai1{d:dN}{r:bV}{vh vs vr vc vu v1 v2:Value}(hc:d.bI.length<=4096)(hn1:r.names.length<9223372036854775808)(hn2:r.others.length<9223372036854775808)(hk:r.kind=8):sH d r vh vs vr vc vu v1 v2:=by
 have hx:ic r.kind=⟨false,true,true,false,false,true,true,0⟩:=by rw[hk];rfl
 clear hk;exact sI
theorem ai2{d:dN}{r:bV}{vh vs vr vc vu v1 v2:Value}(hc:d.bI.length<=4096)(hn1:r.names.length<9223372036854775808)(hn2:r.others.length<9223372036854775808)(hk:r.kind=9):sH d r vh vs vr vc vu v1 v2:=by
 have hx:ic r.kind=⟨false,true,false,false,false,true,true,0⟩:=by rw[hk];rfl
 clear hk;exact sI
