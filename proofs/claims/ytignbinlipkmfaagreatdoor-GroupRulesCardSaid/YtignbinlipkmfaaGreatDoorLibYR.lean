/- Part. -/
import Derived.Test.YtignbinlipkmfaaGreatDoorLibXR
set_option linter.all false
set_option maxRecDepth 10000
set_option maxHeartbeats 4000000
namespace Go.Proofs.YtignbinlipkmfaaGreatDoor
open Go.Ideal Kd
variable{d:bK}{r:bE}{vh vs vr vc vu v1 v2:ah}
def aoL(hc:d.aQ.length<=4096)(hn1:r.names.length<2^63)(hn2:r.others.length<2^63)(hk:r.kind=5):vN d r vh vs vr vc vu v1 v2:=by
 have hx:fK r.kind=⟨true,true,false,false,false,true,true,3⟩:=tP
 clear hk;exact vO
def aoM(hc:d.aQ.length<=4096)(hn1:r.names.length<2^63)(hn2:r.others.length<2^63)(hk:r.kind=6):vN d r vh vs vr vc vu v1 v2:=by
 have hx:fK r.kind=⟨false,false,false,false,false,true,true,0⟩:=tP
 clear hk;exact vO
def aoN(hc:d.aQ.length<=4096)(hn1:r.names.length<2^63)(hn2:r.others.length<2^63)(hk:r.kind=7):vN d r vh vs vr vc vu v1 v2:=by
 have hx:fK r.kind=⟨false,false,false,false,true,true,true,0⟩:=tP
 clear hk;exact vO
def aoO(hc:d.aQ.length<=4096)(hn1:r.names.length<2^63)(hn2:r.others.length<2^63)(hk:r.kind=8):vN d r vh vs vr vc vu v1 v2:=by
 have hx:fK r.kind=⟨false,true,true,false,false,true,true,0⟩:=tP
 clear hk;exact vO
def aoP(hc:d.aQ.length<=4096)(hn1:r.names.length<2^63)(hn2:r.others.length<2^63)(hk:r.kind=9):vN d r vh vs vr vc vu v1 v2:=by
 exact nw
