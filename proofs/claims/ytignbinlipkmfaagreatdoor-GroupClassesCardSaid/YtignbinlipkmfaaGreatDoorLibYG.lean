/- Part. -/
import Derived.Test.YtignbinlipkmfaaGreatDoorLibXG
set_option linter.all false
set_option maxRecDepth 10000
set_option maxHeartbeats 4000000
namespace Go.Proofs.YtignbinlipkmfaaGreatDoor
open Go.Ideal Kd
variable{d:dA}{r:dz}{vh vs vr vc vu v1 v2:ah}
def aln(hc:d.bY.length<=4096)(hn1:r.names.length<2^63)(hn2:r.others.length<2^63)(hk:r.kind=5):tT d r vh vs vr vc vu v1 v2:=by
 have hx:iX r.kind=⟨true,true,false,false,false,true,true,3⟩:=rI
 clear hk;exact tV
def alo(hc:d.bY.length<=4096)(hn1:r.names.length<2^63)(hn2:r.others.length<2^63)(hk:r.kind=6):tT d r vh vs vr vc vu v1 v2:=by
 have hx:iX r.kind=⟨false,false,false,false,false,true,true,0⟩:=rI
 clear hk;exact tV
def alp(hc:d.bY.length<=4096)(hn1:r.names.length<2^63)(hn2:r.others.length<2^63)(hk:r.kind=7):tT d r vh vs vr vc vu v1 v2:=by
 have hx:iX r.kind=⟨false,false,false,false,true,true,true,0⟩:=rI
 clear hk;exact tV
def alq(hc:d.bY.length<=4096)(hn1:r.names.length<2^63)(hn2:r.others.length<2^63)(hk:r.kind=8):tT d r vh vs vr vc vu v1 v2:=by
 have hx:iX r.kind=⟨false,true,true,false,false,true,true,0⟩:=rI
 clear hk;exact tV
def alr(hc:d.bY.length<=4096)(hn1:r.names.length<2^63)(hn2:r.others.length<2^63)(hk:r.kind=9):tT d r vh vs vr vc vu v1 v2:=by
 exact ju
