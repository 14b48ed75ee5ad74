/- Part. -/
import Derived.Test.YtoilpafpgndilaaGreatLibXF
set_option linter.all false
set_option maxRecDepth 10000
set_option maxHeartbeats 4000000
namespace Go.Proofs.YtoilpafpgndilaaGreat
open Go.Ideal Kd
variable{d:bF}{r:bN}{vh vs vr vc vu v1 v2:vI}
def agk(hc:d.aJ.length<=4096)(hn1:r.names.length<2^63)(hn2:r.others.length<2^63)(hk:r.kind=5):si d r vh vs vr vc vu v1 v2:=by
 have hx:fM r.kind=⟨true,true,false,false,false,true,true,3⟩:=A2
 clear hk;exact sj
def agl(hc:d.aJ.length<=4096)(hn1:r.names.length<2^63)(hn2:r.others.length<2^63)(hk:r.kind=6):si d r vh vs vr vc vu v1 v2:=by
 have hx:fM r.kind=⟨false,false,false,false,false,true,true,0⟩:=A2
 clear hk;exact sj
def agm(hc:d.aJ.length<=4096)(hn1:r.names.length<2^63)(hn2:r.others.length<2^63)(hk:r.kind=7):si d r vh vs vr vc vu v1 v2:=by
 have hx:fM r.kind=⟨false,false,false,false,true,true,true,0⟩:=A2
 clear hk;exact sj
def agn(hc:d.aJ.length<=4096)(hn1:r.names.length<2^63)(hn2:r.others.length<2^63)(hk:r.kind=8):si d r vh vs vr vc vu v1 v2:=by
 have hx:fM r.kind=⟨false,true,true,false,false,true,true,0⟩:=A2
 clear hk;exact sj
def agp(hc:d.aJ.length<=4096)(hn1:r.names.length<2^63)(hn2:r.others.length<2^63)(hk:r.kind=9):si d r vh vs vr vc vu v1 v2:=by
 exact qn
