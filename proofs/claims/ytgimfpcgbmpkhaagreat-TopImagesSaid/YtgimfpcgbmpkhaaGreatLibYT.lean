/- Part. -/
import Derived.Test.YtgimfpcgbmpkhaaGreatLibXT
set_option linter.all false
set_option maxRecDepth 10000
set_option maxHeartbeats 4000000
namespace Go.Proofs.YtgimfpcgbmpkhaaGreat
open Go.Ideal Kd
variable{d:dR}{r:bF}{vh vs vr vc vu v1 v2:ah}
def aoj(hc:d.bT.length<=4096)(hn1:r.names.length<2^63)(hn2:r.others.length<2^63)(hk:r.kind=5):wF d r vh vs vr vc vu v1 v2:=by
 have hx:iU r.kind=⟨true,true,false,false,false,true,true,3⟩:=tw
 clear hk;exact wG
def aok(hc:d.bT.length<=4096)(hn1:r.names.length<2^63)(hn2:r.others.length<2^63)(hk:r.kind=6):wF d r vh vs vr vc vu v1 v2:=by
 have hx:iU r.kind=⟨false,false,false,false,false,true,true,0⟩:=tw
 clear hk;exact wG
def aol(hc:d.bT.length<=4096)(hn1:r.names.length<2^63)(hn2:r.others.length<2^63)(hk:r.kind=7):wF d r vh vs vr vc vu v1 v2:=by
 have hx:iU r.kind=⟨false,false,false,false,true,true,true,0⟩:=tw
 clear hk;exact wG
def aom(hc:d.bT.length<=4096)(hn1:r.names.length<2^63)(hn2:r.others.length<2^63)(hk:r.kind=8):wF d r vh vs vr vc vu v1 v2:=by
 have hx:iU r.kind=⟨false,true,true,false,false,true,true,0⟩:=tw
 clear hk;exact wG
def aon(hc:d.bT.length<=4096)(hn1:r.names.length<2^63)(hn2:r.others.length<2^63)(hk:r.kind=9):wF d r vh vs vr vc vu v1 v2:=by
 exact nj
