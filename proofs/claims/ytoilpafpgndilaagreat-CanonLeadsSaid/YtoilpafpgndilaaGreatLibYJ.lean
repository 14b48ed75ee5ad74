/- Part. -/
import Derived.Test.YtoilpafpgndilaaGreatLibXJ
set_option linter.all false
set_option maxRecDepth 10000
set_option maxHeartbeats 4000000
namespace Go.Proofs.YtoilpafpgndilaaGreat
open Go.Ideal Kd
variable{d:dQ}{r:dP}{vh vs vr vc vu v1 v2:ah}
def amE(hc:d.bV.length<=4096)(hn1:r.names.length<2^63)(hn2:r.others.length<2^63)(hk:r.kind=5):vV d r vh vs vr vc vu v1 v2:=by
 have hx:jG r.kind=⟨true,true,false,false,false,true,true,3⟩:=tv
 clear hk;exact vW
def amF(hc:d.bV.length<=4096)(hn1:r.names.length<2^63)(hn2:r.others.length<2^63)(hk:r.kind=6):vV d r vh vs vr vc vu v1 v2:=by
 have hx:jG r.kind=⟨false,false,false,false,false,true,true,0⟩:=tv
 clear hk;exact vW
def amG(hc:d.bV.length<=4096)(hn1:r.names.length<2^63)(hn2:r.others.length<2^63)(hk:r.kind=7):vV d r vh vs vr vc vu v1 v2:=by
 have hx:jG r.kind=⟨false,false,false,false,true,true,true,0⟩:=tv
 clear hk;exact vW
def amH(hc:d.bV.length<=4096)(hn1:r.names.length<2^63)(hn2:r.others.length<2^63)(hk:r.kind=8):vV d r vh vs vr vc vu v1 v2:=by
 have hx:jG r.kind=⟨false,true,true,false,false,true,true,0⟩:=tv
 clear hk;exact vW
def amI(hc:d.bV.length<=4096)(hn1:r.names.length<2^63)(hn2:r.others.length<2^63)(hk:r.kind=9):vV d r vh vs vr vc vu v1 v2:=by
 exact mz
