/- Part. -/
import Derived.Test.YtignbinlipkmfaaGreatDoorLibXK
set_option linter.all false
set_option maxRecDepth 10000
set_option maxHeartbeats 4000000
namespace Go.Proofs.YtignbinlipkmfaaGreatDoor
open Go.Ideal Kd
variable{d:bG}{r:bE}{vh vs vr vc vu v1 v2:ah}
def ajn(hc:d.aR.length<=4096)(hn1:r.names.length<2^63)(hn2:r.others.length<2^63)(hk:r.kind=5):tZ d r vh vs vr vc vu v1 v2:=by
 have hx:gy r.kind=⟨true,true,false,false,false,true,true,3⟩:=ua
 clear hk;exact uf
def ajo(hc:d.aR.length<=4096)(hn1:r.names.length<2^63)(hn2:r.others.length<2^63)(hk:r.kind=6):tZ d r vh vs vr vc vu v1 v2:=by
 have hx:gy r.kind=⟨false,false,false,false,false,true,true,0⟩:=ua
 clear hk;exact uf
def ajp(hc:d.aR.length<=4096)(hn1:r.names.length<2^63)(hn2:r.others.length<2^63)(hk:r.kind=7):tZ d r vh vs vr vc vu v1 v2:=by
 have hx:gy r.kind=⟨false,false,false,false,true,true,true,0⟩:=ua
 clear hk;exact uf
def ajq(hc:d.aR.length<=4096)(hn1:r.names.length<2^63)(hn2:r.others.length<2^63)(hk:r.kind=8):tZ d r vh vs vr vc vu v1 v2:=by
 have hx:gy r.kind=⟨false,true,true,false,false,true,true,0⟩:=ua
 clear hk;exact uf
def ajr(hc:d.aR.length<=4096)(hn1:r.names.length<2^63)(hn2:r.others.length<2^63)(hk:r.kind=9):tZ d r vh vs vr vc vu v1 v2:=by
 exact nj
