/- Part. -/
import Derived.Test.YtignbinlipkmfaaGreatDoorLibYR
set_option linter.all false
set_option maxRecDepth 10000
set_option maxHeartbeats 4000000
namespace Go.Proofs.YtignbinlipkmfaaGreatDoor
open Go.Ideal Kd
variable{d:bK}{r:bE}{vh vs vr vc vu v1 v2:ah}
def aoQ(hc:d.aQ.length<=4096)(hn1:r.names.length<2^63)(hn2:r.others.length<2^63)(hk:r.kind=10):vN d r vh vs vr vc vu v1 v2:=by
 exact nw
def aoR(hc:d.aQ.length<=4096)(hn1:r.names.length<2^63)(hn2:r.others.length<2^63)(hk:r.kind=11):vN d r vh vs vr vc vu v1 v2:=by
 have hx:fK r.kind=⟨false,false,false,false,false,true,true,1⟩:=tP
 clear hk;exact vO
def aoS(hc:d.aQ.length<=4096)(hn1:r.names.length<2^63)(hn2:r.others.length<2^63)(hk:r.kind=12):vN d r vh vs vr vc vu v1 v2:=by
 have hx:fK r.kind=⟨true,false,false,false,false,false,true,0⟩:=tP
 clear hk;exact vO
def aoT(hc:d.aQ.length<=4096)(hn1:r.names.length<2^63)(hn2:r.others.length<2^63)(hk:r.kind=13):vN d r vh vs vr vc vu v1 v2:=by
 have hx:fK r.kind=⟨false,false,false,true,false,false,true,0⟩:=tP
 clear hk;exact vO
def aoU(hk:r.kind<1\/13<r.kind):
 fC Tryz.prog 234 [.agg ⟨iD d vh vs vr vc vu⟩,.agg ⟨mg r v1 v2⟩] [aj bZ vc d.aQ,aj aX v1 r.names,aj aX v2 r.others] (λb:Bool=>.bool b) (λb=>b=true↔yJ (fK r.kind) d.aQ r):=by
 have hs:fK r.kind=⟨false,false,false,false,false,false,false,0⟩:=by
  by_cases h0:r.kind=0
  .rw[h0];rfl
  .exact G6 tf
 refine jD Vg abY λB w0=>?_;refine go ?_;intro b2 b3;refine gC (Vf (k:=r.kind)) λ_ _=>?_;rw[hs];dsimp only[Ve];refine go ?_;intro b5;refine go ?_;exact gQ false ⟨(λh=>by cases h),λh=>by have:=h.known;cases this⟩
def aoV(hc:d.aQ.length<=4096)(hn1:r.names.length<2^63)(hn2:r.others.length<2^63):
 fC Tryz.prog 234 [.agg ⟨iD d vh vs vr vc vu⟩,.agg ⟨mg r v1 v2⟩] [aj bZ vc d.aQ,aj aX v1 r.names,aj aX v2 r.others] (λb:Bool=>.bool b) (λb=>b=true↔yJ (fK r.kind) d.aQ r):=by
 by_cases h:r.kind<1\/13<r.kind
 .exact aoU h
 have hcs:r.kind=1\/r.kind=2\/r.kind=3\/r.kind=4\/r.kind=5\/r.kind=6\/r.kind=7\/r.kind=8\/r.kind=9\/r.kind=10\/r.kind=11\/r.kind=12\/r.kind=13:=tf
 rcases hcs with h|h|h|h|h|h|h|h|h|h|h|h|h
 .exact aoH hc hn1 hn2 h
 .exact aoI hc hn1 hn2 h
 .exact aoJ hc hn1 hn2 h
 .exact aoK hc hn1 hn2 h
 .exact aoL hc hn1 hn2 h
 .exact aoM hc hn1 hn2 h
 .exact aoN hc hn1 hn2 h
 .exact aoO hc hn1 hn2 h
 .exact aoP hc hn1 hn2 h
 .exact aoQ hc hn1 hn2 h
 .exact aoR hc hn1 hn2 h
 .exact aoS hc hn1 hn2 h
 .exact aoT hc hn1 hn2 h
