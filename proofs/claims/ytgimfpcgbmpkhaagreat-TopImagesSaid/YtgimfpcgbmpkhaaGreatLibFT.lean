/- Part. -/
import Derived.Test.YtgimfpcgbmpkhaaGreatLibYT
set_option linter.all false
set_option maxRecDepth 10000
set_option maxHeartbeats 4000000
namespace Go.Proofs.YtgimfpcgbmpkhaaGreat
open Go.Ideal Kd
variable{d:dR}{r:bF}{vh vs vr vc vu v1 v2:ah}
def aoo(hc:d.bT.length<=4096)(hn1:r.names.length<2^63)(hn2:r.others.length<2^63)(hk:r.kind=10):wF d r vh vs vr vc vu v1 v2:=by
 exact nj
def aop(hc:d.bT.length<=4096)(hn1:r.names.length<2^63)(hn2:r.others.length<2^63)(hk:r.kind=11):wF d r vh vs vr vc vu v1 v2:=by
 have hx:iU r.kind=⟨false,false,false,false,false,true,true,1⟩:=tw
 clear hk;exact wG
def aoq(hc:d.bT.length<=4096)(hn1:r.names.length<2^63)(hn2:r.others.length<2^63)(hk:r.kind=12):wF d r vh vs vr vc vu v1 v2:=by
 have hx:iU r.kind=⟨true,false,false,false,false,false,true,0⟩:=tw
 clear hk;exact wG
def aor(hc:d.bT.length<=4096)(hn1:r.names.length<2^63)(hn2:r.others.length<2^63)(hk:r.kind=13):wF d r vh vs vr vc vu v1 v2:=by
 have hx:iU r.kind=⟨false,false,false,true,false,false,true,0⟩:=tw
 clear hk;exact wG
def aos(hk:r.kind<1\/13<r.kind):
 fC Tryz.prog 331 [.agg ⟨oO d vh vs vr vc vu⟩,.agg ⟨jf r v1 v2⟩] [ay eP vc d.bT,ay ko v1 r.names,ay ko v2 r.others] (λb:Bool=>.bool b) (λb=>b=true↔Ia (iU r.kind) d.bT r):=by
 have hs:iU r.kind=⟨false,false,false,false,false,false,false,0⟩:=by
  by_cases h0:r.kind=0
  .rw[h0];rfl
  .exact PT s6
 refine l7 Vg acy λB w0=>?_;refine go ?_;intro b2 b3;refine gC (Vf (k:=r.kind)) λ_ _=>?_;rw[hs];dsimp only[Ve];refine go ?_;intro b5;refine go ?_;exact gQ false ⟨(λh=>by cases h),λh=>by have:=h.known;cases this⟩
def aot(hc:d.bT.length<=4096)(hn1:r.names.length<2^63)(hn2:r.others.length<2^63):
 fC Tryz.prog 331 [.agg ⟨oO d vh vs vr vc vu⟩,.agg ⟨jf r v1 v2⟩] [ay eP vc d.bT,ay ko v1 r.names,ay ko v2 r.others] (λb:Bool=>.bool b) (λb=>b=true↔Ia (iU r.kind) d.bT r):=by
 by_cases h:r.kind<1\/13<r.kind
 .exact aos h
 have hcs:r.kind=1\/r.kind=2\/r.kind=3\/r.kind=4\/r.kind=5\/r.kind=6\/r.kind=7\/r.kind=8\/r.kind=9\/r.kind=10\/r.kind=11\/r.kind=12\/r.kind=13:=s6
 rcases hcs with h|h|h|h|h|h|h|h|h|h|h|h|h
 .exact aof hc hn1 hn2 h
 .exact aog hc hn1 hn2 h
 .exact aoh hc hn1 hn2 h
 .exact aoi hc hn1 hn2 h
 .exact aoj hc hn1 hn2 h
 .exact aok hc hn1 hn2 h
 .exact aol hc hn1 hn2 h
 .exact aom hc hn1 hn2 h
 .exact aon hc hn1 hn2 h
 .exact aoo hc hn1 hn2 h
 .exact aop hc hn1 hn2 h
 .exact aoq hc hn1 hn2 h
 .exact aor hc hn1 hn2 h
