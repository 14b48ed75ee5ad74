/- Part. -/
import Derived.Test.YtoilpafpgndilaaGreatLibYF
set_option linter.all false
set_option maxRecDepth 10000
set_option maxHeartbeats 4000000
namespace Go.Proofs.YtoilpafpgndilaaGreat
open Go.Ideal Kd
variable{d:bF}{r:bN}{vh vs vr vc vu v1 v2:vI}
def agq(hc:d.aJ.length<=4096)(hn1:r.names.length<2^63)(hn2:r.others.length<2^63)(hk:r.kind=10):si d r vh vs vr vc vu v1 v2:=by
 exact qn
def agr(hc:d.aJ.length<=4096)(hn1:r.names.length<2^63)(hn2:r.others.length<2^63)(hk:r.kind=11):si d r vh vs vr vc vu v1 v2:=by
 have hx:fM r.kind=⟨false,false,false,false,false,true,true,1⟩:=A2
 clear hk;exact sj
def ags(hc:d.aJ.length<=4096)(hn1:r.names.length<2^63)(hn2:r.others.length<2^63)(hk:r.kind=12):si d r vh vs vr vc vu v1 v2:=by
 have hx:fM r.kind=⟨true,false,false,false,false,false,true,0⟩:=A2
 clear hk;exact sj
def agt(hc:d.aJ.length<=4096)(hn1:r.names.length<2^63)(hn2:r.others.length<2^63)(hk:r.kind=13):si d r vh vs vr vc vu v1 v2:=by
 have hx:fM r.kind=⟨false,false,false,true,false,false,true,0⟩:=A2
 clear hk;exact sj
def agu(hk:r.kind<1\/13<r.kind):
 fC Tryz.prog 343 [.agg ⟨ahE d vh vs vr vc vu⟩,.agg ⟨lV r v1 v2⟩] [ai bI vc d.aJ,ai bC v1 r.names,ai bC v2 r.others] (λb:Bool=>.bool b) (λb=>b=true↔wJ (fM r.kind) d.aJ r):=by
 have hs:fM r.kind=⟨false,false,false,false,false,false,false,0⟩:=by
  by_cases h0:r.kind=0
  .rw[h0];rfl
  .exact Dj z7
 refine aM OB VX λB w0=>?_;refine go ?_;intro b2 b3;refine gC (Oz (k:=r.kind)) λ_ _=>?_;rw[hs];dsimp only[Oy];refine go ?_;intro b5;refine go ?_;exact gQ false ⟨(λh=>by cases h),λh=>by have:=h.known;cases this⟩
def agv(hc:d.aJ.length<=4096)(hn1:r.names.length<2^63)(hn2:r.others.length<2^63):
 fC Tryz.prog 343 [.agg ⟨ahE d vh vs vr vc vu⟩,.agg ⟨lV r v1 v2⟩] [ai bI vc d.aJ,ai bC v1 r.names,ai bC v2 r.others] (λb:Bool=>.bool b) (λb=>b=true↔wJ (fM r.kind) d.aJ r):=by
 by_cases h:r.kind<1\/13<r.kind
 .exact agu h
 have hcs:r.kind=1\/r.kind=2\/r.kind=3\/r.kind=4\/r.kind=5\/r.kind=6\/r.kind=7\/r.kind=8\/r.kind=9\/r.kind=10\/r.kind=11\/r.kind=12\/r.kind=13:=z7
 rcases hcs with h|h|h|h|h|h|h|h|h|h|h|h|h
 .exact agf hc hn1 hn2 h
 .exact agh hc hn1 hn2 h
 .exact agi hc hn1 hn2 h
 .exact agj hc hn1 hn2 h
 .exact agk hc hn1 hn2 h
 .exact agl hc hn1 hn2 h
 .exact agm hc hn1 hn2 h
 .exact agn hc hn1 hn2 h
 .exact agp hc hn1 hn2 h
 .exact agq hc hn1 hn2 h
 .exact agr hc hn1 hn2 h
 .exact ags hc hn1 hn2 h
 .exact agt hc hn1 hn2 h
