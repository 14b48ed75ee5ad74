/- Part. -/
import Derived.Test.YtoilpafpgndilaaGreatLibYJ
set_option linter.all false
set_option maxRecDepth 10000
set_option maxHeartbeats 4000000
namespace Go.Proofs.YtoilpafpgndilaaGreat
open Go.Ideal Kd
variable{d:dQ}{r:dP}{vh vs vr vc vu v1 v2:ah}
def amJ(hc:d.bV.length<=4096)(hn1:r.names.length<2^63)(hn2:r.others.length<2^63)(hk:r.kind=10):vV d r vh vs vr vc vu v1 v2:=by
 exact mz
def amK(hc:d.bV.length<=4096)(hn1:r.names.length<2^63)(hn2:r.others.length<2^63)(hk:r.kind=11):vV d r vh vs vr vc vu v1 v2:=by
 have hx:jG r.kind=⟨false,false,false,false,false,true,true,1⟩:=tv
 clear hk;exact vW
def amL(hc:d.bV.length<=4096)(hn1:r.names.length<2^63)(hn2:r.others.length<2^63)(hk:r.kind=12):vV d r vh vs vr vc vu v1 v2:=by
 have hx:jG r.kind=⟨true,false,false,false,false,false,true,0⟩:=tv
 clear hk;exact vW
def amM(hc:d.bV.length<=4096)(hn1:r.names.length<2^63)(hn2:r.others.length<2^63)(hk:r.kind=13):vV d r vh vs vr vc vu v1 v2:=by
 have hx:jG r.kind=⟨false,false,false,true,false,false,true,0⟩:=tv
 clear hk;exact vW
def amN(hk:r.kind<1\/13<r.kind):
 fC Tryz.prog 343 [.agg ⟨oM d vh vs vr vc vu⟩,.agg ⟨vM r v1 v2⟩] [aj eZ vc d.bV,aj jR v1 r.names,aj jR v2 r.others] (λb:Bool=>.bool b) (λb=>b=true↔J4 (jG r.kind) d.bV r):=by
 have hs:jG r.kind=⟨false,false,false,false,false,false,false,0⟩:=by
  by_cases h0:r.kind=0
  .rw[h0];rfl
  .exact Og s6
 refine mq TS abv λB w0=>?_;refine go ?_;intro b2 b3;refine gC (TR (k:=r.kind)) λ_ _=>?_;rw[hs];dsimp only[TQ];refine go ?_;intro b5;refine go ?_;exact gQ false ⟨(λh=>by cases h),λh=>by have:=h.known;cases this⟩
def amO(hc:d.bV.length<=4096)(hn1:r.names.length<2^63)(hn2:r.others.length<2^63):
 fC Tryz.prog 343 [.agg ⟨oM d vh vs vr vc vu⟩,.agg ⟨vM r v1 v2⟩] [aj eZ vc d.bV,aj jR v1 r.names,aj jR v2 r.others] (λb:Bool=>.bool b) (λb=>b=true↔J4 (jG r.kind) d.bV r):=by
 by_cases h:r.kind<1\/13<r.kind
 .exact amN h
 have hcs:r.kind=1\/r.kind=2\/r.kind=3\/r.kind=4\/r.kind=5\/r.kind=6\/r.kind=7\/r.kind=8\/r.kind=9\/r.kind=10\/r.kind=11\/r.kind=12\/r.kind=13:=s6
 rcases hcs with h|h|h|h|h|h|h|h|h|h|h|h|h
 .exact amA hc hn1 hn2 h
 .exact amB hc hn1 hn2 h
 .exact amC hc hn1 hn2 h
 .exact amD hc hn1 hn2 h
 .exact amE hc hn1 hn2 h
 .exact amF hc hn1 hn2 h
 .exact amG hc hn1 hn2 h
 .exact amH hc hn1 hn2 h
 .exact amI hc hn1 hn2 h
 .exact amJ hc hn1 hn2 h
 .exact amK hc hn1 hn2 h
 .exact amL hc hn1 hn2 h
 .exact amM hc hn1 hn2 h
