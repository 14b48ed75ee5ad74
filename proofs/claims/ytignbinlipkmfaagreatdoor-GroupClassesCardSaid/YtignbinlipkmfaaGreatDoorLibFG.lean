/- Part. -/
import Derived.Test.YtignbinlipkmfaaGreatDoorLibYG
set_option linter.all false
set_option maxRecDepth 10000
set_option maxHeartbeats 4000000
namespace Go.Proofs.YtignbinlipkmfaaGreatDoor
open Go.Ideal Kd
variable{d:dA}{r:dz}{vh vs vr vc vu v1 v2:ah}
def als(hc:d.bY.length<=4096)(hn1:r.names.length<2^63)(hn2:r.others.length<2^63)(hk:r.kind=10):tT d r vh vs vr vc vu v1 v2:=by
 exact ju
def alu(hc:d.bY.length<=4096)(hn1:r.names.length<2^63)(hn2:r.others.length<2^63)(hk:r.kind=11):tT d r vh vs vr vc vu v1 v2:=by
 have hx:iX r.kind=⟨false,false,false,false,false,true,true,1⟩:=rI
 clear hk;exact tV
def alv(hc:d.bY.length<=4096)(hn1:r.names.length<2^63)(hn2:r.others.length<2^63)(hk:r.kind=12):tT d r vh vs vr vc vu v1 v2:=by
 have hx:iX r.kind=⟨true,false,false,false,false,false,true,0⟩:=rI
 clear hk;exact tV
def alx(hc:d.bY.length<=4096)(hn1:r.names.length<2^63)(hn2:r.others.length<2^63)(hk:r.kind=13):tT d r vh vs vr vc vu v1 v2:=by
 have hx:iX r.kind=⟨false,false,false,true,false,false,true,0⟩:=rI
 clear hk;exact tV
def aly(hk:r.kind<1\/13<r.kind):
 fC Tryz.prog 234 [.agg ⟨mQ d vh vs vr vc vu⟩,.agg ⟨tJ r v1 v2⟩] [aA eX vc d.bY,aA dF v1 r.names,aA dF v2 r.others] (λb:Bool=>.bool b) (λb=>b=true↔Ii (iX r.kind) d.bY r):=by
 have hs:iX r.kind=⟨false,false,false,false,false,false,false,0⟩:=by
  by_cases h0:r.kind=0
  .rw[h0];rfl
  .exact L8 p0
 refine nZ Q5 YU λB w0=>?_;refine go ?_;intro b2 b3;refine gC (Q4 (k:=r.kind)) λ_ _=>?_;rw[hs];dsimp only[Q3];refine go ?_;intro b5;refine go ?_;exact gQ false ⟨(λh=>by cases h),λh=>by have:=h.known;cases this⟩
def alz(hc:d.bY.length<=4096)(hn1:r.names.length<2^63)(hn2:r.others.length<2^63):
 fC Tryz.prog 234 [.agg ⟨mQ d vh vs vr vc vu⟩,.agg ⟨tJ r v1 v2⟩] [aA eX vc d.bY,aA dF v1 r.names,aA dF v2 r.others] (λb:Bool=>.bool b) (λb=>b=true↔Ii (iX r.kind) d.bY r):=by
 by_cases h:r.kind<1\/13<r.kind
 .exact aly h
 have hcs:r.kind=1\/r.kind=2\/r.kind=3\/r.kind=4\/r.kind=5\/r.kind=6\/r.kind=7\/r.kind=8\/r.kind=9\/r.kind=10\/r.kind=11\/r.kind=12\/r.kind=13:=p0
 rcases hcs with h|h|h|h|h|h|h|h|h|h|h|h|h
 .exact ali hc hn1 hn2 h
 .exact alj hc hn1 hn2 h
 .exact alk hc hn1 hn2 h
 .exact alm hc hn1 hn2 h
 .exact aln hc hn1 hn2 h
 .exact alo hc hn1 hn2 h
 .exact alp hc hn1 hn2 h
 .exact alq hc hn1 hn2 h
 .exact alr hc hn1 hn2 h
 .exact als hc hn1 hn2 h
 .exact alu hc hn1 hn2 h
 .exact alv hc hn1 hn2 h
 .exact alx hc hn1 hn2 h
