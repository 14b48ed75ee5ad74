/- Part. -/
import Derived.Test.YtignbinlipkmfaaGreatDoorLibYK
set_option linter.all false
set_option maxRecDepth 10000
set_option maxHeartbeats 4000000
namespace Go.Proofs.YtignbinlipkmfaaGreatDoor
open Go.Ideal Kd
variable{d:bG}{r:bE}{vh vs vr vc vu v1 v2:ah}
def ajs(hc:d.aR.length<=4096)(hn1:r.names.length<2^63)(hn2:r.others.length<2^63)(hk:r.kind=10):tZ d r vh vs vr vc vu v1 v2:=by
 exact nj
def ajt(hc:d.aR.length<=4096)(hn1:r.names.length<2^63)(hn2:r.others.length<2^63)(hk:r.kind=11):tZ d r vh vs vr vc vu v1 v2:=by
 have hx:gy r.kind=⟨false,false,false,false,false,true,true,1⟩:=ua
 clear hk;exact uf
def aju(hc:d.aR.length<=4096)(hn1:r.names.length<2^63)(hn2:r.others.length<2^63)(hk:r.kind=12):tZ d r vh vs vr vc vu v1 v2:=by
 have hx:gy r.kind=⟨true,false,false,false,false,false,true,0⟩:=ua
 clear hk;exact uf
def ajv(hc:d.aR.length<=4096)(hn1:r.names.length<2^63)(hn2:r.others.length<2^63)(hk:r.kind=13):tZ d r vh vs vr vc vu v1 v2:=by
 have hx:gy r.kind=⟨false,false,false,true,false,false,true,0⟩:=ua
 clear hk;exact uf
def ajw(hk:r.kind<1\/13<r.kind):
 fC Tryz.prog 234 [.agg ⟨gW d vh vs vr vc vu⟩,.agg ⟨kL r v1 v2⟩] [aj bV vc d.aR,aj aV v1 r.names,aj aV v2 r.others] (λb:Bool=>.bool b) (λb=>b=true↔wM (gy r.kind) d.aR r):=by
 have hs:gy r.kind=⟨false,false,false,false,false,false,false,0⟩:=by
  by_cases h0:r.kind=0
  .rw[h0];rfl
  .exact Ei tr
 refine jH Qo XL λB w0=>?_;refine go ?_;intro b2 b3;refine gC (Qn (k:=r.kind)) λ_ _=>?_;rw[hs];dsimp only[Qm];refine go ?_;intro b5;refine go ?_;exact gQ false ⟨(λh=>by cases h),λh=>by have:=h.known;cases this⟩
def ajx(hc:d.aR.length<=4096)(hn1:r.names.length<2^63)(hn2:r.others.length<2^63):
 fC Tryz.prog 234 [.agg ⟨gW d vh vs vr vc vu⟩,.agg ⟨kL r v1 v2⟩] [aj bV vc d.aR,aj aV v1 r.names,aj aV v2 r.others] (λb:Bool=>.bool b) (λb=>b=true↔wM (gy r.kind) d.aR r):=by
 by_cases h:r.kind<1\/13<r.kind
 .exact ajw h
 have hcs:r.kind=1\/r.kind=2\/r.kind=3\/r.kind=4\/r.kind=5\/r.kind=6\/r.kind=7\/r.kind=8\/r.kind=9\/r.kind=10\/r.kind=11\/r.kind=12\/r.kind=13:=tr
 rcases hcs with h|h|h|h|h|h|h|h|h|h|h|h|h
 .exact ajj hc hn1 hn2 h
 .exact ajk hc hn1 hn2 h
 .exact ajl hc hn1 hn2 h
 .exact ajm hc hn1 hn2 h
 .exact ajn hc hn1 hn2 h
 .exact ajo hc hn1 hn2 h
 .exact ajp hc hn1 hn2 h
 .exact ajq hc hn1 hn2 h
 .exact ajr hc hn1 hn2 h
 .exact ajs hc hn1 hn2 h
 .exact ajt hc hn1 hn2 h
 .exact aju hc hn1 hn2 h
 .exact ajv hc hn1 hn2 h
