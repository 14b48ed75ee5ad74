/-
  Part LibFX.
-/
import Derived.Test.YtoilpafpgndilaaGreatLibYX
set_option linter.all false
set_option maxRecDepth 10000
set_option maxHeartbeats 4000000
namespace Go.Proofs.YtoilpafpgndilaaGreat
open Go.Ideal Kd
theorem agq{d:bF}{r:bN}{vh vs vr vc vu v1 v2:Value}(hc:d.aJ.length<=4096)(hn1:r.names.length<9223372036854775808)(hn2:r.others.length<9223372036854775808)(hk:r.kind=10):si d r vh vs vr vc vu v1 v2:=by
 have hx:fM r.kind=⟨false,true,false,false,false,true,true,0⟩:=by rw[hk];rfl
 clear hk;exact sj
theorem agr{d:bF}{r:bN}{vh vs vr vc vu v1 v2:Value}(hc:d.aJ.length<=4096)(hn1:r.names.length<9223372036854775808)(hn2:r.others.length<9223372036854775808)(hk:r.kind=11):si d r vh vs vr vc vu v1 v2:=by
 have hx:fM r.kind=⟨false,false,false,false,false,true,true,1⟩:=by rw[hk];rfl
 clear hk;exact sj
theorem ags{d:bF}{r:bN}{vh vs vr vc vu v1 v2:Value}(hc:d.aJ.length<=4096)(hn1:r.names.length<9223372036854775808)(hn2:r.others.length<9223372036854775808)(hk:r.kind=12):si d r vh vs vr vc vu v1 v2:=by
 have hx:fM r.kind=⟨true,false,false,false,false,false,true,0⟩:=by rw[hk];rfl
 clear hk;exact sj
theorem agt{d:bF}{r:bN}{vh vs vr vc vu v1 v2:Value}(hc:d.aJ.length<=4096)(hn1:r.names.length<9223372036854775808)(hn2:r.others.length<9223372036854775808)(hk:r.kind=13):si d r vh vs vr vc vu v1 v2:=by
 have hx:fM r.kind=⟨false,false,false,true,false,false,true,0⟩:=by rw[hk];rfl
 clear hk;exact sj
theorem agu{d:bF}{r:bN}{vh vs vr vc vu v1 v2:Value}(hk:r.kind<1\/13<r.kind):
 bA Tryz.prog (.func 343) [.agg ⟨gB d vh vs vr vc vu⟩,.agg ⟨lV r v1 v2⟩] [] [] [ai bI vc d.aJ,ai bC v1 r.names,ai bC v2 r.others] (λb:Bool=>.bool b) (λ_=>[]) (λ_=>[]) (λb=>b=true↔wJ (fM r.kind) d.aJ r):=by
 have hs:fM r.kind=⟨false,false,false,false,false,false,false,0⟩:=by
  by_cases h0:r.kind=0
  ·rw[h0];rfl
  ·exact Dj (by omega)
 refine aM OB VX λB w0=>?_;refine go ?_;intro b2 b3;refine go ?_;refine ay (Oz (k:=r.kind)) (next:=λ_ _=>?_);rw[hs];dsimp only[Oy];refine go ?_;intro b5;refine go ?_;exact ah false (hv:=rfl) (hp:=⟨(λh=>by cases h),λh=>by have:=h.known;cases this⟩)
theorem agv{d:bF}{r:bN}{vh vs vr vc vu v1 v2:Value}(hc:d.aJ.length<=4096)(hn1:r.names.length<9223372036854775808)(hn2:r.others.length<9223372036854775808):
 bA Tryz.prog (.func 343) [.agg ⟨gB d vh vs vr vc vu⟩,.agg ⟨lV r v1 v2⟩] [] [] [ai bI vc d.aJ,ai bC v1 r.names,ai bC v2 r.others] (λb:Bool=>.bool b) (λ_=>[]) (λ_=>[]) (λb=>b=true↔wJ (fM r.kind) d.aJ r):=by
 by_cases h:r.kind<1\/13<r.kind
 ·exact agu h
 have hcs:r.kind=1\/r.kind=2\/r.kind=3\/r.kind=4\/r.kind=5\/r.kind=6\/r.kind=7\/r.kind=8\/r.kind=9\/r.kind=10\/r.kind=11\/r.kind=12\/r.kind=13:=by omega
 rcases hcs with h|h|h|h|h|h|h|h|h|h|h|h|h
 ·exact agf hc hn1 hn2 h
 ·exact agh hc hn1 hn2 h
 ·exact agi hc hn1 hn2 h
 ·exact agj hc hn1 hn2 h
 ·exact agk hc hn1 hn2 h
 ·exact agl hc hn1 hn2 h
 ·exact agm hc hn1 hn2 h
 ·exact agn hc hn1 hn2 h
 ·exact agp hc hn1 hn2 h
 ·exact agq hc hn1 hn2 h
 ·exact agr hc hn1 hn2 h
 ·exact ags hc hn1 hn2 h
 ·exact agt hc hn1 hn2 h
