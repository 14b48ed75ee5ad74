/-
  Part LibIR.
-/
import Derived.Test.YtpkieeggilkagaaGreatLibHR
set_option linter.all false
set_option maxRecDepth 10000
set_option maxHeartbeats 4000000
namespace Go.Proofs.YtpkieeggilkagaaGreat
open Go.Ideal Kd
theorem age{d:bG}{r:bB}{vh vs vr vc vu v1 v2:Value}(hc:d.aM.length<=4096)(hn1:r.names.length<9223372036854775808)(hn2:r.others.length<9223372036854775808)(hk:r.kind=10):rW d r vh vs vr vc vu v1 v2:=by
 have hx:fF r.kind=⟨false,true,false,false,false,true,true,0⟩:=by rw[hk];rfl
 clear hk;exact rX
theorem agf{d:bG}{r:bB}{vh vs vr vc vu v1 v2:Value}(hc:d.aM.length<=4096)(hn1:r.names.length<9223372036854775808)(hn2:r.others.length<9223372036854775808)(hk:r.kind=11):rW d r vh vs vr vc vu v1 v2:=by
 have hx:fF r.kind=⟨false,false,false,false,false,true,true,1⟩:=by rw[hk];rfl
 clear hk;exact rX
theorem agh{d:bG}{r:bB}{vh vs vr vc vu v1 v2:Value}(hc:d.aM.length<=4096)(hn1:r.names.length<9223372036854775808)(hn2:r.others.length<9223372036854775808)(hk:r.kind=12):rW d r vh vs vr vc vu v1 v2:=by
 have hx:fF r.kind=⟨true,false,false,false,false,false,true,0⟩:=by rw[hk];rfl
 clear hk;exact rX
theorem agi{d:bG}{r:bB}{vh vs vr vc vu v1 v2:Value}(hc:d.aM.length<=4096)(hn1:r.names.length<9223372036854775808)(hn2:r.others.length<9223372036854775808)(hk:r.kind=13):rW d r vh vs vr vc vu v1 v2:=by
 have hx:fF r.kind=⟨false,false,false,true,false,false,true,0⟩:=by rw[hk];rfl
 clear hk;exact rX
theorem agj{d:bG}{r:bB}{vh vs vr vc vu v1 v2:Value}(hk:r.kind<1\/13<r.kind):
 aV Tryz.prog (.func 264) [.agg ⟨gI d vh vs vr vc vu⟩,.agg ⟨gY r v1 v2⟩] [] [] [ah bI vc d.aM,ah bF v1 r.names,ah bF v2 r.others] (λb:Bool=>.bool b) (λ_=>[]) (λ_=>[]) (λb=>b=true↔uS (fF r.kind) d.aM r):=by
 have hs:fF r.kind=⟨false,false,false,false,false,false,false,0⟩:=by
  by_cases h0:r.kind=0
  ·rw[h0];rfl
  ·exact Df (by omega)
 refine aC Oz VK λB w0=>?_;refine go ?_;intro b2 b3;refine go ?_;refine aj (Oy (k:=r.kind)) (next:=λ_ _=>?_);rw[hs];dsimp only[Ox];refine go ?_;intro b5;refine go ?_;exact ae false (hv:=rfl) (hp:=⟨(λh=>by cases h),λh=>by have:=h.known;cases this⟩)
theorem agk{d:bG}{r:bB}{vh vs vr vc vu v1 v2:Value}(hc:d.aM.length<=4096)(hn1:r.names.length<9223372036854775808)(hn2:r.others.length<9223372036854775808):
 aV Tryz.prog (.func 264) [.agg ⟨gI d vh vs vr vc vu⟩,.agg ⟨gY r v1 v2⟩] [] [] [ah bI vc d.aM,ah bF v1 r.names,ah bF v2 r.others] (λb:Bool=>.bool b) (λ_=>[]) (λ_=>[]) (λb=>b=true↔uS (fF r.kind) d.aM r):=by
 by_cases h:r.kind<1\/13<r.kind
 ·exact agj h
 have hcs:r.kind=1\/r.kind=2\/r.kind=3\/r.kind=4\/r.kind=5\/r.kind=6\/r.kind=7\/r.kind=8\/r.kind=9\/r.kind=10\/r.kind=11\/r.kind=12\/r.kind=13:=by omega
 rcases hcs with h|h|h|h|h|h|h|h|h|h|h|h|h
 ·exact af5 hc hn1 hn2 h
 ·exact af6 hc hn1 hn2 h
 ·exact af7 hc hn1 hn2 h
 ·exact af8 hc hn1 hn2 h
 ·exact af9 hc hn1 hn2 h
 ·exact aga hc hn1 hn2 h
 ·exact agb hc hn1 hn2 h
 ·exact agc hc hn1 hn2 h
 ·exact agd hc hn1 hn2 h
 ·exact age hc hn1 hn2 h
 ·exact agf hc hn1 hn2 h
 ·exact agh hc hn1 hn2 h
 ·exact agi hc hn1 hn2 h
