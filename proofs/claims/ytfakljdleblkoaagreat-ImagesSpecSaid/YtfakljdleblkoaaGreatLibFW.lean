/-
  Part LibFW.
-/
import Derived.Test.YtfakljdleblkoaaGreatLibYW
set_option linter.all false
set_option maxRecDepth 10000
set_option maxHeartbeats 4000000
namespace Go.Proofs.YtfakljdleblkoaaGreat
open Go.Ideal Kd
variable{d:bE}{r:bA}{vh vs vr vc vu v1 v2:Value}
theorem afC(hc:d.aJ.length<=4096)(hn1:r.names.length<9223372036854775808)(hn2:r.others.length<9223372036854775808)(hk:r.kind=10):rM d r vh vs vr vc vu v1 v2:=by
 exact qe
theorem afD(hc:d.aJ.length<=4096)(hn1:r.names.length<9223372036854775808)(hn2:r.others.length<9223372036854775808)(hk:r.kind=11):rM d r vh vs vr vc vu v1 v2:=by
 have hx:fH r.kind=⟨false,false,false,false,false,true,true,1⟩:=xo
 clear hk;exact rO
theorem afE(hc:d.aJ.length<=4096)(hn1:r.names.length<9223372036854775808)(hn2:r.others.length<9223372036854775808)(hk:r.kind=12):rM d r vh vs vr vc vu v1 v2:=by
 have hx:fH r.kind=⟨true,false,false,false,false,false,true,0⟩:=xo
 clear hk;exact rO
theorem afF(hc:d.aJ.length<=4096)(hn1:r.names.length<9223372036854775808)(hn2:r.others.length<9223372036854775808)(hk:r.kind=13):rM d r vh vs vr vc vu v1 v2:=by
 have hx:fH r.kind=⟨false,false,false,true,false,false,true,0⟩:=xo
 clear hk;exact rO
theorem afG(hk:r.kind<1\/13<r.kind):
 aU Tryz.prog (.func 298) [.agg ⟨gu d vh vs vr vc vu⟩,.agg ⟨jI r v1 v2⟩] [] [] [ai bP vc d.aJ,ai bD v1 r.names,ai bD v2 r.others] (λb:Bool=>.bool b) (λ_=>[]) (λ_=>[]) (λb=>b=true↔uJ (fH r.kind) d.aJ r):=by
 have hs:fH r.kind=⟨false,false,false,false,false,false,false,0⟩:=by
  by_cases h0:r.kind=0
  ·rw[h0];rfl
  ·exact Cx vj
 refine aH NM U0 λB w0=>?_;refine go ?_;intro b2 b3;refine go ?_;refine ax (NL (k:=r.kind)) (next:=λ_ _=>?_);rw[hs];dsimp only[NK];refine go ?_;intro b5;refine go ?_;exact ah false (hv:=rfl) (hp:=⟨(λh=>by cases h),λh=>by have:=h.known;cases this⟩)
theorem afH(hc:d.aJ.length<=4096)(hn1:r.names.length<9223372036854775808)(hn2:r.others.length<9223372036854775808):
 aU Tryz.prog (.func 298) [.agg ⟨gu d vh vs vr vc vu⟩,.agg ⟨jI r v1 v2⟩] [] [] [ai bP vc d.aJ,ai bD v1 r.names,ai bD v2 r.others] (λb:Bool=>.bool b) (λ_=>[]) (λ_=>[]) (λb=>b=true↔uJ (fH r.kind) d.aJ r):=by
 by_cases h:r.kind<1\/13<r.kind
 ·exact afG h
 have hcs:r.kind=1\/r.kind=2\/r.kind=3\/r.kind=4\/r.kind=5\/r.kind=6\/r.kind=7\/r.kind=8\/r.kind=9\/r.kind=10\/r.kind=11\/r.kind=12\/r.kind=13:=vj
 rcases hcs with h|h|h|h|h|h|h|h|h|h|h|h|h
 ·exact aft hc hn1 hn2 h
 ·exact afu hc hn1 hn2 h
 ·exact afv hc hn1 hn2 h
 ·exact afw hc hn1 hn2 h
 ·exact afx hc hn1 hn2 h
 ·exact afy hc hn1 hn2 h
 ·exact afz hc hn1 hn2 h
 ·exact afA hc hn1 hn2 h
 ·exact afB hc hn1 hn2 h
 ·exact afC hc hn1 hn2 h
 ·exact afD hc hn1 hn2 h
 ·exact afE hc hn1 hn2 h
 ·exact afF hc hn1 hn2 h
