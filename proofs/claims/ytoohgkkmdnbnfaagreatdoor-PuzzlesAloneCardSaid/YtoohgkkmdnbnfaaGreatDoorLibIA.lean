/-
  Types of rules: a rule of any kind.
-/
import Derived.Test.YtoohgkkmdnbnfaaGreatDoorLibHA
set_option linter.all false
set_option maxRecDepth 10000
set_option maxHeartbeats 4000000
namespace Go.Proofs.YtoohgkkmdnbnfaaGreatDoor
open Go.Ideal Kd
theorem afB{d:bE}{r:aU}{vh vs vr vc vu v1 v2:Value}(hc:d.aJ.length<=4096)(hn1:r.names.length<9223372036854775808)(hn2:r.others.length<9223372036854775808)(hk:r.kind=10):qQ d r vh vs vr vc vu v1 v2:=by
 have hx:fQ r.kind=⟨false,true,false,false,false,true,true,0⟩:=by rw[hk];rfl
 clear hk;exact qR
theorem afC{d:bE}{r:aU}{vh vs vr vc vu v1 v2:Value}(hc:d.aJ.length<=4096)(hn1:r.names.length<9223372036854775808)(hn2:r.others.length<9223372036854775808)(hk:r.kind=11):qQ d r vh vs vr vc vu v1 v2:=by
 have hx:fQ r.kind=⟨false,false,false,false,false,true,true,1⟩:=by rw[hk];rfl
 clear hk;exact qR
theorem afD{d:bE}{r:aU}{vh vs vr vc vu v1 v2:Value}(hc:d.aJ.length<=4096)(hn1:r.names.length<9223372036854775808)(hn2:r.others.length<9223372036854775808)(hk:r.kind=12):qQ d r vh vs vr vc vu v1 v2:=by
 have hx:fQ r.kind=⟨true,false,false,false,false,false,true,0⟩:=by rw[hk];rfl
 clear hk;exact qR
theorem afE{d:bE}{r:aU}{vh vs vr vc vu v1 v2:Value}(hc:d.aJ.length<=4096)(hn1:r.names.length<9223372036854775808)(hn2:r.others.length<9223372036854775808)(hk:r.kind=13):qQ d r vh vs vr vc vu v1 v2:=by
 have hx:fQ r.kind=⟨false,false,false,true,false,false,true,0⟩:=by rw[hk];rfl
 clear hk;exact qR
theorem afF{d:bE}{r:aU}{vh vs vr vc vu v1 v2:Value}(hk:r.kind<1\/13<r.kind):
 bi Tryz.prog (.func 258) [.agg ⟨gF d vh vs vr vc vu⟩,.agg ⟨iT r v1 v2⟩] [] [] [ah bM vc d.aJ,ah aR v1 r.names,ah aR v2 r.others] (λb:Bool=>.bool b) (λ_=>[]) (λ_=>[]) (λb=>b=true↔qP (fQ r.kind) d.aJ r):=by
 have hs:fQ r.kind=⟨false,false,false,false,false,false,false,0⟩:=by
  by_cases h0:r.kind=0
  ·rw[h0];rfl
  ·exact Ct (by omega)
 refine aK Ny UU λB w0=>?_;refine go ?_;intro b2 b3;refine go ?_;refine ax (Nw (k:=r.kind)) (next:=λ_ _=>?_);rw[hs];dsimp only[Nv];refine go ?_;intro b5;refine go ?_;exact ae false (hv:=rfl) (hp:=⟨(λh=>by cases h),λh=>by have:=h.known;cases this⟩)
theorem afG{d:bE}{r:aU}{vh vs vr vc vu v1 v2:Value}(hc:d.aJ.length<=4096)(hn1:r.names.length<9223372036854775808)(hn2:r.others.length<9223372036854775808):
 bi Tryz.prog (.func 258) [.agg ⟨gF d vh vs vr vc vu⟩,.agg ⟨iT r v1 v2⟩] [] [] [ah bM vc d.aJ,ah aR v1 r.names,ah aR v2 r.others] (λb:Bool=>.bool b) (λ_=>[]) (λ_=>[]) (λb=>b=true↔qP (fQ r.kind) d.aJ r):=by
 by_cases h:r.kind<1\/13<r.kind
 ·exact afF h
 have hcs:r.kind=1\/r.kind=2\/r.kind=3\/r.kind=4\/r.kind=5\/r.kind=6\/r.kind=7\/r.kind=8\/r.kind=9\/r.kind=10\/r.kind=11\/r.kind=12\/r.kind=13:=by omega
 rcases hcs with h|h|h|h|h|h|h|h|h|h|h|h|h
 ·exact afs hc hn1 hn2 h
 ·exact aft hc hn1 hn2 h
 ·exact afu hc hn1 hn2 h
 ·exact afv hc hn1 hn2 h
 ·exact afw hc hn1 hn2 h
 ·exact afx hc hn1 hn2 h
 ·exact afy hc hn1 hn2 h
 ·exact afz hc hn1 hn2 h
 ·exact afA hc hn1 hn2 h
 ·exact afB hc hn1 hn2 h
 ·exact afC hc hn1 hn2 h
 ·exact afD hc hn1 hn2 h
 ·exact afE hc hn1 hn2 h
