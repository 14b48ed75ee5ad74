/-
  Types of rules: a rule of any kind.
-/
import Derived.Test.YtoohgkkmdnbnfaaGreatDoorLibHE
set_option linter.all false
set_option maxRecDepth 10000
set_option maxHeartbeats 4000000
namespace Go.Proofs.YtoohgkkmdnbnfaaGreatDoor
open Go.Ideal Kd
theorem acU{d:bR}{r:aW}{vh vs vr vc vu v1 v2:Value}(hc:d.bI.length<=4096)(hn1:r.names.length<9223372036854775808)(hn2:r.others.length<9223372036854775808)(hk:r.kind=10):o9 d r vh vs vr vc vu v1 v2:=by
 have hx:gU r.kind=⟨false,true,false,false,false,true,true,0⟩:=by rw[hk];rfl
 clear hk;exact pg
theorem acV{d:bR}{r:aW}{vh vs vr vc vu v1 v2:Value}(hc:d.bI.length<=4096)(hn1:r.names.length<9223372036854775808)(hn2:r.others.length<9223372036854775808)(hk:r.kind=11):o9 d r vh vs vr vc vu v1 v2:=by
 have hx:gU r.kind=⟨false,false,false,false,false,true,true,1⟩:=by rw[hk];rfl
 clear hk;exact pg
theorem acW{d:bR}{r:aW}{vh vs vr vc vu v1 v2:Value}(hc:d.bI.length<=4096)(hn1:r.names.length<9223372036854775808)(hn2:r.others.length<9223372036854775808)(hk:r.kind=12):o9 d r vh vs vr vc vu v1 v2:=by
 have hx:gU r.kind=⟨true,false,false,false,false,false,true,0⟩:=by rw[hk];rfl
 clear hk;exact pg
theorem acX{d:bR}{r:aW}{vh vs vr vc vu v1 v2:Value}(hc:d.bI.length<=4096)(hn1:r.names.length<9223372036854775808)(hn2:r.others.length<9223372036854775808)(hk:r.kind=13):o9 d r vh vs vr vc vu v1 v2:=by
 have hx:gU r.kind=⟨false,false,false,true,false,false,true,0⟩:=by rw[hk];rfl
 clear hk;exact pg
theorem acY{d:bR}{r:aW}{vh vs vr vc vu v1 v2:Value}(hk:r.kind<1\/13<r.kind):
 aV Tryz.prog (.func 258) [.agg ⟨jY d vh vs vr vc vu⟩,.agg ⟨jX r v1 v2⟩] [] [] [ai dH vc d.bI,ai bV v1 r.names,ai bV v2 r.others] (λb:Bool=>.bool b) (λ_=>[]) (λ_=>[]) (λb=>b=true↔Ba (gU r.kind) d.bI r):=by
 have hs:gU r.kind=⟨false,false,false,false,false,false,false,0⟩:=by
  by_cases h0:r.kind=0
  ·rw[h0];rfl
  ·exact F4 (by omega)
 refine aS KQ SQ λB w0=>?_;refine go ?_;intro b2 b3;refine go ?_;refine ax (KP (k:=r.kind)) (next:=λ_ _=>?_);rw[hs];dsimp only[KN];refine go ?_;intro b5;refine go ?_;exact aa false (hv:=rfl) (hp:=⟨(λh=>by cases h),λh=>by have:=h.known;cases this⟩)
theorem acZ{d:bR}{r:aW}{vh vs vr vc vu v1 v2:Value}(hc:d.bI.length<=4096)(hn1:r.names.length<9223372036854775808)(hn2:r.others.length<9223372036854775808):
 aV Tryz.prog (.func 258) [.agg ⟨jY d vh vs vr vc vu⟩,.agg ⟨jX r v1 v2⟩] [] [] [ai dH vc d.bI,ai bV v1 r.names,ai bV v2 r.others] (λb:Bool=>.bool b) (λ_=>[]) (λ_=>[]) (λb=>b=true↔Ba (gU r.kind) d.bI r):=by
 by_cases h:r.kind<1\/13<r.kind
 ·exact acY h
 have hcs:r.kind=1\/r.kind=2\/r.kind=3\/r.kind=4\/r.kind=5\/r.kind=6\/r.kind=7\/r.kind=8\/r.kind=9\/r.kind=10\/r.kind=11\/r.kind=12\/r.kind=13:=by omega
 rcases hcs with h|h|h|h|h|h|h|h|h|h|h|h|h
 ·exact acL hc hn1 hn2 h
 ·exact acM hc hn1 hn2 h
 ·exact acN hc hn1 hn2 h
 ·exact acO hc hn1 hn2 h
 ·exact acP hc hn1 hn2 h
 ·exact acQ hc hn1 hn2 h
 ·exact acR hc hn1 hn2 h
 ·exact acS hc hn1 hn2 h
 ·exact acT hc hn1 hn2 h
 ·exact acU hc hn1 hn2 h
 ·exact acV hc hn1 hn2 h
 ·exact acW hc hn1 hn2 h
 ·exact acX hc hn1 hn2 h
