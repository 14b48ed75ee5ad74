/-
  Types of rules: a rule of any kind.
-/
import Derived.Test.YtoohgkkmdnbnfaaGreatDoorLibHD
set_option linter.all false
set_option maxRecDepth 10000
set_option maxHeartbeats 4000000
namespace Go.Proofs.YtoohgkkmdnbnfaaGreatDoor
open Go.Ideal Kd
theorem aeU{d:bF}{r:aQ}{vh vs vr vc vu v1 v2:Value}(hc:d.aJ.length<=4096)(hn1:r.names.length<9223372036854775808)(hn2:r.others.length<9223372036854775808)(hk:r.kind=10):qH d r vh vs vr vc vu v1 v2:=by
 have hx:fQ r.kind=⟨false,true,false,false,false,true,true,0⟩:=by rw[hk];rfl
 clear hk;exact qI
theorem aeV{d:bF}{r:aQ}{vh vs vr vc vu v1 v2:Value}(hc:d.aJ.length<=4096)(hn1:r.names.length<9223372036854775808)(hn2:r.others.length<9223372036854775808)(hk:r.kind=11):qH d r vh vs vr vc vu v1 v2:=by
 have hx:fQ r.kind=⟨false,false,false,false,false,true,true,1⟩:=by rw[hk];rfl
 clear hk;exact qI
theorem aeW{d:bF}{r:aQ}{vh vs vr vc vu v1 v2:Value}(hc:d.aJ.length<=4096)(hn1:r.names.length<9223372036854775808)(hn2:r.others.length<9223372036854775808)(hk:r.kind=12):qH d r vh vs vr vc vu v1 v2:=by
 have hx:fQ r.kind=⟨true,false,false,false,false,false,true,0⟩:=by rw[hk];rfl
 clear hk;exact qI
theorem aeX{d:bF}{r:aQ}{vh vs vr vc vu v1 v2:Value}(hc:d.aJ.length<=4096)(hn1:r.names.length<9223372036854775808)(hn2:r.others.length<9223372036854775808)(hk:r.kind=13):qH d r vh vs vr vc vu v1 v2:=by
 have hx:fQ r.kind=⟨false,false,false,true,false,false,true,0⟩:=by rw[hk];rfl
 clear hk;exact qI
theorem aeY{d:bF}{r:aQ}{vh vs vr vc vu v1 v2:Value}(hk:r.kind<1\/13<r.kind):
 bn Tryz.prog (.func 258) [.agg ⟨gD d vh vs vr vc vu⟩,.agg ⟨iQ r v1 v2⟩] [] [] [ah bM vc d.aJ,ah aT v1 r.names,ah aT v2 r.others] (λb:Bool=>.bool b) (λ_=>[]) (λ_=>[]) (λb=>b=true↔nQ (fQ r.kind) d.aJ r):=by
 have hs:fQ r.kind=⟨false,false,false,false,false,false,false,0⟩:=by
  by_cases h0:r.kind=0
  ·rw[h0];rfl
  ·exact BZ (by omega)
 refine aI Ni Uv λB w0=>?_;refine go ?_;intro b2 b3;refine go ?_;refine ax (Nh (k:=r.kind)) (next:=λ_ _=>?_);rw[hs];dsimp only[Ng];refine go ?_;intro b5;refine go ?_;exact ae false (hv:=rfl) (hp:=⟨(λh=>by cases h),λh=>by have:=h.known;cases this⟩)
theorem aeZ{d:bF}{r:aQ}{vh vs vr vc vu v1 v2:Value}(hc:d.aJ.length<=4096)(hn1:r.names.length<9223372036854775808)(hn2:r.others.length<9223372036854775808):
 bn Tryz.prog (.func 258) [.agg ⟨gD d vh vs vr vc vu⟩,.agg ⟨iQ r v1 v2⟩] [] [] [ah bM vc d.aJ,ah aT v1 r.names,ah aT v2 r.others] (λb:Bool=>.bool b) (λ_=>[]) (λ_=>[]) (λb=>b=true↔nQ (fQ r.kind) d.aJ r):=by
 by_cases h:r.kind<1\/13<r.kind
 ·exact aeY h
 have hcs:r.kind=1\/r.kind=2\/r.kind=3\/r.kind=4\/r.kind=5\/r.kind=6\/r.kind=7\/r.kind=8\/r.kind=9\/r.kind=10\/r.kind=11\/r.kind=12\/r.kind=13:=by omega
 rcases hcs with h|h|h|h|h|h|h|h|h|h|h|h|h
 ·exact aeL hc hn1 hn2 h
 ·exact aeM hc hn1 hn2 h
 ·exact aeN hc hn1 hn2 h
 ·exact aeO hc hn1 hn2 h
 ·exact aeP hc hn1 hn2 h
 ·exact aeQ hc hn1 hn2 h
 ·exact aeR hc hn1 hn2 h
 ·exact aeS hc hn1 hn2 h
 ·exact aeT hc hn1 hn2 h
 ·exact aeU hc hn1 hn2 h
 ·exact aeV hc hn1 hn2 h
 ·exact aeW hc hn1 hn2 h
 ·exact aeX hc hn1 hn2 h
