/-
  Types of rules: a rule of any kind.
-/
import Derived.Test.YtoohgkkmdnbnfaaGreatDoorLibHF
set_option linter.all false
set_option maxRecDepth 10000
set_option maxHeartbeats 4000000
namespace Go.Proofs.YtoohgkkmdnbnfaaGreatDoor
open Go.Ideal Kd
theorem aeK{d:bD}{r:aS}{vh vs vr vc vu v1 v2:Value}(hc:d.aI.length<=4096)(hn1:r.names.length<9223372036854775808)(hn2:r.others.length<9223372036854775808)(hk:r.kind=10):qB d r vh vs vr vc vu v1 v2:=by
 have hx:fO r.kind=⟨false,true,false,false,false,true,true,0⟩:=by rw[hk];rfl
 clear hk;exact qC
theorem aeL{d:bD}{r:aS}{vh vs vr vc vu v1 v2:Value}(hc:d.aI.length<=4096)(hn1:r.names.length<9223372036854775808)(hn2:r.others.length<9223372036854775808)(hk:r.kind=11):qB d r vh vs vr vc vu v1 v2:=by
 have hx:fO r.kind=⟨false,false,false,false,false,true,true,1⟩:=by rw[hk];rfl
 clear hk;exact qC
theorem aeM{d:bD}{r:aS}{vh vs vr vc vu v1 v2:Value}(hc:d.aI.length<=4096)(hn1:r.names.length<9223372036854775808)(hn2:r.others.length<9223372036854775808)(hk:r.kind=12):qB d r vh vs vr vc vu v1 v2:=by
 have hx:fO r.kind=⟨true,false,false,false,false,false,true,0⟩:=by rw[hk];rfl
 clear hk;exact qC
theorem aeN{d:bD}{r:aS}{vh vs vr vc vu v1 v2:Value}(hc:d.aI.length<=4096)(hn1:r.names.length<9223372036854775808)(hn2:r.others.length<9223372036854775808)(hk:r.kind=13):qB d r vh vs vr vc vu v1 v2:=by
 have hx:fO r.kind=⟨false,false,false,true,false,false,true,0⟩:=by rw[hk];rfl
 clear hk;exact qC
theorem aeO{d:bD}{r:aS}{vh vs vr vc vu v1 v2:Value}(hk:r.kind<1\/13<r.kind):
 bz Tryz.prog (.func 258) [.agg ⟨gq d vh vs vr vc vu⟩,.agg ⟨iM r v1 v2⟩] [] [] [ah bJ vc d.aI,ah aR v1 r.names,ah aR v2 r.others] (λb:Bool=>.bool b) (λ_=>[]) (λ_=>[]) (λb=>b=true↔qA (fO r.kind) d.aI r):=by
 have hs:fO r.kind=⟨false,false,false,false,false,false,false,0⟩:=by
  by_cases h0:r.kind=0
  ·rw[h0];rfl
  ·exact BM (by omega)
 refine aK MV Ua λB w0=>?_;refine go ?_;intro b2 b3;refine go ?_;refine ax (MU (k:=r.kind)) (next:=λ_ _=>?_);rw[hs];dsimp only[MS];refine go ?_;intro b5;refine go ?_;exact ae false (hv:=rfl) (hp:=⟨(λh=>by cases h),λh=>by have:=h.known;cases this⟩)
theorem aeP{d:bD}{r:aS}{vh vs vr vc vu v1 v2:Value}(hc:d.aI.length<=4096)(hn1:r.names.length<9223372036854775808)(hn2:r.others.length<9223372036854775808):
 bz Tryz.prog (.func 258) [.agg ⟨gq d vh vs vr vc vu⟩,.agg ⟨iM r v1 v2⟩] [] [] [ah bJ vc d.aI,ah aR v1 r.names,ah aR v2 r.others] (λb:Bool=>.bool b) (λ_=>[]) (λ_=>[]) (λb=>b=true↔qA (fO r.kind) d.aI r):=by
 by_cases h:r.kind<1\/13<r.kind
 ·exact aeO h
 have hcs:r.kind=1\/r.kind=2\/r.kind=3\/r.kind=4\/r.kind=5\/r.kind=6\/r.kind=7\/r.kind=8\/r.kind=9\/r.kind=10\/r.kind=11\/r.kind=12\/r.kind=13:=by omega
 rcases hcs with h|h|h|h|h|h|h|h|h|h|h|h|h
 ·exact aeB hc hn1 hn2 h
 ·exact aeC hc hn1 hn2 h
 ·exact aeD hc hn1 hn2 h
 ·exact aeE hc hn1 hn2 h
 ·exact aeF hc hn1 hn2 h
 ·exact aeG hc hn1 hn2 h
 ·exact aeH hc hn1 hn2 h
 ·exact aeI hc hn1 hn2 h
 ·exact aeJ hc hn1 hn2 h
 ·exact aeK hc hn1 hn2 h
 ·exact aeL hc hn1 hn2 h
 ·exact aeM hc hn1 hn2 h
 ·exact aeN hc hn1 hn2 h
