/-
  Types of rules: a rule of any kind.
-/
import Derived.Test.YtoohgkkmdnbnfaaGreatDoorLibHB
set_option linter.all false
set_option maxRecDepth 10000
set_option maxHeartbeats 4000000
namespace Go.Proofs.YtoohgkkmdnbnfaaGreatDoor
open Go.Ideal Kd
theorem ac6{d:bq}{r:bM}{vh vs vr vc vu v1 v2:Value}(hc:d.aF.length<=4096)(hn1:r.names.length<9223372036854775808)(hn2:r.others.length<9223372036854775808)(hk:r.kind=10):qh d r vh vs vr vc vu v1 v2:=by
 have hx:gz r.kind=⟨false,true,false,false,false,true,true,0⟩:=by rw[hk];rfl
 clear hk;exact qi
theorem ac7{d:bq}{r:bM}{vh vs vr vc vu v1 v2:Value}(hc:d.aF.length<=4096)(hn1:r.names.length<9223372036854775808)(hn2:r.others.length<9223372036854775808)(hk:r.kind=11):qh d r vh vs vr vc vu v1 v2:=by
 have hx:gz r.kind=⟨false,false,false,false,false,true,true,1⟩:=by rw[hk];rfl
 clear hk;exact qi
theorem ac8{d:bq}{r:bM}{vh vs vr vc vu v1 v2:Value}(hc:d.aF.length<=4096)(hn1:r.names.length<9223372036854775808)(hn2:r.others.length<9223372036854775808)(hk:r.kind=12):qh d r vh vs vr vc vu v1 v2:=by
 have hx:gz r.kind=⟨true,false,false,false,false,false,true,0⟩:=by rw[hk];rfl
 clear hk;exact qi
theorem ac9{d:bq}{r:bM}{vh vs vr vc vu v1 v2:Value}(hc:d.aF.length<=4096)(hn1:r.names.length<9223372036854775808)(hn2:r.others.length<9223372036854775808)(hk:r.kind=13):qh d r vh vs vr vc vu v1 v2:=by
 have hx:gz r.kind=⟨false,false,false,true,false,false,true,0⟩:=by rw[hk];rfl
 clear hk;exact qi
theorem ada{d:bq}{r:bM}{vh vs vr vc vu v1 v2:Value}(hk:r.kind<1\/13<r.kind):
 aZ Tryz.prog (.func 258) [.agg ⟨fO d vh vs vr vc vu⟩,.agg ⟨kF r v1 v2⟩] [] [] [ah bC vc d.aF,ah aN v1 r.names,ah aN v2 r.others] (λb:Bool=>.bool b) (λ_=>[]) (λ_=>[]) (λb=>b=true↔tY (gz r.kind) d.aF r):=by
 have hs:gz r.kind=⟨false,false,false,false,false,false,false,0⟩:=by
  by_cases h0:r.kind=0
  ·rw[h0];rfl
  ·exact Eg (by omega)
 refine aG Lx Sk λB w0=>?_;refine go ?_;intro b2 b3;refine go ?_;refine ak (Lv (k:=r.kind)) (next:=λ_ _=>?_);rw[hs];dsimp only[Lu];refine go ?_;intro b5;refine go ?_;exact aa false (hv:=rfl) (hp:=⟨(λh=>by cases h),λh=>by have:=h.known;cases this⟩)
theorem adb{d:bq}{r:bM}{vh vs vr vc vu v1 v2:Value}(hc:d.aF.length<=4096)(hn1:r.names.length<9223372036854775808)(hn2:r.others.length<9223372036854775808):
 aZ Tryz.prog (.func 258) [.agg ⟨fO d vh vs vr vc vu⟩,.agg ⟨kF r v1 v2⟩] [] [] [ah bC vc d.aF,ah aN v1 r.names,ah aN v2 r.others] (λb:Bool=>.bool b) (λ_=>[]) (λ_=>[]) (λb=>b=true↔tY (gz r.kind) d.aF r):=by
 by_cases h:r.kind<1\/13<r.kind
 ·exact ada h
 have hcs:r.kind=1\/r.kind=2\/r.kind=3\/r.kind=4\/r.kind=5\/r.kind=6\/r.kind=7\/r.kind=8\/r.kind=9\/r.kind=10\/r.kind=11\/r.kind=12\/r.kind=13:=by omega
 rcases hcs with h|h|h|h|h|h|h|h|h|h|h|h|h
 ·exact acV hc hn1 hn2 h
 ·exact acW hc hn1 hn2 h
 ·exact acX hc hn1 hn2 h
 ·exact acY hc hn1 hn2 h
 ·exact acZ hc hn1 hn2 h
 ·exact ac0 hc hn1 hn2 h
 ·exact ac3 hc hn1 hn2 h
 ·exact ac4 hc hn1 hn2 h
 ·exact ac5 hc hn1 hn2 h
 ·exact ac6 hc hn1 hn2 h
 ·exact ac7 hc hn1 hn2 h
 ·exact ac8 hc hn1 hn2 h
 ·exact ac9 hc hn1 hn2 h
