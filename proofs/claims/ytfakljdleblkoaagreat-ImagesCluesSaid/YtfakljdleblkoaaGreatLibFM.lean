/-
  Types of rules: shapes, what can be read.
-/
import Derived.Test.YtfakljdleblkoaaGreatLibYM
import Derived.Test.YtfakljdleblkoaaGreatLibWM
set_option linter.all false
set_option maxRecDepth 10000
set_option maxHeartbeats 4000000
namespace Go.Proofs.YtfakljdleblkoaaGreat
open Go.Ideal Kd
theorem ai7{d:dN}{r:bV}{vh vs vr vc vu v1 v2:Value}(hk:r.kind<1\/13<r.kind):
 aQ Tryz.prog (.func 298) [.agg ⟨mP d vh vs vr vc vu⟩,.agg ⟨jG r v1 v2⟩] [] [] [ah dX vc d.bI,ah ji v1 r.names,ah ji v2 r.others] (λb:Bool=>.bool b) (λ_=>[]) (λ_=>[]) (λb=>b=true↔Gl (ic r.kind) d.bI r):=by
 have hs:ic r.kind=⟨false,false,false,false,false,false,false,0⟩:=by
  by_cases h0:r.kind=0
  ·rw[h0];rfl
  ·exact KU (by omega)
 refine aK _ (aM 298) λB w0=>?_;refine go ?_;intro b2 b3;refine go ?_;refine ak (Qb (k:=r.kind)) (next:=λ_ _=>?_);rw[hs];dsimp only[Qa];refine go ?_;intro b5;refine go ?_;exact aj false (hv:=rfl) (hp:=⟨(λh=>by cases h),λh=>by have:=h.known;cases this⟩)
theorem ai8{d:dN}{r:bV}{vh vs vr vc vu v1 v2:Value}(hc:d.bI.length<=4096)(hn1:r.names.length<9223372036854775808)(hn2:r.others.length<9223372036854775808):
 aQ Tryz.prog (.func 298) [.agg ⟨mP d vh vs vr vc vu⟩,.agg ⟨jG r v1 v2⟩] [] [] [ah dX vc d.bI,ah ji v1 r.names,ah ji v2 r.others] (λb:Bool=>.bool b) (λ_=>[]) (λ_=>[]) (λb=>b=true↔Gl (ic r.kind) d.bI r):=by
 by_cases h:r.kind<1\/13<r.kind
 ·exact ai7 h
 have hcs:r.kind=1\/r.kind=2\/r.kind=3\/r.kind=4\/r.kind=5\/r.kind=6\/r.kind=7\/r.kind=8\/r.kind=9\/r.kind=10\/r.kind=11\/r.kind=12\/r.kind=13:=by omega
 rcases hcs with h|h|h|h|h|h|h|h|h|h|h|h|h
 ·exact aiU hc hn1 hn2 h
 ·exact aiV hc hn1 hn2 h
 ·exact aiW hc hn1 hn2 h
 ·exact aiX hc hn1 hn2 h
 ·exact aiY hc hn1 hn2 h
 ·exact aiZ hc hn1 hn2 h
 ·exact ai0 hc hn1 hn2 h
 ·exact ai1 hc hn1 hn2 h
 ·exact ai2 hc hn1 hn2 h
 ·exact ai3 hc hn1 hn2 h
 ·exact ai4 hc hn1 hn2 h
 ·exact ai5 hc hn1 hn2 h
 ·exact ai6 hc hn1 hn2 h
