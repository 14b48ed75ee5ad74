/-
  Types of rules: a rule of any kind.
-/
import Derived.Test.YtpkieeggilkagaaGreatLibJ
set_option linter.unusedSimpArgs false
set_option linter.unusedVariables false
set_option maxRecDepth 10000
set_option maxHeartbeats 4000000
namespace Go.Proofs.YtpkieeggilkagaaGreat
open Go.Ideal Kd
theorem zL2{d:Dcl}{r:Rul}{vh vs vr vc vu v1 v2:Value}(hc:d.clues.length≤4096)(hn1:r.names.length<9223372036854775808)(hn2:r.others.length<9223372036854775808)(hk:r.kind=10):zEF d r vh vs vr vc vu v1 v2:=by
 have hx:shpOf r.kind=⟨false,true,false,false,false,true,true,0⟩:=by rw[hk];rfl
 clear hk;exact zAj
theorem zMM{d:Dcl}{r:Rul}{vh vs vr vc vu v1 v2:Value}(hc:d.clues.length≤4096)(hn1:r.names.length<9223372036854775808)(hn2:r.others.length<9223372036854775808)(hk:r.kind=11):zEF d r vh vs vr vc vu v1 v2:=by
 have hx:shpOf r.kind=⟨false,false,false,false,false,true,true,1⟩:=by rw[hk];rfl
 clear hk;exact zAj
theorem zMW{d:Dcl}{r:Rul}{vh vs vr vc vu v1 v2:Value}(hc:d.clues.length≤4096)(hn1:r.names.length<9223372036854775808)(hn2:r.others.length<9223372036854775808)(hk:r.kind=12):zEF d r vh vs vr vc vu v1 v2:=by
 have hx:shpOf r.kind=⟨true,false,false,false,false,false,true,0⟩:=by rw[hk];rfl
 clear hk;exact zAj
theorem zNa{d:Dcl}{r:Rul}{vh vs vr vc vu v1 v2:Value}(hc:d.clues.length≤4096)(hn1:r.names.length<9223372036854775808)(hn2:r.others.length<9223372036854775808)(hk:r.kind=13):zEF d r vh vs vr vc vu v1 v2:=by
 have hx:shpOf r.kind=⟨false,false,false,true,false,false,true,0⟩:=by rw[hk];rfl
 clear hk;exact zAj
theorem zOJ{d:Dcl}{r:Rul}{vh vs vr vc vu v1 v2:Value}(hk:r.kind<1∨13<r.kind):
 FnC Tryz.prog (.func 264) [.agg ⟨zGB d vh vs vr vc vu⟩,.agg ⟨zCG r v1 v2⟩] [] [] [fSl zAS vc d.clues,fSl zC0 v1 r.names,fSl zC0 v2 r.others] (fun b:Bool=>.bool b) (fun _=>[]) (fun _=>[]) (fun b=>b=true↔zSA (shpOf r.kind) d.clues r):=by
 have hs:shpOf r.kind=⟨false,false,false,false,false,false,false,0⟩:=by
  by_cases h0:r.kind=0
  ·rw[h0];rfl
  ·exact zDi (by omega)
 refine zE zIi f_ruleF fun B w0=>?_;refine go ?_;intro b2 b3;refine go ?_;refine zA (zGp (k:=r.kind)) (next:=fun _ _=>?_);rw[hs];dsimp only[zT5];refine go ?_;intro b5;refine go ?_;exact q_fin false (hv:=rfl) (hp:=⟨(fun h=>by cases h),fun h=>by have:=h.known;cases this⟩)
theorem zOe{d:Dcl}{r:Rul}{vh vs vr vc vu v1 v2:Value}(hc:d.clues.length≤4096)(hn1:r.names.length<9223372036854775808)(hn2:r.others.length<9223372036854775808):
 FnC Tryz.prog (.func 264) [.agg ⟨zGB d vh vs vr vc vu⟩,.agg ⟨zCG r v1 v2⟩] [] [] [fSl zAS vc d.clues,fSl zC0 v1 r.names,fSl zC0 v2 r.others] (fun b:Bool=>.bool b) (fun _=>[]) (fun _=>[]) (fun b=>b=true↔zSA (shpOf r.kind) d.clues r):=by
 by_cases h:r.kind<1∨13<r.kind
 ·exact zOJ h
 have hcs:r.kind=1∨r.kind=2∨r.kind=3∨r.kind=4∨r.kind=5∨r.kind=6∨r.kind=7∨r.kind=8∨r.kind=9∨r.kind=10∨r.kind=11∨r.kind=12∨r.kind=13:=by omega
 rcases hcs with h|h|h|h|h|h|h|h|h|h|h|h|h
 ·exact zPG hc hn1 hn2 h
 ·exact zOx hc hn1 hn2 h
 ·exact zOj hc hn1 hn2 h
 ·exact zPg hc hn1 hn2 h
 ·exact zPo hc hn1 hn2 h
 ·exact zPT hc hn1 hn2 h
 ·exact zPV hc hn1 hn2 h
 ·exact zPF hc hn1 hn2 h
 ·exact zPA hc hn1 hn2 h
 ·exact zL2 hc hn1 hn2 h
 ·exact zMM hc hn1 hn2 h
 ·exact zMW hc hn1 hn2 h
 ·exact zNa hc hn1 hn2 h
end Go.Proofs.YtpkieeggilkagaaGreat
