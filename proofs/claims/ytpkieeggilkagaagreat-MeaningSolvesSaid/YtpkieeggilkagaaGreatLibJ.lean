/-
  Types of rules: a rule of any kind.
-/
import Derived.Test.YtpkieeggilkagaaGreatLibI
set_option linter.unusedSimpArgs false
set_option linter.unusedVariables false
set_option maxRecDepth 10000
set_option maxHeartbeats 4000000
namespace Go.Proofs.YtpkieeggilkagaaGreat
open Go.Ideal Kd
theorem zPo{d:Dcl}{r:Rul}{vh vs vr vc vu v1 v2:Value}(hc:d.clues.length≤4096)(hn1:r.names.length<9223372036854775808)(hn2:r.others.length<9223372036854775808)(hk:r.kind=5):zEF d r vh vs vr vc vu v1 v2:=by
 have hx:shpOf r.kind=⟨true,true,false,false,false,true,true,3⟩:=by rw[hk];rfl
 clear hk;exact zAj
theorem zPT{d:Dcl}{r:Rul}{vh vs vr vc vu v1 v2:Value}(hc:d.clues.length≤4096)(hn1:r.names.length<9223372036854775808)(hn2:r.others.length<9223372036854775808)(hk:r.kind=6):zEF d r vh vs vr vc vu v1 v2:=by
 have hx:shpOf r.kind=⟨false,false,false,false,false,true,true,0⟩:=by rw[hk];rfl
 clear hk;exact zAj
theorem zPV{d:Dcl}{r:Rul}{vh vs vr vc vu v1 v2:Value}(hc:d.clues.length≤4096)(hn1:r.names.length<9223372036854775808)(hn2:r.others.length<9223372036854775808)(hk:r.kind=7):zEF d r vh vs vr vc vu v1 v2:=by
 have hx:shpOf r.kind=⟨false,false,false,false,true,true,true,0⟩:=by rw[hk];rfl
 clear hk;exact zAj
theorem zPF{d:Dcl}{r:Rul}{vh vs vr vc vu v1 v2:Value}(hc:d.clues.length≤4096)(hn1:r.names.length<9223372036854775808)(hn2:r.others.length<9223372036854775808)(hk:r.kind=8):zEF d r vh vs vr vc vu v1 v2:=by
 have hx:shpOf r.kind=⟨false,true,true,false,false,true,true,0⟩:=by rw[hk];rfl
 clear hk;exact zAj
theorem zPA{d:Dcl}{r:Rul}{vh vs vr vc vu v1 v2:Value}(hc:d.clues.length≤4096)(hn1:r.names.length<9223372036854775808)(hn2:r.others.length<9223372036854775808)(hk:r.kind=9):zEF d r vh vs vr vc vu v1 v2:=by
 have hx:shpOf r.kind=⟨false,true,false,false,false,true,true,0⟩:=by rw[hk];rfl
 clear hk;exact zAj
end Go.Proofs.YtpkieeggilkagaaGreat
