/-
  Types of rules: a rule of any kind.
-/
import Derived.Test.YtoohgkkmdnbnfaaGreatDoorLibFB
set_option linter.all false
set_option maxRecDepth 10000
set_option maxHeartbeats 4000000
namespace Go.Proofs.YtoohgkkmdnbnfaaGreatDoor
open Go.Ideal Kd
theorem acZ{d:bq}{r:bM}{vh vs vr vc vu v1 v2:Value}(hc:d.aF.length<=4096)(hn1:r.names.length<9223372036854775808)(hn2:r.others.length<9223372036854775808)(hk:r.kind=5):qh d r vh vs vr vc vu v1 v2:=by
 have hx:gz r.kind=⟨true,true,false,false,false,true,true,3⟩:=by rw[hk];rfl
 clear hk;exact qi
theorem ac0{d:bq}{r:bM}{vh vs vr vc vu v1 v2:Value}(hc:d.aF.length<=4096)(hn1:r.names.length<9223372036854775808)(hn2:r.others.length<9223372036854775808)(hk:r.kind=6):qh d r vh vs vr vc vu v1 v2:=by
 have hx:gz r.kind=⟨false,false,false,false,false,true,true,0⟩:=by rw[hk];rfl
 clear hk;exact qi
theorem ac3{d:bq}{r:bM}{vh vs vr vc vu v1 v2:Value}(hc:d.aF.length<=4096)(hn1:r.names.length<9223372036854775808)(hn2:r.others.length<9223372036854775808)(hk:r.kind=7):qh d r vh vs vr vc vu v1 v2:=by
 have hx:gz r.kind=⟨false,false,false,false,true,true,true,0⟩:=by rw[hk];rfl
 clear hk;exact qi
theorem ac4{d:bq}{r:bM}{vh vs vr vc vu v1 v2:Value}(hc:d.aF.length<=4096)(hn1:r.names.length<9223372036854775808)(hn2:r.others.length<9223372036854775808)(hk:r.kind=8):qh d r vh vs vr vc vu v1 v2:=by
 have hx:gz r.kind=⟨false,true,true,false,false,true,true,0⟩:=by rw[hk];rfl
 clear hk;exact qi
theorem ac5{d:bq}{r:bM}{vh vs vr vc vu v1 v2:Value}(hc:d.aF.length<=4096)(hn1:r.names.length<9223372036854775808)(hn2:r.others.length<9223372036854775808)(hk:r.kind=9):qh d r vh vs vr vc vu v1 v2:=by
 have hx:gz r.kind=⟨false,true,false,false,false,true,true,0⟩:=by rw[hk];rfl
 clear hk;exact qi
