/-
  Types of rules: a rule of any kind.
-/
import Derived.Test.YtoohgkkmdnbnfaaGreatDoorLibFE
set_option linter.all false
set_option maxRecDepth 10000
set_option maxHeartbeats 4000000
namespace Go.Proofs.YtoohgkkmdnbnfaaGreatDoor
open Go.Ideal Kd
theorem acP{d:bR}{r:aW}{vh vs vr vc vu v1 v2:Value}(hc:d.bI.length<=4096)(hn1:r.names.length<9223372036854775808)(hn2:r.others.length<9223372036854775808)(hk:r.kind=5):o9 d r vh vs vr vc vu v1 v2:=by
 have hx:gU r.kind=⟨true,true,false,false,false,true,true,3⟩:=by rw[hk];rfl
 clear hk;exact pg
theorem acQ{d:bR}{r:aW}{vh vs vr vc vu v1 v2:Value}(hc:d.bI.length<=4096)(hn1:r.names.length<9223372036854775808)(hn2:r.others.length<9223372036854775808)(hk:r.kind=6):o9 d r vh vs vr vc vu v1 v2:=by
 have hx:gU r.kind=⟨false,false,false,false,false,true,true,0⟩:=by rw[hk];rfl
 clear hk;exact pg
theorem acR{d:bR}{r:aW}{vh vs vr vc vu v1 v2:Value}(hc:d.bI.length<=4096)(hn1:r.names.length<9223372036854775808)(hn2:r.others.length<9223372036854775808)(hk:r.kind=7):o9 d r vh vs vr vc vu v1 v2:=by
 have hx:gU r.kind=⟨false,false,false,false,true,true,true,0⟩:=by rw[hk];rfl
 clear hk;exact pg
theorem acS{d:bR}{r:aW}{vh vs vr vc vu v1 v2:Value}(hc:d.bI.length<=4096)(hn1:r.names.length<9223372036854775808)(hn2:r.others.length<9223372036854775808)(hk:r.kind=8):o9 d r vh vs vr vc vu v1 v2:=by
 have hx:gU r.kind=⟨false,true,true,false,false,true,true,0⟩:=by rw[hk];rfl
 clear hk;exact pg
theorem acT{d:bR}{r:aW}{vh vs vr vc vu v1 v2:Value}(hc:d.bI.length<=4096)(hn1:r.names.length<9223372036854775808)(hn2:r.others.length<9223372036854775808)(hk:r.kind=9):o9 d r vh vs vr vc vu v1 v2:=by
 have hx:gU r.kind=⟨false,true,false,false,false,true,true,0⟩:=by rw[hk];rfl
 clear hk;exact pg
