/-
  Part LawKK.
-/
import Derived.Test.YtfakljdleblkoaaGreatSaneCK
import Derived.Test.YtfakljdleblkoaaGreatLibACK
set_option linter.all false
set_option maxRecDepth 10000
set_option maxHeartbeats 4000000
namespace Go.Proofs.YtfakljdleblkoaaGreat
open Go.Ideal Kd Canon
theorem Fj.same{k:bS}{s t:List Int}{e e2:Int}(h:Fj k s t e)(h2:Fj k s t e2):e=e2:=by
 by_cases hK:eF k
 ·by_cases hk:nN k s t
  ·rw[h.ok hK hk,h2.ok hK hk]
  ·rw[h.ns hK hk,h2.ns hK hk]
 ·rw[h.nk hK,h2.nk hK]
theorem air{k:bS}{s t:List Int}{vh vs vr vc vu gh gc vn vl sc st:Value}(hB:Jp k)(hs:s.length<9223372036854775808)(ht:t.length<9223372036854775808):
 dL Tryz.prog 3 [.agg ⟨lC k vh vs vr vc vu gh gc vn vl⟩,.agg ⟨[sc,st]⟩] (ai ae sc s::ai ae st t::ku k vh vs vr vc vu gh gc vn vl []) (.bool true):=by
 refine aH _ (aN 3) λB w0=>?_;dsimp only[ku];refine go ?_;intro b2 b3;refine go ?_;refine ax aee (next:=λ_ _=>?_);refine go ?_;refine ax (agb (k:=k) hB) (next:=λb hb=>?_);cases b with
 |false=>
  refine go ?_;exact ah () (hv:=rfl) (hp:=trivial)
 |true=>
 have xI:=hb rfl;clear hb;have hS:=tC.of hB xI;refine go ?_;refine ax (agc (s:=s) (t:=t) (sc:=sc) (st:=st)) (next:=λb hb=>?_);cases b with
 |false=>
  refine go ?_;exact ah () (hv:=rfl) (hp:=trivial)
 |true=>
 clear hb;refine go ?_;refine ax (agQ (k:=k) (s:=s) (t:=t) hS hs ht) (next:=λe1 he1=>?_);refine go ?_;refine ax (aiq (k:=k) (s:=s) (t:=t) hS hs ht) (next:=λe2 he2=>?_);refine go ?_;refine ah () (hv:=?_) (hp:=trivial);exact congrArg Value.bool (eY (he1.same he2))
