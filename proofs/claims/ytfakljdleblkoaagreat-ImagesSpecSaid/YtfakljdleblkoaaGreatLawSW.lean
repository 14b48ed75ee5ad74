/-
  Part LawSW.
-/
import Derived.Test.YtfakljdleblkoaaGreatSaneAW
import Derived.Test.YtfakljdleblkoaaGreatLibADW
set_option linter.all false
set_option maxRecDepth 10000
set_option maxHeartbeats 4000000
namespace Go.Proofs.YtfakljdleblkoaaGreat
open Go.Ideal Kd Canon
variable{k:bS}{s t:List Int}{p:List Clue}
theorem aga.img{x:List Clue}(hK:eF k)(hk:nN k s t)(hQ:Ck k p)(hx:Cn (p.map (Vs k s t)) x):aga x:=by
 have hQx:=aj5 hK hk hQ hx;exact⟨by have:=hQx.len;omega,λg hg=>by have:=EG.ajm (hQx.right g hg);omega⟩
variable{grid:List Int}
theorem NV.img(hk:nN k s t)(hF:NV k grid):NV k (acN s t grid):=by
 have hG:=NV.gri hk hF;exact⟨by have:=hG.NZ;omega,λx hx=>by have:=hG.mem hx;omega⟩
variable{e e2:Int}
theorem aje.same(h:aje k s t grid e)(h2:aje k s t grid e2):e=e2:=by
 by_cases hK:eF k
 ·by_cases hk:nN k s t
  ·by_cases hf:NV k grid
   ·rw[h.ok hK hk hf,h2.ok hK hk hf]
   ·rw[h.nf hK hk hf,h2.nf hK hk hf]
  ·rw[h.ns hK hk,h2.ns hK hk]
 ·rw[h.nk hK,h2.nk hK]
theorem ajp.same(h:ajp k s t p e)(h2:ajp k s t p e2):e=e2:=by
 by_cases hK:eF k
 ·by_cases hk:nN k s t
  ·by_cases hf:Ck k p
   ·rw[h.ok hK hk hf,h2.ok hK hk hf]
   ·rw[h.np hK hk hf,h2.np hK hk hf]
  ·rw[h.ns hK hk,h2.ns hK hk]
 ·rw[h.nk hK,h2.nk hK]
theorem anm:dL Tryz.prog 25 [.slice none 0 0,.slice none 0 0] [] (.bool true):=by
 refine aH ajY aky λB w0=>?_;refine go ?_;refine oh ?_;refine go ?_;exact ah () (hv:=rfl) (hp:=trivial)
theorem ann{vh vs vr vc vu gh gc vn vl sc st vp vg:Value}(hB:Jp k)(hP:aga p)(hs:s.length<9223372036854775808)(ht:t.length<9223372036854775808)(hl:grid.length<9223372036854775808):
 dL Tryz.prog 5 [.agg ⟨lC k vh vs vr vc vu gh gc vn vl⟩,.agg ⟨[sc,st]⟩,.agg ⟨[vp]⟩,vg] (ai aaH vp p::ai ae vg grid::ai ae sc s::ai ae st t::ku k vh vs vr vc vu gh gc vn vl []) (.bool true):=by
 refine aH _ (aN 5) λB w0=>?_;dsimp only[ku];refine go ?_;intro b4 b5 b6;refine go ?_;refine ax aee (next:=λ_ _=>?_);refine go ?_;refine ax (al4 (k:=k) (p:=p) (grid:=grid) hB) (next:=λb hb=>?_);cases b with
 |false=>
  exact de
 |true=>
 obtain⟨xI,hpl,hgl⟩:=hb rfl;clear hb;have hS:=tC.of hB xI;refine go ?_;refine ax (agc (s:=s) (t:=t) (sc:=sc) (st:=st)) (next:=λb hb=>?_);cases b with
 |false=>
  exact de
 |true=>
 clear hb;refine go ?_;refine ax (amD (k:=k) (s:=s) (t:=t) (grid:=grid) hS hs ht hl) (next:=λy1 hy1=>?_);obtain⟨v9,e1⟩:=y1;dsimp only at hy1⊢;refine go ?_;refine ax (ank (k:=k) (s:=s) (t:=t) (grid:=grid) hS hs ht hl) (next:=λy2 hy2=>?_);obtain⟨v11,e2⟩:=y2;dsimp only at hy2⊢;obtain rfl:e1=e2:=hy1.1.same hy2.1;refine go ?_;refine ax (amK (k:=k) (s:=s) (t:=t) (p:=p) hS hP hs ht) (next:=λy3 hy3=>?_);obtain⟨v13,x,e3⟩:=y3;dsimp only at hy3⊢;refine go ?_;intro b13;refine go ?_;refine ax (anl (k:=k) (s:=s) (t:=t) (p:=p) hS hP hs ht) (next:=λy4 hy4=>?_);obtain⟨v15,y,e4⟩:=y4;dsimp only at hy4⊢;obtain rfl:e3=e4:=hy3.1.same hy4.1;refine go ?_;intro b15;refine go ?_;by_cases g0:e1=0
 ·subst g0;have hK:eF k:=Classical.byContradiction λh=>by have:=hy1.1.nk h;omega
  have hk:nN k s t:=Classical.byContradiction λh=>by have:=hy1.1.ns hK h;omega
  have hF:NV k grid:=Classical.byContradiction λh=>by have:=hy1.1.nf hK hk h;omega
  have hG:=NV.gri hk hF;have an9:=hG.NZ;have hn:=hK.Ao;refine fK (ai ae v9 (acN s t grid)) (λw hw=>hw (mQ ((0:Int)=0) (ai ae v9 (acN s t grid))) vm rfl) ?_;refine fK (ai ae v11 (acN s t grid)) (λw hw=>hw (mQ ((0:Int)=0) (ai ae v11 (acN s t grid))) vm rfl) ?_;refine ax (ajZ (xs:=acN s t grid) (ys:=acN s t grid) vj) (next:=λ_ _=>?_);rw[eY (rfl:acN s t grid=acN s t grid)];clear hK hk;exact cC
 ·obtain rfl:v9=.slice none 0 0:=hy1.2 g0;obtain rfl:v11=.slice none 0 0:=hy2.2 g0;refine ax anm (next:=λ_ _=>?_);refine go ?_;refine gG (λq0=>?_) (λq0=>?_)
  ·exact absurd rfl q0
  exact cC
