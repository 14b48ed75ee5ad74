/- Part. -/
import Derived.Test.YtignbinlipkmfaaGreatDoorLibACG
import Derived.Test.YtignbinlipkmfaaGreatDoorLibRG
import Derived.Test.YtignbinlipkmfaaGreatDoorSaneHG
set_option linter.all false
set_option maxRecDepth 10000
set_option maxHeartbeats 4000000
namespace Go.Proofs.YtignbinlipkmfaaGreatDoor
open Go.Ideal Kd Canon
theorem aqj{k:aZ}{vh vs vr vc vu gh gc vn vl:ah}(hB:CV k):
 eU Tryz.prog 6 [.agg ⟨oW k vh vs vr vc vu gh gc vn vl⟩] (Hl 6::jO k vh vs vr vc vu gh gc vn vl []) (.bool true):=by
 refine gB 6 λB w0=>?_;dsimp only[jO];refine gF ai gc k.grid.cells λag cg eg=>?_;subst eg;refine gF jH vs k.decl.symbols λwK cs1 es1=>?_;subst es1;refine go ?_;intro b1;refine gC ab3 λ_ _=>?_;refine gC (aau (k:=k) hB) λb hb=>?_;cases b with
 |false=>
  exact fH
 |true=>
 obtain⟨lN,hn16,hm4⟩:=hb rfl;clear hb;have hS:=tX.ofE hB lN;refine gC (aar (k:=k) hS) λy hy=>?_;obtain⟨v1,v2,G,cl,e⟩:=y;dsimp only at hy⊢;refine gF (az ai) v1 G λa1 c1 e1=>?_;subst e1;refine gF ai v2 cl λa2 c2 e2=>?_;subst e2;refine go ?_;intro b3;refine aP ?_ ?_<;>intro h1
 .obtain⟨rfl,rfl⟩:=hy.nil h1;exact fH
 have hz:e=0:=lV.1 h1;subst hz;have hK:bW k:=Classical.byContradiction λh=>by have:=hy.nk h;omega
 have hg:=hy.grk rfl;have hcl:=hg.xN.len;rw[hcl];refine aP ?_ ?_<;>intro h2
 .exact absurd rfl h2
 refine gN k.decl.symbols.length 42 (λj=>j<=k.decl.symbols.length) (bS _) ?_;intro j hj;refine aP ?_ ?_<;>intro h3
 rotate_left
 .exact fH
 refine gN j 46 (λi=>i<=j) (bS _) ?_;intro i hi;refine aP ?_ ?_<;>intro h4
 rotate_left
 .exact cR
 refine go ?_;have hl1:=jL k.grid.cells.length;have hxl:(mg k.decl.symbols.length j i).length=k.decl.symbols.length:=by unfold mg;rw[jD,jD,jL]
 refine jY (aoU (n:=k.grid.cells.length) p0) (next:=λw1 _=>?_);refine gF ai w1 (upTo' k.grid.cells.length) λa5 c5 e5=>?_;subst e5;refine gC (aoW (m:=k.decl.symbols.length) (i:=j) (j:=i) p0 p0 p0) λw2 _=>?_;refine gF ai w2 (mg k.decl.symbols.length j i) λa6 c6 e6=>?_;subst e6;refine gC (ZI (k:=k) (s:=upTo' k.grid.cells.length) (t:=mg k.decl.symbols.length j i) (sc:=.slice a5 (upTo' k.grid.cells.length).length c5) (st:=.slice a6 (mg k.decl.symbols.length j i).length c6) hS p0 p0) λy hy2=>?_;obtain⟨x,e⟩:=y;obtain⟨he,hx⟩:=hy2.ok hK;dsimp only at he hx;subst he;have hsm:=hg.xN.same (a:=j) (b:=i) p0 p0;refine go ?_;intro _ _ z1 hz1 _ _ z2 hz2;rw[jB hz1,jB hz2]at hsm;have Gm:x=decide (z1=z2):=by
  rw[Bu,hx,Zr hK p0 p0,nE,hsm]
 subst Gm;dsimp only;rw[show(decide (z1=z2)!=decide (z1=z2))=false by simp];refine go ?_;exact aY (i+1) p0 p0
