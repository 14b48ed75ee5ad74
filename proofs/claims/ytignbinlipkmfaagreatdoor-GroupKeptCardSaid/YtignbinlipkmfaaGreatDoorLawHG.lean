/- Part. -/
import Derived.Test.YtignbinlipkmfaaGreatDoorLibACG
import Derived.Test.YtignbinlipkmfaaGreatDoorLibRG
import Derived.Test.YtignbinlipkmfaaGreatDoorSaneHG
set_option linter.all false
set_option maxRecDepth 10000
set_option maxHeartbeats 4000000
namespace Go.Proofs.YtignbinlipkmfaaGreatDoor
open Go.Ideal Kd Canon
theorem aql{k:aZ}{a n:Int}{vh vs vr vc vu gh gc vn vl:ah}(hB:CV k):
 eU Tryz.prog 5 [.agg ⟨oW k vh vs vr vc vu gh gc vn vl⟩,iV a,iV n] (Hl 6::jO k vh vs vr vc vu gh gc vn vl []) (.bool true):=by
 refine gB 5 λB w0=>?_;dsimp only[jO];refine gF ai gc k.grid.cells λag cg eg=>?_;subst eg;refine gF jH vs k.decl.symbols λwK cs1 es1=>?_;subst es1;refine go ?_;intro b3;refine gC ab3 λ_ _=>?_;refine gC (aau (k:=k) hB) λb hb=>?_;cases b with
 |false=>
  exact fH
 |true=>
 obtain⟨lN,hn16,hm4⟩:=hb rfl;clear hb;have hS:=tX.ofE hB lN;refine gC (aar (k:=k) hS) λy hy=>?_;obtain⟨v1,v2,G,cl,e⟩:=y;dsimp only at hy⊢;refine gF (az ai) v1 G λa1 c1 e1=>?_;subst e1;refine gF ai v2 cl λa2 c2 e2=>?_;subst e2;refine go ?_;intro b7;refine go ?_;by_cases h1:e≠0
 .rw[fo h1];obtain⟨rfl,rfl⟩:=hy.nil h1;refine go ?_;exact oM () (hv:=by rw[fo h1];rfl) (hp:=trivial)
 have hz:e=0:=lV.1 h1;subst hz;have hK:bW k:=Classical.byContradiction λh=>by have:=hy.nk h;omega
 have hg:=hy.grk rfl;have hcl:=hg.xN.len;obtain⟨l,hC,hperm,hlm⟩:=hy.aoG rfl;have hGl:G.length<=4096:=by rw[hperm.length_eq];exact hlm
 have hG0:0<G.length:=Nk hg.EP.one;have hco:=hg.xN.ok;refine aP ?_ ?_<;>intro h2
 .exfalso;omega
 refine gN cl.length 37 (λj=>j<=cl.length) (bS _) ?_;intro j hj;refine aP ?_ ?_<;>intro h3
 .refine go ?_;intro _ _ x hx;have hcx:=hco.xN j p0;rw[jB hx]at hcx;obtain⟨c0,c1',c2'⟩:=hcx;obtain⟨cn,rfl⟩:=iQ c0;refine go ?_;rw[di (show¬((j:Int)<(cn:Int))by omega)];refine go ?_;intro _ _ z hz;rw[jB hz]at c2';subst c2';refine aP ?_ ?_<;>intro h4
  .exact absurd rfl h4
  exact cR
 obtain rfl:j=cl.length:=p0
 refine go ?_;obtain⟨nu,hnu⟩:=aay a;refine(bV rfl rfl (uM (k:=.u64) (m:=(nu:Int)) (by kernel_rfl:Tryz.prog.underlying 3=some (.int .i64)) qk rfl hnu)).h ?_;refine go ?_;refine(bV rfl rfl (uM (k:=.u64) (m:=(G.length:Int)) (by kernel_rfl:Tryz.prog.underlying 3=some (.int .i64)) qk rfl (KN p0))).h ?_;refine go ?_;refine(bV rfl rfl (Xd (a:=nu) (b:=G.length) rfl rfl hG0)).h ?_;refine go ?_;have hat:nu%G.length<G.length:=zM _ hG0;refine(bV rfl rfl (uM (k:=.i64) (m:=((nu%G.length:Nat):Int)) (by kernel_rfl:Tryz.prog.underlying 53=some (.int .u64)) qk rfl (wrapN p0))).h ?_;refine gX (az ai) (xs:=G) (k:=nu%G.length) (h1:=hat) λ_ _ s (vs':ah) hs=>?_;have hsm:=aV hs;have hsp:=hg.EP.perm s hsm;refine gF ai vs' s λas2 cs2 es2=>?_;subst es2;refine go ?_;intro b11;refine jY (ao2 (v:=.slice a2 cl.length c2) (cl:=cl) (n:=n) (m:=cl.length) rfl p0) (next:=λy ht=>?_);obtain⟨vt,t⟩:=y;dsimp only at ht⊢;have htl:=ht.p.len;have hsl:=hsp.len;refine gF ai vt t λat2 ct2 et2=>?_;subst et2;have hkp:=hg.both hK hsm (by rw[<- hcl];exact ht);have hhas:aav G cl s t:=⟨ht.p,λi x hx=>by
  have hil:=(aT.1 hx).1;have:=ht.c (i:Int) p0 p0;rw[jB hx]at this;exact this.symm,hsm⟩
 refine gC (ZI (k:=k) (s:=s) (t:=t) (sc:=.slice as2 s.length cs2) (st:=.slice at2 t.length ct2) hS p0 p0) λy hy2=>?_;obtain⟨x,e⟩:=y;obtain⟨he,hx⟩:=hy2.ok hK;dsimp only at he hx;subst he;obtain rfl:x=true:=hx.2 hkp;refine gC (aoR (G:=G) (cl:=cl) (s:=s) (t:=t) (vG:=.slice a1 G.length c1) (zF:=.slice a2 cl.length c2) (sc:=.slice as2 s.length cs2) (st:=.slice at2 t.length ct2) p0 p0 (λx hx=>by have:=(hg.EP.perm x hx).len;omega) p0 p0) λb hb=>?_;obtain rfl:b=true:=hb.2 hhas;exact fH
