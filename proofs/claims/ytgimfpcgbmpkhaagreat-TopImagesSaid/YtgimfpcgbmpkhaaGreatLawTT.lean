/- Part. -/
import Derived.Test.YtgimfpcgbmpkhaaGreatLibST
import Derived.Test.YtgimfpcgbmpkhaaGreatLibRT
import Derived.Test.YtgimfpcgbmpkhaaGreatLibQT
import Derived.Test.YtgimfpcgbmpkhaaGreatLibBT
set_option linter.all false
set_option maxRecDepth 10000
set_option maxHeartbeats 4000000
namespace Go.Proofs.YtgimfpcgbmpkhaaGreat
open Go.Ideal Kd Canon
def yX:Enc (ae Int×ae Int):=⟨2,ah×ah,λ_ v=>[v.1,v.2],λx v=>[ay aj v.1 x.1,ay aj v.2 x.2],λ_ _=>rfl⟩
theorem aeJ{w:Wd}{b:Nat}{u v:ae Int×ae Int}{a1 a2 c1 c2:ah}(h:(aX b 0 [a1,a2,c1,c2]).p w)(h1:(ay aj a1 u.1).p w)(h2:(ay aj a2 u.2).p w)(h3:(ay aj c1 v.1).p w)(h4:(ay aj c2 v.2).p w):(ay yX (.slice (some ⟨b,0,some 0⟩) 2 2) [u,v]).p w:=by
 obtain⟨cells,q1,q2⟩:=h;refine .inr ⟨b,0,0,2,cells,⟨rfl,bG _,.inl rfl⟩,q1,λk x hk=>?_⟩;match k,hk with
 |0,hk=>
  cases hk;refine⟨(a1,a2),λj y hj=>?_,λf hf=>?_⟩
  .have hjl:j<2:=(bz.1 hj).1;have:=q2 j y (by match j,hjl,hj with
    |0,_,hj=>exact hj
    |1,_,hj=>exact hj)
   rw[show 0+0*yX.n+j=0+j by omega];exact this
  .rcases dm.1 hf with rfl|hf
   .exact h1
   .rw[bR.1 hf];exact h2
 |1,hk=>
  cases hk;refine⟨(c1,c2),λj y hj=>?_,λf hf=>?_⟩
  .have hjl:j<2:=(bz.1 hj).1;have:=q2 (2+j) y (by match j,hjl,hj with
    |0,_,hj=>exact hj
    |1,_,hj=>exact hj)
   rw[show 0+1*yX.n+j=0+(2+j)by show 0+1*2+j=_;omega];exact this
  .rcases dm.1 hf with rfl|hf
   .exact h3
   .rw[bR.1 hf];exact h4
theorem QB{va vb:ah}{xs ys:ae Int}(h:xs=ys)(hl:xs.length<2^63):dO Tryz.prog 22 [va,vb] [ay aj va xs,ay aj vb ys] (.bool true):=by
 subst h;refine gB 22 λB w0=>?_;refine gF aj va xs λa1 c1 e1=>?_;subst e1;refine gF aj vb xs λa2 c2 e2=>?_;subst e2;refine aK ?_ ?_<;>intro h1
 .exact absurd rfl h1
 refine gN xs.length 5 (λk=>k<=xs.length) (bI _) ?_;intro k hk;refine aK ?_ ?_<;>intro h2
 .refine go ?_;intro _ _ x hx _ _ y hy;cases hx.symm.trans hy;refine aK ?_ ?_<;>intro h3
  .exact absurd rfl h3
  exact nB
 .exact dH
variable{k:aT}{s t:ae Int}{p:ae Clue}
theorem uf.LM{x:ae Clue}(hK:bD k)(hk:eU k s t)(hQ:fE k p)(hx:jG (p.map (gK k s t)) x):uf x:=by
 have xM:=Ld hK hk hQ hx;exact⟨by have:=xM.len;omega,λg hg=>by have:=mO.PG (xM.right g hg);omega⟩
variable{grid:ae Int}
theorem lg.LM(hk:eU k s t)(hF:lg k grid):lg k (jQ s t grid):=by
 have hG:=lg.nX hk hF;exact⟨by have:=hG.Bv;omega,λx hx=>by have:=hG.mem hx;omega⟩
theorem fE.QC(h:fE k p):short p:=λg hg=>by have:=mO.PG (h.right g hg);omega
theorem atG{a:Int}{vh vs vr vc vu gh gc vn vl sc st vp vg:ah}(hB:E8 k)(hP:uf p)(hs:s.length<2^63)(ht:t.length<2^63)(hl:grid.length<2^63):
 dO Tryz.prog 4 [.agg ⟨jE k vh vs vr vc vu gh gc vn vl⟩,.agg ⟨[vp]⟩,vg,.agg ⟨[sc,st]⟩,iV a] (ay bU vp p::ay aj vg grid::ay aj sc s::ay aj st t::iO k vh vs vr vc vu gh gc vn vl []) (.bool true):=by
 refine gB 4 λB w0=>?_;dsimp only[iO];refine gF jO vs k.decl.symbols λjg cs1 es1=>?_;subst es1;refine gF aj sc s λLP LQ es3=>?_;subst es3;refine gF aj st t λDK DL es4=>?_;subst es4;refine go ?_;intro b5 b6 b8;refine gC (apr (k:=k) (p:=p) (grid:=grid) (vh:=vh) (vs:=.slice jg k.decl.symbols.length cs1) hB) λb hb=>?_;cases b with
 |false=>
  exact dH
 |true=>
 obtain⟨jH,hpl,hgl⟩:=hb rfl;clear hb;have hS:=nU.of hB jH;refine gC (arG (k:=k) (vh:=vh) (vs:=.slice jg k.decl.symbols.length cs1) hB) λb hb=>?_;cases b with
 |false=>
  exact dH
 |true=>
 obtain⟨_,hn16,hm4⟩:=hb rfl;clear hb;refine gC (arN (s:=s) (t:=t) (sc:=.slice LP s.length LQ) (st:=.slice DK t.length DL)) λb hb=>?_;cases b with
 |false=>
  exact dH
 |true=>
 obtain⟨avF,avG⟩:=hb rfl;clear hb;refine gC (atE (k:=k) (vh:=vh) (vs:=.slice jg k.decl.symbols.length cs1) hS) λy hy=>?_;obtain⟨v1,v2,G,cl,e⟩:=y;dsimp only at hy⊢;refine gF (aA aj) v1 G λa1 c1 e1=>?_;subst e1;refine gF aj v2 cl λa2 c2 e2=>?_;subst e2;refine go ?_;intro b11;refine go ?_;by_cases h1:e=0
 rotate_left
 .refine gG ?_ ?_<;>intro q1
  .exact absurd h1 q1
  have h5:e=180\/e=2:=by
   by_cases hK:bD k
   .have:=hy.err hK;omega
   .exact .inl (hy.nk hK)
  rcases h5 with rfl|rfl
  .exact dH
  .exact dH
 subst h1;have hK:bD k:=Classical.byContradiction λh=>by have:=hy.nk h;omega
 have hg:=hy.grk rfl;have hcl:=hg.KI.len;obtain⟨l,hC,hperm,hlm⟩:=hy.aty rfl;have hGl:G.length<=4096:=by rw[hperm.length_eq];exact hlm
 have hG0:0<G.length:=List.length_pos_of_mem hg.Hy.one;refine aK ?_ ?_<;>intro h2
 .exfalso;omega
 refine go ?_;obtain⟨nu,hnu⟩:=arS a;refine(dx rfl rfl (xA (k:=.u64) (m:=(nu:Int)) (by kernel_rfl:Tryz.prog.underlying 3=some (.int .i64)) s8 rfl hnu)).h ?_;refine go ?_;refine(dx rfl rfl (xA (k:=.u64) (m:=(G.length:Int)) (by kernel_rfl:Tryz.prog.underlying 3=some (.int .i64)) s8 rfl (OC s6))).h ?_;refine go ?_;refine(dx rfl rfl (akO (a:=nu) (b:=G.length) rfl rfl hG0)).h ?_;refine go ?_;have hat:nu%G.length<G.length:=BN _ hG0;refine(dx rfl rfl (xA (k:=.i64) (m:=((nu%G.length:Nat):Int)) (by kernel_rfl:Tryz.prog.underlying 71=some (.int .u64)) s8 rfl (wrapN s6))).h ?_;refine gX (aA aj) (xs:=G) (k:=nu%G.length) (h1:=hat) λ_ _ s0 (vs':ah) hs0=>?_;have hsm:=aV hs0;have hsp:=hg.Hy.perm s0 hsm;have hsl0:=hsp.len;refine gF aj vs' s0 λLU cs2 es2=>?_;subst es2;refine go ?_;intro b13;refine fH (arO (n:=k.decl.symbols.length) s6) (next:=λw1 _=>?_);refine gF aj w1 (upTo' k.decl.symbols.length) λa5 c5 e5=>?_;subst e5;have pO:=kK k.decl.symbols.length;refine gC (arP (G:=G) (cl:=cl) (s:=s0) (t:=t) (vG:=.slice a1 G.length c1) (BA:=.slice a2 cl.length c2) (sc:=.slice LU s0.length cs2) (st:=.slice DK t.length DL) s6 s6 (λx hx=>by have:=(hg.Hy.perm x hx).len;omega) s6 s6) λb hb=>?_;cases b with
 |true=>
  obtain⟨g1,g2,_⟩:=hb.1 rfl;have hkp:eU k s0 t:=hg.both hK hsm ⟨by rw[<- hcl];exact g1,λv h0 h1=>(g2 v.toNat (aU t v) (qd h0 (by have:=g1.len;omega))).symm.trans (by rw[rR h0])⟩;clear hb;refine go ?_;intro BJ;refine gP BJ ?_;refine fA (ay yX (.slice (some ⟨BJ,0,some 0⟩) 2 2) [(s0,t),(s,t)]) (λw hw=>aeJ (hw (aX BJ 0 [.slice LU s0.length cs2,.slice DK t.length DL,.slice LP s.length LQ,.slice DK t.length DL]) s7) (hw (ay aj (.slice LU s0.length cs2) s0) s7) (hw (ay aj (.slice DK t.length DL) (t)) s7) (hw (ay aj (.slice LP s.length LQ) s) s7) (hw (ay aj (.slice DK t.length DL) t) s7)) ?_;generalize(Value.slice (some ⟨BJ,0,some 0⟩) 2 2)=vS;refine gF yX vS [(s0,t),(s,t)] λaS cS eS=>?_;subst eS;have hl2:([(s0,t),(s,t)]:ae (ae Int×ae Int)).length=2:=rfl;have WI:∀(j:Nat) σ τ,([(s0,t),(s,t)]:ae (ae Int×ae Int))[j]? =some (σ,τ)->(j=0->eU k σ τ)/\σ.length<=256/\τ.length<=256:=λj σ τ h=>by
   exact jt
  refine gN 2 102 (λj=>j<=2) (bI _) ?_;intro j hj;refine aK ?_ ?_<;>intro h3
  rotate_left
  .exact dH
  have hj2:j<2:=s6
  refine gX yX (xs:=[(s0,t),(s,t)]) (k:=j) (h1:=hj2) λ_ _ y (vy:ah×ah) hyj=>?_;obtain⟨σ,τ⟩:=y;obtain⟨vσ,vτ⟩:=vy;obtain⟨Ie,hσ,hτ⟩:=WI j σ τ hyj;dsimp only[yX];refine gF aj vσ σ λa7 c7 e7=>?_;subst e7;refine gF aj vτ τ λa8 c8 e8=>?_;subst e8;refine go ?_;intro b15;refine gC (Wj (k:=k) (s:=σ) (t:=τ) (vh:=vh) (vs:=.slice jg k.decl.symbols.length cs1) (sc:=.slice a7 σ.length c7) (st:=.slice a8 τ.length c8) hS s6 s6) λy1 hy1=>?_;obtain⟨ok1,e1⟩:=y1;obtain⟨he,hok⟩:=hy1.ok hK;dsimp only at he hok;subst he;by_cases hk:eU k σ τ
  rotate_left
  .exact cR
  exact bh
 |false=>
  have hkp:=hg.keep s0 hsm;clear hb;refine go ?_;intro BJ;refine gP BJ ?_;refine fA (ay yX (.slice (some ⟨BJ,0,some 0⟩) 2 2) [(s0,(upTo' k.decl.symbols.length)),(s,t)]) (λw hw=>aeJ (hw (aX BJ 0 [.slice LU s0.length cs2,.slice a5 (upTo' k.decl.symbols.length).length c5,.slice LP s.length LQ,.slice DK t.length DL]) s7) (hw (ay aj (.slice LU s0.length cs2) s0) s7) (hw (ay aj (.slice a5 (upTo' k.decl.symbols.length).length c5) ((upTo' k.decl.symbols.length))) s7) (hw (ay aj (.slice LP s.length LQ) s) s7) (hw (ay aj (.slice DK t.length DL) t) s7)) ?_;generalize(Value.slice (some ⟨BJ,0,some 0⟩) 2 2)=vS;refine gF yX vS [(s0,(upTo' k.decl.symbols.length)),(s,t)] λaS cS eS=>?_;subst eS;have hl2:([(s0,(upTo' k.decl.symbols.length)),(s,t)]:ae (ae Int×ae Int)).length=2:=rfl;have WI:∀(j:Nat) σ τ,([(s0,(upTo' k.decl.symbols.length)),(s,t)]:ae (ae Int×ae Int))[j]? =some (σ,τ)->(j=0->eU k σ τ)/\σ.length<=256/\τ.length<=256:=λj σ τ h=>by
   exact jt
  refine gN 2 102 (λj=>j<=2) (bI _) ?_;intro j hj;refine aK ?_ ?_<;>intro h3
  rotate_left
  .exact dH
  have hj2:j<2:=s6
  refine gX yX (xs:=[(s0,(upTo' k.decl.symbols.length)),(s,t)]) (k:=j) (h1:=hj2) λ_ _ y (vy:ah×ah) hyj=>?_;obtain⟨σ,τ⟩:=y;obtain⟨vσ,vτ⟩:=vy;obtain⟨Ie,hσ,hτ⟩:=WI j σ τ hyj;dsimp only[yX];refine gF aj vσ σ λa7 c7 e7=>?_;subst e7;refine gF aj vτ τ λa8 c8 e8=>?_;subst e8;refine go ?_;intro b15;refine gC (Wj (k:=k) (s:=σ) (t:=τ) (vh:=vh) (vs:=.slice jg k.decl.symbols.length cs1) (sc:=.slice a7 σ.length c7) (st:=.slice a8 τ.length c8) hS s6 s6) λy1 hy1=>?_;obtain⟨ok1,e1⟩:=y1;obtain⟨he,hok⟩:=hy1.ok hK;dsimp only at he hok;subst he;by_cases hk:eU k σ τ
  rotate_left
  .exact cR
  exact bh
