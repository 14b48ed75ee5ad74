/- Part. -/
import Derived.Test.YtgimfpcgbmpkhaaGreatLibNV
import Derived.Test.YtgimfpcgbmpkhaaGreatLibIV
set_option linter.all false
set_option maxRecDepth 10000
set_option maxHeartbeats 4000000
namespace Go.Proofs.YtgimfpcgbmpkhaaGreat
open Go.Ideal Kd Canon Gph Vm
variable{k:aT}{p:ae Clue}
theorem aAM(hS:nU k)(hm:(mP k p).length<=4096)(hok:au2 (yO k p)):au4 (yO k p):=by
 have h1:=hok.PG;have h2:=hok.symbols;refine⟨ov,hS.aH.2,by show(mP k p).length<_;omega,λc hc=>?_⟩;have h:=hok.fine c hc;have h3:=h.len;have h4:=hok.cells;have h5:=h.au0;exact⟨by rcases h3 with h|h;omega;rw[h];simp,ov⟩
variable{grid:ae Int}
theorem av8(hK:bD k)(hQ:fE k p)(hF:lg k grid)(ZT:∀r∈k.decl.rules,nW k p grid r r.set.toNat r.other.toNat){i:Nat}{r:bF}(hr:k.decl.rules[i]? =some r):
 E5 k p grid r=true↔∀c∈mP k p,c.rule=(i:Int)->nu (yO k p) c grid=true:=by
 have hrm:=aV hr;have:=azd (i:=i) (q:=yO k p) hK hQ hrm (ZT r hrm) (by have:=hF.1;omega) rfl rfl;refine Iff.trans this ?_;constructor
 .intro h c hc e;obtain⟨j,r',h1,h2⟩:=asR.1 hc;have:=avg h2;have hj:j=i:=by omega
  subst hj;rw[hr]at h1;cases h1;exact h c h2
 .intro h c hc;exact h c (asR.2 ⟨i,r,hr,hc⟩) (avg hc)
theorem aAN(hK:bD k)(hQ:fE k p)(hF:lg k grid)(ZT:∀r∈k.decl.rules,nW k p grid r r.set.toNat r.other.toNat):
 jZ k p grid k.decl.rules=[]↔∀c∈mP k p,nu (yO k p) c grid=true:=by
 constructor
 .intro h c hc;obtain⟨j,r,h1,h2⟩:=asR.1 hc;cases hh:E5 k p grid r with
  |true=>exact(av8 hK hQ hF ZT h1).1 hh c hc (avg h2)
  |false=>
   have:((j:Nat):Int)∈jZ k p grid k.decl.rules:=avO.2 ⟨j,r,h1,rfl,hh⟩;rw[h]at this;cases this
 .intro h;rw[axO];intro x hx;obtain⟨j,r,h2,h1,h3⟩:=avO.1 hx;have:=(av8 hK hQ hF ZT h2).2 (λc hc _=>h c hc);rw[this]at h3;cases h3
def ab9:aT:=⟨⟨⟨⟨[]⟩⟩,0,0,0,0,[],[],[],[],[]⟩,⟨0,0,0,[],[]⟩,[],[]⟩
theorem aAO:¬bD ab9:=λh=>by
 have:=h.typ.lim.s0;simp[ab9]at this
theorem aAP:nU ab9:=by
 refine⟨⟨⟨by simp[ab9],by simp[ab9],by simp[ab9],by simp[ab9],by simp[ab9],by simp[ab9],r7⟩,by simp[ab9,mK],by simp[ab9,mK],r7⟩,⟨by simp[ab9,mK],by simp[ab9,mK],by simp[ab9],r7⟩,by simp[ab9],r7⟩
theorem aqG{α:Type}(E:Enc α)(w:Wd):(ay E (.slice none 0 0) []).p w:=.inl ⟨rfl,none,0,rfl,trivial⟩
theorem aAQ{fuel:Int}{vh vs vr vc vu gh gc vn vl vp vg:ah}(hB:E8 k)(hP:uf p)(hl:grid.length<2^63):
 dO Tryz.prog 3 [.agg ⟨jE k vh vs vr vc vu gh gc vn vl⟩,.agg ⟨[vp]⟩,vg,iV fuel] (ay bU vp p::ay aj vg grid::iO k vh vs vr vc vu gh gc vn vl []) (.bool true):=by
 refine gB 3 λB w0=>?_;dsimp only[iO];refine go ?_;intro b4 b5;refine gC (apr (k:=k) (p:=p) (grid:=grid) hB) λb hb=>?_;cases b with
 |false=>
  exact dH
 |true=>
 obtain⟨jH,hpl,hgl⟩:=hb rfl;clear hb;have hS:=nU.of hB jH;have hA:=P8 (grid:=grid) hS hP ov;refine gC (P6 (k:=k) (p:=p) (grid:=grid) hS hP hl hA) λy1 hy1=>?_;obtain⟨v9,e1⟩:=y1;obtain⟨hy1,axL⟩:=hy1;dsimp only at hy1 axL⊢;refine gC (Qr (k:=k) (p:=p) hS hP) λy2 hy2=>?_;obtain⟨ok2,e2,vv2,K3⟩:=y2;by_cases hz:e1=0
 rotate_left
 .have hv:=axL hz;subst hv;refine ars (ay aj (.slice none 0 0) []) (aqG _) ?_;refine ars (ay jO (.slice none 0 0) []) (aqG _) ?_;refine ars (ay lJ (.slice none 0 0) []) (aqG _) ?_;refine ars (ay eP (.slice none 0 0) []) (aqG _) ?_;refine ars (ay di (.slice none 0 0) []) (aqG _) ?_;refine ars (ay (aA aj) (.slice none 0 0) []) (aqG _) ?_;refine ars (ay (aA (aA aj)) (.slice none 0 0) []) (aqG _) ?_;have hmf:=acP (k:=ab9) (grid:=[]) (vh:=.slice none 0 0) (vs:=.slice none 0 0) (vr:=.slice none 0 0) (vc:=.slice none 0 0) (vu:=.slice none 0 0) (gh:=.slice none 0 0) (gc:=.slice none 0 0) (vn:=.slice none 0 0) (vl:=.slice none 0 0) (vg:=.slice none 0 0) aAP ox;dsimp only[ab9,jE,iO]at hmf;cases ok2<;>(dsimp only[cond];refine go ?_;intro b11;refine go ?_;refine rU rfl (λh2=>?_) (λh2=>absurd hz h2);refine go ?_;refine fH hmf (next:=λe3 h3=>?_);have h4:=h3.1 aAO;subst h4;refine go ?_;exact gQ () trivial)
 subst hz;have hK:bD k:=Classical.byContradiction λh=>by have:=hy1.nk h;omega
 have hF:lg k grid:=Classical.byContradiction λh=>by have:=hy1.nf hK h;omega
 have hQ:fE k p:=Classical.byContradiction λh=>by have:=hy1.np hK hF h;omega
 have ZT:=hA hK hF hQ;cases ok2 with
 |false=>
  have he2:e2=2:=by
   by_cases hm:(mP k p).length<=4096
   .have h1:e2=0:=hy2.ok hK hQ hm;have:=hy2.eq.2 h1;cases this
   .exact hy2.nl hK hQ ov
  subst he2;dsimp only[cond];refine go ?_;intro b11;exact dH
 |true=>
  have he2:e2=0:=hy2.eq.1 rfl;subst he2;have hm:(mP k p).length<=4096:=Classical.byContradiction λh=>by
   have:(0:Int)=2:=hy2.nl hK hQ ov;omega
  have hok:=azg hK hQ hm;have hps:=aAM hS hm hok;have hsz:=aAL jH hok;have hC:(yO k p).cells=(k.grid.cells.length:Int):=rfl;have hSy:(yO k p).symbols=(k.decl.symbols.length:Int):=rfl;obtain⟨ty,arQ⟩:=aAG hok hps hC hSy hsz;obtain⟨K,hK1,hrun⟩:=aAH (grid:=grid) hok hC hSy hF;have hcs:=axK hok hC hSy;have hbs:=awL (yO k p) grid 0 (yO k p).cons;have hbn:=aAN hK hQ hF ZT;generalize hbb:aoY (yO k p) grid 0 (yO k p).cons=b at hrun hbs;generalize hcc:jb k.grid.cells.length (j4 (yO k p) 0 0 (yO k p).cons)=cc at hK1 hcs;dsimp only[cond,LD,LF,List.cons_append,List.nil_append];refine fA (ay aj vv2 (yO k p).values) (λw hw=>hw (ay aj vv2 (gJ k)) ox) ?_;refine fA (ay qH K3 (yO k p).cons) (λw hw=>hw (ay qH K3 (mP k p)) ox) ?_;refine fA (ay (aA aj) vn (yO k p).aH) (λw hw=>hw (ay (aA aj) vn k.aH) ox) ?_;refine fA (ay aj v9 (jZ k p grid k.decl.rules)) (λw hw=>hw (lc ((0:Int)=0) (ay aj v9 (jZ k p grid k.decl.rules))) ox rfl) ?_;refine go ?_;intro b11;refine gC (ayK (q:=yO k p) (grid:=grid) hps hl) λy3 hy3=>?_;obtain⟨ok3,e3⟩:=y3;obtain⟨h3,h4⟩:=hy3.2.2 hok hF;dsimp only at h3 h4;subst h3;refine gC (azI (q:=yO k p) hok hps hsz) λy4 _=>?_;obtain⟨vt,vi⟩:=y4;dsimp only;rw[show axv (yO k p).cells (yO k p).symbols vv2 vn vt vi=apL k.grid.cells.length k.decl.symbols.length vv2 vn vt vi from rfl];refine go ?_;intro b15;refine gC (aAx (C:=k.grid.cells.length) (S:=k.decl.symbols.length) (vv:=vv2) (vn:=vn) (vt:=vt) (vi:=vi) arQ) λ_ _=>?_;rw[hcc];refine gC (atH (C:=k.grid.cells.length) (S:=k.decl.symbols.length) (fuel:=(cc:Int)) (vv:=vv2) (vn:=vn) (vt:=vt) (vi:=vi) (V:=[iV b,iV ((cc:Int) - K),iV 0]) hok hps hC hSy hF arQ hrun ov ov (by rw[if_neg ov])) λ_ _=>?_;generalize hls:jZ k p grid k.decl.rules=l1 at hbn⊢;have hmet:ok3=true↔∀c∈(yO k p).cons,amo (yO k p) c grid:=h4.trans ⟨λh c hc=>(av6 hok (hok.fine c hc) hF).1 (h c hc),λh c hc=>(av6 hok (hok.fine c hc) hF).2 (h c hc)⟩;have hlen:(l1.length=0)↔ok3=true:=by
   rw[h4,pU,hbn];exact Iff.rfl
  have hd:decide ((l1.length:Int)=0)=ok3:=by
   cases ok3 with
   |true=>exact eB (by have:=hlen.2 rfl;omega)
   |false=>exact dA (λh=>by have:=hlen.1 ov;cases this)
  have hd2:decide (b= -1)=ok3:=by
   rcases hbs with⟨h1,h2⟩|⟨j,c,h1,h2,h3⟩
   .rw[hmet.2 h2];exact eB h1
   .cases ok3 with
    |true=>exact absurd (hmet.1 rfl c (aV h1)) h2
    |false=>exact dA ov
  refine gH ?_ ?_<;>intro q1
  rotate_left
  .exfalso;omega
  refine aK ?_ ?_<;>intro q2
  .exfalso;omega
  refine go ?_;rw[hd];refine(dx rfl rfl (Go.Ideal.NQ (a:=ok3) (b:=ok3) rfl rfl rfl)).h ?_;rw[bne_self_eq_false];refine go ?_;rw[hd2];refine(dx rfl rfl (Go.Ideal.NQ (a:=ok3) (b:=ok3) rfl rfl rfl)).h ?_;rw[bne_self_eq_false];refine go ?_;cases ok3 with
  |true=>
   refine gH ?_ ?_<;>intro q5
   rotate_left
   .exact dH
   refine aK ?_ ?_<;>intro q6
   .exact dH
   refine go ?_;by_cases hfK:fuel<K
   .exact cS
   .refine fH (atH (C:=k.grid.cells.length) (S:=k.decl.symbols.length) (fuel:=fuel) (vv:=vv2) (vn:=vn) (vt:=vt) (vi:=vi) (V:=[iV b,iV (fuel - K),iV 0]) hok hps hC hSy hF arQ hrun ov ov (by rw[if_neg hfK])) (next:=λ_ _=>?_);exact dJ
  |false=>
   obtain⟨j,c,h1,h2,h3⟩:=hbs.resolve_left λh=>by have:=hmet.2 h.2;cases this
   rw[gq]at h3;subst h3;have hj:=(bz.1 h1).1;have hcm:c∈mP k p:=aV h1;have hmem:c.rule∈l1:=by
    obtain⟨i,r,g1,g2⟩:=asR.1 hcm;have g3:=avg g2;rw[<- hls,avO];refine⟨i,r,g1,g3,?_⟩;cases hh:E5 k p grid r with
    |false=>rfl
    |true=>exact absurd ((av6 hok (hok.fine c hcm) hF).1 ((av8 hK hQ hF ZT g1).1 hh c hcm g3)) h2
   have hl1:l1.length<2^63:=by
    rw[<- hls];have:=VF k p grid k.decl.rules;have:=jH.oP;omega
   refine gH ?_ ?_<;>intro q3
   rotate_left
   .exfalso;omega
   refine gX qH (xs:=(yO k p).cons) (k:=j) λ_ _ c' (yc:qH.Y) hc'=>?_;cases hc'.symm.trans h1;refine gC (ayZ (v:=v9) (xs:=l1) (x:=c.rule) hl1) λ_ _=>?_;rw[eB hmem];refine gH ?_ ?_<;>intro q5
   rotate_left
   .exact dH
   refine aK ?_ ?_<;>intro q6
   .exact dH
   refine go ?_;by_cases hfK:fuel<K
   .exact cS
   .refine fH (atH (C:=k.grid.cells.length) (S:=k.decl.symbols.length) (fuel:=fuel) (vv:=vv2) (vn:=vn) (vt:=vt) (vi:=vi) (V:=[iV (j:Int),iV (fuel - K),iV 0]) hok hps hC hSy hF arQ hrun ov ov (by rw[if_neg hfK])) (next:=λ_ _=>?_);exact dJ
