/-
  Part Dict.
-/
import Derived.KernelRfl
set_option linter.all false
variable{p:Prop}
def be(h:p:=by
 have hjs:j<s.length:=by
  have:=G.fM.len (by unfold lM;simp[hcf]);omega
 refine go ?_;intro _ _ iz hiz;have hig:=jF hiz;obtain rfl:iz=(i:Int):=by
  have:=nC;unfold jc at this;rw[if_pos (by unfold lM;simp[hcf])]at this;omega
 refine gX (aA aj) (xs:=L) (k:=i) λ_ _ l2 (wI:ah) hl2=>?_;rw[G.hl']at hl2;obtain rfl:l'=l2:=Option.some.inj hl2;refine gC (Dp (a:=a9) (xs:=img s l) (ys:=l') (by rw[hil];omega)) λ_ _=>?_;refine gC (Ij (a:=a9) (xs:=img s l) (by rw[hil];omega)) λ_ _=>?_;generalize hxd:(((⟨(cn:Int),(i:Int),ed⟩,vg),iI s l l'):CE)=x;have hnx:(p.take (jj+1)).map (iM k s)=(p.take jj).map (iM k s)++[mU x]:=by
  rw[fq hg,bZ,kg,<- hxd,G.iM];rfl
 have hX:(bS++x::oI ((p.drop (jj+1)).map (iM k s))).map mU=p.map (iM k s):=by
  rw[bZ,iX,Qm,iW];conv=>rhs;rw[<- l5 (jj+1) p,bZ,hnx,fo]
  rfl
 have fQ:=hy _ dN _ _ hos hX;rw[show Iw x=[tK ⟨(cn:Int),(i:Int),ed⟩ vg,.bool (iI s l l')]by rw[<- hxd];rfl,show Fh x=[ay aj vg ed]by rw[<- hxd];rfl]at fQ;rw[bQ,bP]at fQ;have hrl:(img s l).reverse.length=(img s l).length:=FP;by_cases e0:img s l=l'
 .rw[eB e0];have htb:iI s l l'=false:=by unfold iI;simp[e0]
  rw[htb]at fQ;refine gC fQ λ_ _=>?_;cases hst:(step dN x).2 with
  |true=>
   have hs1:step dN x=((step dN x).1,true):=Prod.ext rfl hst;refine go ?_;refine aW (jj+1,bS++[x],(step dN x).1) (by show p.length - (jj+1)<p.length - jj;omega) ⟨by show jj+1<=_;omega,hok _ dN _ _ hos hX hst,?_,λrest=>?_⟩
   .show(bS++[x]).map mU=_;rw[bZ,kg,iW];exact hnx.symm
   .show cz step s0 (bS++[x]++rest)=_;rw[fo,hrun];show cz step dN (x::rest)=_;rw[cz,hs1]
  |false=>
   have hs1:step dN x=((step dN x).1,false):=Prod.ext rfl hst;have hr:=hrun (x::oI ((p.drop (jj+1)).map (iM k s)));rw[cz,hs1]at hr;dsimp only at hr;refine go ?_;exact gQ (bS++x::oI ((p.drop (jj+1)).map (iM k s))) hX (hk:=by rw[hr];first|exact aJ.all _|exact aJ.self _ _)
 .rw[dA e0];have htb:iI s l l'=decide ((img s l).reverse=l'):=by unfold iI;simp[e0]
  rw[htb]at fQ;refine gX (aA aj) (xs:=L) (k:=i) λ_ _ l3 (Lb:ah) hl3=>?_;rw[G.hl']at hl3;obtain rfl:l'=l3:=Option.some.inj hl3;refine go ?_;rw[<- hrl];refine fH (Dp (a:=a9) (xs:=(img s l).reverse) (ys:=l') (by rw[hrl,hil];omega)) (next:=λ_ _=>?_);refine gC fQ λ_ _=>?_;cases hst:(step dN x).2 with
  |true=>
   have hs1:step dN x=((step dN x).1,true):=Prod.ext rfl hst;refine go ?_;refine aW (jj+1,bS++[x],(step dN x).1) (by show p.length - (jj+1)<p.length - jj;omega) ⟨by show jj+1<=_;omega,hok _ dN _ _ hos hX hst,?_,λrest=>?_⟩
   .show(bS++[x]).map mU=_;rw[bZ,kg,iW];exact hnx.symm
   .show cz step s0 (bS++[x]++rest)=_;rw[fo,hrun];show cz step dN (x::rest)=_;rw[cz,hs1]
  |false=>
   have hs1:step dN x=((step dN x).1,false):=Prod.ext rfl hst;have hr:=hrun (x::oI ((p.drop (jj+1)).map (iM k s)));rw[cz,hs1]at hr;dsimp only at hr;refine go ?_;exact gQ (bS++x::oI ((p.drop (jj+1)).map (iM k s))) hX (hk:=by rw[hr];first|exact aJ.all _|exact aJ.self _ _)):p:=h
def bh(h:p:=by
 obtain rfl:ok1=true:=hok.2 hk;refine gH ?_ ?_<;>intro q1
 all_goals
  refine gC (Iu (k:=k) (s:=σ) (t:=τ) (grid:=grid) (vh:=vh) (vs:=.slice jg k.decl.symbols.length cs1) hS (by omega) (by omega) hl) λy3 hy3=>?_;obtain⟨v18,e3⟩:=y3;dsimp only at hy3⊢;refine gC (Iy (k:=k) (s:=σ) (t:=τ) (p:=p) (vh:=vh) (vs:=.slice jg k.decl.symbols.length cs1) hS hP (by omega) (by omega)) λy2 hy2=>?_;obtain⟨v20,x,e2⟩:=y2;dsimp only at hy2⊢;refine go ?_;intro b20;refine go ?_;have hA:=P8 (grid:=grid) hS hP (by omega);refine fH (P6 (k:=k) (p:=p) (grid:=grid) (vh:=vh) (vs:=.slice jg k.decl.symbols.length cs1) hS hP hl hA) (next:=λy4 hy4=>?_);obtain⟨v22,e4⟩:=y4;dsimp only at hy4⊢;refine go ?_;by_cases h4:e4=0
  rotate_left
  .refine rU rfl (λq4=>?_) (λq4=>absurd h4 q4);refine go ?_;have hno:e3≠0\/e2≠0:=by
    by_cases hF:lg k grid
    .by_cases hQ:fE k p
     .exact absurd (hy4.1.ok hK hF hQ) h4
     .exact .inr (by have:=hy2.1.np hK hk hQ;omega)
    .exact .inl (by have:=hy3.1.nf hK hk hF;omega)
   by_cases h5:e3=0
   .subst h5;have h6:e2≠0:=hno.resolve_left (λh=>h rfl);refine aK (λq6=>absurd q6 h6) (λq6=>?_);refine go ?_;exact aW (j+1) (by omega) (by omega)
   .refine gG ?_ ?_<;>intro q6
    .refine go ?_;exact aW (j+1) (by omega) (by omega)
    .exact absurd q6 h5
  subst h4;have hF:lg k grid:=Classical.byContradiction λh=>by have:=hy4.1.nf hK h;omega
  have hQ:fE k p:=Classical.byContradiction λh=>by have:=hy4.1.np hK hF h;omega
  obtain rfl:e3=0:=hy3.1.ok hK hk hF;obtain rfl:e2=0:=hy2.1.ok hK hk hQ;have hx:=hy2.2.1 rfl;have xM:=Ld hK hk hQ hx;have BK:=uf.LM hK hk hQ hx;have hG:=lg.nX hk hF;have Fw:=lg.LM hk hF;have atJ:=hG.Bv;have hn:=hK.tT;have hA2:=P8 (k:=k) (p:=x) (grid:=jQ σ τ grid) hS BK (by omega);have hbe:=ado hK hk hG hQ hx;have hbl:=VF k p grid k.decl.rules;have hrl:=jH.oP;refine fA (ay aj v22 (jZ k p grid k.decl.rules)) (λw hw=>hw (lc ((0:Int)=0) (ay aj v22 (jZ k p grid k.decl.rules))) (by simp) rfl) ?_;refine fA (ay bU v20 x) (λw hw=>hw (lc ((0:Int)=0) (ay bU v20 x)) (by simp) rfl) ?_;refine fA (ay aj v18 (jQ σ τ grid)) (λw hw=>hw (lc ((0:Int)=0) (ay aj v18 (jQ σ τ grid))) (by simp) rfl) ?_;refine gC (P6 (k:=k) (p:=x) (grid:=jQ σ τ grid) (vh:=vh) (vs:=.slice jg k.decl.symbols.length cs1) hS BK (by omega) hA2) λy5 WJ=>?_;obtain⟨v24,e5⟩:=y5;obtain rfl:e5=0:=WJ.1.ok hK Fw xM;dsimp only[List.cons_append,List.nil_append];refine fA (ay aj v24 (jZ k p grid k.decl.rules)) (λw hw=>by rw[<- hbe];exact hw (lc ((0:Int)=0) (ay aj v24 (jZ k x (jQ σ τ grid) k.decl.rules))) (by simp) rfl) ?_;refine gC (QB (xs:=jZ k p grid k.decl.rules) (ys:=jZ k p grid k.decl.rules) rfl (by omega)) λ_ _=>?_;refine go ?_;have hcc:=ad1 hK hk hQ hx;have hc4:=LG (p:=p) hK hn16;have hc5:=LG (p:=x) hK hn16;refine fH (Qr (k:=k) (p:=p) (vh:=vh) (vs:=.slice jg k.decl.symbols.length cs1) hS hP) (next:=λy6 WK=>?_);obtain⟨z6,LV⟩:=Qs hK hQ hn16 WK;obtain⟨o6,e6,vv6,WL⟩:=y6;dsimp only at z6 LV;subst z6;subst LV;dsimp only[LD,LF,cond,List.cons_append,List.nil_append];refine gF qH WL (mP k p) λa9 c9 e9=>?_;subst e9;refine go ?_;intro b26;refine gC (Qr (k:=k) (p:=x) (vh:=vh) (vs:=.slice jg k.decl.symbols.length cs1) hS BK) λy7 WM=>?_;obtain⟨z7,LW⟩:=Qs hK xM hn16 WM;obtain⟨o7,e7,vv7,WN⟩:=y7;dsimp only at z7 LW;subst z7;subst LW;dsimp only[LD,LF,cond,List.cons_append,List.nil_append];refine gF qH WN (mP k x) λa10 c10 e10=>?_;subst e10;rw[hcc];refine go ?_;intro b28;refine aK ?_ ?_<;>intro h8
  .exact absurd rfl h8
  refine go ?_;have hsl:=hk.pc.len;have htl:=hk.ps.len;have hi1:yQ σ:=⟨by omega,by rw[hsl];exact hk.pc⟩
  have hi2:yQ τ:=⟨by omega,by rw[htl];exact hk.ps⟩
  have hki:=hk.inv hK;have hsi:(bX σ).length=σ.length:=xD σ;have hti:(bX τ).length=τ.length:=xD τ;refine fH (adM (s:=σ) (t:=τ) (by omega) (by omega)) (next:=λy8 WO=>?_);obtain⟨ok0,c0,s9⟩:=y8;obtain rfl:ok0=true:=WO.2 ⟨hi1,hi2⟩;dsimp only[Lv,Dv,cond,List.cons_append,List.nil_append];refine gF aj c0 (bX σ) λac cc ec=>?_;subst ec;refine gF aj s9 (bX τ) λas0 cs0 es0=>?_;subst es0;refine go ?_;intro b30;refine gC (Iy (k:=k) (s:=bX σ) (t:=bX τ) (p:=x) (vh:=vh) (vs:=.slice jg k.decl.symbols.length cs1) hS BK (by omega) (by omega)) λy9 LX=>?_;obtain⟨v32,z,e9⟩:=y9;obtain rfl:e9=0:=LX.1.ok hK hki xM;have hap:=adv hK hk hQ hx (LX.2.1 rfl);dsimp only at hap⊢;subst hap;refine fA (ay bU v32 z) (λw hw=>hw (lc ((0:Int)=0) (ay bU v32 z)) (by simp) rfl) ?_;refine go ?_;intro b32;refine gC (Iu (k:=k) (s:=bX σ) (t:=bX τ) (grid:=jQ σ τ grid) (vh:=vh) (vs:=.slice jg k.decl.symbols.length cs1) hS (by omega) (by omega) (by omega)) λWQ WS=>?_;obtain⟨v34,e10⟩:=WQ;obtain rfl:e10=0:=WS.1.ok hK hki Fw;have hgb:jQ (bX σ) (bX τ) (jQ σ τ grid)=grid:=(lg.nX hki Fw).uniq hG.back;dsimp only;refine fA (ay aj v34 grid) (λw hw=>by have:=hw (lc ((0:Int)=0) (ay aj v34 (jQ (bX σ) (bX τ) (jQ σ τ grid)))) (by simp) rfl;rwa [hgb]at this) ?_;refine gC (ac0 (xs:=z) (ys:=z) (by have:=hQ.len;omega) (fE.QC hQ) (fE.QC hQ)) λ_ _=>?_;rw[eB rfl];refine gC (QB (xs:=grid) (ys:=grid) rfl (by omega)) λ_ _=>?_;refine go ?_;exact aW (j+1) (by omega) (by omega)):p:=h
def bj(h:p:=by
 have hL:=adP (k:=k) (r:=r) (fi:=(iG r).toNat) (v1:=w.1) (v2:=w.2);rw[hfi]at hL;refine go ?_;refine gP b9 ?_;refine gP b10 ?_;refine gP b11 ?_;refine fH hL (next:=λyl _=>?_);have hL1:=adR (bk:=yl.1) (bf:=yl.2.1) (br:=yl.2.2.1) (bp:=yl.2.2.2) (k:=k) (p:=p) (r:=r) (fi:=(iG r).toNat) (ls:=ls) (v1:=w.1) (v2:=w.2) hS hpl qJ hls;rw[hfi]at hL1;refine go ?_;refine oz (λv:ah=>[pt b4 (.cells (yK (yO k p) vv (.slice an k.aH.length cn) v)),ap qH v (oD k p j)]) K3 (h:=?_);refine Ki (Z:=Nat) (λ(s:ae rZ) (x:LA)=>(sH r j s x,Out.normal)) (λs=>[Ez λv:ah=>[pt b4 (.cells (yK (yO k p) vv (.slice an k.aH.length cn) v)),ap qH v s]]) (λvs s=>s=oD k p j++((vs.map rz).filter λx=>decide (jS r<=x.2.1.length)).map (mh r j)) (oD k p j) _ (λx z=>[pt z (.cells [x.2.1.2,x.2.2.2])]) (by simp) (λvs s x rest hs _ _=>by
  have:=Fs r j (vs++[x]) (oD k p j);have h2:=Fs r j vs (oD k p j);rw[hs];show sH r j _ x=_;unfold sH;rw[bZ,ze,bZ,kg];by_cases h:jS r<=x.2.1.1.length
  .rw[if_pos h,List.filter_cons_of_pos (by exact eB h)];simp
  .rw[if_neg h,List.filter_cons_of_neg (by rw[lV];exact h)];simp) hL1 (by intro s x lo o B w0;dsimp only[KC,EP,List.cons_append,List.nil_append,List.zip_cons_cons,List.zip_nil_left,List.reverse_cons,List.reverse_nil];refine go ?_;intro b14;refine go ?_;exact zI b14 rfl) ?_ ?_ (λ_ _=>trivial)
 .rintro vs s ⟨at_,⟨cells,wc⟩,⟨vals,wv⟩⟩ rest z lo L B w0 hs hX;have hx:(at_,cells,vals)∈lY p r ls:=by rw[<- hX];exact cO.2 ⟨(at_,(cells,wc),(vals,wv)),by simp,rfl⟩
  have hpre:=adW hf hQ hsl hx;have hml:s.length<=65536:=by
   have h1:=zh (λx:Nat×ae Int×ae Int=>decide (jS r<=x.2.1.length)) (vs.map rz);have h2:=congrArg List.length hX;have h3:=hlf _ (aV hls);have h4:=Pf (p:=p) (r:=r) (ls:=ls);rw[bi,fu]at h2;rw[bi]at h1;rw[hs,fu,bi];omega
  have hcc:(mh r j (at_,cells,vals)).cells=cells:=by unfold mh nR;dsimp only;(repeat' split)<;>rfl
  have hrr:(mh r j (at_,cells,vals)).runs=(nR r cells vals).runs:=rfl;dsimp only[EP,List.cons_append,List.nil_append,List.reverse_cons,List.reverse_nil];refine gF aj wc cells λak ck ek=>?_;subst ek;have hmk:=hM.ok cells vals hpre (.slice ak cells.length ck) wv w.1 w.2;refine rW (h:=λv=>?_);refine aK ?_ ?_<;>intro h5
  .have hadd:sH r j s (at_,(cells,.slice ak cells.length ck),(vals,wv))=s:=by unfold sH;rw[if_neg (by show¬jS r<=cells.length;omega)]
   rw[hadd];refine go ?_;refine oz (λv:ah=>[pt b4 (.cells (yK (yO k p) vv (.slice an k.aH.length cn) v)),ap qH v s]) v (h:=?_);exact pE () rfl trivial trivial
  have hadd:sH r j s (at_,(cells,.slice ak cells.length ck),(vals,wv))=s++[mh r j (at_,cells,vals)]:=by unfold sH;rw[if_pos (by show jS r<=cells.length;omega)];rfl
  rw[hadd];refine gC hmk λvq _=>?_;refine go ?_;intro b15;refine go ?_;intro b98;refine fA (ay aj (.slice ak cells.length ck) (mh r j (at_,cells,vals)).cells) (λw hw=>by rw[hcc];exact hw (ay aj (.slice ak cells.length ck) cells) (by simp)) ?_;refine fA (ay aj vq (mh r j (at_,cells,vals)).runs) (λw hw=>hw (ay aj vq (nR r cells vals).runs) (by simp)) ?_;refine jy (xs:=s) qH (mh r j (at_,cells,vals)) (.slice ak cells.length ck,vq) (by omega) (next:=λad=>?_);refine go ?_;refine oz (λv:ah=>[pt b4 (.cells (yK (yO k p) vv (.slice an k.aH.length cn) v)),ap qH v (s++[mh r j (at_,cells,vals)])]) _ (h:=?_);exact pE () rfl trivial trivial
 .intro rr xs hX;rw[Fs,hX];have hnew:oD k p j++((lY p r ls).filter λx=>decide (jS r<=x.2.1.length)).map (mh r j)=oD k p (j+1):=by
   rw[Pe hr];unfold qE Da;rw[fK hls]
  rw[hnew];dsimp only[List.cons_append,List.nil_append];refine rW (h:=λv=>?_);refine go ?_;refine S9 (rs:=rs) (r:=rr) (h:=?_);exact J4 (j+1,v,rr::rs) (by show k.decl.rules.length - (j+1)<k.decl.rules.length - j;omega) (by show j+1<=_;omega)):p:=h
def cj(h:p:=by
 obtain⟨m,rfl⟩:=dW hi0;refine gX (aA aj) (xs:=L) λ_ _ l' (rC:ah) hl'=>?_;have yS:=Ir l' (aV hl');refine gC (Lj (b:=b10) (vw:=.slice (some ⟨bw,0,some 0⟩) l.length l.length) (w:=img s l) (by rw[hil];omega) l' yS rC) λ_ _=>?_;dsimp only;cases e1:kY l' (img s l)with
 |false=>
  refine aZ ?_;rw[Bw hl (by
   cases e:qF L s rf eq l j with
   |false=>rfl
   |true=>
    have:=(Bz nC e).2.1;rw[fI,fK hl',e1]at this;cases this)];rfl
 |true=>
 refine gX (aA aj) (xs:=L) λ_ _ l'' (rC:ah) yT=>?_;rw[hl']at yT;obtain rfl:l'=l'':=Option.some.inj yT;refine gC (he rC (.slice (some ⟨bw,0,some 0⟩) l.length l.length) l' (img s l) yS (by rw[hil];omega)) λ_ _=>?_;cases e2:eq l' (img s l)with
 |false=>
  refine aZ ?_;rw[Bw hl (by
   cases e:qF L s rf eq l j with
   |false=>rfl
   |true=>
    have:=(Bz nC e).2.2;rw[fI,fK hl',e2]at this;cases this)];rfl
 |true=>
  refine go ?_;exact aW (j+1) (by show L.length - (j+1)<L.length - j;omega) ⟨by omega,λi' hi' x hx=>(by
   by_cases e:i'=j
   .subst e;rw[hl]at hx;cases hx;exact Qi nC hl' e1 e2
   .exact hall i' (by omega) x hx)⟩):p:=h
def cw(h:p:=by
 have hs1:step dN x=((step dN x).1,true):=Prod.ext rfl hst;refine go ?_;refine aW (jj+1,bS++[x],(step dN x).1) (by show p.length - (jj+1)<p.length - jj;omega) ⟨by show jj+1<=_;omega,hok _ dN _ _ hos hX hst,?_,λrest=>?_⟩
 .show(bS++[x]).map mU=_;rw[bZ,kg,iW];exact hnx.symm
 .show cz step s0 (bS++[x]++rest)=_;rw[fo,hrun];show cz step dN (x::rest)=_;rw[cz,hs1]):p:=h
def cF(h:p:=by
 refine go ?_;refine ED ?_;refine go ?_;refine CK (false,(xs.take k).map nm) (hv:=rfl) (hp:=⟨(λh=>by cases h),λ_ hn=>?_⟩);rw[(tV hx).1]at hm;have hsub:(aC.map (·.1)++(xs.take k).map nm++[nm x]).Nodup:=by
  have e:xs.map nm=(xs.take k).map nm++nm x::(xs.drop (k+1)).map nm:=by
   conv=>lhs;rw[<- l5 k xs]
   rw[bZ];congr 1;rw[mX (bz.1 hx).1,iX,(bz.1 hx).2]
  rw[e,<- fo]at hn;rw[j5]at hn⊢;exact⟨hn.1,by simp,λa ha c hc=>hn.2.2 a ha c (by rw[bR.1 hc];exact eX ..)⟩
 rw[j5]at hsub;exact hsub.2.2 _ hm _ (bR.2 rfl) rfl):p:=h
def cH(h:p:=by have hs1:step dN x=((step dN x).1,false):=Prod.ext rfl hst;have hr:=hrun (x::oI ((p.drop (jj+1)).map (iM k s)));rw[cz,hs1]at hr;dsimp only at hr;refine go ?_;exact gQ (bS++x::oI ((p.drop (jj+1)).map (iM k s))) hX (hk:=by rw[hr];first|exact aJ.all _|exact aJ.self _ _)):p:=h
def cI(h:p:=by
 refine gC (Wx (n:=k.grid.cells.length) (v:=vL) (lists:=L) (by omega) (by omega) LK (λl hl=>by have:=yD l hl;omega)) λw _=>?_;refine mI ja (A:=ap (aA aj) w (nD k.grid.cells.length L)) (fs:=[ay (aA aj) w (nD k.grid.cells.length L)]) (h:=?_);refine gC (Qz (b2:=b2) (b3:=b3) (bm:=bm) (v:=w) (e:=0) (z:=lq k i) (more:=nD k.grid.cells.length L) (by omega) (λp hp=>by have:=QA hp;omega)) λ_ _=>?_;have hst:lq k (i+1)=nE (lq k i) (nD k.grid.cells.length L):=by rw[hstep,if_pos (by unfold DJ;simp;omega)]
 rw[<- hst];have hac:=DI (nD k.grid.cells.length L) (lq k i);rw[<- hst]at hac;refine go ?_;exact aW (i+1) (by omega) ⟨by omega,u+1,by omega,by omega,by omega,by omega,by omega⟩):p:=h
def cJ(h:p:=by refine go ?_;exact gQ false (λh=>by cases h)):p:=h
def cM(h:p:=by
 have Er:Aj size (k+1) (ev l x) h=some xs:=hxs;simp only[aR.run,hx,Er,hs];have e1:pg size m (.slice (some ⟨b,o,f⟩) m m) h=some old:=hold;show∃h',(cond (Nat.ble (Nat.mul (m+(k+1)) bytes) small&&Nat.ble (Nat.mul (m+(k+1)) size) small&&Nat.ble (m+(k+1)) small) _ _)=_/\_;rw[hc];show∃h',(cond (Nat.ble (m+(k+1)) m) _ _)=_/\_;rw[hlt];simp only[cond,e1];rcases hf with rfl|rfl
 .refine⟨_,rfl,?_⟩;exact⟨rfl,λi hi _=>by rw[IH.jD,if_neg (by omega)],⟨yY _,by rw[IH.jD,if_pos rfl,kR]⟩,λ_=>rfl⟩
 .cases size with
  |zero=>
   refine⟨_,rfl,?_⟩;exact⟨rfl,λi hi _=>by rw[IH.jD,if_neg (by omega)],⟨yY _,by rw[IH.jD,if_pos rfl,kR]⟩,λ_=>rfl⟩
  |succ j=>
   have hj:Nat.beq (Nat.succ j) (j+1)=true:=FI _;refine⟨(h.kill b).new (.cells (old++xs)),?_,?_⟩
   .show cond (Nat.beq (Nat.succ j) (j+1)) _ _=_;rw[hj,kR];rfl
   .exact⟨rfl,λi hi hb=>by rw[IH.jD,if_neg (by show i≠h.next;omega),IH.uD,if_neg hb],⟨yY _,by rw[IH.jD];exact if_pos rfl⟩,λhl=>by rw[IH.Jg,IH.Ap];omega⟩):p:=h
def cN(h:p:=by
 refine aZ ?_;have:xs=ys:=by
  apply iQ;intro j;by_cases hj:j<k
  .exact hsame j hj
  .rw[fT (by omega),fT (by omega)]
 rw[eB this];rfl):p:=h
def cP(h:p:=by
 refine go ?_;refine aW (k+1) (by omega) ⟨by omega,λj hj=>?_⟩;by_cases e:j=k
 .subst e;rw[hx,hy,h3]
 .exact hsame j (by omega)):p:=h
def cQ(h:p:=by
 apply iQ;intro j;by_cases hj:j<k
 .exact hsame j hj
 .rw[fT (by omega),fT (by omega)]):p:=h
def cR(h:p:=by
 obtain rfl:ok1=false:=Bool.eq_false_iff.2 λh=>hk (hok.1 h);have hj1:¬((j:Int)=0):=λh=>hk (Ie (by omega));refine gH ?_ ?_<;>intro q1
 rotate_left
 .exact absurd q1 hj1
 refine gC (Iu (k:=k) (s:=σ) (t:=τ) (grid:=grid) (vh:=vh) (vs:=.slice jg k.decl.symbols.length cs1) hS (by omega) (by omega) hl) λy3 hy3=>?_;obtain⟨v18,e3⟩:=y3;dsimp only at hy3⊢;refine gC (Iy (k:=k) (s:=σ) (t:=τ) (p:=p) (vh:=vh) (vs:=.slice jg k.decl.symbols.length cs1) hS hP (by omega) (by omega)) λy2 hy2=>?_;obtain⟨v20,x,e2⟩:=y2;dsimp only at hy2⊢;refine go ?_;intro b20;refine go ?_;obtain rfl:e3=230:=hy3.1.ns hK hk;obtain rfl:e2=230:=hy2.1.ns hK hk;refine go ?_;exact aW (j+1) (by omega) (by omega)):p:=h
def cT(h:p:=by
 rw[bQ,bQ,bP]at fQ;refine gC fQ λ_ _=>?_;cases hst:(step s x).2 with
 |true=>
  have hs1:step s x=((step s x).1,true):=Prod.ext rfl hst;refine go ?_;refine aW (j+1,bS++[x],(step s x).1) (by show ls.length - (j+1)<ls.length - j;omega) ⟨by show j+1<=_;omega,hok _ s _ _ hos hX hst,?_,λrest=>?_⟩
  .show(bS++[x]).map rz=_;rw[bZ,kg,iW];exact hnx.symm
  .show cz step s0 (bS++[x]++rest)=_;rw[fo,hrun];show cz step s (x::rest)=_;rw[cz,hs1]
 |false=>
  have hs1:step s x=((step s x).1,false):=Prod.ext rfl hst;have hr:=hrun (x::C9 (Dx p r ls (j+1)));rw[cz,hs1]at hr;dsimp only at hr;refine go ?_;exact gQ (bS++x::C9 (Dx p r ls (j+1))) hX (hk:=by rw[hr];first|exact aJ.all _|exact aJ.self _ _)):p:=h
def cU(h:p:=by
 have zA:St B w0 (pt b (.cells cells)::k2) F w:=⟨pu.agree,pu.le,pu.fF,⟨S,⟨_,S2,⟨rfl,hb⟩,q2,e1⟩,hnd,hown⟩,pu.facts⟩
 have JR:At w.h b (.cells cells):=zA.at_ .here;refine Sn (old:=cells.drop o) (xs:=E.pat a y) hn hg hs hx1 hx2 ?_ (by grind) hm λh' mv=>?_
 .have hdl:(cells.drop o).length=xs.length*E.n:=by grind
  rw[JR.cX.je,qw,qM,if_pos (by omega),<- hdl,dK]
 obtain⟨w',rfl,kF,AO⟩:=zA.move mv;refine r _ w' (kF.yz λS hp=>?_);have hle:∀f∈E.fs a y,f.p w':=λf hf=>kF.facts f (hF.mem f hf);refine put w' _ E.n (cells.drop o) (by grind) (λk z hk=>?_) hle (.inr rfl) S hp;obtain⟨y',u1,u2⟩:=hel k z hk;exact⟨y',(by grind),λf hf=>f.mono AO (u2 f hf)⟩):p:=h
def cV(h:p:=by
 refine M7 hb _ ?_;rintro o a h ⟨hd,w2,y,rfl,rfl,hn,s2,hp⟩;refine⟨tq r1,s2.get.1,hd,?_⟩;have fin:∀o',ow o'=ow (out y)->mJ r1 o'=mJ r1 (out y)->Left B w (λy:Y=>.bool (ow (out y))) (λy=>pt lo (.loop (mJ r1 (out y)))::k1' y) fs pr (.ok (.bool (ow (out y)))) none (w2.h.set lo (.loop (mJ r1 (out y)))):=λo' _ _=>
  ⟨rfl,_,y,rfl,s2.write,rfl,hp⟩
 cases ho:out y with
 |normal=>have:=fin .normal (by rw[ho]) (by rw[ho]);rw[ho]at this;exact this
 |exit j=>have:=fin (.exit j) (by rw[ho]) (by rw[ho]);rw[ho]at this;exact this
 |ret=>have:=fin .ret (by rw[ho]) (by rw[ho]);rw[ho]at this;exact this
 |panic ch=>rw[ho]at hn;exact hn.elim):p:=h
def cW(h:p:=by
 refine gC fQ λ_ _=>?_;rw[hd,cz]at hrun;refine go ?_;cases hst:step s ((k:Int),_)with
 |mk s' b=>
  have hst:=hst;rw[hst]at hrun;cases b with
  |true=>
   refine go ?_;refine aW (k+1,s') (by show g.cells.length - (k+1)<g.cells.length - k;omega) ⟨by show k+1<=_;omega,?_,hrun⟩;have:=hok _ s _ _ hos hX (by rw[hst]);rw[hst]at this;rw[show(bK g).take (k+1)=(bK g).take k++[_]from by rw[rP,hsp];rfl];rw[hso];exact this
  |false=>
   refine go ?_;exact gQ (bK g) rfl (hk:=by rw[<- hrun];exact aJ.all _)):p:=h
def da(h:p:=by refine aZ ?_;rw[dA (λe=>h3 (by rw[e,hy]at hx;cases hx;rfl))];rfl):p:=h
def de(h:p:=by
 intro vs s x rest z lo L B w0 hs hx;subst hs;dsimp only[List.cons_append,List.nil_append];have hlen:s.length<=1000000:=by have:=hl _ hx;rw[fu,rJ]at this;omega
 refine rW (h:=λv=>?_);refine go ?_;intro b10;refine jy (xs:=s) aj x () (by omega) (next:=λad=>?_);refine go ?_;refine oz (λv:ah=>[pt b2 (.cells [v]),ap aj v (s++[x])]) _ (h:=?_);exact pE () rfl trivial trivial):p:=h
def dg(h:p:=by refine go ?_;exact aW (j+1) (by omega) (by omega)):p:=h
def dj(h:p:=by refine go ?_;refine jy (xs:=(k.decl.symbols.take j).map (·.value)) aj s.value () (by omega) (next:=λad=>?_);rw[<- htk];refine go ?_;exact aW (j+1,.slice ad (((k.decl.symbols.take j).map (·.value)).length+1) (((k.decl.symbols.take j).map (·.value)).length+1)) (by show k.decl.symbols.length - (j+1)<k.decl.symbols.length - j;omega) (by show j+1<=_;omega)):p:=h
def dl(h:p:=by
 intro r xs hX;have hrun:∀(ys zs:ae Int),gM (λ(ys:ae Int) (x:Int)=>(ys++[x],Out.normal)) ys zs=(ys++zs,.normal):=by
  intro ys zs;induction zs generalizing ys with
  |nil=>simp[gM]
  |cons z zs ih=>rw[gM];simp only[ih];simp
 rw[hrun,bP];dsimp only[List.cons_append,List.nil_append];refine rW (h:=λv=>?_);refine go ?_;exact uO ⟨v,xs⟩ (hv:=rfl) (hp:=hX)):p:=h
def dr(h:p:=by refine aZ ?_;rw[dA (λe=>h1 (by rw[e]))];rfl):p:=h
def dy(h:p:=by exact pE () rfl trivial trivial):p:=h
def eo(h:p:=by
 have hn:(step so.1 x).2=.normal:=by
  cases e:(step so.1 x).2 with
  |normal=>rfl
  |_=>rw[e]at h;cases h
 grind):p:=h
def ew(h:p:=by
 have:=h4 (j+1) g e hg he;rw[List.drop_drop];have hle:o0+P.cellsOf f.type<=g.offset:=by
  have hj:(fs.map (·.offset))[j]? =some g.offset:=by grind
  rw[h3]at hj;have hs:(fs.map λf=>P.cellsOf f.type)[j]? =some (P.cellsOf g.type):=by grind
  exact(Cw _ ([]:ae ah) (o0+P.cellsOf f.type) j _ _ hj hs).2
 grind):p:=h
def ez(h:p:=by rw[I1 hxb.1];refine⟨Int.emod_nonneg _ (by omega),?_⟩;have:=Mh x g.w;have h3:0<=g.w*(x/g.w):=Int.mul_nonneg (by omega) (FM hxb.1 (by omega));omega):p:=h
def eA(h:p:=by
 unfold nT at this;rw[aeT]at this;obtain⟨j,hj⟩:=gT hr;have:=this (r,j) (xQ.2 hj);cases h:(iU r.kind).read with
 |true=>rfl
 |false=>simp[h]at this):p:=h
def eC(h:p:=by refine go ?_;exact aW (k+1,v5,zs) (by show lists.length - (k+1)<lists.length - k;omega) ⟨by show i+1<=k+1;omega,by show k+1<=_;omega,skip ho⟩):p:=h
def eE(h:p:=by refine YM (c:=0) hn hg hs hx1 hx2 (by simpa using hm) λh' ag uK hnx=>?_;obtain⟨w',rfl,kF⟩:=pu.tail.fresh ag uK hnx;refine r _ w' (kF.yz λS hp=>?_);have hle:∀f∈E.fs a y,f.p w':=λf hf=>kF.facts f (hF.mem f hf);exact put w' _ E.n [] (by simp) (by grind) hle (.inr rfl) S hp):p:=h
def eI(h:p:=by
 refine JM hn hg hx hi (by omega) (by omega) ?_;have hbS:b∈S:=by rw[e,e2];simp
 refine Gq hn2 (hg2 _) (by show lk _ d=_;simp[lk]) ⟨(h3 b hbS).2.1,hb⟩ hc (next _ _ y w ⟨s.agree,s.le,s.fF,s.own,λf hf=>?_⟩);rcases dm.1 hf with rfl|hf
 .exact u2 _ (bR.2 rfl)
 .exact s.facts f hf):p:=h
def eJ(h:p:=by
 refine aK ?_ ?_<;>intro h4
 .refine aZ ?_;rw[qJ,Dm hk hk2 (by omega),if_pos (by omega)];rfl
 refine aK ?_ ?_<;>intro h5
 .refine aZ ?_;rw[qJ,Dm hk hk2 (by omega),if_neg (by omega),if_pos (by omega)];rfl
 refine aZ ?_;rw[qJ,Dm hk hk2 (by omega),if_neg (by omega),if_neg (by omega)];rfl):p:=h
def eK(h:p:=by
 have hno:¬bD k:=λh=>by have:=hb.2 h;cases this
 dsimp only[cond];refine go ?_;exact gQ 180 ⟨λ_=>rfl,λh=>absurd h hno,λh=>absurd h hno⟩):p:=h
def eM(h:p:=by exact⟨by omega,c,a3,by unfold iG;rw[if_neg (by omega),if_neg (by omega),if_neg (by omega)];exact a5,hcp,by omega,by omega,by omega⟩):p:=h
def eN(h:p:=by
 obtain⟨dst,op,type,pos,after,guard⟩:=o;simp only[cop]at hc;repeat' split at hc
 all_goals first
  |contradiction
  |(cases hc;done)
  |(done)
  |(simp only[lT,reduceCtorEq,and_false,exists_false]at hc;done)
  |(obtain⟨rfl,rfl⟩:=hc
    exact⟨_,rfl,rfl,rfl⟩)):p:=h
def eR(h:p:=by have hr2:=hrun [];rw[jo]at hr2;refine go ?_;exact gQ bS iW (hk:=by rw[hr2];exact aJ.all _)):p:=h
def eV(h:p:=by obtain⟨rfl,rfl⟩:=hr;rw[ha]at hx;refine Good.same hW ?_ hx;obtain⟨fn',f',c',h1,_,_,e⟩:=hx.Cn;cases h1;simp[execOp,e]):p:=h
def eW(h:p:=by
 match j,hj with
 |0,hj=>
  have hj:some (Value.int .i64 x)=some u:=hj;have e1:pre.length+k*aj.n+0=pre.length+k:=by show pre.length+k*1+0=pre.length+k;omega
  grind
 |j+1,hj=>exact absurd hj (by show¬([Value.int .i64 x])[j+1]? =some u;simp)):p:=h
def fb(h:p:=by
 intro cl hcl;obtain⟨dd,op,ty,ps,af,gd⟩:=o;simp only at hcl;subst hcl;obtain⟨callee,args,ats⟩:=cl;cases callee with
 |value f=>simp only[cop,bC]at iK;rw[<- iK]at hl;cases hl
 |invoke x n=>simp[cop]at iK
 |builtin bb=>simp[cop]at iK):p:=h
def fc(h:p:=by show cz step s0 (bS++[x]++rest)=_;rw[fo,hrun];show cz step s (x::rest)=_;rw[cz,hs1]):p:=h
def ff(h:p:=by
 refine go ?_;refine aW (k+1) (by omega) ⟨by omega,?_,?_⟩
 .rw[htk];intro y hy;rcases fU.1 hy with hy|hy
  .exact hin y hy
  .rw[bR.1 hy];omega
 .rw[htk,j5];exact⟨hnd,by simp,λa ha b hb=>by rw[bR.1 hb];exact λe=>h4 (e▸ha)⟩):p:=h
def fg(h:p:=by
 rw[sN (by omega)]at hk;have hk0:k=xs.length:=by
  grind
 subst hk0;simp at hk;subst hk;refine⟨y,λj u hj=>?_,h3⟩
 grind):p:=h
def fh(h:p:=by show(match mD Tryz.prog .neq 20 (.tmp 4) (.const .nilIface) .nilIface .nilIface with|some v=>some (v,h)|none=>none)=_;rw[show mD Tryz.prog .neq 20 (.tmp 4) (.const .nilIface) .nilIface .nilIface=some (.bool false)by kernel_rfl]):p:=h
def fk(h:p:=by
 rename_i kt et hu;cases hc;simp only[aR.run]at hr;split at hr
 .rename_i h2 hh;obtain⟨rfl,rfl⟩:=hr;obtain⟨w',r1,r2,r3⟩:=XL hu hh hm hk hx hW;exact⟨.skip,w',β,undef,XA r1,.inr ⟨rfl,rfl⟩,.eY _,r2,r3⟩
 .cases hr):p:=h
def fp(h:p:=by refine go ?_;refine jy (xs:=upTo' i) aj (i:Int) () (by omega) (next:=λad=>?_);rw[<- EO];refine go ?_;exact aW (i+1,.slice ad ((upTo' i).length+1) ((upTo' i).length+1)) (by show n - (i+1)<n - i;omega) (by show i+1<=_;omega)):p:=h
def fL(h:p:=by
 conv=>lhs;rw[<- l5 o cells]
 congr 1;apply iQ;intro k;rw[eF];by_cases hkl:k<xs.length
 .obtain⟨y,u1,_⟩:=h9 k xs[k] (by grind);have:=u1 0 (.int .i64 xs[k]) rfl;have e1:o+k*aj.n+0=o+k:=by show o+k*1+0=o+k;omega
  grind
 grind):p:=h
def fN(h:p:=by
 intro l;induction l with
 |nil=>intro m hm _;exact hm
 |cons s l ih=>
  intro m hm hl;rw[vI];refine ih _ (QI hm ?_) (λt ht=>hl t (fP _ ht));have:=CU (hl s (eX ..));rw[Nat.one_shiftLeft];exact Mk (by omega) (by omega)):p:=h
def fR(h:p:=by exact aW (i+1) (by omega) (by omega)):p:=h
def fS(h:p:=by refine go ?_;have e0:dP bU aF=dP bU aF++[]:=(jo _).symm;rw[e0];refine TG bU (aF:=aF) hf (bG _) ?_ (hall (by simp) λp hp=>hp);exact gQ (.slice (some ⟨b,0,some f⟩) aF.length aF.length) trivial):p:=h
def fW(h:p:=by
 obtain⟨s,o⟩:=so;obtain⟨hn,ho⟩:=ho;subst hn;exact Tq (L:=⟨.ready,none,iZ l,n,ps,assign,body,r⟩) l (l3 x) (λz=>k3 x z++inv s) rfl rfl hps (hlen x)
  (λB w0=>ha s x lo _ B w0) (by grind)):p:=h
def gb(h:p:=by exact .of_steps (t1.trans (.one hs)) (ih ops cZ hv rest (i::done) (i::S') om hds β0 h0 w0 lF kE cs0 β' w' b _ df k cs ρ' hG hdom hcx hI2 r4 (by rw[yj];exact hcs.mono t0) (by rw[ym];exact hro))):p:=h
def gf(h:p:=by refine go ?_;exact J4 (k+1,rs) (by show g.length - (k+1)<g.length - k;omega) (by show k+1<=_;omega) (ha:=by dsimp only;rw[e];repeat (first|exact dz.nil|apply dz.cons|exact dz.self|exact dz.app))):p:=h
def gg(h:p:=by obtain⟨v2,hv2,hr⟩:=hv.get (bN hjl);rw[hv2]at hj;cases hj;have hc:=(jU.1 hall) _ (rG hjl);obtain⟨a,b⟩:=hr.cellV hc;cases v<;>first|rfl|exact absurd rfl (a _)|exact absurd rfl (b _)):p:=h
def gj(h:p:=by
 have h1:(bW (iL (gD (bK g)) p.2 (fO.take (eT g)))).length=(iL (gD (bK g)) p.2 (fO.take (eT g))).length:=(Ca _ _).length_eq;have h2:=OX (gD (bK g)) p.2 (fO.take (eT g));have h3:=EN g
 grind):p:=h
def gk(h:p:=by
 have uG:zw.pending=none:=uG;have hto:(zw.pending.map Item.code).toList++k=k:=by rw[uG];rfl
 rw[hto]at hst;exact⟨.normal,a1,_,β3,_,tm,vR,cs,l3,y1,hE.trans y2,hA3,hcs,e4,hst⟩):p:=h
def gx(h:p:=by
 show cond (Nat.ble h.low i) h.low i=_;cases hb:Nat.ble h.low i with
 |true=>have:=pQ hb;simp;omega
 |false=>have:¬h.low<=i:=λhh=>by rw[LZ hh]at hb;cases hb
         simp;omega):p:=h
def gA(h:p:=by refine go ?_;exact gQ false ⟨(λh=>by cases h),λhG=>absurd hG (hbad (λh=>by omega))⟩):p:=h
def gE(h:p:=by
 unfold sizeOf typeInfo;cases hi:P.info? e with
 |none=>rw[hi]at hs;cases hs
 |some i=>
  rw[hi]at hs;have hs:i.size=1:=by simpa using hs
  simp only[gu,J9,lS,hi];rw[<- hs];rfl):p:=h
def gO(h:p:=by rw[sZ hn];exact⟨u,h2,by rw[qa];exact e1,λd' hd=>by rw[<- e2 d' hd];exact yu _ _⟩):p:=h
def gR(h:p:=by
 rw[ql hlt]at hk;obtain⟨y',q1,q2⟩:=h2 k z hk;refine⟨y',λj u hj=>?_,q2⟩
 grind):p:=h
def hJ(h:p:=by refine go ?_;refine gQ false ⟨(λh=>by cases h),λq=>?_⟩;have h5:=q.nd.sublist (Mj (k+1) xs);rw[htk,j5]at h5;exact absurd rfl (h5.2.2 _ h4 _ (bR.2 rfl))):p:=h
def hU(h:p:=by have hs1:step s x=((step s x).1,false):=Prod.ext rfl hst;rw[hs1]at hrun;dsimp only at hrun;refine go ?_;exact gQ xs rfl (hk:=by rw[<- hrun];exact aJ.all _)):p:=h
def ia(h:p:=by refine go ?_;exact gQ false (hR _ ⟨(λh=>by cases h),λh=>by exfalso;omega⟩)):p:=h
def ii(h:p:=by
 have hn:(fn.name== "runtime.NumGoroutine")=false:=by simpa using hname
 simp only[callFunc,dY,run_program,eZ,hfn,hn,hb,Option.isNone_some,DR,if_false,fZ]):p:=h
def ij(h:p:=by rw[hle (show Nat.mul (m+(k+1)) bytes<=small from hm.1),hle (show Nat.mul (m+(k+1)) size<=small from hm.2.1),hle (show m+(k+1)<=small from hm.2.2)];rfl):p:=h
def ir(h:p:=by refine go ?_;exact aW (k+1) (by omega) ⟨by omega,by omega⟩ (hl:=⟨rfl,by rw[hstep];rfl,by repeat (first|exact trivial|refine⟨rfl,?_⟩)⟩)):p:=h
def iu(h:p:=by exact ih ops cZ hv rest (i::done) S om hds β0 h0 w0 lF kE cs0 β w b tm df k cs ρ hG hdom hcx hI2 hR (by rw[yj];exact hcs) (by rw[ym];exact hro)):p:=h
def iv(h:p:=by
 have e:(w.new (.mapIter (some b) clock [] clock)).h.get b=w.h.get b:=by
  show(w.h.new _).get b=_;rw[IH.jD,if_neg (by have:=w.oq b hz;omega)]
 grind):p:=h
def iS(h:p:=by
 intro v pm h2 hm;dsimp only at hm;split at hm
 .rename_i lp hlp;split at hm
  .cases hm
  .rename_i hs;exact⟨lp,hlp,λe=>hs e,hm⟩
 .cases hm):p:=h
def jn(h:p:=by obtain⟨c,h1,h2⟩:=P9 2 (by omega) (λn2 hn2=>by rw[h]at hn2;rw[hn2];split;exact .inr rfl;exact .inl rfl) hc;exact⟨c,h1,.inr h2⟩):p:=h
def jp(h:p:=by
 refine go ?_;refine aW (k+1) (by omega) ⟨by omega,λj hj=>?_⟩;by_cases e:j=k
 .subst e;rw[hx,hy,j6.1 h3]
 .exact hsame j (by omega)):p:=h
def js(h:p:=by refine go ?_;exact aW (j+1) (by omega) (by omega) (hl:=⟨rfl,by rw[hstep];rfl,by repeat (first|exact trivial|refine⟨rfl,?_⟩)⟩)):p:=h
def jt(h:p:=by
 match j,h with
 |0,h=>cases h;exact⟨λ_=>hkp,by omega,by omega⟩
 |1,h=>cases h;exact⟨λh=>absurd h (by decide),by omega,by omega⟩):p:=h
def ju(h:p:=by refine go ?_;exact gQ false (hno (by omega) _ rfl)):p:=h
def jx(h:p:=by
 refine hW.inj _ _ _ _ hk hm ?_ ?_ hr he
 .split at hj
  .exact absurd rfl hj
  .exact hj
 .split at hl
  .exact absurd rfl hl
  .exact hl):p:=h
def jz(h:p:=by subst this;intro e;subst e;exact hm2 ha):p:=h
def j0(h:p:=by rw[zi];exact List.Pairwise.imp (λh=>by omega) List.pairwise_lt_range):p:=h
def j7(h:p:=by rw[zk hxb.1];exact⟨FM hxb.1 (by omega),Int.ediv_le_self _ hxb.1⟩):p:=h
def j8(h:p:=by rw[wm (by rw[xC];exact h)]at hy;subst hy;cases e):p:=h
def j9(h:p:=by refine go ?_;exact aW (k+1,met',q',qv') (by show ns.length - (k+1)<ns.length - k;omega) ⟨by show k+1<=_;omega,KQ,hin',hl'⟩):p:=h
def ki(h:p:=by subst e;rw[hn]at hm;cases hm;refine⟨by omega,by omega,h6,UJ,λl2 hl2=>?_⟩;rw[fI]at hl2;rw[hl2]at hl';cases hl';exact h9):p:=h
def kj(h:p:=by exact gQ ⟨v4,0⟩ ⟨λ_=>⟨hg,by omega,by omega⟩,λ_=>rfl⟩):p:=h
def kp(h:p:=by
 obtain⟨v,hv⟩:=Ko h;have e:kw true zero a aC=.tuple ⟨[v,.bool true]⟩:=by unfold kw;rw[hv];rfl
 rw[e];exact hit v hv h):p:=h
def kq(h:p:=by
 split
 .omega
 split
 .unfold qC;rw[bi,W9];omega
 split
 .have:=O3 (aH:=gI g) Ku (gI g).length (bG _);rw[dK]at this;omega
 .simp):p:=h
def kx(h:p:=by refine go ?_;exact gQ false ⟨(λh=>by cases h),λhG=>absurd hG (hbad (λh=>h9 (h.2.2.2.2 l' (by simpa using hl'))))⟩):p:=h
def li(h:p:=by
 cases h:Nat.beq (m%2) 0 with
 |true=>simp[uj h]
 |false=>simp[IL h]):p:=h
def lj(h:p:=by
 rcases hcx.round with⟨_,hb⟩|⟨l,g,hl,_⟩
 .exact hb
 grind):p:=h
def lz(h:p:=by simp only[uP];exact⟨λv hv l hl n hn hi=>hcl v (by simpa using hv) l hl n hn hi,(by simp),(by simp),(by simp)⟩):p:=h
def lA(h:p:=by
 refine aK ?_ ?_<;>intro h2
 .refine aZ ?_;rw[dB,if_neg h1,if_pos h2];rfl
 refine aZ ?_;rw[dB,if_neg h1,if_neg h2];rfl):p:=h
def lB(h:p:=by have h4:=(hn z y).2 (by omega);have h5:=(hn y x).2 (by omega);have h6:=ht z y x h4 h5;have h7:=(hn z x).1 h6;omega):p:=h
def lE(h:p:=by
 rw[fT (by rw[bi,o8];omega),fT (by rw[bi,o8];omega)];by_cases e:j=i
 .rw[if_pos e,if_neg (by omega)]
 .rw[if_neg e]):p:=h
def lO(h:p:=by refine gC (ac1 (d:=k.decl) hB.Di hB.Dh) λb hb=>?_;refine go ?_;exact gQ b (λh=>⟨hb h,by omega,by omega⟩)):p:=h
def lP(h:p:=by
 intro o a' h' hm hn;cases o with
 |normal=>exact absurd rfl hn
 |exit _=>exact hm
 |ret=>exact hm
 |panic _=>exact hm):p:=h
def lR(h:p:=by exact⟨rr,h2',β2,w2,F2,r2,p1,p2,q3.trans p3,p4,(Steps.head s1 (e2.trans (.one s2))).trans p5,p6,p7,p8⟩):p:=h
def mc(h:p:=by
 obtain⟨cs,r,⟨e,_⟩|⟨_,e⟩⟩:=h
 .rw[ha]at e;cases e
 .obtain⟨a,y,q0,q⟩:=hr w H d cs hz r
  grind):p:=h
def me(h:p:=by
 obtain⟨cs,r,⟨_,e⟩|⟨e,_⟩⟩:=h
 .obtain⟨a,y,rfl,q⟩:=hr w H d cs hz r;exact⟨a,y,e,q⟩
 grind):p:=h
def mj(h:p:=by
 match a,hv,hg with
 |none,hv,_=>exact h0 e c hv w s
 |some ⟨i,o,some f⟩,hv,_=>exact h1 e i o f c hv w s):p:=h
def mm(h:p:=by show Value.bool (decide ((n:Int)<=1))=_;rw[show decide ((n:Int)<=1)=decide (n<=1)from nZ.2 (by omega)]):p:=h
def mu(h:p:=by
 rw[eF,uk hi,eF,uk hi];by_cases e:j=i
 .subst e;simp[hj]
 .have e2:¬(i:Int)=(j:Int):=by omega
  simp[e,e2]):p:=h
def mw(h:p:=by refine go ?_;refine aW (k+1) (by omega) ⟨by omega,?_⟩;rw[fq hx,List.any_append,hno];simpa using h2):p:=h
def mz(h:p:=by
 have e:kw true zero a aC=.tuple ⟨[zero,.bool false]⟩:=by unfold kw;rw[wm h];rfl
 rw[e];exact miss h):p:=h
def mA(h:p:=by rw[hat.cX.je,qw,qM,BS,za,if_pos (by omega),<- hlen,dK]):p:=h
def mB(h:p:=by exact absurd (hW.dom _ _ hk) (by omega)):p:=h
def mC(h:p:=by obtain⟨v0,_,h0⟩:=a7 j v hj;obtain⟨v',h1,h2⟩:=b7 j v hj;exact⟨v',h1,h0.restrict hle h2⟩):p:=h
def mL(h:p:=by
 rcases a with⟨rfl,a,m,c,rfl,rfl⟩|⟨i,o,f,c,cs,h1,_⟩
 .exact⟨a,c,rfl⟩
 .exact⟨_,c,h1⟩):p:=h
def mN(h:p:=by exact gQ (.slice (some ⟨b,0,some 0⟩) 0 0) trivial):p:=h
def mS(h:p:=by
 cases o with
 |normal=>exact absurd rfl hn
 |_=>exact hm):p:=h
def mT(h:p:=by
 unfold zm at hz;split at hz
 .rename_i z' n' hz' _;obtain⟨i',j1,j2,_⟩:=F8 hz'
  grind
 .cases hz):p:=h
def nc(h:p:=by intro h;rw[Bb h]at hy;subst hy;cases e):p:=h
def nh(h:p:=by
 have hx:iU r.kind=⟨true,false,false,false,false,true,true,0⟩:=by rw[hk];rfl
 clear hk;exact wG):p:=h
def nj(h:p:=by
 have hx:iU r.kind=⟨false,true,false,false,false,true,true,0⟩:=by rw[hk];rfl
 clear hk;exact wG):p:=h
def nn(h:p:=by refine go ?_;refine(dx rfl rfl (GH rfl rfl)).h ?_;refine go ?_;exact gQ (min n 2001) (by omega)):p:=h
def nq(h:p:=by intro v v0 v1;have r:=ht.inv.at_ v0 v1;have:=h _ r.1 r.2;rw[ht.Ho v0 v1]at this;exact this.symm):p:=h
def nr(h:p:=by simp only[execOp,Instr.sliceAt,Instr.slice,dY,gY hu,eZ,hx',e1,e2,e3,b1,pq hs1,fZ];split<;>rfl):p:=h
def nt(h:p:=by intro v v0 v1;have r:=ht.at_ v0 v1;rw[yH v0 (by rw[ht.len];exact v1),h2 _ r.1 r.2,h _ v0 v1]):p:=h
def nv(h:p:=by simp only[lT]at hc;obtain⟨_,_,rfl⟩:=hc;simp only[aR.run,aR.alloc,h0,h1,h2,h3,and_self]):p:=h
def nw(h:p:=by refine go ?_;exact gQ false ⟨(λh=>by cases h),λh=>by exfalso;have:=h.eH s hsm;omega⟩):p:=h
def nB(h:p:=by refine go ?_;exact aW (k+1) (by omega) (by omega)):p:=h
def n5(h:p:=by rintro r pm h' ⟨hp,w',y,e1,st,e2,_⟩;exact⟨hp,w',(),e1,back w' _ _ st,e2,trivial⟩):p:=h
def n9(h:p:=by have:=u1 0 (.int .i64 z) rfl;simpa[aj]using this):p:=h
def oa(h:p:=by rw[fo];refine List.Perm.append_left T1 ?_;rw[<- fo];exact List.Perm.append_right S2 u6):p:=h
def oc(h:p:=by unfold lC;rw[gu];simp only[binOp];rw[gu,he];rfl):p:=h
def od(h:p:=by rw[h3]at e;exact Option.some.inj e):p:=h
def oe(h:p:=by rw[<- hf];refine step_lone_go ?_;rw[En ho hw (.inl hro)];simp[stepG.apply,hr,hre,ht]):p:=h
def ov(h:p:=by
 induction l with
 |nil=>exact .nil
 |cons x l ih=>exact .cons (h x (by simp)) (by grind)):p:=h
def ox(h:p:=by show dX P (Instr.checkKey b (9999+1) kt _)=_;unfold Instr.checkKey;rw[gu,qz hu];rfl):p:=h
def oy(h:p:=by subst hn;simp only[fr]at he' hcall⊢;simp[stepG,stepG.exec,he',stepG.apply,hcall]):p:=h
def oA(h:p:=by
 have:∀k:ae aI,Sub k k:=λk=>by
  have:=Sub.refl' k [];simpa using this
 exact this _):p:=h
def oB(h:p:=by
 match vs with
 |[]=>rfl
 |[v]=>rfl
 |_::_::_=>rfl):p:=h
def oE(h:p:=by
 rcases dm.1 hk with rfl|hk
 .exact fP _ (hpre j hj)
 .exact fP _ (hcl k hk j hj)):p:=h
def oR(h:p:=by obtain⟨w,h4,h5⟩:=hcls u hu2;exact⟨w,by rw[ql (by omega)];exact h4,h5⟩):p:=h
def oS(h:p:=by have:=s.ku hk;exact⟨this.agree,this.le,this.fF,this.own,hF w this.facts⟩):p:=h
def oT(h:p:=by
 cases es with
 |nil=>rfl
 |cons e es=>cases h):p:=h
def pb(h:p:=by obtain⟨r,hrm,rfl⟩:=cO.1 hl;have:=(hr r hrm).len;unfold jr;rw[bi];omega):p:=h
def pe(h:p:=by rw[mX (by omega)];congr 1;rw[bN (by omega)]at hx;exact Option.some.inj hx):p:=h
def ph(h:p:=by
 induction h with
 |nil=>exact .nil
 |cons h1 _ ih=>exact .cons (.there h1) ih):p:=h
def pn(h:p:=by
 intro x hx;rcases fU.1 hx with hx|hx
 .exact hall x hx
 .rw[bR.1 hx];omega):p:=h
def po(h:p:=by have e:(iU 11).op=false:=rfl;rw[e,if_neg (by simp)]at hn2;exact .inr hn2):p:=h
def pw(h:p:=by obtain⟨c,L',j,i,l,l',G,hcr,hl⟩:=Io g hg e h0;unfold Bu at hcr;omega):p:=h
def px(h:p:=by obtain⟨body,hb⟩:=Mc.1 h5;exact⟨fn,body,h3,hb,by simpa using h4⟩):p:=h
def py(h:p:=by have:=Classical.choose_spec (hc i) hi;exact⟨(bz.1 this).1,fK this⟩):p:=h
def pA(h:p:=by rw[e]at this;exact Option.some.inj this):p:=h
def pB(h:p:=by injection this with this;injection this):p:=h
def pC(h:p:=by unfold upTo' at hc;obtain⟨i,hi,rfl⟩:=cO.1 hc;have:=xP.1 hi;omega):p:=h
def pD(h:p:=by
 cases hb:Nat.ble (m+(k+1)) m with
 |false=>rfl
 |true=>have:=pQ hb;omega):p:=h
def pH(h:p:=by simp only[bC,lQ,DT]at hr;simp only[hr]):p:=h
def pL(h:p:=by have:=OR.Jk (P:=P) (w:=w) t (hcs.mono hle) hc [] 0;simpa using this):p:=h
def pN(h:p:=by exact this.imp (λh=>by simpa using h)):p:=h
def pP(h:p:=by
 intro g hg;rcases fU.1 hg with hg|hg
 .exact q2 g hg
 .exact u2 g hg):p:=h
def pS(h:p:=by dsimp only[cond];refine go ?_;exact uO () (hv:=rfl) (hp:=trivial)):p:=h
def pT(h:p:=by show ok (xs.take (k+1)) _;rw[fq hx];exact hok _ s _ _ hos hX hst):p:=h
def pZ(h:p:=by refine go ?_;exact gQ c2 trivial (hk:=by exact .cons .here .nil)):p:=h
def p0(h:p:=by refine go ?_;exact bad (λq=>by have:=q.wi;omega) rfl rfl .here):p:=h
def qe(h:p:=by refine go ?_;exact bad (λq=>by have:=q.he;omega) rfl rfl .here):p:=h
def qk(h:p:=by have:=hK.typ.lim.r;rw[hK.lists];unfold oC;rw[fu,bi,o8,bi];omega):p:=h
def qn(h:p:=by exact⟨j,by omega,h2,h3⟩):p:=h
def qq(h:p:=by obtain⟨v,h1,h2,h3⟩:=hm;cases he;rw[h2];exact .ret v h1 h3):p:=h
def qt(h:p:=by rw[h2,<- h.decl]at this;exact this):p:=h
def qu(h:p:=by obtain⟨t1,t2,fn,t3,t4⟩:=e5;exact⟨t1,t2,e4,fn,t3,t4⟩):p:=h
def qS(h:p:=by exact gQ (.slice none 0 0) trivial):p:=h
def qT(h:p:=by refine go ?_;exact Ot () (hv:=rfl) (hm:=rfl) (hp:=trivial)):p:=h
def rh(h:p:=by
 cases m with
 |zero=>simp[T.F4]
 |succ m=>
  rw[T.zn,T.zn]
  grind):p:=h
def ri(h:p:=by simp only[execOp,resolve,k4,Deferred.ofValue,dY,fZ,eZ,he]):p:=h
def rj(h:p:=by rw[hl];simp only[bC,lQ]at hr⊢;exact⟨hr.2.symm,hr.1⟩):p:=h
def rp(h:p:=by rw[hk]at this;simp[jK,hk,this.oh]):p:=h
def rB(h:p:=by rw[fq h,BZ,gW,Ae (by omega)];simp):p:=h
def rI(h:p:=by
 induction n with
 |zero=>rfl
 |succ n ih=>rw[wR,iX,<- ih];rfl):p:=h
def rK(h:p:=by simp only[aR.run,hx,hy];rw[AL];simp[sP,uF,<- Int.not_le]):p:=h
def rL(h:p:=by
 rcases dm.1 hf with rfl|hf
 .exact ul _ hm
 .exact wQ _ hf):p:=h
def rN(h:p:=by
 rcases dm.1 h with rfl|h
 .exact eX ..
 .exact fP _ (Uf h)):p:=h
def rS(h:p:=by
 rcases Nat.mul_eq_zero.1 h0 with hh|hh
 .exact hh
 .omega):p:=h
def r5(h:p:=by injection hpq with e1 e2;exact Prod.ext (inj _ _ e1) e2):p:=h
def r6(h:p:=by
 unfold dV dB;simp only[ww]
 grind):p:=h
def r7(h:p:=by rw[Nat.shiftLeft_eq,BS];exact Mk (by omega) (by omega)):p:=h
def r8(h:p:=by exact⟨.value v',w',β',v',Ar r1,.inl rfl,r2,r3,r4⟩):p:=h
def sg(h:p:=by refine go ?_;exact gQ v trivial):p:=h
def sk(h:p:=by
 rcases WX E.n with h0|h0
 .rw[h0]at hj;omega
 .exact h0):p:=h
def sn(h:p:=by rintro t ⟨y,p,_,_,hp',nM⟩;exact hds y p t hp' nM):p:=h
def sq(h:p:=by have:=QS.2 hx;rw[ha,List.count_cons_self]at h;omega):p:=h
def sv(h:p:=by exact hall i' (by omega) x hx'):p:=h
def sx(h:p:=by show(bS++[x]).map pJ=_;rw[bZ,kg,iW];exact hnx.symm):p:=h
def sA(h:p:=by
 rw[bZ,iX,aaZ,iW];conv=>rhs;rw[adQ (j+1),hnx,fo]
 rfl):p:=h
def sB(h:p:=by refine aZ ?_;rw[dA (λe=>k7 (by cases e;rfl))];rfl):p:=h
def sC(h:p:=by refine aZ ?_;rw[dA (λe=>k6 (by cases e;rfl))];rfl):p:=h
def sE(h:p:=by refine aZ ?_;rw[dA (λe=>k5 (by cases e;rfl))];rfl):p:=h
def sL(h:p:=by refine aZ ?_;rw[dA (λe=>k4 (by cases e;rfl))];rfl):p:=h
def sR(h:p:=by refine aZ ?_;rw[dA (λe=>k3 (by cases e;rfl))];rfl):p:=h
def sX(h:p:=by refine aZ ?_;rw[dA (λe=>k2 (by cases e;rfl))];rfl):p:=h
def sY(h:p:=by
 cases r with
 |none=>simp[F9 hz,Js]
 |some p=>simp[Js]):p:=h
def s5(h:p:=by
 refine gH ?_ ?_<;>intro t1
 .exact cJ
 refine gC (VK (xs:=k.aH) n1 n2) λm hm=>?_;refine gH ?_ ?_<;>intro t2
 .exact cJ
 refine gH ?_ ?_<;>intro t3
 .exact cJ
 refine gH ?_ ?_<;>intro t4
 .exact cJ
 exact lO):p:=h
def s6(h:p:=by omega):p:=h
def s7(h:p:=by simp):p:=h
def s8(h:p:=by kernel_rfl):p:=h
def tc(h:p:=by repeat (first|exact aJ.nil|(apply aJ.cons;(focus (repeat (first|exact aD.here|apply aD.there)))))):p:=h
def td(h:p:=by simp[Op.operands]):p:=h
def tf(h:p:=by first|exact rfl|(conv=>lhs;whnf)):p:=h
def tg(h:p:=by decide):p:=h
def th(h:p:=by simp;omega):p:=h
def tj(h:p:=by simpa using h):p:=h
def tn(h:p:=by simp[stepG,stepG.exec,fr]):p:=h
def tr(h:p:=by cases e;rfl):p:=h
def tt(h:p:=by simp[h]):p:=h
def tv(h:p:=by show k+1<=_;omega):p:=h
def tw(h:p:=by rw[hk];rfl):p:=h
def tx(h:p:=by rw[e];rfl):p:=h
def tD(h:p:=by intro e;rw[e]at h;cases h):p:=h
def tE(h:p:=by rw[hf];simp):p:=h
def tG(h:p:=by simpa using h1):p:=h
def tI(h:p:=by simpa[wN]using hb):p:=h
def tM(h:p:=by rw[e2];exact hw):p:=h
def tP(h:p:=by simpa[rT]using hb):p:=h
def tR(h:p:=by rw[gW];omega):p:=h
def tS(h:p:=by rw[kK];omega):p:=h
def tW(h:p:=by subst hy;simp[Op.operands]):p:=h
def ua(h:p:=by rw[ym];exact hro):p:=h
def uc(h:p:=by apply Array.ext';simp):p:=h
def ud(h:p:=by rw[hh];exact h2):p:=h
def ur(h:p:=by repeat (first|exact trivial|refine⟨rfl,?_⟩)):p:=h
def us(h:p:=by rw[bi,gW];omega):p:=h
def uv(h:p:=by show i+1<=_;omega):p:=h
def ux(h:p:=by show j+1<=_;omega):p:=h
def u9(h:p:=by rw[hre];rfl):p:=h
def vi(h:p:=by rw[hgn];omega):p:=h
def vj(h:p:=by rw[bi];omega):p:=h
def vA(h:p:=by rw[hop];rfl):p:=h
def we(h:p:=by rw[qa];exact hr):p:=h
def wg(h:p:=by simpa using e):p:=h
def wj(h:p:=by rw[h1];exact bR.2 rfl):p:=h
def wk(h:p:=by simpa using h2):p:=h
def wl(h:p:=by rw[uo];omega):p:=h
def wq(h:p:=by rw[<- hrun];exact aJ.all _):p:=h
def wx(h:p:=by simpa using hnd):p:=h
def wA(h:p:=by simpa using hc):p:=h
def w7(h:p:=by repeat (first|exact aD.here|apply aD.there)):p:=h
def w8(h:p:=by simpa using hi):p:=h
def xa(h:p:=by simpa using hz):p:=h
def xb(h:p:=by simp only[Op.operands,List.mem_toArray,cO];exact⟨p,hp,rfl⟩):p:=h
def xf(h:p:=by simpa using hx):p:=h
def xj(h:p:=by rw[put_defers];exact t2.act.defers):p:=h
def xp(h:p:=by intro r hr;cases hr):p:=h
def xF(h:p:=by rw[sZ hn];exact next):p:=h
def xT(h:p:=by intro e;cases e):p:=h
def x6(h:p:=by rw[h2];simp):p:=h
def x7(h:p:=by simp only[target,kR,jo]):p:=h
def ya(h:p:=by rw[r9];omega):p:=h
def yb(h:p:=by have:=((vU uH).zero x.values x.values).2 rfl;omega):p:=h
def ye(h:p:=by rw[h.len];omega):p:=h
def yp(h:p:=by show cells.length - (k+1)<cells.length - k;omega):p:=h
def yq(h:p:=by rw[xC];exact hm):p:=h
def yW(h:p:=by show Value.bool _=_;rw[tX]):p:=h
def zc(h:p:=by simp[iY,dQ,Ideal.cellV]):p:=h
def zd(h:p:=by show xs.length - (k+1)<xs.length - k;omega):p:=h
def zp(h:p:=by rw[Du];rfl):p:=h
def An(h:p:=by simp[nR,hk]):p:=h
def As(h:p:=by simp[Act.eval,Act.put]):p:=h
def Ax(h:p:=by simpa[dQ]using h):p:=h
def AD(h:p:=by rw[e2];exact q1):p:=h
def AE(h:p:=by rw[<- JD];exact hdd):p:=h
def AF(h:p:=by simp[Op.operands,Call.operands]):p:=h
def AG(h:p:=by simp only[Op.operands,Call.operands];grind):p:=h
def AH(h:p:=by rw[hget];simp):p:=h
def AI(h:p:=by rw[hx];exact hread):p:=h
def AK(h:p:=by simpa using hj):p:=h
def AM(h:p:=by rw[hg.cells];exact TQ _ _):p:=h
def AN(h:p:=by show g.length - (k+1)<g.length - k;omega):p:=h
def AS(h:p:=by show b - (m+1)<b - a;omega):p:=h
def AT(h:p:=by show m - a<b - a;omega):p:=h
def AW(h:p:=by intro s x lo o B w0;refine go ?_;intro b8;refine go ?_;exact zI b8 rfl):p:=h
def A0(h:p:=by show lb.length - (k+1)<lb.length - k;omega):p:=h
def Bk(h:p:=by show d.rules.length - (k+1)<d.rules.length - k;omega):p:=h
def Bm(h:p:=by unfold u7;omega):p:=h
def Bs(h:p:=by rw[hr];first|exact aJ.all _|exact aJ.self _ _):p:=h
def Bx(h:p:=by show l.length - (i+1)<l.length - i;omega):p:=h
def By(h:p:=by show k.decl.rules.length - (j+1)<k.decl.rules.length - j;omega):p:=h
def BE(h:p:=by rw[<- hxy,bi]):p:=h
def BT(h:p:=by rw[<- hgn];exact hf):p:=h
def BW(h:p:=by unfold lM;simp[c0]):p:=h
def BY(h:p:=by unfold lM;simp[c4]):p:=h
def B0(h:p:=by unfold lM;simp[c5]):p:=h
def B7(h:p:=by rw[hil];omega):p:=h
def B8(h:p:=by rw[IntKind.wrap_i64];omega):p:=h
def B9(h:p:=by exact aD.here):p:=h
def Cd(h:p:=by exact .cons .here .nil):p:=h
def Cl(h:p:=by simp only[execOp,hx',dY,Cm h1 w,eZ,fZ]):p:=h
def Cp(h:p:=by simp only[Op.operands,IQ];grind):p:=h
def CA(h:p:=by simp[stepG,stepG.exec,fr,hr]):p:=h
def CC(h:p:=by rw[put_defers];exact t2.act.defers.mono hle):p:=h
def CD(h:p:=by rw[yj];exact(hcs.mono t0).mono hle):p:=h
def CH(h:p:=by rw[q6];exact hcx.after hle q5):p:=h
def CI(h:p:=by generalize F.defers=d at hd;cases hd;rfl):p:=h
def CM(h:p:=by simp only[aR.run,aR.alloc,uw]):p:=h
def CN(h:p:=by first|((with_reducible apply Nl);(focus ((conv=>lhs;whnf);(first|done|fail))))|((with_reducible apply Nn);(focus ((conv=>lhs;whnf);(first|done|fail))))|((with_reducible apply Ns);exact rfl)|((with_reducible apply Nu);exact rfl;exact rfl)|((with_reducible apply Nv);exact rfl;exact rfl)|((with_reducible apply Nw);exact rfl;exact rfl)|((with_reducible apply Ny);exact rfl;exact rfl)|((with_reducible apply Nz);exact rfl;exact rfl)|((with_reducible apply NA);exact rfl;exact rfl)|((with_reducible apply Nr);exact rfl)|((with_reducible apply Np);exact rfl;(focus ((conv=>lhs;whnf);(first|done|fail))))|((with_reducible apply Nq);exact rfl;(focus ((conv=>lhs;whnf);(first|done|fail))))|((with_reducible apply NC);exact rfl;(focus ((conv=>lhs;whnf);(first|done|fail))))|((with_reducible apply ND);exact rfl)|((with_reducible apply NE);exact rfl;(focus ((conv=>lhs;whnf);(first|done|fail))))|((with_reducible apply NF);exact rfl;(focus ((conv=>lhs;whnf);(first|done|fail))))|((with_reducible apply NG);(focus ((conv=>lhs;whnf);(first|done|fail))))|((with_reducible apply NH);exact rfl)|((with_reducible apply NI);exact rfl)|((with_reducible apply NJ);exact rfl)|with_reducible exact Nt|((with_reducible apply NK);exact rfl;exact rfl;exact rfl)|((with_reducible apply NW);exact rfl;exact rfl;(focus ((omega);(first|done|fail))))|((with_reducible apply JP);exact rfl;exact rfl;(focus ((omega);(first|done|fail)));(focus ((omega);(first|done|fail))))|((with_reducible apply NL);exact rfl;exact rfl;(focus ((omega);(first|done|fail)));(focus ((omega);(first|done|fail))))|((with_reducible apply Gu);exact rfl;exact rfl;(focus ((omega);(first|done|fail)));(focus ((omega);(first|done|fail))))|((with_reducible apply NB);exact rfl;exact rfl;(focus ((omega);(first|done|fail)));(focus ((omega);(first|done|fail))))|((with_reducible apply NP);exact rfl;exact rfl;(focus ((first|assumption|kernel_rfl);(first|done|fail))))|((with_reducible apply NQ);exact rfl;exact rfl;(focus ((first|assumption|kernel_rfl);(first|done|fail))))|((with_reducible apply NR);exact rfl;exact rfl)|((with_reducible apply NS);exact rfl;exact rfl)|((with_reducible apply NT);exact rfl;exact rfl;(focus ((omega);(first|done|fail)));(focus ((omega);(first|done|fail))))):p:=h
def CT(h:p:=by rw[<- (hk2 y).eq,<- (hF2 y).eq];exact back w' _ _ c):p:=h
def C0(h:p:=by rcases ho with rfl|rfl<;>rfl):p:=h
def C1(h:p:=by rw[IX];exact Nat.div_add_mod j E.n):p:=h
def C2(h:p:=by rw[size_flatK,hd2];exact htn):p:=h
def C3(h:p:=by have:=(hO.zero x.values x.values).2 rfl;omega):p:=h
def C4(h:p:=by show ns.length - (k+1)<ns.length - k;omega):p:=h
def C5(h:p:=by rw[rM,if_pos rfl,if_pos hk]):p:=h
def Dd(h:p:=by intro s x lo o B w0;refine go ?_;have z0:Nat:=0;exact zI z0 rfl):p:=h
def Ds(h:p:=by show g.cells.length - (i+1)<g.cells.length - i;omega):p:=h
def DA(h:p:=by show aH.length - (i+1)<aH.length - i;omega):p:=h
def DB(h:p:=by show ln.length - (j+1)<ln.length - j;omega):p:=h
def DE(h:p:=by show d.regions.length - (k+1)<d.regions.length - k;omega):p:=h
def DG(h:p:=by show ls.length - (j+1)<ls.length - j;omega):p:=h
def DH(h:p:=by show p.length - (j+1)<p.length - j;omega):p:=h
def DM(h:p:=by show k.aH.length - (j+1)<k.aH.length - j;omega):p:=h
def DO(h:p:=by show aF.length - (k2+1)<aF.length - k2;omega):p:=h
def DP(h:p:=by show k.lists.length - (i+1)<k.lists.length - i;omega):p:=h
def DS(h:p:=by repeat (first|exact eX .. |apply fP)):p:=h
def D0(h:p:=by rw[hdl];simp only[Nat.min_def];split<;>omega):p:=h
def D3(h:p:=by show 1=_;simp only[Nat.min_def];split<;>omega):p:=h
def Ek(h:p:=by show(lm g.shape).length - (j+1)<(lm g.shape).length - j;omega):p:=h
def E0(h:p:=by show lists.length - (i+1)<lists.length - i;omega):p:=h
def E6(h:p:=by show gU.length - (i+1)<gU.length - i;omega):p:=h
def E7(h:p:=by show k.decl.symbols.length - (j+1)<k.decl.symbols.length - j;omega):p:=h
def Fc(h:p:=by rw[bi,yP s6];omega):p:=h
def Fi(h:p:=by rw[aQ.JI (JJ tP)];exact hi):p:=h
def Fk(h:p:=by unfold mR;rw[if_neg s6,if_neg s6,if_neg s6,if_neg s6,if_neg s6,if_pos s6]):p:=h
def Fl(h:p:=by rw[rM,if_pos rfl,if_pos s6]):p:=h
def Fm(h:p:=by rw[gq,lU,<- qo,E9 hcl.symm s6,htk]):p:=h
def Fo(h:p:=by rw[<- er];exact NV rfl rfl tg):p:=h
def Ft(h:p:=by rw[gq,lU,<- qo,E9 pO.symm s6,<- EO]):p:=h
def FA(h:p:=by rw[gq,lU,<- qo,E9 hjl.symm s6,fq hx,bZ];rfl):p:=h
