/-
  Part Dict.
-/
import Derived.KernelRfl
set_option linter.all false
variable{p:Prop}
def aq(h:p:=by
 have hjs:j<s.length:=by
  have:=G.kE.len (by unfold u7;simp[hcf]);omega
 refine go ?_;intro _ _ iz hiz;have hig:=ji hiz;obtain rfl:iz=(i:Int):=by
  have:=FJ;unfold lH at this;rw[if_pos (by unfold u7;simp[hcf])]at this;omega
 refine gX (ak ae) (xs:=L) (k:=i) λ_ _ l2 (vl2:vI) hl2=>?_;rw[G.hl']at hl2;obtain rfl:l'=l2:=Option.some.inj hl2;refine gC (ali (a:=a9) (xs:=img s l) (ys:=l') (by rw[hil];omega)) λ_ _=>?_;refine gC (alL (a:=a9) (xs:=img s l) (by rw[hil];omega)) λ_ _=>?_;generalize hxd:(((⟨(cn:Int),(i:Int),Ke⟩,vg),oM s l l'):CE)=x;have hnx:(p.take (jj+1)).map (clI k s)=(p.take jj).map (clI k s)++[ail x]:=by
  rw[bZ hg,fP,sQ,<- hxd,G.clI];rfl
 have hX:(kU++x::aiq ((p.drop (jj+1)).map (clI k s))).map ail=p.map (clI k s):=by
  rw[fP,agO,amD,ajb];conv=>rhs;rw[<- uq (jj+1) p,fP,hnx,List.append_assoc]
  rfl
 have Bi:=hy _ s0' _ _ hos hX;rw[show ceV x=[wy ⟨(cn:Int),(i:Int),Ke⟩ vg,.bool (oM s l l')]by rw[<- hxd];rfl,show ceF x=[ai ae vg Ke]by rw[<- hxd];rfl]at Bi;rw[fV,dY]at Bi;have hrl:(img s l).reverse.length=(img s l).length:=akP;by_cases e0:img s l=l'
 .rw[dK e0];have htb:oM s l l'=false:=by unfold oM;simp[e0]
  rw[htb]at Bi;refine gC Bi λ_ _=>?_;cases hst:(step s0' x).2 with
  |true=>
   have hs1:step s0' x=((step s0' x).1,true):=Prod.ext rfl hst;refine go ?_;refine aN (jj+1,kU++[x],(step s0' x).1) (by show p.length - (jj+1)<p.length - jj;omega) ⟨by show jj+1<=_;omega,hok _ s0' _ _ hos hX hst,?_,λrest=>?_⟩
   .show(kU++[x]).map ail=_;rw[fP,sQ,ajb];exact hnx.symm
   .show mD step s0 (kU++[x]++rest)=_;rw[List.append_assoc,hrun];show mD step s0' (x::rest)=_;rw[mD,hs1]
  |false=>
   have hs1:step s0' x=((step s0' x).1,false):=Prod.ext rfl hst;have hr:=hrun (x::aiq ((p.drop (jj+1)).map (clI k s)));rw[mD,hs1]at hr;dsimp only at hr;refine go ?_;exact gQ (kU++x::aiq ((p.drop (jj+1)).map (clI k s))) hX (hk:=by rw[hr];first|exact aI.all _|exact aI.self _ _)
 .rw[aR e0];have htb:oM s l l'=decide ((img s l).reverse=l'):=by unfold oM;simp[e0]
  rw[htb]at Bi;refine gX (ak ae) (xs:=L) (k:=i) λ_ _ l3 (vl3:vI) hl3=>?_;rw[G.hl']at hl3;obtain rfl:l'=l3:=Option.some.inj hl3;refine go ?_;rw[<- hrl];refine ay (ali (a:=a9) (xs:=(img s l).reverse) (ys:=l') (by rw[hrl,hil];omega)) (next:=λ_ _=>?_);refine gC Bi λ_ _=>?_;cases hst:(step s0' x).2 with
  |true=>
   have hs1:step s0' x=((step s0' x).1,true):=Prod.ext rfl hst;refine go ?_;refine aN (jj+1,kU++[x],(step s0' x).1) (by show p.length - (jj+1)<p.length - jj;omega) ⟨by show jj+1<=_;omega,hok _ s0' _ _ hos hX hst,?_,λrest=>?_⟩
   .show(kU++[x]).map ail=_;rw[fP,sQ,ajb];exact hnx.symm
   .show mD step s0 (kU++[x]++rest)=_;rw[List.append_assoc,hrun];show mD step s0' (x::rest)=_;rw[mD,hs1]
  |false=>
   have hs1:step s0' x=((step s0' x).1,false):=Prod.ext rfl hst;have hr:=hrun (x::aiq ((p.drop (jj+1)).map (clI k s)));rw[mD,hs1]at hr;dsimp only at hr;refine go ?_;exact gQ (kU++x::aiq ((p.drop (jj+1)).map (clI k s))) hX (hk:=by rw[hr];first|exact aI.all _|exact aI.self _ _)):p:=h
def be(h:p:=by
 obtain⟨m,rfl⟩:=jA hi0;refine gX (ak ae) (xs:=L) λ_ _ l' (vl':vI) hl'=>?_;have akH:=ai0 l' (aZ hl');refine gC (al7 (b:=b10) (vw:=.slice (some ⟨bw,0,some 0⟩) l.length l.length) (w:=img s l) (by rw[hil];omega) l' akH vl') λ_ _=>?_;dsimp only;cases e1:xV l' (img s l)with
 |false=>
  refine acM ?_;rw[ak8 hl (by
   cases e:NI L s rf eq l j with
   |false=>rfl
   |true=>
    have:=(ak9 FJ e).2.1;rw[kJ,j5 hl',e1]at this;cases this)];rfl
 |true=>
 refine gX (ak ae) (xs:=L) λ_ _ l'' (vl':vI) akW=>?_;rw[hl']at akW;obtain rfl:l'=l'':=Option.some.inj akW;refine gC (he vl' (.slice (some ⟨bw,0,some 0⟩) l.length l.length) l' (img s l) akH (by rw[hil];omega)) λ_ _=>?_;cases e2:eq l' (img s l)with
 |false=>
  refine acM ?_;rw[ak8 hl (by
   cases e:NI L s rf eq l j with
   |false=>rfl
   |true=>
    have:=(ak9 FJ e).2.2;rw[kJ,j5 hl',e2]at this;cases this)];rfl
 |true=>
  refine go ?_;exact aN (j+1) (by show L.length - (j+1)<L.length - j;omega) ⟨by omega,λi' hi' x hx=>(by
   by_cases e:i'=j
   .subst e;rw[hl]at hx;cases hx;exact amw FJ hl' e1 e2
   .exact hall i' (by omega) x hx)⟩):p:=h
def bh(h:p:=by
 have hs1:step s0' x=((step s0' x).1,true):=Prod.ext rfl hst;refine go ?_;refine aN (jj+1,kU++[x],(step s0' x).1) (by show p.length - (jj+1)<p.length - jj;omega) ⟨by show jj+1<=_;omega,hok _ s0' _ _ hos hX hst,?_,λrest=>?_⟩
 .show(kU++[x]).map ail=_;rw[fP,sQ,ajb];exact hnx.symm
 .show mD step s0 (kU++[x]++rest)=_;rw[List.append_assoc,hrun];show mD step s0' (x::rest)=_;rw[mD,hs1]):p:=h
def bj(h:p:=by
 refine go ?_;refine CJ ?_;refine go ?_;refine AQ (false,(xs.take k).map nm) (hv:=rfl) (hp:=⟨(λh=>by cases h),λ_ hn=>?_⟩);rw[(qi hx).1]at hm;have hsub:(aj.map (·.1)++(xs.take k).map nm++[nm x]).Nodup:=by
  have e:xs.map nm=(xs.take k).map nm++nm x::(xs.drop (k+1)).map nm:=by
   conv=>lhs;rw[<- uq k xs]
   rw[fP];congr 1;rw[oU (bq.1 hx).1,agO,(bq.1 hx).2]
  rw[e,<- List.append_assoc]at hn;rw[iT]at hn⊢;exact⟨hn.1,by simp,λa ha c hc=>hn.2.2 a ha c (by rw[bM.1 hc];exact cB ..)⟩
 rw[iT]at hsub;exact hsub.2.2 _ hm _ (bM.2 rfl) rfl):p:=h
def bt(h:p:=by have hs1:step s0' x=((step s0' x).1,false):=Prod.ext rfl hst;have hr:=hrun (x::aiq ((p.drop (jj+1)).map (clI k s)));rw[mD,hs1]at hr;dsimp only at hr;refine go ?_;exact gQ (kU++x::aiq ((p.drop (jj+1)).map (clI k s))) hX (hk:=by rw[hr];first|exact aI.all _|exact aI.self _ _)):p:=h
def cj(h:p:=by
 refine go ?_;have hb0:=hb;rcases hb with⟨rfl,_⟩|⟨b,y,rfl,hy,_,_⟩
 .refine go ?_;refine aN (i+1,(i:Int)) (by show xs.length - (i+1)<xs.length - i;omega) ⟨by dsimp only;omega,hb0.take hx hox (.inl rfl)⟩
 have hbl:=(bq.1 hy).1;rw[show decide ((b:Int)<0)=false from aR (by omega)];refine gX bO (xs:=xs) λ_ _ x1 (vx1:vI) hx1=>?_;cases hx.symm.trans hx1;refine gX bO (xs:=xs) λ_ _ y1 (vy1:vI) hy1=>?_;cases hy.symm.trans hy1;refine gC (WX (a:=x) (b:=y) (va:=vx1) (vb:=vy1)) λ_ _=>?_;rw[<- Uy];refine gH ?_ ?_<;>intro h5
 rotate_left
 .refine go ?_;refine aN (i+1,(i:Int)) (by show xs.length - (i+1)<xs.length - i;omega) ⟨by dsimp only;omega,hb0.take hx hox (.inr ⟨b,y,rfl,hy,aeh.2 (.inl h5)⟩)⟩
 refine gX bO (xs:=xs) λ_ _ x2 (vx2:vI) hx2=>?_;cases hx.symm.trans hx2;refine gX bO (xs:=xs) λ_ _ y2 (vy2:vI) hy2=>?_;cases hy.symm.trans hy2;refine gC (WX (a:=x) (b:=y) (va:=vx2) (vb:=vy2)) λ_ _=>?_;rw[<- Uy];refine gH ?_ ?_<;>intro h6
 .refine go ?_;refine aN (i+1,(b:Int)) (by show xs.length - (i+1)<xs.length - i;omega) ⟨by dsimp only;omega,hb0.keep hx hy (λh=>(aeh.1 h).elim h5 λh=>h6 h.1)⟩
 refine gX bO (xs:=xs) λ_ _ x3 (vx3:vI) hx3=>?_;cases hx.symm.trans hx3;refine gX bO (xs:=xs) λ_ _ y3 (vy3:vI) hy3=>?_;cases hy.symm.trans hy3;refine gC (WY (xs:=x.values) (ys:=y.values) (hv x (aZ hx)) (hv y (aZ hy))) λ_ _=>?_;refine gIf ?_ ?_<;>intro h7
 .refine go ?_;refine aN (i+1,(i:Int)) (by show xs.length - (i+1)<xs.length - i;omega) ⟨by dsimp only;omega,hb0.take hx hox (.inr ⟨b,y,rfl,hy,aeh.2 (.inr ⟨h6,h7⟩)⟩)⟩
 refine go ?_;refine aN (i+1,(b:Int)) (by show xs.length - (i+1)<xs.length - i;omega) ⟨by dsimp only;omega,hb0.keep hx hy (λh=>(aeh.1 h).elim h5 λh=>h7 h.2)⟩):p:=h
def ck(h:p:=by intro hb;refine⟨⟨?_,?_,?_,?_,?_,?_⟩,⟨?_,?_,?_⟩,?_,?_,?_⟩<;>dsimp only<;>first|(simp_all;done)|(simp_all;omega)|omega):p:=h
def cm(h:p:=by
 rintro⟨⟨q1,q2,q3,q4,q5,q6⟩,⟨p1,p2,p3⟩,p4,p5,p6⟩;dsimp only at q1 q2 q3 q4 q5 q6 p1 p2 p3 p4 p5 p6
 simp_all):p:=h
def cq(h:p:=by
 refine go ?_;intro _ _ iz hiz;have hig:=ji hiz;have hi0:=(H.ps.fG iz (aZ hiz))
 have hLn:=H.kE.len hby;obtain⟨i,rfl⟩:=jA hi0.1;refine gX (ak ae) (xs:=L) (k:=i) λ_ _ l' (vl':vI) hl'=>?_;have akH:=ai0 l' (aZ hl');refine gC (amF (xs:=l') (ys:=img s l) (by omega) (by rw[hil];omega)) λ_ _=>?_;have hr:rIm L s (f:Int) l j=if eqL l' (img s l)then(i:Int)else -1:=by
  unfold rIm;rw[if_pos hby,hig,kJ,j5 hl']
 refine go ?_;refine kw rfl (λh9=>?_) (λh9=>?_)
 .refine go ?_;intro _ _ iz2 alq;rw[hiz]at alq;obtain rfl:(i:Int)=iz2:=Option.some.inj alq;refine acM ?_;rw[hr,if_pos h9];rfl
 refine acM ?_;rw[hr,if_neg (by rw[h9];simp)];rfl):p:=h
def cw(h:p:=by refine go ?_;refine fB (xs:=upTo' i) ae (i:Int) () (by omega) (next:=λad=>?_);rw[<- wo];refine go ?_;exact aN (i+1,.slice ad ((upTo' i).length+1) ((upTo' i).length+1)) (by show g.cells.length - (i+1)<g.cells.length - i;omega) (by show i+1<=_;omega)):p:=h
def cA(h:p:=by refine go ?_;refine aN (k+1) (by omega) ⟨by omega,?_⟩;rw[bZ hx,bZ hy,hsame,h3]):p:=h
def cC(h:p:=by
 have iR:j=ps.length:=by omega
 subst iR;rw[bU]at hmem hnd⊢;have hrl2:(eZ g ps).length=ps.length:=by unfold eZ;rw[bY]
 refine pO (E:=ae) (v:=v8) (xs:=eZ g ps) λa8 e8=>?_;subst e8;refine gIf ?_ ?_<;>intro h5
 .refine go ?_;refine jE (c:=(130:Int)=0) (f:=ai (ak ae) (.slice none 0 0) (dW g rs)) (by omega) ?_;exact gQ ⟨.slice none 0 0,130⟩ ⟨(λh=>by cases h),λh=>by
   exfalso
   exact(h.2.all ps hpm).ne (jy.1 (by omega))⟩
 have hR:zk g ps:=⟨λe=>h5 (by rw[hrl2,e];rfl),hmem,hnd⟩
 have hrr:dW g (rs.take (k+1))=dW g (rs.take k)++[eZ g ps]:=by unfold dW;rw[htk,fP,sQ]
 refine gZ (gz (E:=ae) (v:=.slice a8 (eZ g ps).length (eZ g ps).length) (xs:=eZ g ps)) ?_;refine go ?_;intro b61;refine go ?_;refine fB (xs:=dW g (rs.take k)) (ak ae) (eZ g ps) (.slice a8 (eZ g ps).length (eZ g ps).length) (by omega) (next:=λad=>?_);rw[<- hrr];refine go ?_;refine aN (k+1,.slice ad ((dW g (rs.take k)).length+1) ((dW g (rs.take k)).length+1)) (by show rs.length - (k+1)<rs.length - k;omega) ⟨by show k+1<=_;omega,?_⟩;show∀qs∈rs.take (k+1),zk g qs;rw[htk];intro qs hq;rcases dX.1 hq with hq|hq
 .exact hall qs hq
 .rw[bM.1 hq];exact hR):p:=h
def cD(h:p:=by
 refine gIf ?_ ?_<;>intro h2
 .have hj:((xs.length:Int) - 1 - (q:Int))=((xs.length - 1 - q:Nat):Int):=by omega
  have hlt:xs.length - 1 - q<xs.length:=by omega
  rw[hj];generalize hjj:xs.length - 1 - q=j at hj hlt⊢;refine go ?_;intro _ _ x hx;have htk:xs.reverse.take (q+1)=xs.reverse.take q++[x]:=bZ (by rw[List.getElem?_reverse (by omega),hjj];exact hx);refine go ?_;intro b50;refine go ?_;refine fB (xs:=xs.reverse.take q) ae x () (by omega) (next:=λad=>?_);rw[<- htk];refine go ?_;exact aN (q+1,.slice ad ((xs.reverse.take q).length+1) ((xs.reverse.take q).length+1)) (by show xs.length - (q+1)<xs.length - q;omega) (by show q+1<=_;omega) (hl:=by dsimp only;rw[show(xs.length:Int) - 1 - ((q+1:Nat):Int)=(j:Int) - 1 by omega];repeat (first|exact trivial|refine⟨rfl,?_⟩))
 have hqe:q=xs.length:=by omega
 subst hqe;rw[show xs.reverse.take xs.length=xs.reverse by rw[ry (by rw[akP];exact bT _)]];refine aie (A:=ap ae v5 xs.reverse) (fs:=[ai ae v5 xs.reverse]) gz (h:=?_);refine go ?_;exact gQ v5 trivial):p:=h
def cE(h:p:=by
 have Aw:yG size (k+1) (ev l x) h=some xs:=hxs;simp only[aF.run,hx,Aw,hs,wX];have e1:nE size m (.slice (some ⟨b,o,f⟩) m m) h=some old:=hold;show∃h',(cond (Nat.ble (Nat.mul (m+(k+1)) bytes) small&&Nat.ble (Nat.mul (m+(k+1)) size) small&&Nat.ble (m+(k+1)) small) _ _)=_/\_;rw[hc];show∃h',(cond (Nat.ble (m+(k+1)) m) _ _)=_/\_;rw[hlt];simp only[cond,e1];rcases hf with rfl|rfl
 .refine⟨_,rfl,?_⟩;exact⟨rfl,λi hi _=>by rw[IH.jc,if_neg (by omega)],⟨wN _,by rw[IH.jc,if_pos rfl,jK]⟩,λ_=>rfl⟩
 .cases size with
  |zero=>
   refine⟨_,rfl,?_⟩;exact⟨rfl,λi hi _=>by rw[IH.jc,if_neg (by omega)],⟨wN _,by rw[IH.jc,if_pos rfl,jK]⟩,λ_=>rfl⟩
  |succ j=>
   have hj:Nat.beq (Nat.succ j) (j+1)=true:=alT _;refine⟨(h.kill b).new (.cells (old++xs)),?_,?_⟩
   .show cond (Nat.beq (Nat.succ j) (j+1)) _ _=_;rw[hj,jK];rfl
   .exact⟨rfl,λi hi hb=>by rw[IH.jc,if_neg (by show i≠h.next;omega),IH.uF,if_neg hb],⟨wN _,by rw[IH.jc];exact if_pos rfl⟩,λhl=>by rw[IH.KG,IH.Af];omega⟩):p:=h
def cF(h:p:=by
 refine acM ?_;have:xs=ys:=by
  apply iY;intro j;by_cases hj:j<k
  .exact hsame j hj
  .rw[fO (by omega),fO (by omega)]
 rw[dK this];rfl):p:=h
def cG(h:p:=by
 obtain⟨xn,rfl⟩:=jA Dh.1;refine go ?_;intro _ _ z hz;have hzg:=ji hz;have htk:img s (l.take (q+1))=img s (l.take q)++[z]:=by
  unfold img;rw[bZ hx,fP,sQ,hzg]
 refine go ?_;intro b50;refine go ?_;refine fB (xs:=img s (l.take q)) ae z () (by omega) (next:=λad=>?_);rw[<- htk];refine go ?_;exact aN (q+1,.slice ad ((img s (l.take q)).length+1) ((img s (l.take q)).length+1)) (by show l.length - (q+1)<l.length - q;omega) (by show q+1<=_;omega)):p:=h
def cH(h:p:=by
 refine gIf ?_ ?_<;>intro h3
 .refine acM ?_;rw[mH,zD hkx uj (by omega),if_pos (by omega)];rfl
 refine gIf ?_ ?_<;>intro h4
 .refine acM ?_;rw[mH,zD hkx uj (by omega),if_neg (by omega),if_pos (by omega)];rfl
 refine acM ?_;rw[mH,zD hkx uj (by omega),if_neg (by omega),if_neg (by omega)];rfl):p:=h
def cI(h:p:=by
 obtain⟨s,o⟩:=so;obtain⟨hn,ho⟩:=ho;have hn:o=.normal:=hn;subst hn;exact ac8 (Y:=Unit) (L:=⟨.ready,none,ahI l,n,ps,assign,body,r⟩) (args:=vals x) (k1:=inv s) (out:=λ_=>(step s x).2) (k1':=λ_=>inv (step s x).1) (fs:=λ_=>[]) (pr:=λ_=>True) l (l3 x) (λz=>k3 x z++inv s) rfl rfl hps (hlen x)
  (λB w0=>ha s x lo _ B w0) (λz B w0=>hb vs s x rest z lo _ B w0 ho hx)):p:=h
def cJ(h:p:=by
 refine go ?_;refine aN (k+1) (by omega) ⟨by omega,λj hj=>?_⟩;by_cases e:j=k
 .subst e;rw[hx,hy,h3]
 .exact hsame j (by omega)):p:=h
def cM(h:p:=by refine go ?_;exact gQ false (λh=>by cases h)):p:=h
def cN(h:p:=by
 apply iY;intro j;by_cases hj:j<k
 .exact hsame j hj
 .rw[fO (by omega),fO (by omega)]):p:=h
def cP(h:p:=by
 have:k=xs.length:=by omega
 subst this;refine acM ?_;rw[bU,hlen,bU]at hsame;rw[dK hsame];rfl):p:=h
def cQ(h:p:=by refine acM ?_;rw[aR (λe=>by subst e;rw[hx]at hy;exact h3 (Option.some.inj hy))];rfl):p:=h
def cR(h:p:=by
 refine go ?_;intro b53;refine go ?_;refine fB (xs:=eZ g (ps.take j)) ae (c:Int) () (by omega) (next:=λad=>?_);rw[<- hr1];refine go ?_;refine aN (j+1,.slice ad ((eZ g (ps.take j)).length+1) ((eZ g (ps.take j)).length+1)) (by show ps.length - (j+1)<ps.length - j;omega) ⟨by show j+1<=_;omega,?_,?_⟩
 .show∀p∈ps.take (j+1),p∈g.cells;rw[htx];intro p hp;rcases dX.1 hp with hp|hp
  .exact hmem p hp
  .rw[bM.1 hp];exact hxm
 .show(eZ g (ps.take (j+1))).Nodup;rw[hr1,iT];exact⟨hnd,by simp,λa ha b hb e=>h5 (by rw[bM.1 hb]at e;rw[<- e];exact ha)⟩):p:=h
def cS(h:p:=by
 refine go ?_;intro _ _ x hx;refine gH ?_ ?_<;>intro h2
 rotate_left
 .refine go ?_;exact gQ false (um.not hx (λq=>by omega) _ rfl)
 refine gH ?_ ?_<;>intro h3
 rotate_left
 .refine go ?_;exact gQ false (um.not hx (λq=>by omega) _ rfl)
 obtain⟨xn,rfl⟩:=jA (by omega:0<=x);refine go ?_;intro _ _ y hy;refine gIf ?_ ?_<;>intro h4
 .refine go ?_;exact gQ false (um.not hx (λq=>by have:=q.2.2;rw[ji hy]at this;exact h4 this) _ rfl)
 refine go ?_;exact aN (k+1) (by omega) ⟨by omega,hall.step hx (by omega) (by omega) (by rw[ji hy];exact ic.1 h4)⟩):p:=h
def cT(h:p:=by refine acM ?_;rw[aR (λe=>by cases e;rw[hx]at hy;exact h3 (Option.some.inj hy))];rfl):p:=h
def cU(h:p:=by
 refine gC Bi λ_ _=>?_;rw[hd,mD]at hrun;refine go ?_;cases hst:step s ((k:Int),_)with
 |mk s' b=>
  have hst:=hst;rw[hst]at hrun;cases b with
  |true=>
   refine go ?_;refine aN (k+1,s') (by show g.cells.length - (k+1)<g.cells.length - k;omega) ⟨by show k+1<=_;omega,?_,hrun⟩;have:=hok _ s _ _ hos hX (by rw[hst]);rw[hst]at this;rw[show(bB g).take (k+1)=(bB g).take k++[_]from by rw[nP,hsp];rfl];rw[hso];exact this
  |false=>
   refine go ?_;exact gQ (bB g) rfl (hk:=by rw[<- hrun];exact aI.all _)):p:=h
def cV(h:p:=by refine acM ?_;rw[aR (λe=>h3 (by rw[e,hy]at hx;cases hx;rfl))];rfl):p:=h
def cW(h:p:=by
 have hno:¬akC k.decl.symbols.length cl:=λh=>by have:=hb.2 h;cases this
 refine go ?_;refine eF (ai bO (.slice none 0 0) ([]:kI Clue)) (λw _=>.inl ⟨rfl,none,0,rfl,trivial⟩) ?_;refine eF (ai ae (.slice none 0 0) ([]:kI Int)) (λw _=>.inl ⟨rfl,none,0,rfl,trivial⟩) ?_;exact gQ ⟨.slice none 0 0,.slice none 0 0,.slice none 0 0,⟨1,[],[],[]⟩⟩ ⟨λh=>absurd hK h,λ_ h=>absurd hQ h,λ_ _ _=>rfl,λ_ _ h=>absurd h.1 hno⟩):p:=h
def c7(h:p:=by
 refine go ?_;refine gQ ⟨false,.nilFunc,.nilFunc⟩ ⟨(λe=>by cases e),λe=>?_⟩
 exfalso
 have e:=wz.2 e;obtain⟨q1,q2,q3,q4,q5,q6⟩:=e;omega):p:=h
def c9(h:p:=by refine go ?_;refine eF (ai bO (.slice none 0 0) ([]:kI Clue)) (λw _=>.inl ⟨rfl,none,0,rfl,trivial⟩) ?_;refine eF (ai ae (.slice none 0 0) ([]:kI Int)) (λw _=>.inl ⟨rfl,none,0,rfl,trivial⟩) ?_;exact gQ ⟨.slice none 0 0,.slice none 0 0,.slice none 0 0,⟨e,[],[],[]⟩⟩ ⟨λh=>by rw[<- he.1 h];rfl,λa b=>by rw[<- he.2.1 a b];rfl,λa b _=>absurd (he.2.2 a b) hne,λa b _=>absurd (he.2.2 a b) hne⟩):p:=h
def da(h:p:=by
 have hno:¬dH k:=λh=>by have:=hb.2 h;cases this
 dsimp only[cond];refine go ?_;exact gQ 180 ⟨λ_=>rfl,λh=>absurd h hno,λh=>absurd h hno⟩):p:=h
def dc(h:p:=by
 refine gC (Po (b4:=b4) (b8:=b8) (b9:=b9) (bs:=bs) (bu:=bu) (m:=m) (cl:=cl) (sy:=fH cl (ed (aK k) p++(upTo' m).take j)) (s:=(j:Int)) (vc:=.slice ac m cc) hc (by omega) hgi.len (by omega) (by omega)) λ_ _=>?_;have hnx:(upTo' m)[j]? =some (j:Int):=by
  unfold upTo';rw[dm,pU (by omega)];rfl
 rw[<- wD,List.append_assoc,<- bZ hnx];refine go ?_;exact aN (j+1) (by show m - (j+1)<m - j;omega) (by show j+1<=m;omega)):p:=h
def de(h:p:=by
 have:=h4 (j+1) g e hg he;rw[List.drop_drop];have hle:o0+P.cellsOf f.type<=g.offset:=by
  have hj:(fs.map (·.offset))[j]? =some g.offset:=by rw[dm,hg];rfl
  rw[h3]at hj;have hs:(fs.map λf=>P.cellsOf f.type)[j]? =some (P.cellsOf g.type):=by rw[dm,hg];rfl
  exact(yV _ ([]:kI vI) (o0+P.cellsOf f.type) j _ _ hj hs).2
 rw[show P.cellsOf f.type+(g.offset - (o0+P.cellsOf f.type))=g.offset - o0 by omega];exact this):p:=h
def dg(h:p:=by refine go ?_;have hL0:L=[]:=jy.1 (by omega);refine eF (ai bO (.slice none 0 0) ([]:kI Clue)) (λw _=>.inl ⟨rfl,none,0,rfl,trivial⟩) ?_;refine eF (ai ae (.slice none 0 0) ([]:kI Int)) (λw _=>.inl ⟨rfl,none,0,rfl,trivial⟩) ?_;exact gQ ⟨.slice none 0 0,.slice none 0 0,.slice none 0 0,⟨1,[],[],[]⟩⟩ ⟨λh=>absurd hK h,λ_ h=>absurd hQ h,λ_ _ _=>rfl,λ_ _ h=>absurd hL0 h.2⟩):p:=h
def dj(h:p:=by refine go ?_;intro zH;refine go ?_;refine fB (xs:=dP j λb=>decide (b=(i:Int))||decide (b∈ln)) ae (j:Int) () (by omega) (next:=λad=>?_);rw[<- hss];refine go ?_;exact aN (j+1,.slice ad ((dP j λb=>decide (b=(i:Int))||decide (b∈ln)).length+1) ((dP j λb=>decide (b=(i:Int))||decide (b∈ln)).length+1)) (by show g.cells.length - (j+1)<g.cells.length - j;omega) (by show j+1<=_;omega)):p:=h
def dl(h:p:=by
 intro vs s x rest z lo L B w0 hs hx;subst hs;dsimp only[List.cons_append,List.nil_append];have hlen:s.length<=1000000:=by have:=hl _ hx;rw[iH,oP]at this;omega
 refine SB (h:=λv=>?_);refine go ?_;intro b10;refine fB (xs:=s) ae x () (by omega) (next:=λad=>?_);refine go ?_;refine SC (λv:vI=>[pt b2 (.cells [v]),ap ae v (s++[x])]) _ (h:=?_);exact EY () rfl trivial trivial):p:=h
def dr(h:p:=by
 refine go ?_;refine jE (c:=(130:Int)=0) (f:=ai (ak ae) (.slice none 0 0) (dW g rs)) (by omega) ?_;exact gQ ⟨.slice none 0 0,130⟩ ⟨(λh=>by cases h),λh=>by
  exfalso
  have h6:(eZ g ps).Nodup:=(h.2.all ps hpm).nd;have h7:(eZ g (ps.take (j+1))).Nodup:=by
   refine h6.sublist ?_;unfold eZ;exact(PX _ _).map _
  rw[hr1,iT]at h7;exact h7.2.2 _ h5 _ (bM.2 rfl) rfl⟩):p:=h
def dy(h:p:=by
 have hjs:j<s.length:=by
  have:=akQ.len hby;omega
 refine go ?_;intro _ _ iz hiz;have hig:=ji hiz;obtain rfl:iz=(i:Int):=by
  have:=FJ;unfold lH at this;rw[if_pos hby]at this;omega
 exact afN):p:=h
def ee(h:p:=by refine aN (k+1) (by show m - (k+1)<m - k;omega) (by show k+1<=m;omega) (hk:=by rw[e];repeat (first|exact aI.nil|(apply aI.cons;(focus (repeat (first|exact az.here|apply az.there))))))):p:=h
def ef(h:p:=by
 intro r xs hX;have hrun:∀(ys zs:kI Int),pq (λ(ys:kI Int) (x:Int)=>(ys++[x],Out.normal)) ys zs=(ys++zs,.normal):=by
  intro ys zs;induction zs generalizing ys with
  |nil=>simp[pq]
  |cons z zs ih=>rw[pq];simp only[ih];simp
 rw[hrun,dY];dsimp only[List.cons_append,List.nil_append];refine SB (h:=λv=>?_);refine go ?_;exact IJ ⟨v,xs⟩ (hv:=rfl) (hp:=hX)):p:=h
def eo(h:p:=by
 have h:qH (step so.1 x).2=true:=h;have hn:(step so.1 x).2=.normal:=by
  cases e:(step so.1 x).2 with
  |normal=>rfl
  |_=>rw[e]at h;cases h
 exact⟨hn,hok vs so.1 x rest ho.2 hx hn⟩):p:=h
def ew(h:p:=by refine go ?_;refine aN (k+1) (by omega) ⟨by omega,?_⟩;rw[bZ hx,dX,not_or];exact⟨hno,by simp;exact λe=>h2 e.symm⟩):p:=h
def ez(h:p:=by refine acM ?_;rw[aR (λe=>h1 (by rw[e]))];rfl):p:=h
def eA(h:p:=by refine acM ?_;rw[aR (λe=>by subst e;omega)];rfl):p:=h
def eC(h:p:=by
 refine go ?_;refine kw rfl (λh2=>?_) (λh2=>?_)
 .rw[eB]at h2;have h2:=iI h2;subst h2;refine go ?_;exact gQ (k,true) ⟨⟨λ_=>aZ lQ,λ_=>rfl⟩,λ_=>FZ lQ hno⟩
 .rw[eB]at h2;have h2:=nC h2;refine go ?_;refine aN (k+1) (by omega) ⟨by omega,?_⟩;rw[bZ lQ,dX,not_or];exact⟨hno,by simp;exact λe=>h2 e.symm⟩):p:=h
def eE(h:p:=by
 match j,hj with
 |0,hj=>
  have hj:some (Value.int .i64 x)=some u:=hj;have e1:pre.length+k*ae.n+0=pre.length+k:=by show pre.length+k*1+0=pre.length+k;omega
  rw[e1,pR (by omega),show pre.length+k - pre.length=k by omega,dm,hx];exact hj
 |j+1,hj=>exact absurd hj (by show¬([Value.int .i64 x]:kI vI)[j+1]? =some u;simp)):p:=h
def eI(h:p:=by rw[hp];dsimp only;exact EY () rfl trivial trivial (hk:=by repeat (first|exact aI.nil|(apply aI.cons;(focus (repeat (first|exact az.here|apply az.there))))))):p:=h
def eJ(h:p:=by refine go ?_;exact gQ false (hR _ ⟨(λh=>by cases h),λh=>by exfalso;omega⟩)):p:=h
def eK(h:p:=by
 conv=>lhs;rw[<- uq o cells]
 congr 1;apply iY;intro k;rw[oO,dm];by_cases hkl:k<xs.length
 .obtain⟨y,u1,_⟩:=h9 k xs[k] (bP hkl);have:=u1 0 (.int .i64 xs[k]) rfl;rw[bP hkl];have e1:o+k*ae.n+0=o+k:=by show o+k*1+0=o+k;omega
  rw[e1]at this;exact this
 .rw[fO (by omega),fO (by omega)];rfl):p:=h
def eM(h:p:=by have hle:∀f∈E.fs a y,f.p w':=λf hf=>kz.facts f (hF.mem f hf);refine put w' _ E.n (cells.drop o) (by rw[sO];omega) (λk z hk=>?_) hle (.inr rfl) S hp;obtain⟨y',u1,u2⟩:=hel k z hk;exact⟨y',λj u hj=>by rw[oO,<- qw];exact u1 j u hj,λf hf=>f.mono EL (u2 f hf)⟩):p:=h
def eN(h:p:=by refine go ?_;refine go ?_;refine eF (ai ae (.slice avv g.values.length cvv) (l8 k s t g).values) (λw hw=>by rw[hval];exact hw (ai ae (.slice avv g.values.length cvv) g.values) (by simp)) ?_;refine ah (.slice avv g.values.length cvv) (hv:=?_) (hp:=trivial);rw[akZ];rfl):p:=h
def eR(h:p:=by
 refine aA rfl ?_ ?_<;>intro h4
 .refine go ?_;exact gQ (-1) ⟨λh=>by omega,λh=>by have:=key.1 h;omega⟩
 refine gIf ?_ ?_<;>intro h5
 .refine go ?_;exact gQ 1 ⟨λh=>by omega,λh=>by have:=key.1 h;omega⟩
 refine go ?_;exact gQ 0 ⟨λ_=>key.2 (by omega),λ_=>rfl⟩):p:=h
def eV(h:p:=by exact⟨by omega,c,a3,by unfold alx;rw[if_neg (by omega),if_neg (by omega),if_neg (by omega)];exact a5,hcp,by omega,by omega,by omega⟩):p:=h
def eW(h:p:=by obtain⟨rfl,rfl⟩:=hr;rw[ha]at hx;refine Good.same hW (v':=ρ' x) ?_ hx;obtain⟨fn',f',c',h1,_,_,e⟩:=hx.Ak;cases h1;simp[execOp,e]):p:=h
def e9(h:p:=by
 have hkl:k=mG.length:=by omega
 subst hkl;rw[bU,l4,bU]at hsame;have m4:=hsame;clear hsame hk h2;refine acM ?_;rw[dK (show bF.mk n1 v1 p1 w1 g1 ho1 ni mF nu mG=bF.mk n2 v2 p2 w2 g2 ho2 qN qj qO ql from by rw[k1,ic.1 k2,ic.1 k3,ic.1 k4,ic.1 k5,k6,m1,m2,m3,m4])];rfl):p:=h
def fb(h:p:=by
 refine go ?_;refine aN (k+1) (by omega) ⟨by omega,λs hs'=>?_⟩ (hl:=⟨rfl,by rw[Vv hx];rfl,by repeat (first|exact trivial|refine⟨rfl,?_⟩)⟩);rw[nP,hx]at hs';rcases dX.1 hs' with h|h
 .exact hall s h
 .have:s=x:=by simpa using h
  rw[this];exact hm):p:=h
def fc(h:p:=by refine go ?_;exact gQ false ⟨(λh=>by cases h),λh=>by exfalso;have:=h.eH s hsm;omega⟩):p:=h
def ff(h:p:=by
 rw[hf]at hr;simp only[cond_true]at hr;split at hr
 .rename_i u hu;simp only[aD,di]at hr;obtain⟨rfl,rfl⟩:=hr;obtain⟨h1,h2⟩:=Ec hu;have hx':=hx.qb hf;exact Good.same hW (v':=u) (by simp only[execOp,hx',dG,yL h1 w,dJ,fw]) (VR.free h2)
 .cases hr):p:=h
def fg(h:p:=by
 rename_i kt et hu;cases hc;simp only[aF.run]at hr;split at hr
 .rename_i h2 hh;simp only[aD,di]at hr;obtain⟨rfl,rfl⟩:=hr;obtain⟨w',r1,r2,r3⟩:=QG hu hh hm hk hx hW;exact⟨.skip,w',β,undef,Qu r1,.inr ⟨rfl,rfl⟩,.dU _,r2,r3⟩
 .cases hr):p:=h
def fh(h:p:=by
 refine acM ?_;have:pI k.aQ s=false:=by
  cases e:pI k.aQ s with
  |false=>rfl
  |true=>
   unfold pI at e;rw[Da]at e;have:=e j l hl2;rw[lK]at this;have:=iI (this _ (aZ hb));dsimp only at this;rw[hd,hzg]at this;exact absurd this h3
 rw[this];rfl):p:=h
def fk(h:p:=by
 obtain⟨he,hno⟩:=hy.2 rfl;have he:e≠0:=he;dsimp only[cond,Dn,Dp,List.nil_append];refine go ?_;intro b3;refine gH ?_ ?_<;>intro h1
 .exact absurd (ic.1 h1) he
 refine go ?_;exact gQ false ⟨(λh=>by cases h),λh=>absurd h.b hno⟩):p:=h
def fp(h:p:=by
 intro cl hcl;obtain⟨dd,op,ty,ps,af,gd⟩:=o;simp only at hcl;subst hcl;obtain⟨callee,args,ats⟩:=cl;cases callee with
 |value f=>simp only[cop,aD]at gD;rw[<- gD]at hl;cases hl
 |invoke x n=>simp[cop]at gD
 |builtin bb=>simp[cop]at gD):p:=h
def fL(h:p:=by
 refine go ?_;refine aN (k+1) (by omega) ⟨by omega,?_,?_⟩
 .rw[htk];intro y hy;rcases dX.1 hy with hy|hy
  .exact hin y hy
  .rw[bM.1 hy];omega
 .rw[htk,iT];exact⟨hnd,by simp,λa ha b hb=>by rw[bM.1 hb];exact λe=>h4 (e▸ha)⟩):p:=h
def fN(h:p:=by
 refine go ?_;refine aN (i+1+1) (by show p.length - (i+1+1)<p.length - (i+1);omega) ⟨by omega,FV,λi' a b h ha hb=>?_⟩;by_cases e:i'=i
 .subst e;rw[hg0]at ha;rw[hg]at hb;cases ha;cases hb;omega
 .exact hs i' a b (by omega) ha hb):p:=h
def fR(h:p:=by refine acM ?_;subst h1 h2 h3 h4 h5 h6 h7 h8 h9 h10 h11;rw[show decide (bN.mk n1 o1 k1 f1 wG os1 s1 t1 p1 m1 y1 c1=bN.mk n1 o1 k1 f1 wG os1 s1 t1 p1 m1 y1 c2)=decide (c1=c2)from nO.2 ⟨λh=>by cases h;rfl,λh=>by rw[h]⟩];rfl):p:=h
def fS(h:p:=by
 rw[show ys.drop k=[]from akS (by omega)];by_cases e:ys.length<xs.length
 .rw[if_neg (by omega),if_pos e];have:k<xs.length:=by omega
  rw[oU this];rfl
 .rw[if_neg (by omega),if_neg e,show xs.drop k=[]from akS (by omega)];rfl):p:=h
def fW(h:p:=by
 rw[fO (by rw[bY,uu];omega),fO (by rw[bY,uu];omega)];by_cases e:j=i
 .rw[if_pos e,if_neg (by omega)]
 .rw[if_neg e]):p:=h
def ga(h:p:=by
 intro l;induction l with
 |nil=>intro m hm _;exact hm
 |cons s l ih=>
  intro m hm hl;rw[wO];refine ih _ (amM hm ?_) (λt ht=>hl t (cO _ ht));have:=AZ (hl s (cB ..));rw[Nat.one_shiftLeft];exact amj (by omega) (by omega)):p:=h
def gb(h:p:=by unfold gJ eU;simp only[uW];split<;>split at *<;>(try split at *)<;>(try split at *)<;>(try split at *)<;>omega):p:=h
def gf(h:p:=by
 have hno:¬oH g.shape g.w g.h g.holes:=λh=>by have:=hy.2 h;cases this
 dsimp only[mkV,pM,cond,List.nil_append];refine go ?_;intro b3;refine go ?_;exact gQ 130 ⟨(λh=>by cases h),λh=>absurd h.make hno⟩):p:=h
def gg(h:p:=by refine go ?_;refine jP (c:=(0:Int)=0) (f:=ai (ak ae) (.slice an (bJ g).length cn) (dM g 4)) (by rw[hf];simp) ?_;exact gQ ⟨.slice an (bJ g).length cn,0⟩ ⟨λ_=>⟨hg,by omega,by omega⟩,λ_=>rfl⟩):p:=h
def gj(h:p:=by have h1:(bW (gu (atM (bB g)) p.2 (eO.take (dV g)))).length=(gu (atM (bB g)) p.2 (eO.take (dV g))).length:=(zT _ _).length_eq;have h2:=Jf (atM (bB g)) p.2 (eO.take (dV g));have h3:=A8 g;rw[gT]at h2;omega):p:=h
def gk(h:p:=by
 rw[show xs.drop k=[]from akS (by omega)];by_cases e:xs.length<ys.length
 .rw[if_pos e];have:k<ys.length:=by omega
  rw[oU this];rfl
 .rw[if_neg e,if_neg (by omega),show ys.drop k=[]from akS (by omega)];rfl):p:=h
def gv(h:p:=by
 refine acM ?_;have:qL (su k) t=false:=by
  cases e:qL (su k) t with
  |false=>rfl
  |true=>
   unfold qL at e;rw[Da]at e;have:=iI (e j _ hx);dsimp only at this;rw[e1,e2]at this;exact absurd this h2
 rw[this];rfl):p:=h
def gx(h:p:=by refine go ?_;have e0:eG bO aC=eG bO aC++[]:=(gU _).symm;rw[e0];refine adC bO (aC:=aC) hf (bT _) ?_ (hall (by simp) λp hp=>hp);exact gQ (.slice (some ⟨b,0,some f⟩) aC.length aC.length) trivial):p:=h
def gA(h:p:=by exact .of_steps (t1.trans (.one hs)) (ih ops bQ hv rest (i::done) (i::S') lS hds β0 h0 w0 jJ jo cs0 β' w' b _ df k cs ρ' hG hdom hcx hI2 r4 (by rw[uN];exact hcs.mono t0) (by rw[uO];exact hro))):p:=h
def gE(h:p:=by
 by_cases e:m=n
 .subst e;simp
 .rw[if_neg (by omega),if_neg (by omega)]):p:=h
def gO(h:p:=by refine go ?_;refine jE (c:=(130:Int)=0) (f:=ai (ak ae) (.slice none 0 0) (dW g rs)) (by omega) ?_;exact gQ ⟨.slice none 0 0,130⟩ ⟨(λh=>by cases h),λh=>by exfalso;have:=h.2.len;omega⟩):p:=h
def gR(h:p:=by
 refine go ?_;refine aN (k+1) (by show d.symbols.length - (k+1)<d.symbols.length - k;omega) ⟨by omega,?_⟩;rw[bZ hs];intro x hx;rcases dX.1 hx with hx|hx
 .exact hall x hx
 .rw[bM.1 hx];omega):p:=h
def hJ(h:p:=by
 refine go ?_;refine fq rfl (λh1=>?_) (λh1=>?_)
 .refine go ?_;exact gQ 130 ⟨(λh=>by cases h),λh=>absurd h.cells.symm h1⟩
 .refine go ?_;exact gQ 0 ⟨λ_=>⟨hmk,h1.symm⟩,λ_=>rfl⟩):p:=h
def hU(h:p:=by
 have hke:k=xs.length:=by omega
 subst hke;refine go ?_;refine gQ (decide ((xs.length:Int)=(n:Int))) ?_;rw[lM];exact⟨λe=>⟨by omega,λi hi=>hall i (by omega)⟩,λq=>by have:=q.len;omega⟩):p:=h
def ia(h:p:=by
 refine go ?_;refine aN (k+1) (by show d.rules.length - (k+1)<d.rules.length - k;omega) ⟨by omega,?_⟩;rw[bZ hr];intro x hx;rcases dX.1 hx with hx|hx
 .exact Bq x hx
 .rw[bM.1 hx];exact hR):p:=h
def ii(h:p:=by obtain⟨v2,hv2,hr⟩:=hv.get (bP hjl);rw[hv2]at hj;cases hj;have hc:=(lK.1 hall) _ (vF hjl);obtain⟨a,b⟩:=hr.cellV hc;cases v<;>first|rfl|exact absurd rfl (a _)|exact absurd rfl (b _)):p:=h
def ij(h:p:=by
 rw[eB]at k1;have k1:¬n1=n2:=by simpa using k1
 refine acM ?_;rw[aR (λe=>k1 (by cases e;rfl))];rfl):p:=h
def ir(h:p:=by unfold kK;rw[ig,Cx (by intro c e;cases e) (by intro e;cases e)];simp only[iX,binOp];rw[ig,he];rfl):p:=h
def iu(h:p:=by refine go ?_;exact gQ (0,false) ⟨⟨(λh=>by cases h),λh=>absurd h hno⟩,(λh=>by cases h)⟩):p:=h
def iv(h:p:=by refine go ?_;refine jE (c:=(1:Int)=0) (f:=ai (ak ae) (.slice none 0 0) (dM g k)) (by omega) ?_;exact gQ ⟨.slice none 0 0,1⟩ ⟨(λh=>by cases h),λh=>by exfalso;have:=h.2;omega⟩):p:=h
def iS(h:p:=by refine go ?_;refine jE (c:=(130:Int)=0) (f:=ai (ak ae) (.slice none 0 0) (dW g rs)) (by omega) ?_;exact gQ ⟨.slice none 0 0,130⟩ ⟨(λh=>by cases h),λh=>absurd (he.2 h.1) h1⟩):p:=h
def jn(h:p:=by
 rw[pR (by omega)]at hk;have hk0:k=xs.length:=by
  have:=(bq.1 hk).1;simp at this;omega
 subst hk0;simp at hk;subst hk;refine⟨y,λj u hj=>?_,h3⟩;rw[fo,pR (by omega),h1,XJ];exact hj):p:=h
def jp(h:p:=by
 refine go ?_;refine aN (j+1) (by omega) ⟨by omega,λi' hi' x hx'=>?_⟩;by_cases e:i'=j
 .subst e;rw[hx]at hx';cases hx';rw[e1,e2];exact ic.1 h2
 .exact hall i' (by omega) x hx'):p:=h
def js(h:p:=by refine acM ?_;rw[aR (λe=>k7 (by cases e;rfl))];rfl):p:=h
def jt(h:p:=by refine acM ?_;rw[aR (λe=>k6 (by cases e;rfl))];rfl):p:=h
def ju(h:p:=by refine acM ?_;rw[aR (λe=>k4 (by cases e;rfl))];rfl):p:=h
def jx(h:p:=by refine acM ?_;rw[aR (λe=>k3 (by cases e;rfl))];rfl):p:=h
def jz(h:p:=by refine acM ?_;rw[aR (λe=>k2 (by cases e;rfl))];rfl):p:=h
def j0(h:p:=by refine acM ?_;rw[aR (λe=>k1 (by cases e;rfl))];rfl):p:=h
def j7(h:p:=by
 have iR:j=k.aQ.length:=by omega
 subst iR;refine acM ?_;have:pI k.aQ s=true:=by
  unfold pI;rw[Da];intro i l hl';rw[lK];exact λb hb=>dK (hall i (bq.1 hl').1 l hl' b hb)
 rw[this];rfl):p:=h
def j8(h:p:=by
 have qF:vU.pending=none:=qF;have hto:(vU.pending.map Item.code).toList++k=k:=by rw[qF];rfl
 rw[hto]at hst;exact⟨.normal,a1,_,β3,_,tm,qE,cs,l3,y1,hE.trans y2,hA3,hcs,e4,hst⟩):p:=h
def j9(h:p:=by
 show cond (Nat.ble h.low i) h.low i=_;cases hb:Nat.ble h.low i with
 |true=>have:=mK hb;simp;omega
 |false=>have:¬h.low<=i:=λhh=>by rw[F9 hh]at hb;cases hb
         simp;omega):p:=h
def ki(h:p:=by
 unfold jk at this;rw[List.filterMap_eq_nil_iff]at this;obtain⟨j,hj⟩:=jS hr;have:=this (r,j) (zU.2 hj);cases h:(fM r.kind).read with
 |true=>rfl
 |false=>simp[h]at this):p:=h
def kj(h:p:=by refine go ?_;refine jE (c:=e=0) (f:=ai (ak ae) (.slice none 0 0) (dM g k)) h1 ?_;exact gQ ⟨.slice none 0 0,e⟩ ⟨(λh=>absurd h h1),λh=>absurd (hy.2 h.1) h1⟩):p:=h
def kp(h:p:=by
 rcases hcx.round with⟨_,hb⟩|⟨l,g,hl,_⟩
 .exact hb
 .rw[<- hro,Ew]at hl;cases hl):p:=h
def kq(h:p:=by exact EY () rfl trivial trivial):p:=h
def kx(h:p:=by rw[qf hn];exact⟨u,h2,by rw[nI];exact e1,λd' hd=>by rw[<- e2 d' hd];exact uQ _ _⟩):p:=h
def kA(h:p:=by
 have hqe:q=l.length:=by omega
 subst hqe;rw[bU]at hql⊢;refine aie (A:=ap ae v5 (img s l)) (fs:=[ai ae v5 (img s l)]) gz (h:=?_);refine go ?_;exact gQ v5 trivial):p:=h
def kB(h:p:=by
 refine go ?_;refine gQ ⟨false,.nilFunc,.nilFunc⟩ ⟨(λe=>by cases e),λe=>?_⟩
 exfalso
 have e:=wz.2 e;obtain⟨q1,q2,q3,q4,q5,q6⟩:=e;have:=q5 x hxm;omega):p:=h
def li(h:p:=by rw[show min (b:Int).toNat 64=b by simp;omega,anF];congr 2;rw[show((2:Int)^b)=((2^b:Nat):Int)by simp,Int.fdiv_eq_ediv_of_nonneg _ (Int.natCast_nonneg _)];simp):p:=h
def lj(h:p:=by refine go ?_;exact gQ false ⟨(λh=>by cases h),λh=>by exfalso;have:=h.1;omega⟩):p:=h
def lz(h:p:=by refine go ?_;refine gQ false ⟨(λh=>by cases h),λq=>?_⟩;have h5:=q.nd.sublist (PX (k+1) xs);rw[htk,iT]at h5;exact absurd rfl (h5.2.2 _ h4 _ (bM.2 rfl))):p:=h
def lA(h:p:=by have hs1:step s x=((step s x).1,false):=Prod.ext rfl hst;rw[hs1]at hrun;dsimp only at hrun;refine go ?_;exact gQ xs rfl (hk:=by rw[<- hrun];exact aI.all _)):p:=h
def lB(h:p:=by
 apply iY;intro k;rw[dm];by_cases hk:k<xs.length
 .have hk':k<l.length:=by omega
  rw[bP hk',jT,(hp k l[k] (bP hk')).1]
 .rw[fO (by omega),fO (by omega)];rfl):p:=h
def lE(h:p:=by
 have hn:(fn.name== "runtime.NumGoroutine")=false:=by simpa using hname
 simp only[callFunc,dG,run_program,dJ,hfn,hn,hb,Option.isNone_some,vJ,if_false,fw]):p:=h
def lO(h:p:=by exact⟨⟨⟨by omega,by omega,by omega,by omega,hB.rY,hB.holes,hB.rZ⟩,hB.dw,hB.dh,by omega⟩,⟨hB.gw,hB.gh,by omega,by omega⟩,hB.aQ,hB.lists⟩):p:=h
def lP(h:p:=by rw[hle (show Nat.mul (m+(k+1)) bytes<=small from hm.1),hle (show Nat.mul (m+(k+1)) size<=small from hm.2.1),hle (show m+(k+1)<=small from hm.2.2)];rfl):p:=h
def lR(h:p:=by
 have iR:j=t.length:=by omega
 subst iR;refine acM ?_;have:qL (su k) t=true:=by
  unfold qL;rw[Da];exact λi x hx=>dK (hall i (bq.1 hx).1 x hx)
 rw[this];rfl):p:=h
def mc(h:p:=by refine go ?_;exact gQ false (hR _ ⟨(λh=>by cases h),λh=>by exfalso;rcases h with h|h|h;exact h5 h.1;exact h6 h.1;have:=h.2.2.2 x hxm;omega⟩)):p:=h
def me(h:p:=by exact ih ops bQ hv rest (i::done) S lS hds β0 h0 w0 jJ jo cs0 β w b tm df k cs ρ hG hdom hcx hI2 hR (by rw[uN];exact hcs) (by rw[uO];exact hro)):p:=h
def mj(h:p:=by rw[if_neg hp,gU]at hss;rw[<- hss];refine go ?_;exact aN (j+1,v5) (by show g.cells.length - (j+1)<g.cells.length - j;omega) (by show j+1<=_;omega)):p:=h
def mm(h:p:=by
 rcases dX.1 hx with hx|hx
 .exact wE hsy x hx
 .exact(dF.ident m).fG x (BJ hx)):p:=h
def mu(h:p:=by refine go ?_;exact aN (1+1,.slice a3 (mJ g (1+1)).length (mJ g (1+1)).length) (by show 2 - (1+1)<2 - 1;omega) ⟨by show 1+1<=2;omega,.inr hw⟩):p:=h
def mw(h:p:=by refine go ?_;exact aN (0+1,.slice a3 (mJ g (0+1)).length (mJ g (0+1)).length) (by show 2 - (0+1)<2 - 0;omega) ⟨by show 0+1<=2;omega,.inr hw⟩):p:=h
def mz(h:p:=by
 refine go ?_;refine aN (k+1) (by omega) ⟨by omega,?_⟩;rw[bZ hx];intro z hz;rcases dX.1 hz with hz|hz
 .exact hall z hz
 .rw[bM.1 hz];exact h2):p:=h
def mA(h:p:=by
 unfold vO at hz;split at hz
 .rename_i z' n' hz' _;obtain⟨i',j1,j2,_⟩:=Cb hz';rw[h1]at j1;cases j1;rw[h2]at j2;cases j2;exact hz'
 .cases hz):p:=h
def mB(h:p:=by refine go ?_;refine gQ false ⟨(λh=>by cases h),λ⟨c',l',_,q1,q2,q3,q4,_⟩=>?_⟩;rw[htn,hc]at q1;cases q1;rw[FU,hls]at q2;cases q2;omega):p:=h
def mC(h:p:=by
 refine go ?_;refine aN (k+1) (by omega) ⟨by omega,?_⟩;rw[bZ hx];intro y hy;rcases dX.1 hy with hy|hy
 .exact hno y hy
 .rw[bM.1 hy];exact h2):p:=h
def mL(h:p:=by
 refine acM ?_;rw[mH,Xn hkx uj (by omega)];by_cases e:xs.length<ys.length
 .rw[if_pos e];simp[rO];exact e
 .rw[if_neg e];simp[rO];split<;>omega):p:=h
def mN(h:p:=by
 intro v pm h2 hm;dsimp only at hm;split at hm
 .rename_i lp hlp;split at hm
  .cases hm
  .rename_i hs;exact⟨lp,hlp,λe=>hs e,hm⟩
 .cases hm):p:=h
def mS(h:p:=by exact absurd h (by omega)):p:=h
def mT(h:p:=by refine acM ?_;rw[aR (λe=>k5 (by cases e;rfl))];rfl):p:=h
def nh(h:p:=by
 have hj0:j=0:=by omega
 subst hj0;refine go ?_;exact aN 1 (by show p.length - 1<p.length - 0;omega) ⟨by omega,FV,λi a b h=>by omega⟩):p:=h
def nj(h:p:=by rw[qp hlt]at hk;obtain⟨y',q1,q2⟩:=h2 k z hk;refine⟨y',λj u hj=>?_,q2⟩;rw[fo];have:=q1 j u hj;rw[qp (bq.1 this).1];exact this):p:=h
def nl(h:p:=by
 refine go ?_;refine aN (k+1) (by omega) ⟨by omega,λj hj=>?_⟩;by_cases e:j=k
 .subst e;rw[hx,hy,ic.1 h3]
 .exact hsame j (by omega)):p:=h
def nn(h:p:=by
 refine gIf ?_ ?_<;>intro h1
 .refine go ?_;exact gQ ⟨false,e,v1,v2,v1,v1,v1,v1⟩ (hend he λh=>hno h.rs)
 .exact absurd (ic.1 h1) he):p:=h
def nq(h:p:=by simp only[aD,di]at hr⊢;exact⟨hr.2.symm,hr.1⟩):p:=h
def nr(h:p:=by refine go ?_;refine aN (j+1) (by omega) (by omega) (hl:=⟨rfl,by rw[hst];rfl,by repeat (first|exact trivial|refine⟨rfl,?_⟩)⟩)):p:=h
def nt(h:p:=by refine go ?_;exact gQ false (hno (by omega) _ rfl)):p:=h
def nv(h:p:=by
 refine hW.inj _ _ _ _ hk hm ?_ ?_ hr he
 .split at hj
  .exact absurd rfl hj
  .exact hj
 .split at hl
  .exact absurd rfl hl
  .exact hl):p:=h
def nw(h:p:=by
 have hno:¬lc k s t:=λh=>by have:=hc.2 h;cases this
 refine go ?_;exact gQ 230 ⟨λh=>absurd hK h,λ_ _=>rfl,λ_ h=>absurd h hno⟩):p:=h
def nB(h:p:=by
 have hno:¬dH k:=λh=>by have:=hb.2 h;cases this
 dsimp only[cond];refine go ?_;exact gQ (false,180) ⟨λ_=>rfl,λh=>absurd h hno⟩):p:=h
def nF(h:p:=by subst this;intro e;subst e;exact hm2 ha):p:=h
def n5(h:p:=by rw[wS];exact List.Pairwise.imp (λh=>by omega) List.pairwise_lt_range):p:=h
def n9(h:p:=by rw[rU (by rw[tZ];exact h)]at hy;subst hy;cases e):p:=h
def oa(h:p:=by
 refine go ?_;exact gQ false ⟨(λh=>by cases h),λh=>by
  exfalso
  rcases h.2 with⟨_,q,_⟩|⟨q,_⟩
  .omega
  .exact q h3⟩):p:=h
def oc(h:p:=by exact gQ ⟨v8,0⟩ ⟨λ_=>⟨hg,by omega,by omega⟩,λ_=>rfl⟩):p:=h
def od(h:p:=by exact gQ ⟨v4,0⟩ ⟨λ_=>⟨hg,by omega,by omega⟩,λ_=>rfl⟩):p:=h
def oe(h:p:=by
 obtain⟨v,hv⟩:=Fp h;have e:kT true zero a aj=.tuple ⟨[v,.bool true]⟩:=by unfold kT;rw[hv];rfl
 rw[e];exact hit v hv h):p:=h
def ov(h:p:=by
 obtain⟨cs,r,⟨_,e⟩|⟨e,_⟩⟩:=h
 .obtain⟨a,y,rfl,q⟩:=hr w H d cs hz r;exact⟨a,y,e,q⟩
 .rw[ha]at e;cases e):p:=h
def ox(h:p:=by exact amj (by omega) (by omega)):p:=h
def oy(h:p:=by
 cases h:Nat.beq (m%2) 0 with
 |true=>simp[qo h]
 |false=>simp[Dw h]):p:=h
def oA(h:p:=by
 refine gIf ?_ ?_<;>intro h2
 .refine acM ?_;rw[eU,if_neg h1,if_pos h2];rfl
 refine acM ?_;rw[eU,if_neg h1,if_neg h2];rfl):p:=h
def oB(h:p:=by simp only[wh];exact⟨λv hv l hl n hn hi=>hcl v (by simpa using hv) l hl n hn hi,(by simp),(by simp),(by simp)⟩):p:=h
def oE(h:p:=by
 refine go ?_;have:k=xs.length:=by omega
 subst this;rw[bU]at hno;refine ah () (hv:=?_) (hp:=trivial);rw[aR hno];rfl):p:=h
def oR(h:p:=by rw[<- Bl];refine go ?_;exact aN (j+1,v5) (by show ln.length - (j+1)<ln.length - j;omega) (by show j+1<=_;omega)):p:=h
def oS(h:p:=by refine gC (WU (d:=k.decl) hB.rZ hB.rY) λb hb=>?_;refine go ?_;exact gQ b (λh=>⟨hb h,by omega,by omega⟩)):p:=h
def oT(h:p:=by
 intro o a' h' hm hn;cases o with
 |normal=>exact absurd rfl hn
 |exit _=>exact hm
 |ret=>exact hm
 |panic _=>exact hm):p:=h
def pb(h:p:=by
 by_cases e:aB cl (j:Int)=aB cl s
 .by_cases e2:(j:Int)∈sy
  .simp[e2]
  .exact absurd ⟨e,e2⟩ this
 .simp[e]):p:=h
def pe(h:p:=by have:=h3 i (nA _ hi);refine⟨this.1,this.2.1,λhz=>hz.elim this.2.2 λhm=>?_⟩;exact hnd.2.2 i hm i hi rfl):p:=h
def ph(h:p:=by
 have hdl:(cells.drop o).length=xs.length*E.n:=by rw[sO];omega
 rw[MC.c.iM,p9,qD,if_pos (by omega),<- hdl,bU]):p:=h
def pn(h:p:=by exact⟨rr,h2',β2,w2,F2,r2,p1,p2,q3.trans p3,p4,(Steps.head s1 (e2.trans (.one s2))).trans p5,p6,p7,p8⟩):p:=h
def po(h:p:=by exact gQ ⟨.slice none 0 0,160⟩ ⟨(λh=>by cases h),λh=>by have:=hy1.2 (h.2 x (aZ hx));cases this⟩):p:=h
def pw(h:p:=by
 induction l with
 |nil=>exact .nil
 |cons x l ih=>exact .cons (h x (by simp)) (ih λy hy=>h y (by simp[hy]))):p:=h
def px(h:p:=by
 match a,hv,hg with
 |none,hv,_=>exact h0 e c hv w s
 |some ⟨i,o,some f⟩,hv,_=>exact h1 e i o f c hv w s):p:=h
def py(h:p:=by
 rw[dm,pU hi,dm,pU hi];by_cases e:j=i
 .subst e;simp[hj]
 .have e2:¬(i:Int)=(j:Int):=by omega
  simp[e,e2]):p:=h
def pA(h:p:=by
 have e:kT true zero a aj=.tuple ⟨[zero,.bool false]⟩:=by unfold kT;rw[rU h];rfl
 rw[e];exact miss h):p:=h
def pB(h:p:=by rw[<- List.append_assoc,<- List.append_assoc];exact List.Perm.append_right T2 List.perm_append_comm):p:=h
def pC(h:p:=by exact absurd (hW.dom _ _ hk) (by omega)):p:=h
def pD(h:p:=by obtain⟨v0,_,h0⟩:=a7 j v hj;obtain⟨v',h1,h2⟩:=b7 j v hj;exact⟨v',h1,h0.restrict hle h2⟩):p:=h
def pH(h:p:=by
 split at hl
 .exact⟨_,.inl (by assumption),hl⟩
 .exact⟨_,.inr (by assumption),hl⟩
 .cases hl):p:=h
def pL(h:p:=by refine go ?_;refine gQ false ⟨(λh=>by cases h),λ⟨c,l,_,h,_⟩=>?_⟩;have:=(bq.1 h).1;omega):p:=h
def pN(h:p:=by refine go ?_;exact gQ false (hR _ ⟨(λh=>by cases h),λh=>by exfalso;rw[ha,ha,ha]at h;omega⟩)):p:=h
def pP(h:p:=by
 rcases a with⟨rfl,a,m,c,rfl,rfl⟩|⟨i,o,f,c,cs,h1,_⟩
 .exact⟨a,c,rfl⟩
 .exact⟨_,c,h1⟩):p:=h
def pS(h:p:=by exact gQ (.slice (some ⟨b,0,some 0⟩) 0 0) trivial):p:=h
def pT(h:p:=by
 cases o with
 |normal=>exact absurd rfl hn
 |_=>exact hm):p:=h
def pZ(h:p:=by simp[binOp,Op.intCmp,tC,<- Int.not_le]):p:=h
def p0(h:p:=by simp only[aD,di,yC]at hr;simp only[hr]):p:=h
def qe(h:p:=by intro h;rw[xP h]at hy;subst hy;cases e):p:=h
def qk(h:p:=by
 have hx:fM r.kind=⟨true,false,false,false,false,true,true,0⟩:=by rw[hk];rfl
 clear hk;exact sj):p:=h
def qn(h:p:=by
 have hx:fM r.kind=⟨false,true,false,false,false,true,true,0⟩:=by rw[hk];rfl
 clear hk;exact sj):p:=h
def qq(h:p:=by refine go ?_;refine(fA rfl rfl (II rfl rfl)).h ?_;refine go ?_;exact gQ (min n 2001) (by omega)):p:=h
def qt(h:p:=by refine go ?_;exact gQ false ⟨(λh=>by cases h),λh=>by exfalso;have:=(h.jg k c hc).1;omega⟩):p:=h
def qu(h:p:=by intro v v0 v1;have r:=ht.inv.at_ v0 v1;have:=h _ r.1 r.2;rw[ht.Ju v0 v1]at this;exact this.symm):p:=h
def qv(h:p:=by simp only;rw[<- hf];refine step_lone_go ?_;rw[Ao ho hw (.inl hro)];simp[stepG.apply,hr,hre,ht]):p:=h
def qS(h:p:=by simp only[execOp,Instr.sliceAt,Instr.slice,dG,fJ hu,dJ,hx',e1,e2,e3,b1,mP hs1,fw];split<;>rfl):p:=h
def qT(h:p:=by refine go ?_;exact gQ false ⟨(λh=>by cases h),λh=>absurd (hb.2 (h.kX r hrm)) (by simp)⟩):p:=h
def rh(h:p:=by refine acM ?_;rw[aR (λe=>k9 (by cases e;rfl))];rfl):p:=h
def ri(h:p:=by refine acM ?_;rw[aR (λe=>k8 (by cases e;rfl))];rfl):p:=h
def rj(h:p:=by refine acM ?_;rw[aR (λe=>h2 (by cases e;rfl))];rfl):p:=h
def rp(h:p:=by refine acM ?_;rw[aR (λe=>h1 (by cases e;rfl))];rfl):p:=h
def rB(h:p:=by
 rw[bZ hx];intro c hc;rcases dX.1 hc with hc|hc
 .exact hall c hc
 .rw[bM.1 hc];exact hy1.1 rfl):p:=h
def rI(h:p:=by
 rw[bZ hs];intro q hq;rcases dX.1 hq with hq|hq
 .exact hkp q hq
 .obtain rfl:=bM.1 hq;exact hk):p:=h
def rK(h:p:=by
 refine gH ?_ ?_<;>intro h5
 .refine go ?_;exact gQ _ trivial
 .refine go ?_;exact gQ _ trivial):p:=h
def rL(h:p:=by intro v v0 v1;have r:=ht.at_ v0 v1;rw[wB v0 (by rw[ht.len];exact v1),h2 _ r.1 r.2,h _ v0 v1]):p:=h
def rN(h:p:=by simp only[kg]at hc;obtain⟨_,_,rfl⟩:=hc;simp only[aF.run,aF.alloc,h0,h1,h2,h3,and_self]):p:=h
def rS(h:p:=by rw[hO];refine go ?_;exact gQ (.slice (some ⟨b',0,some 1⟩) sy.length sy.length) trivial):p:=h
def r7(h:p:=by refine go ?_;refine aN (q+1) (by omega) ⟨by omega,?_⟩;rw[bZ hx,amP,hno];simpa using h2):p:=h
def r8(h:p:=by
 by_cases hx:aC=[]
 .subst hx;exact h1 rfl i o f c hv w s
 .exact h2 (BK.2 hx) i o f c hv w s):p:=h
def sg(h:p:=by
 by_cases e:i'=j
 .subst e;rw[hl2]at hl';cases hl';exact FV
 .exact hall i' (by omega) l' hl'):p:=h
def sk(h:p:=by apply Classical.byContradiction;intro hc;exact hb λj k hk hj hkb=>hc ⟨j,k,hk,hj,hkb⟩):p:=h
def sq(h:p:=by rintro r pm h' ⟨hp,w',y,e1,st,e2,_⟩;exact⟨hp,w',(),e1,back w' _ _ st,e2,trivial⟩):p:=h
def sv(h:p:=by have:=u1 0 (.int .i64 z) rfl;simpa[ae]using this):p:=h
def sx(h:p:=by apply Classical.byContradiction;intro hc;exact hx λi g hi hg hb=>hc ⟨i,g,hi,hg,hb⟩):p:=h
def sA(h:p:=by obtain⟨v,h1,h2,h3⟩:=hm;cases he;have h2:a.defers=[]:=h2;rw[h2];exact .ret v h1 h3):p:=h
def sB(h:p:=by refine go ?_;exact gQ 0 ⟨λh=>absurd hK h,λ_ h=>absurd (hc.1 rfl) h,λ_ _=>rfl⟩):p:=h
def sC(h:p:=by show eD P (Instr.checkKey b (9999+1) kt _)=_;unfold Instr.checkKey;rw[ig,rM hu];rfl):p:=h
def sE(h:p:=by
 rw[htk];intro x hx;rcases dX.1 hx with hx|hx
 .exact hall x hx
 .rw[bM.1 hx];exact hR):p:=h
def sL(h:p:=by refine go ?_;exact gQ false ⟨(λh=>by cases h),λ⟨c,l,_,_,_,h,_⟩=>by omega⟩):p:=h
def sR(h:p:=by cases hk;rw[if_pos rfl]at hx;cases hx;exact ho):p:=h
def sX(h:p:=by subst hn;simp only[fr]at he' hcall⊢;simp[stepG,stepG.exec,he',stepG.apply,hcall]):p:=h
def sY(h:p:=by
 match vs with
 |[]=>rfl
 |[v]=>rfl
 |_::_::_=>rfl):p:=h
def s5(h:p:=by simp only[aD]at hc;exact hc.symm):p:=h
def s6(h:p:=by
 rcases dx.1 hk with rfl|hk
 .exact cO _ (hpre j hj)
 .exact cO _ (hcl k hk j hj)):p:=h
def s7(h:p:=by refine go ?_;exact gQ false ⟨(λh=>by cases h),λ⟨c,l,h,_⟩=>by omega⟩):p:=h
def s8(h:p:=by exact gQ ⟨.slice none 0 0,161⟩ ⟨(λh=>by cases h),λh=>absurd h.1 h2⟩):p:=h
def s9(h:p:=by refine acM ?_;rw[mH,drop_cons hx,drop_cons hy,fK,eU,if_neg h3,if_pos h4];rfl):p:=h
def ta(h:p:=by obtain⟨g,hg,rfl⟩:=eT.1 hx;have:=mY.akz (Wi hK hk (hQ.right g hg));omega):p:=h
def tb(h:p:=by
 cases es with
 |nil=>rfl
 |cons e es=>cases h):p:=h
def tc(h:p:=by have:=congrArg List.length (EG ss cs hsum);rw[bY]at this;rw[this];simp[ss]):p:=h
def td(h:p:=by
 cases he:eP mk (j:Nat)with
 |false=>rfl
 |true=>exact absurd ⟨j,hj,he⟩ hex):p:=h
def tf(h:p:=by rw[oU (by omega)];congr 1;rw[bP (by omega)]at hx;exact Option.some.inj hx):p:=h
def tg(h:p:=by
 induction h with
 |nil=>exact .nil
 |cons h1 _ ih=>exact .cons (.there h1) ih):p:=h
def th(h:p:=by
 rcases rq g.b w.heap.size with hh|hh
 .exact hh
 .rw[uo hh]at o1;cases o1):p:=h
def tj(h:p:=by
 rcases dX.1 hx with hx|hx
 .exact wE hsy x hx
 .exact(dF.ident m).fG x hx):p:=h
def tn(h:p:=by have:=CW (g.w*g.h).toNat g.holes;have:=xQ hmk.wi hmk.he;unfold mX;omega):p:=h
def tr(h:p:=by refine go ?_;exact gQ false ⟨(λh=>by cases h),λh=>absurd h.e h3⟩):p:=h
def tt(h:p:=by rw[gU];exact List.Perm.append_right S2 (List.Perm.append_left T1 v2)):p:=h
def tv(h:p:=by rw[Da]at e;have:=e j l hl;dsimp only at this;rw[h]at this;cases this):p:=h
def tw(h:p:=by refine acM ?_;rw[mH,drop_cons hxk,drop_cons hyk,qG,fK,if_pos h3];rfl):p:=h
def tx(h:p:=by
 cases hb:Nat.ble (m+(k+1)) m with
 |false=>rfl
 |true=>have:=mK hb;omega):p:=h
def tA(h:p:=by show(w.h.new _).get b=_;rw[IH.jc,if_neg (by have:=w.nJ b hz;omega)]):p:=h
def tB(h:p:=by have:=OR.GI (P:=P) (w:=w) t (hcs.mono hle) hc [] 0;simpa using this):p:=h
def tD(h:p:=by exact this.imp (λh=>by simpa using h)):p:=h
def tE(h:p:=by refine acM ?_;rw[mH,drop_cons hx,drop_cons hy,fK,eU,if_pos h3];rfl):p:=h
def tG(h:p:=by
 intro g hg;rcases dX.1 hg with hg|hg
 .exact q2 g hg
 .exact u2 g hg):p:=h
def tI(h:p:=by show ok (xs.take (k+1)) _;rw[bZ hx];exact hok _ s _ _ hos hX hst):p:=h
def tM(h:p:=by rw[if_pos ⟨by simp,by simp;omega⟩];simp[mP hs1,addr_add,qw]):p:=h
def tP(h:p:=by refine go ?_;exact bad (λq=>by have:=q.wi;omega) rfl rfl .here):p:=h
def tR(h:p:=by refine go ?_;exact bad (λq=>by have:=q.he;omega) rfl rfl .here):p:=h
def tS(h:p:=by intro e;subst e;rw[hi]at hb;cases hb):p:=h
def tU(h:p:=by exact⟨j,by omega,h2,h3⟩):p:=h
def tW(h:p:=by refine acM ?_;unfold eqL;rw[aR (λq=>h2 (q.1 x (aZ hx)))];rfl):p:=h
def ua(h:p:=by rw[h2,<- h.decl]at this;exact this):p:=h
def uc(h:p:=by obtain⟨t1,t2,fn,t3,t4⟩:=e5;exact⟨t1,t2,e4,fn,t3,t4⟩):p:=h
def ud(h:p:=by exact gQ (.slice none 0 0) trivial):p:=h
def ur(h:p:=by
 cases O with
 |nil=>simp at h6
 |cons o O2=>exact⟨o,O2,rfl⟩):p:=h
def us(h:p:=by refine go ?_;exact gQ true ⟨λ_=>⟨hb,h3⟩,λ_=>rfl⟩):p:=h
def uv(h:p:=by obtain⟨gm,a,b⟩:=o3.Cg;exact⟨gm,a,by simpa using b⟩):p:=h
def ux(h:p:=by simp only[execOp,resolve,k4,Deferred.ofValue,dG,fw,dJ,he]):p:=h
def u9(h:p:=by rw[hk]at this;simp[jm,hk,this.mo]):p:=h
def vf(h:p:=by
 rcases dx.1 h with rfl|h
 .exact cB ..
 .exact cO _ (am0 h)):p:=h
def vj(h:p:=by show(match (0:Nat)with|0=>some ([]:kI vI)|_=>none)=_;rfl):p:=h
def vm(h:p:=by
 rcases dx.1 hf with rfl|hf
 .exact je _ hm
 .exact nA _ hf):p:=h
def vA(h:p:=by unfold grownCap Question.cut;exact Nat.le_add_right _ _):p:=h
def we(h:p:=by refine yD.2 ⟨λhm=>?_,h2⟩;have:=(h3 _ hm).2.1;omega):p:=h
def wg(h:p:=by
 rcases Nat.mul_eq_zero.1 h0 with hh|hh
 .exact hh
 .omega):p:=h
def wj(h:p:=by injection hpq with e1 e2;exact Prod.ext (inj _ _ e1) e2):p:=h
def wk(h:p:=by
 rcases(h3 i (je _ hz)).1 with q|q
 .omega
 .exact .inr q):p:=h
def wl(h:p:=by exact⟨.value v',w',β',v',xq r1,.inl rfl,r2,r3,r4⟩):p:=h
def wq(h:p:=by rw[hat.c.iM,p9,qD,BL,DC,if_pos (by omega),<- hlen,bU]):p:=h
def wx(h:p:=by
 rcases hb.1 with q|q
 .omega
 .intro e;exact hB (e▸q)):p:=h
def wA(h:p:=by
 rcases Gc E.n with h0|h0
 .rw[h0]at hj;omega
 .exact h0):p:=h
def wM(h:p:=by show(w.heap.push o')[b]? =_;rw[Ga,if_neg (by omega)]):p:=h
def w7(h:p:=by rintro t ⟨y,p,_,_,hp',kP⟩;exact hds y p t hp' kP):p:=h
def w8(h:p:=by refine acM ?_;rw[aR (λe=>k10 (by cases e;rfl))];rfl):p:=h
def xa(h:p:=by refine acM ?_;rw[aR (λe=>h11 (by cases e;rfl))];rfl):p:=h
def xb(h:p:=by refine acM ?_;rw[aR (λe=>h10 (by cases e;rfl))];rfl):p:=h
def xf(h:p:=by have:=amO (hc i) hi;exact⟨(bq.1 this).1,j5 this⟩):p:=h
def xj(h:p:=by refine acM ?_;rw[aR (λe=>h9 (by cases e;rfl))];rfl):p:=h
def xo(h:p:=by refine acM ?_;rw[aR (λe=>h8 (by cases e;rfl))];rfl):p:=h
def xp(h:p:=by refine acM ?_;rw[aR (λe=>h7 (by cases e;rfl))];rfl):p:=h
def xF(h:p:=by refine acM ?_;rw[aR (λe=>h6 (by cases e;rfl))];rfl):p:=h
def xT(h:p:=by refine acM ?_;rw[aR (λe=>h5 (by cases e;rfl))];rfl):p:=h
def x6(h:p:=by refine acM ?_;rw[aR (λe=>h4 (by cases e;rfl))];rfl):p:=h
def x7(h:p:=by refine acM ?_;rw[aR (λe=>h3 (by cases e;rfl))];rfl):p:=h
def ya(h:p:=by rw[hu]at hok;obtain⟨c,e,_⟩:=hok;exact⟨c,e⟩):p:=h
def yb(h:p:=by
 rcases q6 with h6|h6
 .exact .inl h6
 .exact .inr h6):p:=h
def ye(h:p:=by
 cases r with
 |none=>simp[Cc hz,Eg]
 |some p=>simp[Eg]):p:=h
def yp(h:p:=by
 have hlen:xs.length=ys.length:=by omega
 refine gN xs.length 5 (λk=>k<=xs.length/\xs.take k=ys.take k) ⟨by omega,by simp⟩ ?_;rintro k ⟨hk,hsame⟩;refine gIf ?_ ?_<;>intro h2
 .refine go ?_;intro _ _ x hx _ _ y hy;refine gIf ?_ ?_<;>intro h3
  rotate_left
  .have h3:x=y:=ic.1 h3;exact cA
  .exact cQ
 exact cP):p:=h
def yq(h:p:=by
 refine gX bI (xs:=nu) λ_ _ x (_:Unit) hx=>?_;refine gX bI (xs:=qO) λ_ _ y (_:Unit) hy=>?_;refine go ?_;refine(fA (v:=.bool (!decide (x=y))) rfl rfl (by rw[<- Oc];exact CQ rfl rfl hu2 (by kernel_rfl) (by kernel_rfl) (row_of hrow2 rfl rfl (λj=>by rw[fo]) (λj=>by rw[fo])) (by simp[fZ,cK,Ideal.cellV]) (by simp[fZ,cK,Ideal.cellV]))).h ?_;refine go ?_;refine fq rfl (λh3=>?_) (λh3=>?_)
 .exact cT
 exact cA):p:=h
def yW(h:p:=by
 refine gX fF (xs:=ni) λ_ _ x (_:Unit) hx=>?_;refine gX fF (xs:=qN) λ_ _ y (_:Unit) hy=>?_;refine go ?_;refine(fA (v:=.bool (!decide (x=y))) rfl rfl (by rw[<- Ob];exact CQ rfl rfl hu1 (by kernel_rfl) (by kernel_rfl) (row_of Ph rfl rfl (λj=>by rw[fo]) (λj=>by rw[fo])) (by simp[fZ,cK,Ideal.cellV]) (by simp[fZ,cK,Ideal.cellV]))).h ?_;refine go ?_;refine fq rfl (λh3=>?_) (λh3=>?_)
 .exact cT
 exact cA):p:=h
def y4(h:p:=by
 have hlen:xs.length=ys.length:=by omega
 refine gN xs.length 5 (λk=>k<=xs.length/\xs.take k=ys.take k) ⟨by omega,by simp⟩ ?_;rintro k ⟨hk,hsame⟩;refine gIf ?_ ?_<;>intro h2
 .refine gX bC (xs:=xs) λ_ _ x (_:Unit) hx=>?_;refine gX bC (xs:=ys) λ_ _ y (_:Unit) hy=>?_;refine go ?_;refine fq (p:=x=y) (by show Value.bool _=_;rw[eB]) (λh3=>?_) (λh3=>?_)
  .exact cQ
  exact cA
 exact cP):p:=h
def y6(h:p:=by
 refine gH ?_ ?_<;>intro t1
 .exact cM
 refine gC (Pj (xs:=k.aQ) n1 n2) λm hm=>?_;refine gH ?_ ?_<;>intro t2
 .exact cM
 refine gH ?_ ?_<;>intro t3
 .exact cM
 refine gH ?_ ?_<;>intro t4
 .exact cM
 exact oS):p:=h
def zc(h:p:=by
 refine gIf ?_ ?_<;>intro h2
 .refine go ?_;intro _ _ x hx;have Dh:=hl x (aZ hx);exact cG
 exact kA):p:=h
def zd(h:p:=by refine go ?_;intro zx;exact cw):p:=h
def zj(h:p:=by
 rw[hagg]at hr;simp only at hr⊢;split at hr
 .rename_i l hl;try rw[hl]
  exact nq
 .cases hr):p:=h
def zp(h:p:=by
 refine go ?_;refine gQ 170 ⟨λh=>?_,λh=>?_⟩
 .exact mS
 exfalso
 have:=h.OE;omega):p:=h
def z6(h:p:=by
 refine gIf ?_ ?_<;>intro h2
 .refine acM ?_;subst h2;rw[dK (aZ hx)];rfl
 .exact ew):p:=h
def z7(h:p:=by omega):p:=h
def An(h:p:=by simp):p:=h
def As(h:p:=by repeat (first|exact aI.nil|(apply aI.cons;(focus (repeat (first|exact az.here|apply az.there)))))):p:=h
def Ax(h:p:=by kernel_rfl):p:=h
def AD(h:p:=by rfl):p:=h
def AE(h:p:=by decide):p:=h
def AF(h:p:=by simp[Op.operands]):p:=h
def AG(h:p:=by first|exact rfl|(conv=>lhs;whnf)):p:=h
def AH(h:p:=by simpa using h):p:=h
def AI(h:p:=by simp;omega):p:=h
def AK(h:p:=by show i+1<=_;omega):p:=h
def AM(h:p:=by simpa using hx):p:=h
def AN(h:p:=by rw[hf];simp):p:=h
def AS(h:p:=by show k+1<=_;omega):p:=h
def AT(h:p:=by simp[stepG,stepG.exec,fr]):p:=h
def AW(h:p:=by show j+1<=_;omega):p:=h
def A0(h:p:=by rw[sO];omega):p:=h
def A1(h:p:=by rw[e]):p:=h
def A2(h:p:=by rw[hk];rfl):p:=h
def A3(h:p:=by simpa using e):p:=h
def A4(h:p:=by intro e;rw[e]at h;cases h):p:=h
def A5(h:p:=by simp[h]):p:=h
def A6(h:p:=by simpa using h1):p:=h
def Bk(h:p:=by simpa[sJ]using hb):p:=h
def Bm(h:p:=by simp[ha]):p:=h
def Bs(h:p:=by rw[e2];exact hw):p:=h
def Bx(h:p:=by simpa[nS]using hb):p:=h
def By(h:p:=by show g.cells.length - (j+1)<g.cells.length - j;omega):p:=h
def BD(h:p:=by show p.length - (i+1)<p.length - i;omega):p:=h
def BE(h:p:=by subst hy;simp[Op.operands]):p:=h
def BF(h:p:=by rw[uO];exact hro):p:=h
def BH(h:p:=by apply Array.ext';simp):p:=h
def BT(h:p:=by rw[h1];exact bM.2 rfl):p:=h
def BW(h:p:=by simpa using h2):p:=h
def BY(h:p:=by rw[ho]):p:=h
def B0(h:p:=by dsimp only;omega):p:=h
def B1(h:p:=by rw[lZ];omega):p:=h
def B3(h:p:=by show Value.bool _=_;rw[eB]):p:=h
def B4(h:p:=by show d.rules.length - (k+1)<d.rules.length - k;omega):p:=h
def B5(h:p:=by unfold qR;omega):p:=h
def B6(h:p:=by rw[hgn];omega):p:=h
def B7(h:p:=by apply Array.ext';exact ha):p:=h
def B9(h:p:=by simp[e]):p:=h
def Cd(h:p:=by rw[hop];rfl):p:=h
def Cl(h:p:=by simp[hi]):p:=h
def Cp(h:p:=by rw[nI];exact hr):p:=h
def CA(h:p:=by rw[bY];omega):p:=h
def CC(h:p:=by intro e;cases e):p:=h
def CD(h:p:=by simpa using hnd):p:=h
def CH(h:p:=by simpa using hc):p:=h
def CI(h:p:=by cases e;rfl):p:=h
def CM(h:p:=by show m - (k+1)<m - k;omega):p:=h
def CN(h:p:=by show k+1<=m;omega):p:=h
def CT(h:p:=by show g.cells.length - (i+1)<g.cells.length - i;omega):p:=h
def C0(h:p:=by unfold u7;simp[c0]):p:=h
def C1(h:p:=by unfold u7;simp[c4]):p:=h
def C2(h:p:=by unfold u7;simp[c5]):p:=h
def C3(h:p:=by rw[hil];omega):p:=h
def C4(h:p:=by show h1 - l<=m - l;omega):p:=h
def C5(h:p:=by simp only[Op.operands,List.mem_toArray,eT];exact⟨p,hp,rfl⟩):p:=h
def C6(h:p:=by rw[<- hdst];exact hdd):p:=h
def C7(h:p:=by rw[put_defers];exact t2.act.defers):p:=h
def Dd(h:p:=by rw[h1];simp):p:=h
def DA(h:p:=by intro r hr;cases hr):p:=h
def DB(h:p:=by rw[qf hn];exact next):p:=h
def DE(h:p:=by rw[h3];exact bM.2 rfl):p:=h
def DG(h:p:=by rw[e,e2];simp):p:=h
def DH(h:p:=by show lk _ d=_;simp[lk]):p:=h
def DM(h:p:=by rw[hg.cells];exact Je _ _):p:=h
def DO(h:p:=by rw[qK];omega):p:=h
def DP(h:p:=by rw[h.len];omega):p:=h
def DQ(h:p:=by rw[tZ];exact hm):p:=h
def DS(h:p:=by simp[fZ,cK,Ideal.cellV]):p:=h
def D0(h:p:=by repeat (first|exact trivial|refine⟨rfl,?_⟩)):p:=h
def D1(h:p:=by show d.aJ.length - (k+1)<d.aJ.length - k;omega):p:=h
def D3(h:p:=by show xs.length - (k+1)<xs.length - k;omega):p:=h
def D4(h:p:=by rw[hre];rfl):p:=h
def Ek(h:p:=by rw[<- hxy,bY]):p:=h
def E3(h:p:=by rw[hcF];rfl):p:=h
def E4(h:p:=by show L.length - (j+1)<L.length - j;omega):p:=h
def E6(h:p:=by simpa using hi):p:=h
def E7(h:p:=by simpa[cK]using h):p:=h
def Fc(h:p:=by rw[e2];exact q1):p:=h
def Fi(h:p:=by rw[<- Et];exact hdd):p:=h
def Fk(h:p:=by simp[Op.operands,Call.operands]):p:=h
def Fl(h:p:=by simp at hk;omega):p:=h
def Fm(h:p:=by rw[hget];simp):p:=h
def Fo(h:p:=by simpa using hl):p:=h
def Ft(h:p:=by rw[hh];exact h2):p:=h
def FA(h:p:=by simpa using hm):p:=h
def FG(h:p:=by intro c e;cases e):p:=h
def Ge(h:p:=by simpa using hz):p:=h
def Gk(h:p:=by simp only[target,jK,gU]):p:=h
def GB(h:p:=by rw[E.len];exact hj):p:=h
def GC(h:p:=by have:=((xK xJ).zero x.values x.values).2 rfl;omega):p:=h
def GF(h:p:=by rw[<- hrun];exact aI.all _):p:=h
def GO(h:p:=by intro s x lo o B w0;refine go ?_;intro b8;refine go ?_;exact IU b8 rfl):p:=h
def GP(h:p:=by rw[bY,gT];omega):p:=h
def GS(h:p:=by show lb.length - (k+1)<lb.length - k;omega):p:=h
def GW(h:p:=by show d.regions.length - (k+1)<d.regions.length - k;omega):p:=h
def G0(h:p:=by simpa using h3):p:=h
def G4(h:p:=by rw[<- hgn];exact hf):p:=h
def Hh(h:p:=by dsimp only[Int.natCast_zero];rw[Int.sub_zero];repeat (first|exact trivial|refine⟨rfl,?_⟩)):p:=h
def Hi(h:p:=by rw[NG,gT];omega):p:=h
def Hj(h:p:=by rw[DK,gU];repeat (first|exact aI.nil|(apply aI.cons;(focus (repeat (first|exact az.here|apply az.there)))))):p:=h
def Hp(h:p:=by simpa using k1):p:=h
def Hs(h:p:=by show q+1<=_;omega):p:=h
def Hv(h:p:=by rw[lZ];exact bT _):p:=h
def Hx(h:p:=by unfold bK;rw[bY,gT];omega):p:=h
def HA(h:p:=by simp only[caF,dx,Kj,or_false]at hf;rcases hf with rfl|rfl|rfl<;>simp):p:=h
def HB(h:p:=by rw[alf];omega):p:=h
def HC(h:p:=by show L.length - (i+1)<L.length - i;omega):p:=h
def HD(h:p:=by rw[Nat.succ_mul]at hl;omega):p:=h
def HE(h:p:=by cases xd<;>first|rfl|exact absurd rfl (hni _)):p:=h
def HH(h:p:=by simp[stepG,stepG.exec,fr,hr]):p:=h
def HI(h:p:=by rw[put_defers];exact t2.act.defers.mono hle):p:=h
def HJ(h:p:=by rw[uN];exact(hcs.mono t0).mono hle):p:=h
def HK(h:p:=by rw[q6];exact hcx.after hle q5):p:=h
def HL(h:p:=by generalize F.defers=d at hd;cases hd;rfl):p:=h
def HM(h:p:=by rw[hget];intro cs e;cases e):p:=h
def HN(h:p:=by simp only[aF.run,aF.alloc,rC]):p:=h
def HO(h:p:=by first|((with_reducible apply EI);(focus ((conv=>lhs;whnf);(first|done|fail))))|((with_reducible apply Hw);(focus ((conv=>lhs;whnf);(first|done|fail))))|((with_reducible apply HY);exact rfl)|((with_reducible apply H6);exact rfl;exact rfl)|((with_reducible apply H7);exact rfl;exact rfl)|((with_reducible apply H8);exact rfl;exact rfl)|((with_reducible apply H9);exact rfl;exact rfl)|((with_reducible apply Ia);exact rfl;exact rfl)|((with_reducible apply Ib);exact rfl;exact rfl)|((with_reducible apply HV);exact rfl)|((with_reducible apply Hy);exact rfl;(focus ((conv=>lhs;whnf);(first|done|fail))))|((with_reducible apply Hz);exact rfl;(focus ((conv=>lhs;whnf);(first|done|fail))))|((with_reducible apply Ie);exact rfl;(focus ((conv=>lhs;whnf);(first|done|fail))))|((with_reducible apply Ig);exact rfl)|((with_reducible apply Ih);exact rfl;(focus ((conv=>lhs;whnf);(first|done|fail))))|((with_reducible apply Ii);exact rfl;(focus ((conv=>lhs;whnf);(first|done|fail))))|((with_reducible apply Ij);(focus ((conv=>lhs;whnf);(first|done|fail))))|((with_reducible apply Ik);exact rfl)|((with_reducible apply Il);exact rfl)|((with_reducible apply Im);exact rfl)|with_reducible exact HZ|((with_reducible apply Io);exact rfl;exact rfl;exact rfl)|((with_reducible apply IB);exact rfl;exact rfl;(focus ((omega);(first|done|fail))))|((with_reducible apply EJ);exact rfl;exact rfl;(focus ((omega);(first|done|fail)));(focus ((omega);(first|done|fail))))|((with_reducible apply Ip);exact rfl;exact rfl;(focus ((omega);(first|done|fail)));(focus ((omega);(first|done|fail))))|((with_reducible apply Cw);exact rfl;exact rfl;(focus ((omega);(first|done|fail)));(focus ((omega);(first|done|fail))))|((with_reducible apply Ic);exact rfl;exact rfl;(focus ((omega);(first|done|fail)));(focus ((omega);(first|done|fail))))|((with_reducible apply Iu);exact rfl;exact rfl;(focus ((first|assumption|kernel_rfl);(first|done|fail))))|((with_reducible apply Iw);exact rfl;exact rfl;(focus ((first|assumption|kernel_rfl);(first|done|fail))))|((with_reducible apply Iy);exact rfl;exact rfl)|((with_reducible apply Iz);exact rfl;exact rfl)|((with_reducible apply IA);exact rfl;exact rfl;(focus ((omega);(first|done|fail)));(focus ((omega);(first|done|fail))))):p:=h
def HP(h:p:=by rw[<- (hk2 y).eq,<- (hF2 y).eq];exact back w' _ _ c):p:=h
def HQ(h:p:=by rcases ho with rfl|rfl<;>rfl):p:=h
def HR(h:p:=by rw[alG];exact Nat.div_add_mod j E.n):p:=h
def HS(h:p:=by rw[size_flatK,hd2];exact htn):p:=h
def HT(h:p:=by simp only[agO];exact cO _ h2):p:=h
def HU(h:p:=by have:=(hO.zero x.values x.values).2 rfl;omega):p:=h
def HW(h:p:=by intro e;rw[e]at hl;cases hl):p:=h
def HX(h:p:=by rw[oQ,if_pos rfl,if_pos hk]):p:=h
def Is(h:p:=by repeat (first|exact az.here|apply az.there)):p:=h
def Iv(h:p:=by intro s x lo o B w0;refine go ?_;have z0:Nat:=0;exact IU z0 rfl):p:=h
def Ix(h:p:=by show aQ.length - (i+1)<aQ.length - i;omega):p:=h
def ID(h:p:=by show ln.length - (j+1)<ln.length - j;omega):p:=h
def IF(h:p:=by have:=Jl hmem hnd;rw[gT]at this;omega):p:=h
def IN(h:p:=by unfold eZ;rw[htx,fP,sQ,hpos]):p:=h
def IS(h:p:=by show aC.length - (k2+1)<aC.length - k2;omega):p:=h
def IT(h:p:=by show xs.length - (i+1)<xs.length - i;omega):p:=h
def I0(h:p:=by show l.length - (i+1)<l.length - i;omega):p:=h
def I2(h:p:=by repeat (first|exact cB .. |apply cO)):p:=h
def I3(h:p:=by show k.decl.rules.length - (j+1)<k.decl.rules.length - j;omega):p:=h
def Jx(h:p:=by show 49 - (i+1)<49 - i;omega):p:=h
def JE(h:p:=by show k.lists.length - (i+1)<k.lists.length - i;omega):p:=h
def JT(h:p:=by have:=H.hL;rwa [hf,kJ]at this):p:=h
def J0(h:p:=by unfold u7;rw[vG,vG,lM,lM,lM];omega):p:=h
def J1(h:p:=by show t.length - (k+1)<t.length - k;omega):p:=h
def Kf(h:p:=by dsimp only;rw[hsame];repeat (first|exact Sub.nil|(apply Sub.cons;(focus (repeat (first|exact cB .. |apply cO)))))):p:=h
def Kg(h:p:=by rw[hr];first|exact aI.all _|exact aI.self _ _):p:=h
def Kp(h:p:=by simp only[Op.operands,Call.operands,yB];exact .inr AM):p:=h
def Ks(h:p:=by rw[aG.EC (Co Bx)];exact hi):p:=h
def Kx(h:p:=by unfold Dq;rw[if_neg z7,if_neg z7,if_neg z7,if_neg z7,if_neg z7,if_pos z7]):p:=h
def KB(h:p:=by simp only[Op.operands,yB];exact .inl AM):p:=h
def KK(h:p:=by simp only[Op.operands,yB];exact .inr AM):p:=h
def K0(h:p:=by rw[oQ,if_pos rfl,if_pos z7]):p:=h
def K1(h:p:=by have:=uR (b:=bs) (f:=0) (c:=m) (xs:=dz (aK k) cl p) (hc:=z7);rw[hfl]at this;exact this):p:=h
