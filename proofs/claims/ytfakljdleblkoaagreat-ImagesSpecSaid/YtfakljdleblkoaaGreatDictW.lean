/-
  Part Dict.
-/
import Derived.KernelRfl
set_option linter.all false
theorem aq{p:Prop}(h:p:=by
 have hjs:j<s.length:=by
  have:=G.iK.len (by unfold iR;simp[hcf]);omega
 refine go ?_;intro _ _ iz hiz;have hig:=l6 hiz;obtain rfl:iz=(i:Int):=by
  have:=lq;unfold iM at this;rw[if_pos (by unfold iR;simp[hcf])]at this;omega
 refine go ?_;refine bq (ak ae) (xs:=L) (k:=i) (next:=λ_ _ l2 (y8:Value) hl2=>?_);rw[G.hl']at hl2;obtain rfl:l'=l2:=Option.some.inj hl2;refine go ?_;refine ax (ahr (a:=a9) (xs:=img s l) (ys:=l') (by rw[hil];omega)) (next:=λ_ _=>?_);refine go ?_;refine ax (agf (a:=a9) (xs:=img s l) (by rw[hil];omega)) (next:=λ_ _=>?_);generalize hxd:(((⟨(cn:Int),(i:Int),gvs⟩,vg),ags s l l'):CE)=x;have hnx:(p.take (jj+1)).map (clI k s)=(p.take jj).map (clI k s)++[acR x]:=by
  rw[bU hg,fD,r9,<- hxd,G.clI];rfl
 have hX:(kH++x::aeI ((p.drop (jj+1)).map (clI k s))).map acR=p.map (clI k s):=by
  rw[fD,ic,ajF,ae1];conv=>rhs;rw[<- uU (jj+1) p,fD,hnx,fU]
  rfl
 have Ar:=hy _ s0' _ _ hos hX;rw[show ceV x=[aeQ ⟨(cn:Int),(i:Int),gvs⟩ vg,.bool (ags s l l')]by rw[<- hxd];rfl,show ceF x=[ai ae vg gvs]by rw[<- hxd];rfl]at Ar;rw[fM,dX]at Ar;have hrl:(img s l).reverse.length=(img s l).length:=FN;by_cases e0:img s l=l'
 ·rw[eY e0];have htb:ags s l l'=false:=by unfold ags;simp[e0]
  rw[htb]at Ar;refine go ?_;refine ax Ar (next:=λ_ _=>?_);cases hst:(step s0' x).2 with
  |true=>
   have hs1:step s0' x=((step s0' x).1,true):=Prod.ext rfl hst;refine go ?_;refine aM (jj+1,kH++[x],(step s0' x).1) (by show p.length - (jj+1)<p.length - jj;omega) ⟨by show jj+1<=_;omega,hok _ s0' _ _ hos hX hst,?_,λrest=>?_⟩
   ·show(kH++[x]).map acR=_;rw[fD,r9,ae1];exact hnx.symm
   ·show lX step s0 (kH++[x]++rest)=_;rw[fU,hrun];show lX step s0' (x::rest)=_;rw[lX,hs1]
  |false=>
   have hs1:step s0' x=((step s0' x).1,false):=Prod.ext rfl hst;have hr:=hrun (x::aeI ((p.drop (jj+1)).map (clI k s)));rw[lX,hs1]at hr;dsimp only at hr;refine go ?_;exact ah (kH++x::aeI ((p.drop (jj+1)).map (clI k s))) (hv:=rfl) (hp:=hX) (hk:=by rw[hr];first|exact aI.all _|exact aI.self _ _)
 ·rw[aS e0];have htb:ags s l l'=decide ((img s l).reverse=l'):=by unfold ags;simp[e0]
  rw[htb]at Ar;refine go ?_;refine bq (ak ae) (xs:=L) (k:=i) (next:=λ_ _ l3 (VB:Value) hl3=>?_);rw[G.hl']at hl3;obtain rfl:l'=l3:=Option.some.inj hl3;refine go ?_;rw[<- hrl];refine ax (ahr (a:=a9) (xs:=(img s l).reverse) (ys:=l') (by rw[hrl,hil];omega)) (next:=λ_ _=>?_);refine go ?_;refine ax Ar (next:=λ_ _=>?_);cases hst:(step s0' x).2 with
  |true=>
   have hs1:step s0' x=((step s0' x).1,true):=Prod.ext rfl hst;refine go ?_;refine aM (jj+1,kH++[x],(step s0' x).1) (by show p.length - (jj+1)<p.length - jj;omega) ⟨by show jj+1<=_;omega,hok _ s0' _ _ hos hX hst,?_,λrest=>?_⟩
   ·show(kH++[x]).map acR=_;rw[fD,r9,ae1];exact hnx.symm
   ·show lX step s0 (kH++[x]++rest)=_;rw[fU,hrun];show lX step s0' (x::rest)=_;rw[lX,hs1]
  |false=>
   have hs1:step s0' x=((step s0' x).1,false):=Prod.ext rfl hst;have hr:=hrun (x::aeI ((p.drop (jj+1)).map (clI k s)));rw[lX,hs1]at hr;dsimp only at hr;refine go ?_;exact ah (kH++x::aeI ((p.drop (jj+1)).map (clI k s))) (hv:=rfl) (hp:=hX) (hk:=by rw[hr];first|exact aI.all _|exact aI.self _ _)):p:=h
theorem be{p:Prop}(h:p:=by
 refine go ?_;refine ax Ar (next:=λ_ _=>?_);cases hst:(step s0' x).2 with
 |true=>
  have hs1:step s0' x=((step s0' x).1,true):=Prod.ext rfl hst;refine go ?_;refine aM (jj+1,kH++[x],(step s0' x).1) (by show p.length - (jj+1)<p.length - jj;omega) ⟨by show jj+1<=_;omega,hok _ s0' _ _ hos hX hst,?_,λrest=>?_⟩
  ·show(kH++[x]).map acR=_;rw[fD,r9,ae1];exact hnx.symm
  ·show lX step s0 (kH++[x]++rest)=_;rw[fU,hrun];show lX step s0' (x::rest)=_;rw[lX,hs1]
 |false=>
  have hs1:step s0' x=((step s0' x).1,false):=Prod.ext rfl hst;have hr:=hrun (x::aeI ((p.drop (jj+1)).map (clI k s)));rw[lX,hs1]at hr;dsimp only at hr;refine go ?_;exact ah (kH++x::aeI ((p.drop (jj+1)).map (clI k s))) (hv:=rfl) (hp:=hX) (hk:=by rw[hr];first|exact aI.all _|exact aI.self _ _)):p:=h
theorem bh{p:Prop}(h:p:=by
 obtain⟨m,rfl⟩:=iO hi0;refine go ?_;refine bq (ak ae) (xs:=L) (next:=λ_ _ l' (nP:Value) hl'=>?_);have pX:=pW l' (aP hl');refine go ?_;refine ax (Ff (b:=b10) (vw:=.slice (some ⟨bw,0,some 0⟩) l.length l.length) (w:=img s l) (by rw[hil];omega) l' pX nP) (next:=λ_ _=>?_);dsimp only;cases e1:iT l' (img s l)with
 |false=>
  refine go ?_;refine ah () (hv:=?_) (hp:=trivial);rw[xJ hl (by
   cases e:mK L s rf eq l j with
   |false=>rfl
   |true=>
    have:=(xK lq e).2.1;rw[gy,gz hl',e1]at this;cases this)];rfl
 |true=>
 refine go ?_;refine bq (ak ae) (xs:=L) (next:=λ_ _ l'' (nP:Value) uN=>?_);rw[hl']at uN;obtain rfl:l'=l'':=Option.some.inj uN;refine go ?_;refine ax (he nP (.slice (some ⟨bw,0,some 0⟩) l.length l.length) l' (img s l) pX (by rw[hil];omega)) (next:=λ_ _=>?_);cases e2:eq l' (img s l)with
 |false=>
  refine go ?_;refine ah () (hv:=?_) (hp:=trivial);rw[xJ hl (by
   cases e:mK L s rf eq l j with
   |false=>rfl
   |true=>
    have:=(xK lq e).2.2;rw[gy,gz hl',e2]at this;cases this)];rfl
 |true=>
  refine go ?_;exact aM (j+1) (by show L.length - (j+1)<L.length - j;omega) ⟨by omega,λi' hi' x hx=>(by
   by_cases e:i'=j
   ·subst e;rw[hl]at hx;cases hx;exact Jt lq hl' e1 e2
   ·exact hall i' (by omega) x hx)⟩):p:=h
theorem bj{p:Prop}(h:p:=by
 refine go ?_;refine BV ?_;refine go ?_;refine Aa (false,(xs.take k).map nm) (hv:=rfl) (hp:=⟨(λh=>by cases h),λ_ hn=>?_⟩);rw[(pQ hx).1]at hm;have hsub:(aj.map (·.1)++(xs.take k).map nm++[nm x]).Nodup:=by
  have e:xs.map nm=(xs.take k).map nm++nm x::(xs.drop (k+1)).map nm:=by
   conv=>lhs;rw[<- uU k xs]
   rw[fD];congr 1;rw[wz (bC.1 hx).1,ic,(bC.1 hx).2]
  rw[e,<- fU]at hn;rw[gX]at hn⊢;exact⟨hn.1,by simp,λa ha c hc=>hn.2.2 a ha c (by rw[bK.1 hc];exact cZ ..)⟩
 rw[gX]at hsub;exact hsub.2.2 _ hm _ (bK.2 rfl) rfl):p:=h
theorem bt{p:Prop}(h:p:=by
 refine go ?_;have hb0:=hb;rcases hb with⟨rfl,_⟩|⟨b,y,rfl,hy,_,_⟩
 ·refine go ?_;refine aM (i+1,(i:Int)) (by show xs.length - (i+1)<xs.length - i;omega) ⟨by dsimp only;omega,hb0.take hx hox (.inl rfl)⟩
 have hbl:=(bC.1 hy).1;rw[show decide ((b:Int)<0)=false from aS (by omega)];refine go ?_;refine bq aaH (xs:=xs) (next:=λ_ _ x1 (vx1:Value) hx1=>?_);cases hx.symm.trans hx1;refine go ?_;refine bq aaH (xs:=xs) (next:=λ_ _ y1 (vy1:Value) hy1=>?_);cases hy.symm.trans hy1;refine go ?_;refine ax (ahw (a:=x) (b:=y) (va:=vx1) (vb:=vy1)) (next:=λ_ _=>?_);rw[<- ac9];refine go ?_;refine gG (λh5=>?_) (λh5=>?_)
 rotate_left
 ·refine go ?_;refine aM (i+1,(i:Int)) (by show xs.length - (i+1)<xs.length - i;omega) ⟨by dsimp only;omega,hb0.take hx hox (.inr ⟨b,y,rfl,hy,ady.2 (.inl h5)⟩)⟩
 refine go ?_;refine bq aaH (xs:=xs) (next:=λ_ _ x2 (vx2:Value) hx2=>?_);cases hx.symm.trans hx2;refine go ?_;refine bq aaH (xs:=xs) (next:=λ_ _ y2 (vy2:Value) hy2=>?_);cases hy.symm.trans hy2;refine go ?_;refine ax (ahw (a:=x) (b:=y) (va:=vx2) (vb:=vy2)) (next:=λ_ _=>?_);rw[<- ac9];refine go ?_;refine gG (λh6=>?_) (λh6=>?_)
 ·refine go ?_;refine aM (i+1,(b:Int)) (by show xs.length - (i+1)<xs.length - i;omega) ⟨by dsimp only;omega,hb0.keep hx hy (λh=>(ady.1 h).elim h5 λh=>h6 h.1)⟩
 refine go ?_;refine bq aaH (xs:=xs) (next:=λ_ _ x3 (vx3:Value) hx3=>?_);cases hx.symm.trans hx3;refine go ?_;refine bq aaH (xs:=xs) (next:=λ_ _ y3 (vy3:Value) hy3=>?_);cases hy.symm.trans hy3;refine go ?_;refine ax (ajz (xs:=x.values) (ys:=y.values) (hv x (aP hx)) (hv y (aP hy))) (next:=λ_ _=>?_);refine go ?_;refine az rfl (λh7=>?_) (λh7=>?_)
 ·refine go ?_;refine aM (i+1,(i:Int)) (by show xs.length - (i+1)<xs.length - i;omega) ⟨by dsimp only;omega,hb0.take hx hox (.inr ⟨b,y,rfl,hy,ady.2 (.inr ⟨h6,h7⟩)⟩)⟩
 refine go ?_;refine aM (i+1,(b:Int)) (by show xs.length - (i+1)<xs.length - i;omega) ⟨by dsimp only;omega,hb0.keep hx hy (λh=>(ady.1 h).elim h5 λh=>h7 h.2)⟩):p:=h
theorem cj{p:Prop}(h:p:=by
 refine go ?_;refine eO rfl (λh3=>?_) (λh3=>?_)
 ·refine go ?_;refine ah () (hv:=?_) (hp:=trivial);rw[aS (λe=>by cases e;rw[hx]at hy;exact h3 (Option.some.inj hy))];rfl
 refine go ?_;refine aM (k+1) (by omega) ⟨by omega,?_⟩;rw[bU hx,bU hy,hsame,h3]):p:=h
theorem ck{p:Prop}(h:p:=by
 have hlen:xs.length=ys.length:=by omega
 refine go ?_;refine aW (λk=>xs.length - k) (λk:Nat=>[(5,.int .i64 (k:Int))]) (λ_=>[]) (λ_=>[]) (λk=>k<=xs.length/\xs.take k=ys.take k) 0 ⟨by omega,by simp⟩ (body:=?_);rintro k ⟨hk,hsame⟩;refine go ?_;refine az rfl (λh2=>?_) (λh2=>?_)
 ·refine go ?_;intro _ _ x hx _ _ y hy;refine go ?_;refine az rfl (λh3=>?_) (λh3=>?_)
  rotate_left
  ·have h3:x=y:=gT.1 h3;refine go ?_;refine aM (k+1) (by omega) ⟨by omega,?_⟩;rw[bU hx,bU hy,hsame,h3]
  ·refine go ?_;refine ah () (hv:=?_) (hp:=trivial);rw[aS (λe=>by subst e;rw[hx]at hy;exact h3 (Option.some.inj hy))];rfl
 have:k=xs.length:=by omega
 subst this;refine go ?_;refine ah () (hv:=?_) (hp:=trivial);rw[bJ,hlen,bJ]at hsame;rw[eY hsame];rfl):p:=h
theorem cm{p:Prop}(h:p:=by
 refine go ?_;refine wY uI (nm x) (aj:=aj++fu ((xs.take k).map nm) start) (v:=.int .i64 ((start:Int)+(k:Int))) ?_;have hm2:=hm;rw[(pQ hx).1]at hm2;rw[Ce hm,fU,<- (pQ (aj:=aj) hx).2];refine go ?_;refine aM (k+1) (by omega) ⟨by omega,?_⟩;rw[nE,hx,fD,<- fU,gX];refine⟨hall,by simp,λa ha c hc=>?_⟩;have:c=nm x:=by simpa using hc
 subst this;intro e;subst e;exact hm2 ha):p:=h
theorem cq{p:Prop}(h:p:=by
 refine go ?_;intro _ _ iz hiz;have hig:=l6 hiz;have hi0:=(H.ps.eH iz (aP hiz))
 have hLn:=H.iK.len hby;obtain⟨i,rfl⟩:=iO hi0.1;refine go ?_;refine bq (ak ae) (xs:=L) (k:=i) (next:=λ_ _ l' (nP:Value) hl'=>?_);have pX:=pW l' (aP hl');refine go ?_;refine ax (JJ (xs:=l') (ys:=img s l) (by omega) (by rw[hil];omega)) (next:=λ_ _=>?_);have hr:nR L s (f:Int) l j=if qH l' (img s l)then(i:Int)else -1:=by
  unfold nR;rw[if_pos hby,hig,gy,gz hl']
 refine go ?_;refine jh rfl (λh9=>?_) (λh9=>?_)
 ·refine go ?_;intro _ _ Fs zf;rw[hiz]at zf;obtain rfl:(i:Int)=Fs:=Option.some.inj zf;refine go ?_;refine ah () (hv:=?_) (hp:=trivial);rw[hr,if_pos h9];rfl
 refine go ?_;refine ah () (hv:=?_) (hp:=trivial);rw[hr,if_neg (by rw[h9];simp)];rfl):p:=h
theorem cw{p:Prop}(h:p:=by intro hb;refine⟨⟨?_,?_,?_,?_,?_,?_⟩,⟨?_,?_,?_⟩,?_,?_,?_⟩<;>dsimp only<;>first|(simp_all;done)|(simp_all;omega)|omega):p:=h
theorem cA{p:Prop}(h:p:=by
 refine go ?_;refine eO rfl (λh3=>?_) (λh3=>?_)
 ·refine go ?_;refine ah () (hv:=?_) (hp:=trivial);rw[aS (λe=>h3 (by rw[e,hy]at hx;cases hx;rfl))];rfl
 refine go ?_;refine aM (k+1) (by omega) ⟨by omega,λj hj=>?_⟩;by_cases e:j=k
 ·subst e;rw[hx,hy,h3]
 ·exact hsame j (by omega)):p:=h
theorem cC{p:Prop}(h:p:=by
 by_cases p0:e3=0
 ·subst p0;have hK:eF k:=Classical.byContradiction λh=>by have:=hy3.1.nk h;omega
  have hk:nN k s t:=Classical.byContradiction λh=>by have:=hy3.1.ns hK h;omega
  have hQ:Ck k p:=Classical.byContradiction λh=>by have:=hy3.1.np hK hk h;omega
  have hx:=hy3.2.1 rfl;obtain rfl:x=y:=hx.uniq (hy4.2.1 rfl);have hQx:=aj5 hK hk hQ hx;have hPx:=aga.img hK hk hQ hx;refine fK (ai aaH v13 x) (λw hw=>hw (mQ ((0:Int)=0) (ai aaH v13 x)) (by simp) rfl) ?_;refine fK (ai aaH v15 x) (λw hw=>hw (mQ ((0:Int)=0) (ai aaH v15 x)) (by simp) rfl) ?_;refine go ?_;refine ax (ajA (va:=v13) (vb:=v15) (xs:=x) (ys:=x) (by have:=hQx.len;omega) (λg hg=>by have:=EG.ajm (hQx.right g hg);omega) (λg hg=>by have:=EG.ajm (hQx.right g hg);omega)) (next:=λ_ _=>?_);rw[eY (rfl:x=x)];refine go ?_;refine ah () (hv:=?_) (hp:=trivial);exact congrArg Value.bool (eY rfl)
 ·obtain rfl:v13=.slice none 0 0:=hy3.2.2 p0;obtain rfl:v15=.slice none 0 0:=hy4.2.2 p0;refine fK (ai aaH (.slice none 0 0) ([]:List Clue)) (λw _=>.inl ⟨rfl,none,0,rfl,trivial⟩) ?_;refine go ?_;refine ax (ajA (va:=(.slice none 0 0)) (vb:=(.slice none 0 0)) (xs:=([]:List Clue)) (ys:=([]:List Clue)) (bQ _) (λg hg=>by cases hg) (λg hg=>by cases hg)) (next:=λ_ _=>?_);rw[eY (rfl:([]:List Clue)=([]:List Clue))];refine go ?_;refine ah () (hv:=?_) (hp:=trivial);exact congrArg Value.bool (eY rfl)):p:=h
theorem cD{p:Prop}(h:p:=by
 rintro⟨⟨q1,q2,q3,q4,q5,q6⟩,⟨p1,p2,p3⟩,p4,p5,p6⟩;dsimp only at q1 q2 q3 q4 q5 q6 p1 p2 p3 p4 p5 p6
 simp_all):p:=h
theorem cE{p:Prop}(h:p:=by refine go ?_;refine fw (xs:=upTo' i) ae (i:Int) () (by omega) (next:=λad=>?_);rw[<- vK];refine go ?_;exact aM (i+1,.slice ad ((upTo' i).length+1) ((upTo' i).length+1)) (by show g.cells.length - (i+1)<g.cells.length - i;omega) (by show i+1<=_;omega)):p:=h
theorem cF{p:Prop}(h:p:=by refine go ?_;refine aM (k+1) (by omega) ⟨by omega,?_⟩;rw[bU hx,bU hy,hsame,h3]):p:=h
theorem cG{p:Prop}(h:p:=by
 have gV:j=ps.length:=by omega
 subst gV;rw[bJ]at hmem hnd⊢;have hrl2:(eT g ps).length=ps.length:=by unfold eT;rw[cz]
 refine pV (E:=ae) (v:=v8) (xs:=eT g ps) λa8 e8=>?_;subst e8;refine go ?_;refine az rfl (λh5=>?_) (λh5=>?_)
 ·refine go ?_;refine mg (c:=(130:Int)=0) (f:=ai (ak ae) (.slice none 0 0) (dU g rs)) (by omega) ?_;exact ah ⟨.slice none 0 0,130⟩ (hv:=rfl) (hp:=⟨(λh=>by cases h),λh=>by
   exfalso
   exact(h.2.all ps hpm).ne (jw.1 (by omega))⟩)
 have hR:yP g ps:=⟨λe=>h5 (by rw[hrl2,e];rfl),hmem,hnd⟩
 have hrr:dU g (rs.take (k+1))=dU g (rs.take k)++[eT g ps]:=by unfold dU;rw[htk,fD,r9]
 refine bi (fQ (E:=ae) (v:=.slice a8 (eT g ps).length (eT g ps).length) (xs:=eT g ps)) (h:=?_);refine go ?_;intro b61;refine go ?_;refine fw (xs:=dU g (rs.take k)) (ak ae) (eT g ps) (.slice a8 (eT g ps).length (eT g ps).length) (by omega) (next:=λad=>?_);rw[<- hrr];refine go ?_;refine aM (k+1,.slice ad ((dU g (rs.take k)).length+1) ((dU g (rs.take k)).length+1)) (by show rs.length - (k+1)<rs.length - k;omega) ⟨by show k+1<=_;omega,?_⟩;show∀qs∈rs.take (k+1),yP g qs;rw[htk];intro qs hq;rcases dW.1 hq with hq|hq
 ·exact hall qs hq
 ·rw[bK.1 hq];exact hR):p:=h
theorem cH{p:Prop}(h:p:=by
 refine go ?_;refine ah () (hv:=?_) (hp:=trivial);have:xs=ys:=by
  apply jv;intro j;by_cases hj:j<k
  ·exact hsame j hj
  ·rw[gJ (by omega),gJ (by omega)]
 rw[eY this];rfl):p:=h
theorem cI{p:Prop}(h:p:=by
 refine go ?_;refine az rfl (λh2=>?_) (λh2=>?_)
 ·have hj:((xs.length:Int) - 1 - (q:Int))=((xs.length - 1 - q:Nat):Int):=by omega
  have hlt:xs.length - 1 - q<xs.length:=by omega
  rw[hj];generalize hjj:xs.length - 1 - q=j at hj hlt⊢;refine go ?_;intro _ _ x hx;have htk:xs.reverse.take (q+1)=xs.reverse.take q++[x]:=bU (by rw[List.getElem?_reverse (by omega),hjj];exact hx);refine go ?_;intro b50;refine go ?_;refine fw (xs:=xs.reverse.take q) ae x () (by omega) (next:=λad=>?_);rw[<- htk];refine go ?_;exact aM (q+1,.slice ad ((xs.reverse.take q).length+1) ((xs.reverse.take q).length+1)) (by show xs.length - (q+1)<xs.length - q;omega) (by show q+1<=_;omega) (hl:=by dsimp only;rw[show(xs.length:Int) - 1 - ((q+1:Nat):Int)=(j:Int) - 1 by omega];repeat (first|exact trivial|refine⟨rfl,?_⟩))
 have hqe:q=xs.length:=by omega
 subst hqe;rw[show xs.reverse.take xs.length=xs.reverse by rw[tV (by rw[FN];exact bV _)]];refine bi (A:=ap ae v5 xs.reverse) (fs:=[ai ae v5 xs.reverse]) fQ (h:=?_);refine go ?_;exact ah v5 (hv:=rfl) (hp:=trivial)):p:=h
theorem cJ{p:Prop}(h:p:=by
 have zS:xV size (k+1) (ev l x) h=some xs:=hxs;simp only[aB.run,hx,zS,hs,wE];have e1:mX size m (.slice (some ⟨b,o,f⟩) m m) h=some old:=hold;show∃h',(cond (Nat.ble (Nat.mul (m+(k+1)) bytes) small&&Nat.ble (Nat.mul (m+(k+1)) size) small&&Nat.ble (m+(k+1)) small) _ _)=_/\_;rw[hc];show∃h',(cond (Nat.ble (m+(k+1)) m) _ _)=_/\_;rw[hlt];simp only[cond,e1];rcases hf with rfl|rfl
 ·refine⟨_,rfl,?_⟩;exact⟨rfl,λi hi _=>by rw[IH.iZ,if_neg (by omega)],⟨wh _,by rw[IH.iZ,if_pos rfl,jF]⟩,λ_=>rfl⟩
 ·cases size with
  |zero=>
   refine⟨_,rfl,?_⟩;exact⟨rfl,λi hi _=>by rw[IH.iZ,if_neg (by omega)],⟨wh _,by rw[IH.iZ,if_pos rfl,jF]⟩,λ_=>rfl⟩
  |succ j=>
   have hj:Nat.beq (Nat.succ j) (j+1)=true:=ahD _;refine⟨(h.kill b).new (.cells (old++xs)),?_,?_⟩
   ·show cond (Nat.beq (Nat.succ j) (j+1)) _ _=_;rw[hj,jF];rfl
   ·exact⟨rfl,λi hi hb=>by rw[IH.iZ,if_neg (by show i≠h.next;omega),IH.uf,if_neg hb],⟨wh _,by rw[IH.iZ];exact if_pos rfl⟩,λhl=>by rw[IH.Ke,IH.zC];omega⟩):p:=h
theorem cM{p:Prop}(h:p:=by
 have:k=xs.length:=by omega
 subst this;refine go ?_;refine ah () (hv:=?_) (hp:=trivial);rw[bJ,hlen,bJ]at hsame;rw[eY hsame];rfl):p:=h
theorem cN{p:Prop}(h:p:=by refine go ?_;refine ah () (hv:=?_) (hp:=trivial);rw[aS (λe=>by subst e;rw[hx]at hy;exact h3 (Option.some.inj hy))];rfl):p:=h
theorem cP{p:Prop}(h:p:=by
 obtain⟨xn,rfl⟩:=iO oQ.1;refine go ?_;intro _ _ z hz;have hzg:=l6 hz;have htk:img s (l.take (q+1))=img s (l.take q)++[z]:=by
  unfold img;rw[bU hx,fD,r9,hzg]
 refine go ?_;intro b50;refine go ?_;refine fw (xs:=img s (l.take q)) ae z () (by omega) (next:=λad=>?_);rw[<- htk];refine go ?_;exact aM (q+1,.slice ad ((img s (l.take q)).length+1) ((img s (l.take q)).length+1)) (by show l.length - (q+1)<l.length - q;omega) (by show q+1<=_;omega)):p:=h
theorem cQ{p:Prop}(h:p:=by
 have hno:¬eF k:=λh=>by have:=hb.2 h;cases this
 dsimp only[cond];refine go ?_;exact ah 180 (hv:=rfl) (hp:=⟨λ_=>rfl,λh=>absurd h hno,λh=>absurd h hno⟩)):p:=h
theorem cR{p:Prop}(h:p:=by refine go ?_;refine ah () (hv:=?_) (hp:=trivial);rw[aS (λe=>h3 (by rw[e,hy]at hx;cases hx;rfl))];rfl):p:=h
theorem cS{p:Prop}(h:p:=by
 obtain⟨s,o⟩:=so;obtain⟨hn,ho⟩:=ho;have hn:o=.normal:=hn;subst hn;exact acj (Y:=Unit) (L:=⟨.ready,none,iQ l,n,ps,assign,body,r⟩) (args:=vals x) (k1:=inv s) (out:=λ_=>(step s x).2) (k1':=λ_=>inv (step s x).1) (fs:=λ_=>[]) (pr:=λ_=>True) l (l3 x) (λz=>k3 x z++inv s) rfl rfl hps (hlen x)
  (λB w0=>ha s x lo _ B w0) (λz B w0=>hb vs s x rest z lo _ B w0 ho hx)):p:=h
theorem cT{p:Prop}(h:p:=by
 refine go ?_;intro _ _ z hz;have hzg:=l6 hz;refine go ?_;refine rz (b:=bm) (o:=0+dn*1) (cs:=ys.map (.int .i64)) (v:=.int .i64 z) (cs':=(ys.set dn z).map (.int .i64)) (by rw[fC,uV,List.map_set]) (by rw[cz];omega) ?_;refine go ?_;refine aM (j+1,ys.set dn z) (by show grid.length - (j+1)<grid.length - j;omega) ⟨by dsimp only;omega,by rw[uX];exact hyl,λc c0 c1=>?_⟩;dsimp only at c1⊢;have hsr:=hk.pc.at_ c0 (by omega);have hset:=ad6 (l:=ys) (s:=(dn:Int)) (x:=z) (u:=aR s c) (by omega) (by omega) hsr.1;rw[gy]at hset;rw[hset];by_cases e:c=(j:Int)
 ·subst e;rw[hdg,if_pos rfl,hxg,hzg]
 ·rw[if_neg (λq=>e (hk.pc.inj c0 (by omega) (by omega) (by omega) (q.trans hdg.symm)))];exact hy c c0 (by omega)):p:=h
theorem cU{p:Prop}(h:p:=by
 apply jv;intro j;by_cases hj:j<k
 ·exact hsame j hj
 ·rw[gJ (by omega),gJ (by omega)]):p:=h
theorem cV{p:Prop}(h:p:=by refine go ?_;exact ah false (hv:=rfl) (hp:=λh=>by cases h)):p:=h
theorem cW{p:Prop}(h:p:=by refine go ?_;refine ah () (hv:=?_) (hp:=trivial);rw[aS (λe=>h1 (by rw[e]))];rfl):p:=h
theorem c7{p:Prop}(h:p:=by refine go ?_;refine ah () (hv:=?_) (hp:=trivial);rw[aS (λe=>by subst e;omega)];rfl):p:=h
theorem c9{p:Prop}(h:p:=by
 refine go ?_;refine bq eP (xs:=k.decl.symbols) (k:=i) (next:=λ_ _ z (_:Unit) hz=>?_);have e2:=Jw hz;refine go ?_;refine az rfl (λh2=>?_) (λh2=>?_)
 ·refine go ?_;refine ah () (hv:=?_) (hp:=trivial);have:kg (kP k) t=false:=by
   cases e:kg (kP k) t with
   |false=>rfl
   |true=>
    unfold kg at e;rw[lm]at e;have:=gQ (e j _ hx);dsimp only at this;rw[e1,e2]at this;exact absurd this h2
  rw[this];rfl
 refine go ?_;refine aM (j+1) (by omega) ⟨by omega,λi' hi' x hx'=>?_⟩;by_cases e:i'=j
 ·subst e;rw[hx]at hx';cases hx';rw[e1,e2];exact gT.1 h2
 ·exact hall i' (by omega) x hx'):p:=h
theorem da{p:Prop}(h:p:=by
 refine go ?_;intro b53;refine go ?_;refine fw (xs:=eT g (ps.take j)) ae (c:Int) () (by omega) (next:=λad=>?_);rw[<- hr1];refine go ?_;refine aM (j+1,.slice ad ((eT g (ps.take j)).length+1) ((eT g (ps.take j)).length+1)) (by show ps.length - (j+1)<ps.length - j;omega) ⟨by show j+1<=_;omega,?_,?_⟩
 ·show∀p∈ps.take (j+1),p∈g.cells;rw[htx];intro p hp;rcases dW.1 hp with hp|hp
  ·exact hmem p hp
  ·rw[bK.1 hp];exact hxm
 ·show(eT g (ps.take (j+1))).Nodup;rw[hr1,gX];exact⟨hnd,by simp,λa ha b hb e=>h5 (by rw[bK.1 hb]at e;rw[<- e];exact ha)⟩):p:=h
theorem dc{p:Prop}(h:p:=by
 refine go ?_;refine ax Ar (next:=λ_ _=>?_);rw[hd,lX]at hrun;refine go ?_;cases hst:step s ((k:Int),_)with
 |mk s' b=>
  have hst:=hst;rw[hst]at hrun;cases b with
  |true=>
   refine go ?_;refine aM (k+1,s') (by show g.cells.length - (k+1)<g.cells.length - k;omega) ⟨by show k+1<=_;omega,?_,hrun⟩;have:=hok _ s _ _ hos hX (by rw[hst]);rw[hst]at this;rw[show(bB g).take (k+1)=(bB g).take k++[_]from by rw[nE,hsp];rfl];rw[hso];exact this
  |false=>
   refine go ?_;exact ah (bB g) (hv:=rfl) (hp:=rfl) (hk:=by rw[<- hrun];exact aI.all _)):p:=h
theorem de{p:Prop}(h:p:=by refine go ?_;exact ah () (hv:=rfl) (hp:=trivial)):p:=h
theorem dg{p:Prop}(h:p:=by
 refine go ?_;refine ah ⟨false,.nilFunc,.nilFunc⟩ (hv:=rfl) (hp:=⟨(λe=>by cases e),λe=>?_⟩)
 exfalso
 have e:=vO.2 e;obtain⟨q1,q2,q3,q4,q5,q6⟩:=e;omega):p:=h
theorem dj{p:Prop}(h:p:=by exact ah ⟨v8,0⟩ (hv:=rfl) (hp:=⟨λ_=>⟨hg,by omega,by omega⟩,λ_=>rfl⟩)):p:=h
theorem dl{p:Prop}(h:p:=by
 refine go ?_;refine az rfl (λh3=>?_) (λh3=>?_)
 ·refine go ?_;refine ah () (hv:=?_) (hp:=trivial);rw[ae0,ahi hkx hky (by omega),if_pos (by omega)];rfl
 refine go ?_;refine az rfl (λh4=>?_) (λh4=>?_)
 ·refine go ?_;refine ah () (hv:=?_) (hp:=trivial);rw[ae0,ahi hkx hky (by omega),if_neg (by omega),if_pos (by omega)];rfl
 refine go ?_;refine ah () (hv:=?_) (hp:=trivial);rw[ae0,ahi hkx hky (by omega),if_neg (by omega),if_neg (by omega)];rfl):p:=h
theorem dr{p:Prop}(h:p:=by
 have:=h4 (j+1) g e hg he;rw[List.drop_drop];have hle:o0+P.cellsOf f.type<=g.offset:=by
  have hj:(fs.map (·.offset))[j]? =some g.offset:=by rw[dK,hg];rfl
  rw[h3]at hj;have hs:(fs.map λf=>P.cellsOf f.type)[j]? =some (P.cellsOf g.type):=by rw[dK,hg];rfl
  exact(yA _ ([]:List Value) (o0+P.cellsOf f.type) j _ _ hj hs).2
 rw[show P.cellsOf f.type+(g.offset - (o0+P.cellsOf f.type))=g.offset - o0 by omega];exact this):p:=h
theorem dy{p:Prop}(h:p:=by refine go ?_;intro b69;refine go ?_;refine fw (xs:=dM j λb=>decide (b=(i:Int))||decide (b∈ln)) ae (j:Int) () (by omega) (next:=λad=>?_);rw[<- hss];refine go ?_;exact aM (j+1,.slice ad ((dM j λb=>decide (b=(i:Int))||decide (b∈ln)).length+1) ((dM j λb=>decide (b=(i:Int))||decide (b∈ln)).length+1)) (by show g.cells.length - (j+1)<g.cells.length - j;omega) (by show j+1<=_;omega)):p:=h
theorem ee{p:Prop}(h:p:=by
 refine go ?_;refine mg (c:=(130:Int)=0) (f:=ai (ak ae) (.slice none 0 0) (dU g rs)) (by omega) ?_;exact ah ⟨.slice none 0 0,130⟩ (hv:=rfl) (hp:=⟨(λh=>by cases h),λh=>by
  exfalso
  have h6:(eT g ps).Nodup:=(h.2.all ps hpm).nd;have h7:(eT g (ps.take (j+1))).Nodup:=by
   refine h6.sublist ?_;unfold eT;exact(FM _ _).map _
  rw[hr1,gX]at h7;exact h7.2.2 _ h5 _ (bK.2 rfl) rfl⟩)):p:=h
theorem ef{p:Prop}(h:p:=by exact ah ⟨v4,0⟩ (hv:=rfl) (hp:=⟨λ_=>⟨hg,by omega,by omega⟩,λ_=>rfl⟩)):p:=h
theorem eo{p:Prop}(h:p:=by
 intro vs s x rest z lo L B w0 hs hx;subst hs;dsimp only[List.cons_append,List.nil_append];have hlen:s.length<=1000000:=by have:=hl _ hx;rw[iE,oD]at this;omega
 refine Rw (h:=λv=>?_);refine go ?_;intro b10;refine fw (xs:=s) ae x () (by omega) (next:=λad=>?_);refine go ?_;refine Rx (λv:Value=>[pt b2 (.cells [v]),ap ae v (s++[x])]) _ (h:=?_);exact En () rfl trivial trivial):p:=h
theorem ew{p:Prop}(h:p:=by
 intro r xs hX;have hrun:∀(ys zs:List Int),oL (λ(ys:List Int) (x:Int)=>(ys++[x],Out.normal)) ys zs=(ys++zs,.normal):=by
  intro ys zs;induction zs generalizing ys with
  |nil=>simp[oL]
  |cons z zs ih=>rw[oL];simp only[ih];simp
 rw[hrun,dX];dsimp only[List.cons_append,List.nil_append];refine Rw (h:=λv=>?_);refine go ?_;exact H6 ⟨v,xs⟩ (hv:=rfl) (hp:=hX)):p:=h
theorem ez{p:Prop}(h:p:=by refine go ?_;exact ah false (hv:=rfl) (hp:=hR _ ⟨(λh=>by cases h),λh=>by exfalso;omega⟩)):p:=h
theorem eA{p:Prop}(h:p:=by
 have h:qp (step so.1 x).2=true:=h;have hn:(step so.1 x).2=.normal:=by
  cases e:(step so.1 x).2 with
  |normal=>rfl
  |_=>rw[e]at h;cases h
 exact⟨hn,hok vs so.1 x rest ho.2 hx hn⟩):p:=h
theorem eC{p:Prop}(h:p:=by refine go ?_;refine aM (k+1) (by omega) ⟨by omega,?_⟩;rw[bU hx,dW,not_or];exact⟨hno,by simp;exact λe=>h2 e.symm⟩):p:=h
theorem eE{p:Prop}(h:p:=by
 refine az rfl (λh4=>?_) (λh4=>?_)
 ·refine go ?_;exact ah (-1) (hv:=rfl) (hp:=⟨λh=>by omega,λh=>by have:=key.1 h;omega⟩)
 refine go ?_;refine az rfl (λh5=>?_) (λh5=>?_)
 ·refine go ?_;exact ah 1 (hv:=rfl) (hp:=⟨λh=>by omega,λh=>by have:=key.1 h;omega⟩)
 refine go ?_;exact ah 0 (hv:=rfl) (hp:=⟨λ_=>key.2 (by omega),λ_=>rfl⟩)):p:=h
theorem eI{p:Prop}(h:p:=by
 refine go ?_;refine jh rfl (λh2=>?_) (λh2=>?_)
 ·rw[dY]at h2;have h2:=gQ h2;subst h2;refine go ?_;exact ah (k,true) (hv:=rfl) (hp:=⟨⟨λ_=>aP kw,λ_=>rfl⟩,λ_=>Fq kw hno⟩)
 ·rw[dY]at h2;have h2:=mV h2;refine go ?_;refine aM (k+1) (by omega) ⟨by omega,?_⟩;rw[bU kw,dW,not_or];exact⟨hno,by simp;exact λe=>h2 e.symm⟩):p:=h
theorem eJ{p:Prop}(h:p:=by refine go ?_;refine ah () (hv:=?_) (hp:=trivial);rw[aS (λe=>k7 (by cases e;rfl))];rfl):p:=h
theorem eK{p:Prop}(h:p:=by refine go ?_;refine ah () (hv:=?_) (hp:=trivial);rw[aS (λe=>k6 (by cases e;rfl))];rfl):p:=h
theorem eM{p:Prop}(h:p:=by refine go ?_;refine ah () (hv:=?_) (hp:=trivial);rw[aS (λe=>k4 (by cases e;rfl))];rfl):p:=h
theorem eN{p:Prop}(h:p:=by refine go ?_;refine ah () (hv:=?_) (hp:=trivial);rw[aS (λe=>k3 (by cases e;rfl))];rfl):p:=h
theorem eR{p:Prop}(h:p:=by refine go ?_;refine ah () (hv:=?_) (hp:=trivial);rw[aS (λe=>k2 (by cases e;rfl))];rfl):p:=h
theorem eV{p:Prop}(h:p:=by refine go ?_;refine ah () (hv:=?_) (hp:=trivial);rw[aS (λe=>k1 (by cases e;rfl))];rfl):p:=h
theorem eW{p:Prop}(h:p:=by
 match j,hj with
 |0,hj=>
  have hj:some (Value.int .i64 x)=some u:=hj;have e1:pre.length+k*ae.n+0=pre.length+k:=by show pre.length+k*1+0=pre.length+k;omega
  rw[e1,qa (by omega),show pre.length+k - pre.length=k by omega,dK,hx];exact hj
 |j+1,hj=>exact absurd hj (by show¬([Value.int .i64 x]:List Value)[j+1]? =some u;simp)):p:=h
theorem e9{p:Prop}(h:p:=by refine go ?_;exact ah false (hv:=rfl) (hp:=⟨(λh=>by cases h),λh=>by exfalso;have:=h.dJ s hsm;omega⟩)):p:=h
theorem fb{p:Prop}(h:p:=by
 have hkl:k=l9.length:=by omega
 subst hkl;rw[bJ,l4,bJ]at hsame;have m4:=hsame;clear hsame hk h2;refine go ?_;refine ah () (hv:=?_) (hp:=trivial);rw[eY (show bE.mk n1 v1 p1 w1 g1 ho1 mO l8 mP l9=bE.mk n2 v2 p2 w2 g2 ho2 qA pR qB pU from by rw[k1,gT.1 k2,gT.1 k3,gT.1 k4,gT.1 k5,k6,m1,m2,m3,m4])];rfl):p:=h
theorem fc{p:Prop}(h:p:=by
 refine go ?_;refine eO rfl (λh2=>?_) (λh2=>?_)
 ·refine go ?_;refine ah () (hv:=?_) (hp:=trivial);unfold qH;rw[aS (λq=>h2 (q.1 x (aP hx)))];rfl
 refine go ?_;refine aM (k+1) (by omega) ⟨by omega,?_⟩;rw[bU hx];intro y hy;rcases dW.1 hy with hy|hy
 ·exact hno y hy
 ·rw[bK.1 hy];exact h2):p:=h
theorem ff{p:Prop}(h:p:=by
 conv=>lhs;rw[<- uU o cells]
 congr 1;apply jv;intro k;rw[qK,dK];by_cases hkl:k<xs.length
 ·obtain⟨y,u1,_⟩:=h9 k xs[k] (bW hkl);have:=u1 0 (.int .i64 xs[k]) rfl;rw[bW hkl];have e1:o+k*ae.n+0=o+k:=by show o+k*1+0=o+k;omega
  rw[e1]at this;exact this
 ·rw[gJ (by omega),gJ (by omega)];rfl):p:=h
theorem fg{p:Prop}(h:p:=by have hle:∀f∈E.fs a y,f.p w':=λf hf=>lF.facts f (hF.mem f hf);refine put w' _ E.n (cells.drop o) (by rw[wm];omega) (λk z hk=>?_) hle (.inr rfl) S hp;obtain⟨y',u1,u2⟩:=hel k z hk;exact⟨y',λj u hj=>by rw[qK,<- qb];exact u1 j u hj,λf hf=>f.mono Ho (u2 f hf)⟩):p:=h
theorem fh{p:Prop}(h:p:=by
 refine go ?_;refine ah () (hv:=?_) (hp:=trivial);have:jC k.aD s=false:=by
  cases e:jC k.aD s with
  |false=>rfl
  |true=>
   unfold jC at e;rw[lm]at e;have:=e j l hl2;rw[kR]at this;have:=gQ (this _ (aP hb));dsimp only at this;rw[hd,hzg]at this;exact absurd this h3
 rw[this];rfl):p:=h
theorem fk{p:Prop}(h:p:=by refine go ?_;refine go ?_;refine fK (ai ae (.slice avv g.values.length cvv) (Vs k s t g).values) (λw hw=>by rw[hval];exact hw (ai ae (.slice avv g.values.length cvv) g.values) (by simp)) ?_;refine ah (.slice avv g.values.length cvv) (hv:=?_) (hp:=trivial);rw[afn];rfl):p:=h
theorem fp{p:Prop}(h:p:=by
 obtain⟨he,hno⟩:=hy.2 rfl;have he:e≠0:=he;dsimp only[cond,Cz,CB,List.nil_append];refine go ?_;intro b3;refine go ?_;refine gG (λh1=>?_) (λh1=>?_)
 ·exact absurd (gT.1 h1) he
 refine go ?_;exact ah false (hv:=rfl) (hp:=⟨(λh=>by cases h),λh=>absurd h.b hno⟩)):p:=h
theorem fL{p:Prop}(h:p:=by refine go ?_;refine ah () (hv:=?_) (hp:=trivial);subst h1 h2 h3 h4 h5 h6 h7 h8 h9 h10 h11;rw[show decide (bA.mk n1 o1 k1 f1 vW os1 s1 t1 p1 m1 y1 c1=bA.mk n1 o1 k1 f1 vW os1 s1 t1 p1 m1 y1 c2)=decide (c1=c2)from nS.2 ⟨λh=>by cases h;rfl,λh=>by rw[h]⟩];rfl):p:=h
theorem fN{p:Prop}(h:p:=by obtain⟨rfl,rfl⟩:=hr;rw[ha]at hx;refine Good.same hW (v':=ρ' x) ?_ hx;obtain⟨fn',f',c',h1,_,_,e⟩:=hx.zI;cases h1;simp[execOp,e]):p:=h
theorem fR{p:Prop}(h:p:=by exact⟨by omega,c,a3,by unfold Ah;rw[if_neg (by omega),if_neg (by omega),if_neg (by omega)];exact a5,hcp,by omega,by omega,by omega⟩):p:=h
theorem fS{p:Prop}(h:p:=by
 refine go ?_;refine aM (k+1) (by omega) ⟨by omega,λs hs'=>?_⟩ (hl:=⟨rfl,by rw[UA hx];rfl,by repeat (first|exact trivial|refine⟨rfl,?_⟩)⟩);rw[nE,hx]at hs';rcases dW.1 hs' with h|h
 ·exact hall s h
 ·have:s=x:=by simpa using h
  rw[this];exact hm):p:=h
theorem fW{p:Prop}(h:p:=by
 rw[hf]at hr;simp only[cond_true]at hr;split at hr
 ·rename_i u hu;simp only[aA,cO]at hr;obtain⟨rfl,rfl⟩:=hr;obtain⟨h1,h2⟩:=Dq hu;have hx':=hx.pF hf;exact Good.same hW (v':=u) (by simp only[execOp,hx',dz,x8 h1 w,dD,eX]) (VR.free h2)
 ·cases hr):p:=h
theorem ga{p:Prop}(h:p:=by
 rename_i kt et hu;cases hc;simp only[aB.run]at hr;split at hr
 ·rename_i h2 hh;simp only[aA,cO]at hr;obtain⟨rfl,rfl⟩:=hr;obtain⟨w',r1,r2,r3⟩:=PP hu hh hm hk hx hW;exact⟨.skip,w',β,undef,Pw r1,.inr ⟨rfl,rfl⟩,.dO _,r2,r3⟩
 ·cases hr):p:=h
theorem gb{p:Prop}(h:p:=by refine go ?_;refine mg (c:=e=0) (f:=ai ae (.slice none 0 0) (acN s t grid)) hne ?_;exact ah ⟨.slice none 0 0,e⟩ (hv:=rfl) (hp:=⟨⟨λh=>absurd hK h,λ_ h=>absurd hk h,λa _ b=>he.2.1 a b,λa _ b=>absurd (he.2.2 a b) hne⟩,λ_=>rfl⟩)):p:=h
theorem gf{p:Prop}(h:p:=by refine go ?_;refine ah () (hv:=?_) (hp:=trivial);rw[aS (λe=>k5 (by cases e;rfl))];rfl):p:=h
theorem gg{p:Prop}(h:p:=by
 intro cl hcl;obtain⟨dd,op,ty,ps,af,gd⟩:=o;simp only at hcl;subst hcl;obtain⟨callee,args,ats⟩:=cl;cases callee with
 |value f=>simp only[cop,aA]at gq;rw[<- gq]at hl;cases hl
 |invoke x n=>simp[cop]at gq
 |builtin bb=>simp[cop]at gq):p:=h
theorem gj{p:Prop}(h:p:=by
 refine go ?_;refine aM (k+1) (by omega) ⟨by omega,?_,?_⟩
 ·rw[htk];intro y hy;rcases dW.1 hy with hy|hy
  ·exact hin y hy
  ·rw[bK.1 hy];omega
 ·rw[htk,gX];exact⟨hnd,by simp,λa ha b hb=>by rw[bK.1 hb];exact λe=>h4 (e▸ha)⟩):p:=h
theorem gk{p:Prop}(h:p:=by
 refine go ?_;refine aM (i+1+1) (by show p.length - (i+1+1)<p.length - (i+1);omega) ⟨by omega,uM,λi' a b h ha hb=>?_⟩;by_cases e:i'=i
 ·subst e;rw[hg0]at ha;rw[hg]at hb;cases ha;cases hb;omega
 ·exact hs i' a b (by omega) ha hb):p:=h
theorem gv{p:Prop}(h:p:=by refine go ?_;refine mg (c:=e=0) (f:=ai ae (.slice none 0 0) (acN s t grid)) hne ?_;exact ah ⟨.slice none 0 0,e⟩ (hv:=rfl) (hp:=⟨⟨he.nk,he.ns,λa b _=>absurd (he.ok a b) hne,λa b _=>absurd (he.ok a b) hne⟩,λ_=>rfl⟩)):p:=h
theorem gx{p:Prop}(h:p:=by
 refine go ?_;refine eO rfl (λh1=>?_) (λh1=>?_)
 ·refine go ?_;exact ah 130 (hv:=rfl) (hp:=⟨(λh=>by cases h),λh=>absurd h.cells.symm h1⟩)
 ·refine go ?_;exact ah 0 (hv:=rfl) (hp:=⟨λ_=>⟨hmk,h1.symm⟩,λ_=>rfl⟩)):p:=h
theorem gA{p:Prop}(h:p:=by
 have hno:¬om g.shape g.w g.h g.holes:=λh=>by have:=hy.2 h;cases this
 dsimp only[mkV,oU,cond,List.nil_append];refine go ?_;intro b3;refine go ?_;exact ah 130 (hv:=rfl) (hp:=⟨(λh=>by cases h),λh=>absurd h.make hno⟩)):p:=h
theorem gC{p:Prop}(h:p:=by refine go ?_;refine lu (c:=(0:Int)=0) (f:=ai (ak ae) (.slice an (bI g).length cn) (dx g 4)) (by rw[hf];simp) ?_;exact ah ⟨.slice an (bI g).length cn,0⟩ (hv:=rfl) (hp:=⟨λ_=>⟨hg,by omega,by omega⟩,λ_=>rfl⟩)):p:=h
theorem gE{p:Prop}(h:p:=by refine go ?_;exact ah (0,false) (hv:=rfl) (hp:=⟨⟨(λh=>by cases h),λh=>absurd h hno⟩,(λh=>by cases h)⟩)):p:=h
theorem gO{p:Prop}(h:p:=by refine go ?_;have e0:fZ aaH aF=fZ aaH aF++[]:=(iI _).symm;rw[e0];refine ajR aaH (aF:=aF) hf (bV _) ?_ (hall (by simp) λp hp=>hp);exact ah (.slice (some ⟨b,0,some f⟩) aF.length aF.length) (hv:=rfl) (hp:=trivial)):p:=h
theorem gR{p:Prop}(h:p:=by
 have gV:j=k.aD.length:=by omega
 subst gV;refine go ?_;refine ah () (hv:=?_) (hp:=trivial);have:jC k.aD s=true:=by
  unfold jC;rw[lm];intro i l hl';rw[kR];exact λb hb=>eY (hall i (bC.1 hl').1 l hl' b hb)
 rw[this];rfl):p:=h
theorem hJ{p:Prop}(h:p:=by unfold ja j3;simp only[Ci];split<;>split at *<;>(try split at *)<;>(try split at *)<;>(try split at *)<;>omega):p:=h
theorem hU{p:Prop}(h:p:=by
 intro l;induction l with
 |nil=>intro m hm _;exact hm
 |cons s l ih=>
  intro m hm hl;rw[tN];refine ih _ (JQ hm ?_) (λt ht=>hl t (dA _ ht));have:=w9 (hl s (cZ ..));rw[Nat.one_shiftLeft];exact FL (by omega) (by omega)):p:=h
theorem ia{p:Prop}(h:p:=by refine go ?_;refine mg (c:=(130:Int)=0) (f:=ai (ak ae) (.slice none 0 0) (dU g rs)) (by omega) ?_;exact ah ⟨.slice none 0 0,130⟩ (hv:=rfl) (hp:=⟨(λh=>by cases h),λh=>by exfalso;have:=h.2.len;omega⟩)):p:=h
theorem ii{p:Prop}(h:p:=by
 refine go ?_;refine az rfl (λh2=>?_) (λh2=>?_)
 ·refine go ?_;refine ah () (hv:=?_) (hp:=trivial);rw[j3,if_neg h1,if_pos h2];rfl
 refine go ?_;refine ah () (hv:=?_) (hp:=trivial);rw[j3,if_neg h1,if_neg h2];rfl):p:=h
theorem ij{p:Prop}(h:p:=by refine go ?_;refine mg (c:=(1:Int)=0) (f:=ai (ak ae) (.slice none 0 0) (dx g k)) (by omega) ?_;exact ah ⟨.slice none 0 0,1⟩ (hv:=rfl) (hp:=⟨(λh=>by cases h),λh=>by exfalso;have:=h.2;omega⟩)):p:=h
theorem ir{p:Prop}(h:p:=by have h1:(bM (fT (fo (bB g)) p.2 (dZ.take (dP g)))).length=(fT (fo (bB g)) p.2 (dZ.take (dP g))).length:=(zl _ _).length_eq;have h2:=IA (fo (bB g)) p.2 (dZ.take (dP g));have h3:=Ag g;rw[ig]at h2;omega):p:=h
theorem iu{p:Prop}(h:p:=by refine go ?_;refine mg (c:=(130:Int)=0) (f:=ai (ak ae) (.slice none 0 0) (dU g rs)) (by omega) ?_;exact ah ⟨.slice none 0 0,130⟩ (hv:=rfl) (hp:=⟨(λh=>by cases h),λh=>absurd (he.2 h.1) h1⟩)):p:=h
theorem iv{p:Prop}(h:p:=by exact .of_steps (t1.trans (.one hs)) (ih ops bO hv rest (i::done) (i::S') lD hds β0 h0 w0 jA jg cs0 β' w' b _ df k cs ρ' hG hdom hcx hI2 r4 (by rw[uq];exact hcs.mono t0) (by rw[uu];exact hro))):p:=h
theorem iS{p:Prop}(h:p:=by
 by_cases e:m=n
 ·subst e;simp
 ·rw[if_neg (by omega),if_neg (by omega)]):p:=h
theorem jn{p:Prop}(h:p:=by
 refine go ?_;refine aM (k+1) (by show d.symbols.length - (k+1)<d.symbols.length - k;omega) ⟨by omega,?_⟩;rw[bU hs];intro x hx;rcases dW.1 hx with hx|hx
 ·exact hall x hx
 ·rw[bK.1 hx];omega):p:=h
theorem jp{p:Prop}(h:p:=by refine go ?_;exact ah false (hv:=rfl) (hp:=⟨(λh=>by cases h),λh=>by exfalso;have:=h.1;omega⟩)):p:=h
theorem js{p:Prop}(h:p:=by
 refine go ?_;refine aM (k+1) (by show d.rules.length - (k+1)<d.rules.length - k;omega) ⟨by omega,?_⟩;rw[bU hr];intro x hx;rcases dW.1 hx with hx|hx
 ·exact AA x hx
 ·rw[bK.1 hx];exact hR):p:=h
theorem jt{p:Prop}(h:p:=by obtain⟨v2,hv2,hr⟩:=hv.get (bW hjl);rw[hv2]at hj;cases hj;have hc:=(kR.1 hall) _ (xP hjl);obtain⟨a,b⟩:=hr.cellV hc;cases v<;>first|rfl|exact absurd rfl (a _)|exact absurd rfl (b _)):p:=h
theorem ju{p:Prop}(h:p:=by unfold kv;rw[gY,BK (by intro c e;cases e) (by intro e;cases e)];simp only[iV,binOp];rw[gY,he];rfl):p:=h
theorem jx{p:Prop}(h:p:=by
 have gV:j=t.length:=by omega
 subst gV;refine go ?_;refine ah () (hv:=?_) (hp:=trivial);have:kg (kP k) t=true:=by
  unfold kg;rw[lm];exact λi x hx=>eY (hall i (bC.1 hx).1 x hx)
 rw[this];rfl):p:=h
theorem jz{p:Prop}(h:p:=by exact En () rfl trivial trivial):p:=h
theorem j0{p:Prop}(h:p:=by refine go ?_;refine mg (c:=e=0) (f:=ai (ak ae) (.slice none 0 0) (dx g k)) h1 ?_;exact ah ⟨.slice none 0 0,e⟩ (hv:=rfl) (hp:=⟨(λh=>absurd h h1),λh=>absurd (hy.2 h.1) h1⟩)):p:=h
theorem j7{p:Prop}(h:p:=by
 rw[qa (by omega)]at hk;have hk0:k=xs.length:=by
  have:=(bC.1 hk).1;simp at this;omega
 subst hk0;simp at hk;subst hk;refine⟨y,λj u hj=>?_,h3⟩;rw[fC,qa (by omega),h1,WI];exact hj):p:=h
theorem j8{p:Prop}(h:p:=by
 refine go ?_;refine ah ⟨false,.nilFunc,.nilFunc⟩ (hv:=rfl) (hp:=⟨(λe=>by cases e),λe=>?_⟩)
 exfalso
 have e:=vO.2 e;obtain⟨q1,q2,q3,q4,q5,q6⟩:=e;have:=q5 x hxm;omega):p:=h
theorem j9{p:Prop}(h:p:=by
 have qo:vC.pending=none:=qo;have hto:(vC.pending.map Item.code).toList++k=k:=by rw[qo];rfl
 rw[hto]at hst;exact⟨.normal,a1,_,β3,_,tm,qm,cs,l3,y1,hE.trans y2,hA3,hcs,e4,hst⟩):p:=h
theorem ki{p:Prop}(h:p:=by refine go ?_;exact ah false (hv:=rfl) (hp:=hno (by omega) _ rfl)):p:=h
theorem kj{p:Prop}(h:p:=by
 have hqe:q=l.length:=by omega
 subst hqe;rw[bJ]at Wm⊢;refine bi (A:=ap ae v5 (img s l)) (fs:=[ai ae v5 (img s l)]) fQ (h:=?_);refine go ?_;exact ah v5 (hv:=rfl) (hp:=trivial)):p:=h
theorem kp{p:Prop}(h:p:=by refine go ?_;refine ah false (hv:=rfl) (hp:=⟨(λh=>by cases h),λq=>?_⟩);have h5:=q.nd.sublist (FM (k+1) xs);rw[htk,gX]at h5;exact absurd rfl (h5.2.2 _ h4 _ (bK.2 rfl))):p:=h
theorem kq{p:Prop}(h:p:=by
 show cond (Nat.ble h.low i) h.low i=_;cases hb:Nat.ble h.low i with
 |true=>have:=mD hb;simp;omega
 |false=>have:¬h.low<=i:=λhh=>by rw[Fv hh]at hb;cases hb
         simp;omega):p:=h
theorem kx{p:Prop}(h:p:=by have hs1:step s x=((step s x).1,false):=Prod.ext rfl hst;rw[hs1]at hrun;dsimp only at hrun;refine go ?_;exact ah xs (hv:=rfl) (hp:=rfl) (hk:=by rw[<- hrun];exact aI.all _)):p:=h
theorem kA{p:Prop}(h:p:=by
 refine go ?_;refine az rfl (λh1=>?_) (λh1=>?_)
 ·refine go ?_;exact ah ⟨false,e,v1,v2,v1,v1,v1,v1⟩ (hv:=rfl) (hp:=hend he λh=>hno h.rs)
 ·exact absurd (gT.1 h1) he):p:=h
theorem kB{p:Prop}(h:p:=by
 unfold jb at this;rw[List.filterMap_eq_nil_iff]at this;obtain⟨j,hj⟩:=jT hr;have:=this (r,j) (tT.2 hj);cases h:(fH r.kind).read with
 |true=>rfl
 |false=>simp[h]at this):p:=h
theorem li{p:Prop}(h:p:=by refine go ?_;refine ah () (hv:=?_) (hp:=trivial);rw[aS (λe=>k9 (by cases e;rfl))];rfl):p:=h
theorem lj{p:Prop}(h:p:=by refine go ?_;refine ah () (hv:=?_) (hp:=trivial);rw[aS (λe=>k8 (by cases e;rfl))];rfl):p:=h
theorem lz{p:Prop}(h:p:=by refine go ?_;refine ah () (hv:=?_) (hp:=trivial);rw[aS (λe=>h2 (by cases e;rfl))];rfl):p:=h
theorem lA{p:Prop}(h:p:=by refine go ?_;refine ah () (hv:=?_) (hp:=trivial);rw[aS (λe=>h1 (by cases e;rfl))];rfl):p:=h
theorem lB{p:Prop}(h:p:=by
 rcases hcx.round with⟨_,hb⟩|⟨l,g,hl,_⟩
 ·exact hb
 ·rw[<- hro,DN]at hl;cases hl):p:=h
theorem lE{p:Prop}(h:p:=by rw[pJ hn];exact⟨u,h2,by rw[ng];exact e1,λd' hd=>by rw[<- e2 d' hd];exact uy _ _⟩):p:=h
theorem lO{p:Prop}(h:p:=by refine go ?_;exact ah false (hv:=rfl) (hp:=hR _ ⟨(λh=>by cases h),λh=>by exfalso;rcases h with h|h|h;exact h5 h.1;exact h6 h.1;have:=h.2.2.2 x hxm;omega⟩)):p:=h
theorem lP{p:Prop}(h:p:=by refine go ?_;refine ah false (hv:=rfl) (hp:=⟨(λh=>by cases h),λ⟨c',l',_,q1,q2,q3,q4,_⟩=>?_⟩);rw[htn,hc]at q1;cases q1;rw[aiQ,hls]at q2;cases q2;omega):p:=h
theorem lR{p:Prop}(h:p:=by rw[show min (b:Int).toNat 64=b by simp;omega,OU];congr 2;rw[show((2:Int)^b)=((2^b:Nat):Int)by simp,Int.fdiv_eq_ediv_of_nonneg _ (Int.natCast_nonneg _)];simp):p:=h
theorem mc{p:Prop}(h:p:=by rw[hl];simp only[aA,cO]at hr⊢;exact⟨hr.2.symm,hr.1⟩):p:=h
theorem me{p:Prop}(h:p:=by
 apply jv;intro k;rw[dK];by_cases hk:k<xs.length
 ·have hk':k<l.length:=by omega
  rw[bW hk',jU,(hp k l[k] (bW hk')).1]
 ·rw[gJ (by omega),gJ (by omega)];rfl):p:=h
theorem mj{p:Prop}(h:p:=by
 have hn:(fn.name== "runtime.NumGoroutine")=false:=by simpa using hname
 simp only[callFunc,dz,run_program,dD,hfn,hn,hb,Option.isNone_some,uS,if_false,eX]):p:=h
theorem mm{p:Prop}(h:p:=by rw[hle (show Nat.mul (m+(k+1)) bytes<=small from hm.1),hle (show Nat.mul (m+(k+1)) size<=small from hm.2.1),hle (show m+(k+1)<=small from hm.2.2)];rfl):p:=h
theorem mu{p:Prop}(h:p:=by
 have:mo k.grid.cells.length k.decl.symbols.length s t grid ys:=⟨hk.pc,hk.ps,hgl,by omega,hG.vQ,λc c0 c1=>hy c c0 (by omega)⟩
 exact this.uniq hG):p:=h
theorem mw{p:Prop}(h:p:=by
 have hno:¬nN k s t:=λh=>by have:=hc.2 h;cases this
 refine go ?_;exact ah 230 (hv:=rfl) (hp:=⟨λh=>absurd hK h,λ_ _=>rfl,λ_ h=>absurd h hno⟩)):p:=h
theorem mz{p:Prop}(h:p:=by
 have hno:¬eF k:=λh=>by have:=hb.2 h;cases this
 dsimp only[cond];refine go ?_;exact ah (false,180) (hv:=rfl) (hp:=⟨λ_=>rfl,λh=>absurd h hno⟩)):p:=h
theorem mA{p:Prop}(h:p:=by exact ih ops bO hv rest (i::done) S lD hds β0 h0 w0 jA jg cs0 β w b tm df k cs ρ hG hdom hcx hI2 hR (by rw[uq];exact hcs) (by rw[uu];exact hro)):p:=h
theorem mB{p:Prop}(h:p:=by rw[if_neg hp,iI]at hss;rw[<- hss];refine go ?_;exact aM (j+1,v5) (by show g.cells.length - (j+1)<g.cells.length - j;omega) (by show j+1<=_;omega)):p:=h
theorem mC{p:Prop}(h:p:=by refine go ?_;exact aM (1+1,.slice a3 (mq g (1+1)).length (mq g (1+1)).length) (by show 2 - (1+1)<2 - 1;omega) ⟨by show 1+1<=2;omega,.inr hw⟩):p:=h
theorem mL{p:Prop}(h:p:=by refine go ?_;exact aM (0+1,.slice a3 (mq g (0+1)).length (mq g (0+1)).length) (by show 2 - (0+1)<2 - 0;omega) ⟨by show 0+1<=2;omega,.inr hw⟩):p:=h
theorem mN{p:Prop}(h:p:=by
 refine go ?_;refine aM (k+1) (by omega) ⟨by omega,?_⟩;rw[bU hx];intro z hz;rcases dW.1 hz with hz|hz
 ·exact hall z hz
 ·rw[bK.1 hz];exact h2):p:=h
theorem mS{p:Prop}(h:p:=by
 unfold u7 at hz;split at hz
 ·rename_i z' n' hz' _;obtain⟨i',j1,j2,_⟩:=Bn hz';rw[h1]at j1;cases j1;rw[h2]at j2;cases j2;exact hz'
 ·cases hz):p:=h
theorem mT{p:Prop}(h:p:=by
 refine go ?_;exact ah false (hv:=rfl) (hp:=⟨(λh=>by cases h),λh=>by
  exfalso
  rcases h.2 with⟨_,q,_⟩|⟨q,_⟩
  ·omega
  ·exact q h3⟩)):p:=h
theorem nc{p:Prop}(h:p:=by
 intro v pm h2 hm;dsimp only at hm;split at hm
 ·rename_i lp hlp;split at hm
  ·cases hm
  ·rename_i hs;exact⟨lp,hlp,λe=>hs e,hm⟩
 ·cases hm):p:=h
theorem nh{p:Prop}(h:p:=by exact absurd h (by omega)):p:=h
theorem nj{p:Prop}(h:p:=by
 have hj0:j=0:=by omega
 subst hj0;refine go ?_;exact aM 1 (by show p.length - 1<p.length - 0;omega) ⟨by omega,uM,λi a b h=>by omega⟩):p:=h
theorem nl{p:Prop}(h:p:=by rw[qL hlt]at hk;obtain⟨y',q1,q2⟩:=h2 k z hk;refine⟨y',λj u hj=>?_,q2⟩;rw[fC];have:=q1 j u hj;rw[qL (bC.1 this).1];exact this):p:=h
theorem nn{p:Prop}(h:p:=by
 refine go ?_;refine aM (k+1) (by omega) ⟨by omega,λj hj=>?_⟩;by_cases e:j=k
 ·subst e;rw[hx,hy,gT.1 h3]
 ·exact hsame j (by omega)):p:=h
theorem nq{p:Prop}(h:p:=by refine go ?_;refine aM (j+1) (by omega) (by omega) (hl:=⟨rfl,by rw[hst];rfl,by repeat (first|exact trivial|refine⟨rfl,?_⟩)⟩)):p:=h
theorem nr{p:Prop}(h:p:=by refine ah () (hv:=?_) (hp:=trivial);rw[aS hno];rfl):p:=h
theorem nt{p:Prop}(h:p:=by
 refine hW.inj _ _ _ _ hk hm ?_ ?_ hr he
 ·split at hj
  ·exact absurd rfl hj
  ·exact hj
 ·split at hl
  ·exact absurd rfl hl
  ·exact hl):p:=h
theorem nv{p:Prop}(h:p:=by
 obtain⟨cs,r,⟨e,_⟩|⟨_,e⟩⟩:=h
 ·rw[ha]at e;cases e
 ·obtain⟨a,y,q0,q⟩:=hr w H d cs hz r;exact⟨a,y,by rw[<- q0,e],q⟩):p:=h
theorem nw{p:Prop}(h:p:=by rw[xU];exact List.Pairwise.imp (λh=>by omega) List.pairwise_lt_range):p:=h
theorem nB{p:Prop}(h:p:=by exact ah (.slice (some ⟨b,0,some 0⟩) 0 0) (hv:=rfl) (hp:=trivial)):p:=h
theorem nF{p:Prop}(h:p:=by rw[rE (by rw[sW];exact h)]at hy;subst hy;cases e):p:=h
theorem n5{p:Prop}(h:p:=by
 obtain⟨v,hv⟩:=ED h;have e:kG true zero a aj=.tuple ⟨[v,.bool true]⟩:=by unfold kG;rw[hv];rfl
 rw[e];exact hit v hv h):p:=h
theorem n9{p:Prop}(h:p:=by exact ah ⟨.slice none 0 0,160⟩ (hv:=rfl) (hp:=⟨(λh=>by cases h),λh=>by have:=hy1.2 (h.2 x (aP hx));cases this⟩)):p:=h
theorem oa{p:Prop}(h:p:=by
 obtain⟨cs,r,⟨_,e⟩|⟨e,_⟩⟩:=h
 ·obtain⟨a,y,rfl,q⟩:=hr w H d cs hz r;exact⟨a,y,e,q⟩
 ·rw[ha]at e;cases e):p:=h
theorem oc{p:Prop}(h:p:=by
 cases h:Nat.beq (m%2) 0 with
 |true=>simp[p9 h]
 |false=>simp[CP h]):p:=h
theorem od{p:Prop}(h:p:=by simp only[vG];exact⟨λv hv l hl n hn hi=>hcl v (by simpa using hv) l hl n hn hi,(by simp),(by simp),(by simp)⟩):p:=h
theorem oe{p:Prop}(h:p:=by exact FL (by omega) (by omega)):p:=h
theorem ov{p:Prop}(h:p:=by refine go ?_;refine ah false (hv:=rfl) (hp:=⟨(λh=>by cases h),λ⟨c,l,_,h,_⟩=>?_⟩);have:=(bC.1 h).1;omega):p:=h
theorem ox{p:Prop}(h:p:=by
 rw[gJ (by rw[cz,o8];omega),gJ (by rw[cz,o8];omega)];by_cases e:j=i
 ·rw[if_pos e,if_neg (by omega)]
 ·rw[if_neg e]):p:=h
theorem oy{p:Prop}(h:p:=by rw[<- Av];refine go ?_;exact aM (j+1,v5) (by show ln.length - (j+1)<ln.length - j;omega) (by show j+1<=_;omega)):p:=h
theorem oA{p:Prop}(h:p:=by refine go ?_;exact ah false (hv:=rfl) (hp:=⟨(λh=>by cases h),λh=>by exfalso;have:=(h.jR k c hc).1;omega⟩)):p:=h
theorem oB{p:Prop}(h:p:=by refine go ?_;exact ah false (hv:=rfl) (hp:=hR _ ⟨(λh=>by cases h),λh=>by exfalso;rw[ha,ha,ha]at h;omega⟩)):p:=h
theorem oE{p:Prop}(h:p:=by refine go ?_;exact ah false (hv:=rfl) (hp:=⟨(λh=>by cases h),λh=>absurd (hb.2 (h.lQ r hrm)) (by simp)⟩)):p:=h
theorem oR{p:Prop}(h:p:=by
 intro o a' h' hm hn;cases o with
 |normal=>exact absurd rfl hn
 |exit _=>exact hm
 |ret=>exact hm
 |panic _=>exact hm):p:=h
theorem oS{p:Prop}(h:p:=by have:=h3 i (oF _ hi);refine⟨this.1,this.2.1,λhz=>hz.elim this.2.2 λhm=>?_⟩;exact hnd.2.2 i hm i hi rfl):p:=h
theorem oT{p:Prop}(h:p:=by
 have hdl:(cells.drop o).length=xs.length*E.n:=by rw[wm];omega
 rw[L6.c.iW,qV,sD,if_pos (by omega),<- hdl,bJ]):p:=h
theorem pb{p:Prop}(h:p:=by exact⟨rr,h2',β2,w2,F2,r2,p1,p2,q3.trans p3,p4,(Steps.head s1 (e2.trans (.one s2))).trans p5,p6,p7,p8⟩):p:=h
theorem pe{p:Prop}(h:p:=by
 induction l with
 |nil=>exact .nil
 |cons x l ih=>exact .cons (h x (by simp)) (ih λy hy=>h y (by simp[hy]))):p:=h
theorem ph{p:Prop}(h:p:=by
 match a,hv,hg with
 |none,hv,_=>exact h0 e c hv w s
 |some ⟨i,o,some f⟩,hv,_=>exact h1 e i o f c hv w s):p:=h
theorem pn{p:Prop}(h:p:=by
 rw[dK,qN hi,dK,qN hi];by_cases e:j=i
 ·subst e;simp[hj]
 ·have e2:¬(i:Int)=(j:Int):=by omega
  simp[e,e2]):p:=h
theorem po{p:Prop}(h:p:=by
 have e:kG true zero a aj=.tuple ⟨[zero,.bool false]⟩:=by unfold kG;rw[rE h];rfl
 rw[e];exact miss h):p:=h
theorem pw{p:Prop}(h:p:=by refine go ?_;exact ah 0 (hv:=rfl) (hp:=⟨λh=>absurd hK h,λ_ h=>absurd (hc.1 rfl) h,λ_ _=>rfl⟩)):p:=h
theorem px{p:Prop}(h:p:=by refine go ?_;exact ah 0 (hv:=rfl) (hp:=⟨λh=>absurd hK h,λ_ h=>absurd (hb.1 rfl) h,λ_ _=>rfl⟩)):p:=h
theorem py{p:Prop}(h:p:=by simp[binOp,Op.intCmp,af2,<- Int.not_le]):p:=h
theorem pA{p:Prop}(h:p:=by refine go ?_;exact ah false (hv:=rfl) (hp:=⟨(λh=>by cases h),λ⟨c,l,_,_,_,h,_⟩=>by omega⟩)):p:=h
theorem pB{p:Prop}(h:p:=by have:=lq;unfold iM at this;rw[if_pos hby]at this;omega):p:=h
theorem pC{p:Prop}(h:p:=by exact absurd (hW.dom _ _ hk) (by omega)):p:=h
theorem pD{p:Prop}(h:p:=by obtain⟨v0,_,h0⟩:=a7 j v hj;obtain⟨v',h1,h2⟩:=b7 j v hj;exact⟨v',h1,h0.restrict hle h2⟩):p:=h
theorem pH{p:Prop}(h:p:=by
 split at hl
 ·exact⟨_,.inl (by assumption),hl⟩
 ·exact⟨_,.inr (by assumption),hl⟩
 ·cases hl):p:=h
theorem pL{p:Prop}(h:p:=by refine go ?_;exact ah false (hv:=rfl) (hp:=⟨(λh=>by cases h),λh=>by have:=h.2 x hxm;omega⟩)):p:=h
theorem pN{p:Prop}(h:p:=by
 rcases a with⟨rfl,a,m,c,rfl,rfl⟩|⟨i,o,f,c,cs,h1,_⟩
 ·exact⟨a,c,rfl⟩
 ·exact⟨_,c,h1⟩):p:=h
theorem pP{p:Prop}(h:p:=by
 cases o with
 |normal=>exact absurd rfl hn
 |_=>exact hm):p:=h
theorem pS{p:Prop}(h:p:=by simp only[aA,cO,xR]at hr;simp only[hr]):p:=h
theorem pT{p:Prop}(h:p:=by intro h;rw[xk h]at hy;subst hy;cases e):p:=h
theorem pZ{p:Prop}(h:p:=by
 have hx:fH r.kind=⟨true,false,false,false,false,true,true,0⟩:=by rw[hk];rfl
 clear hk;exact rO):p:=h
theorem qe{p:Prop}(h:p:=by
 have hx:fH r.kind=⟨false,true,false,false,false,true,true,0⟩:=by rw[hk];rfl
 clear hk;exact rO):p:=h
theorem qk{p:Prop}(h:p:=by intro v v0 v1;have r:=ht.inv.at_ v0 v1;have:=h _ r.1 r.2;rw[ht.Ni v0 v1]at this;exact this.symm):p:=h
theorem qn{p:Prop}(h:p:=by simp only;rw[<- hf];refine step_lone_go ?_;rw[zK ho hw (.inl hro)];simp[stepG.apply,hr,hre,ht]):p:=h
theorem qq{p:Prop}(h:p:=by refine go ?_;exact ah false (hv:=rfl) (hp:=⟨(λh=>by cases h),λ⟨c,l,h,_⟩=>by omega⟩)):p:=h
theorem qt{p:Prop}(h:p:=by exact ah ⟨.slice none 0 0,161⟩ (hv:=rfl) (hp:=⟨(λh=>by cases h),λh=>absurd h.1 h2⟩)):p:=h
theorem qu{p:Prop}(h:p:=by
 rw[bU hx];intro c hc;rcases dW.1 hc with hc|hc
 ·exact hall c hc
 ·rw[bK.1 hc];exact hy1.1 rfl):p:=h
theorem qv{p:Prop}(h:p:=by intro v v0 v1;have r:=ht.at_ v0 v1;rw[yR v0 (by rw[ht.len];exact v1),h2 _ r.1 r.2,h _ v0 v1]):p:=h
theorem qS{p:Prop}(h:p:=by exact ah (.slice none 0 0) (hv:=rfl) (hp:=trivial)):p:=h
theorem qT{p:Prop}(h:p:=by simp only[jV]at hc;obtain⟨_,_,rfl⟩:=hc;simp only[aB.run,aB.alloc,h0,h1,h2,h3,and_self]):p:=h
theorem rh{p:Prop}(h:p:=by refine go ?_;refine aM (q+1) (by omega) ⟨by omega,?_⟩;rw[bU hx,ajJ,hno];simpa using h2):p:=h
theorem ri{p:Prop}(h:p:=by
 by_cases hx:aF=[]
 ·subst hx;exact h1 rfl i o f c hv w s
 ·exact h2 (AX.2 hx) i o f c hv w s):p:=h
theorem rj{p:Prop}(h:p:=by
 by_cases e:i'=j
 ·subst e;rw[hl2]at hl';cases hl';exact uM
 ·exact hall i' (by omega) l' hl'):p:=h
theorem rp{p:Prop}(h:p:=by refine aH _ (aN 202) λB w0=>?_;refine go ?_;refine ah () (hv:=?_) (hp:=trivial);simp[uA]):p:=h
theorem rB{p:Prop}(h:p:=by apply Classical.byContradiction;intro hc;exact hb λj k hk hj hkb=>hc ⟨j,k,hk,hj,hkb⟩):p:=h
theorem rI{p:Prop}(h:p:=by rintro r pm h' ⟨hp,w',y,e1,st,e2,_⟩;exact⟨hp,w',(),e1,back w' _ _ st,e2,trivial⟩):p:=h
theorem rK{p:Prop}(h:p:=by refine go ?_;refine ah () (hv:=?_) (hp:=trivial);rw[aS (λe=>k10 (by cases e;rfl))];rfl):p:=h
theorem rL{p:Prop}(h:p:=by refine go ?_;refine ah () (hv:=?_) (hp:=trivial);rw[aS (λe=>h11 (by cases e;rfl))];rfl):p:=h
theorem rN{p:Prop}(h:p:=by refine go ?_;refine ah () (hv:=?_) (hp:=trivial);rw[aS (λe=>h10 (by cases e;rfl))];rfl):p:=h
theorem rS{p:Prop}(h:p:=by have:=u1 0 (.int .i64 z) rfl;simpa[ae]using this):p:=h
theorem r5{p:Prop}(h:p:=by apply Classical.byContradiction;intro hc;exact hx λi g hi hg hb=>hc ⟨i,g,hi,hg,hb⟩):p:=h
theorem r6{p:Prop}(h:p:=by refine go ?_;refine ah () (hv:=?_) (hp:=trivial);rw[aS (λe=>h9 (by cases e;rfl))];rfl):p:=h
theorem r7{p:Prop}(h:p:=by refine go ?_;refine ah () (hv:=?_) (hp:=trivial);rw[aS (λe=>h8 (by cases e;rfl))];rfl):p:=h
theorem r8{p:Prop}(h:p:=by refine go ?_;refine ah () (hv:=?_) (hp:=trivial);rw[aS (λe=>h7 (by cases e;rfl))];rfl):p:=h
theorem sg{p:Prop}(h:p:=by refine go ?_;refine ah () (hv:=?_) (hp:=trivial);rw[aS (λe=>h6 (by cases e;rfl))];rfl):p:=h
theorem sk{p:Prop}(h:p:=by refine go ?_;refine ah () (hv:=?_) (hp:=trivial);rw[aS (λe=>h5 (by cases e;rfl))];rfl):p:=h
theorem sq{p:Prop}(h:p:=by refine go ?_;refine ah () (hv:=?_) (hp:=trivial);rw[aS (λe=>h4 (by cases e;rfl))];rfl):p:=h
theorem sv{p:Prop}(h:p:=by refine go ?_;refine ah () (hv:=?_) (hp:=trivial);rw[aS (λe=>h3 (by cases e;rfl))];rfl):p:=h
theorem sx{p:Prop}(h:p:=by refine go ?_;exact ah false (hv:=rfl) (hp:=⟨(λh=>by cases h),λh=>absurd h.e h3⟩)):p:=h
theorem sA{p:Prop}(h:p:=by refine go ?_;exact ah false (hv:=rfl) (hp:=⟨(λh=>by cases h),λh=>absurd h.1 h1⟩)):p:=h
theorem sB{p:Prop}(h:p:=by obtain⟨v,h1,h2,h3⟩:=hm;cases he;have h2:a.defers=[]:=h2;rw[h2];exact .ret v h1 h3):p:=h
theorem sC{p:Prop}(h:p:=by show dV P (Instr.checkKey b (9999+1) kt _)=_;unfold Instr.checkKey;rw[gY,rq hu];rfl):p:=h
theorem sE{p:Prop}(h:p:=by
 rw[htk];intro x hx;rcases dW.1 hx with hx|hx
 ·exact hall x hx
 ·rw[bK.1 hx];exact hR):p:=h
theorem sL{p:Prop}(h:p:=by cases hk;rw[if_pos rfl]at hx;cases hx;exact ho):p:=h
theorem sR{p:Prop}(h:p:=by subst hn;simp only[fr]at he' hcall⊢;simp[stepG,stepG.exec,he',stepG.apply,hcall]):p:=h
theorem sX{p:Prop}(h:p:=by
 match vs with
 |[]=>rfl
 |[v]=>rfl
 |_::_::_=>rfl):p:=h
theorem sY{p:Prop}(h:p:=by simp only[aA]at hc;exact hc.symm):p:=h
theorem s5{p:Prop}(h:p:=by
 rcases dH.1 hk with rfl|hk
 ·exact dA _ (hpre j hj)
 ·exact dA _ (hcl k hk j hj)):p:=h
theorem s6{p:Prop}(h:p:=by refine go ?_;refine ah () (hv:=?_) (hp:=trivial);subst h2;rw[eY (aP hx)];rfl):p:=h
theorem s7{p:Prop}(h:p:=by obtain⟨g,hg,rfl⟩:=eG.1 hx;have:=EG.ajm (aj4 hK hk (hQ.right g hg));omega):p:=h
theorem s8{p:Prop}(h:p:=by
 cases es with
 |nil=>rfl
 |cons e es=>cases h):p:=h
theorem s9{p:Prop}(h:p:=by refine go ?_;exact ah true (hv:=rfl) (hp:=⟨λ_=>⟨hb,h3⟩,λ_=>rfl⟩)):p:=h
theorem ta{p:Prop}(h:p:=by have:=congrArg List.length (DZ ss cs hsum);rw[cz]at this;rw[this];simp[ss]):p:=h
theorem tb{p:Prop}(h:p:=by
 cases he:ed mk (j:Nat)with
 |false=>rfl
 |true=>exact absurd ⟨j,hj,he⟩ hex):p:=h
theorem tc{p:Prop}(h:p:=by rw[wz (by omega)];congr 1;rw[bW (by omega)]at hx;exact Option.some.inj hx):p:=h
theorem td{p:Prop}(h:p:=by
 induction h with
 |nil=>exact .nil
 |cons h1 _ ih=>exact .cons (.there h1) ih):p:=h
theorem tf{p:Prop}(h:p:=by
 rcases qJ g.b w.heap.size with hh|hh
 ·exact hh
 ·rw[tL hh]at o1;cases o1):p:=h
theorem tg{p:Prop}(h:p:=by have:=Cg (g.w*g.h).toNat g.holes;have:=vH hmk.wi hmk.he;unfold l5;omega):p:=h
theorem th{p:Prop}(h:p:=by rw[<- fU,<- fU];exact List.Perm.append_right T2 List.perm_append_comm):p:=h
theorem tj{p:Prop}(h:p:=by refine go ?_;refine ah () (hv:=?_) (hp:=trivial);rw[j3,if_pos h1];rfl):p:=h
theorem tn{p:Prop}(h:p:=by refine go ?_;refine ah () (hv:=?_) (hp:=trivial);rw[eY (.inl h1)];rfl):p:=h
theorem tr{p:Prop}(h:p:=by rw[lm]at e;have:=e j l hl;dsimp only at this;rw[h]at this;cases this):p:=h
theorem tt{p:Prop}(h:p:=by rw[iI];exact List.Perm.append_right S2 (List.Perm.append_left T1 v2)):p:=h
theorem tv{p:Prop}(h:p:=by
 cases hb:Nat.ble (m+(k+1)) m with
 |false=>rfl
 |true=>have:=mD hb;omega):p:=h
theorem tw{p:Prop}(h:p:=by show(w.h.new _).get b=_;rw[IH.iZ,if_neg (by have:=w.ni b hz;omega)]):p:=h
theorem tx{p:Prop}(h:p:=by have:=OR.F8 (P:=P) (w:=w) t (hcs.mono hle) hc [] 0;simpa using this):p:=h
theorem tA{p:Prop}(h:p:=by exact this.imp (λh=>by simpa using h)):p:=h
theorem tB{p:Prop}(h:p:=by
 intro g hg;rcases dW.1 hg with hg|hg
 ·exact q2 g hg
 ·exact u2 g hg):p:=h
theorem tD{p:Prop}(h:p:=by show ok (xs.take (k+1)) _;rw[bU hx];exact hok _ s _ _ hos hX hst):p:=h
theorem tE{p:Prop}(h:p:=by rw[if_pos ⟨by simp,by simp;omega⟩];simp[mE hs1,addr_add,qb]):p:=h
theorem tG{p:Prop}(h:p:=by refine go ?_;exact bad (λq=>by have:=q.wi;omega) rfl rfl .here):p:=h
theorem tI{p:Prop}(h:p:=by refine go ?_;exact bad (λq=>by have:=q.he;omega) rfl rfl .here):p:=h
theorem tM{p:Prop}(h:p:=by intro e;subst e;rw[hi]at hb;cases hb):p:=h
theorem tP{p:Prop}(h:p:=by exact⟨j,by omega,h2,h3⟩):p:=h
theorem tR{p:Prop}(h:p:=by
 have hlen:xs.length=ys.length:=by omega
 refine go ?_;refine aW (λk=>xs.length - k) (λk:Nat=>[(5,.int .i64 (k:Int))]) (λ_=>[]) (λ_=>[]) (λk=>k<=xs.length/\xs.take k=ys.take k) 0 ⟨by omega,by simp⟩ (body:=?_);rintro k ⟨hk,hsame⟩;refine go ?_;refine az rfl (λh2=>?_) (λh2=>?_)
 ·refine go ?_;refine bq bD (xs:=xs) (next:=λ_ _ x (_:Unit) hx=>?_);refine go ?_;refine bq bD (xs:=ys) (next:=λ_ _ y (_:Unit) hy=>?_);refine go ?_;refine eO (p:=x=y) (by show Value.bool _=_;rw[dY]) (λh3=>?_) (λh3=>?_)
  ·exact cN
  exact cF
 exact cM):p:=h
theorem tS{p:Prop}(h:p:=by refine go ?_;refine bq bP (xs:=mP) (next:=λ_ _ x (_:Unit) hx=>?_);refine go ?_;refine bq bP (xs:=qB) (next:=λ_ _ y (_:Unit) hy=>?_);refine go ?_;refine(fq (v:=.bool (!decide (x=y))) rfl rfl (by rw[<- Nv];exact Cc rfl rfl hu2 (by kernel_rfl) (by kernel_rfl) (row_of hrow2 rfl rfl (λj=>by rw[fC]) (λj=>by rw[fC])) (by simp[fO,bY,Ideal.cellV]) (by simp[fO,bY,Ideal.cellV]))).h ?_;exact cj):p:=h
theorem tU{p:Prop}(h:p:=by refine go ?_;refine bq eP (xs:=mO) (next:=λ_ _ x (_:Unit) hx=>?_);refine go ?_;refine bq eP (xs:=qA) (next:=λ_ _ y (_:Unit) hy=>?_);refine go ?_;refine(fq (v:=.bool (!decide (x=y))) rfl rfl (by rw[<- Nu];exact Cc rfl rfl hu1 (by kernel_rfl) (by kernel_rfl) (row_of Oy rfl rfl (λj=>by rw[fC]) (λj=>by rw[fC])) (by simp[fO,bY,Ideal.cellV]) (by simp[fO,bY,Ideal.cellV]))).h ?_;exact cj):p:=h
theorem tW{p:Prop}(h:p:=by
 have hjs:j<s.length:=by
  have:=Wq.len hby;omega
 refine go ?_;intro _ _ iz hiz;have hig:=l6 hiz;obtain rfl:iz=(i:Int):=by
  exact pB
 exact de):p:=h
theorem ua{p:Prop}(h:p:=by refine go ?_;refine bi (fQ (E:=ak ae) (v:=v8) (xs:=kK g)) (h:=?_);refine go ?_;refine lu (c:=(0:Int)=0) (f:=ai (ak ae) v8 (dx g 3)) (by rw[hf];simp) ?_;exact dj):p:=h
theorem uc{p:Prop}(h:p:=by
 refine go ?_;refine eO rfl (λh3=>?_) (λh3=>?_)
 ·exact cN
 exact cF):p:=h
theorem ud{p:Prop}(h:p:=by
 refine go ?_;refine az rfl (λh2=>?_) (λh2=>?_)
 ·refine go ?_;intro _ _ x hx;have oQ:=hl x (aP hx);exact cP
 exact kj):p:=h
theorem ur{p:Prop}(h:p:=by
 rw[dY]at k1;have k1:¬n1=n2:=by simpa using k1
 exact eV):p:=h
theorem us{p:Prop}(h:p:=by
 refine go ?_;refine ah 170 (hv:=rfl) (hp:=⟨λh=>?_,λh=>?_⟩)
 ·exact nh
 exfalso
 have:=h.NQ;omega):p:=h
theorem uv{p:Prop}(h:p:=by refine go ?_;intro yU;exact cE):p:=h
theorem ux{p:Prop}(h:p:=by
 rw[hagg]at hr;simp only at hr⊢;split at hr
 ·rename_i l hl;exact mc
 ·cases hr):p:=h
theorem u9{p:Prop}(h:p:=by
 refine go ?_;have:k=xs.length:=by omega
 subst this;rw[bJ]at hno;exact nr):p:=h
theorem vf{p:Prop}(h:p:=by
 refine go ?_;refine az rfl (λh2=>?_) (λh2=>?_)
 ·exact s6
 ·exact eC):p:=h
theorem vj{p:Prop}(h:p:=by omega):p:=h
theorem vm{p:Prop}(h:p:=by simp):p:=h
theorem vA{p:Prop}(h:p:=by kernel_rfl):p:=h
theorem we{p:Prop}(h:p:=by repeat (first|exact aI.nil|(apply aI.cons;(focus (repeat (first|exact ay.here|apply ay.there)))))):p:=h
theorem wg{p:Prop}(h:p:=by rfl):p:=h
theorem wj{p:Prop}(h:p:=by decide):p:=h
theorem wk{p:Prop}(h:p:=by simp[Op.operands]):p:=h
theorem wl{p:Prop}(h:p:=by first|exact rfl|(conv=>lhs;whnf)):p:=h
theorem wq{p:Prop}(h:p:=by simpa using h):p:=h
theorem wx{p:Prop}(h:p:=by simp;omega):p:=h
theorem wA{p:Prop}(h:p:=by show k+1<=_;omega):p:=h
theorem w7{p:Prop}(h:p:=by rw[hf];simp):p:=h
theorem w8{p:Prop}(h:p:=by simpa using hx):p:=h
theorem xa{p:Prop}(h:p:=by simp[stepG,stepG.exec,fr]):p:=h
theorem xb{p:Prop}(h:p:=by repeat (first|with_reducible exact ay.here|with_reducible apply ay.there|with_reducible apply ay.app)):p:=h
theorem xf{p:Prop}(h:p:=by show i+1<=_;omega):p:=h
theorem xj{p:Prop}(h:p:=by show j+1<=_;omega):p:=h
theorem xo{p:Prop}(h:p:=by rw[hk];rfl):p:=h
theorem xp{p:Prop}(h:p:=by rw[wm];omega):p:=h
theorem xF{p:Prop}(h:p:=by simpa using e):p:=h
theorem xT{p:Prop}(h:p:=by rw[e]):p:=h
theorem x6{p:Prop}(h:p:=by intro e;rw[e]at h;cases h):p:=h
theorem x7{p:Prop}(h:p:=by simp[h]):p:=h
theorem ya{p:Prop}(h:p:=by simpa using h1):p:=h
theorem yb{p:Prop}(h:p:=by simpa[rV]using hb):p:=h
theorem ye{p:Prop}(h:p:=by simp[ha]):p:=h
theorem yp{p:Prop}(h:p:=by rw[e2];exact hw):p:=h
theorem yq{p:Prop}(h:p:=by simpa[nH]using hb):p:=h
theorem yy{p:Prop}(h:p:=by show g.cells.length - (j+1)<g.cells.length - j;omega):p:=h
theorem yW{p:Prop}(h:p:=by subst hy;simp[Op.operands]):p:=h
theorem y6{p:Prop}(h:p:=by rw[uu];exact hro):p:=h
theorem zc{p:Prop}(h:p:=by apply Array.ext';simp):p:=h
theorem zd{p:Prop}(h:p:=by rw[h1];exact bK.2 rfl):p:=h
theorem zj{p:Prop}(h:p:=by simpa using h2):p:=h
theorem zp{p:Prop}(h:p:=by show Value.bool _=_;rw[dY]):p:=h
theorem z6{p:Prop}(h:p:=by show d.rules.length - (k+1)<d.rules.length - k;omega):p:=h
theorem z7{p:Prop}(h:p:=by unfold ow;omega):p:=h
theorem An{p:Prop}(h:p:=by rw[hgn];omega):p:=h
theorem As{p:Prop}(h:p:=by apply Array.ext';exact ha):p:=h
theorem AD{p:Prop}(h:p:=by rw[hop];rfl):p:=h
theorem AE{p:Prop}(h:p:=by rw[ng];exact hr):p:=h
theorem AF{p:Prop}(h:p:=by intro e;cases e):p:=h
theorem AG{p:Prop}(h:p:=by simpa using hnd):p:=h
theorem AH{p:Prop}(h:p:=by cases e;rfl):p:=h
theorem AI{p:Prop}(h:p:=by show g.cells.length - (i+1)<g.cells.length - i;omega):p:=h
theorem AK{p:Prop}(h:p:=by unfold iR;simp[c0]):p:=h
theorem AM{p:Prop}(h:p:=by unfold iR;simp[c4]):p:=h
theorem AN{p:Prop}(h:p:=by unfold iR;simp[c5]):p:=h
theorem AS{p:Prop}(h:p:=by rw[hil];omega):p:=h
theorem AT{p:Prop}(h:p:=by simpa using b):p:=h
theorem AW{p:Prop}(h:p:=by show h1 - l<=m - l;omega):p:=h
theorem A0{p:Prop}(h:p:=by simp only[Op.operands,List.mem_toArray,eG];exact⟨p,hp,rfl⟩):p:=h
theorem A1{p:Prop}(h:p:=by rw[<- hdst];exact hdd):p:=h
theorem A2{p:Prop}(h:p:=by rw[put_defers];exact t2.act.defers):p:=h
theorem A4{p:Prop}(h:p:=by intro r hr;cases hr):p:=h
theorem A5{p:Prop}(h:p:=by rw[pJ hn];exact next):p:=h
theorem A6{p:Prop}(h:p:=by rw[h3];exact bK.2 rfl):p:=h
theorem Bk{p:Prop}(h:p:=by rw[e,e2];simp):p:=h
theorem Bm{p:Prop}(h:p:=by show lk _ d=_;simp[lk]):p:=h
theorem Bs{p:Prop}(h:p:=by rw[hg.cells];exact Iz _ _):p:=h
theorem Bx{p:Prop}(h:p:=by dsimp only;omega):p:=h
theorem By{p:Prop}(h:p:=by rw[sW];exact hm):p:=h
theorem BE{p:Prop}(h:p:=by simp[fO,bY,Ideal.cellV]):p:=h
theorem BT{p:Prop}(h:p:=by show m - (k+1)<m - k;omega):p:=h
theorem BW{p:Prop}(h:p:=by show k+1<=m;omega):p:=h
theorem BY{p:Prop}(h:p:=by show d.aJ.length - (k+1)<d.aJ.length - k;omega):p:=h
theorem B0{p:Prop}(h:p:=by show xs.length - (k+1)<xs.length - k;omega):p:=h
theorem B3{p:Prop}(h:p:=by rw[<- DK];exact hdd):p:=h
theorem B4{p:Prop}(h:p:=by simp[Op.operands,Call.operands]):p:=h
theorem B5{p:Prop}(h:p:=by simp only[target,jF,iI]):p:=h
theorem B6{p:Prop}(h:p:=by rw[<- hrun];exact aI.all _):p:=h
theorem B7{p:Prop}(h:p:=by intro s x lo o B w0;refine go ?_;intro b8;refine go ?_;exact Ic b8 rfl):p:=h
theorem B8{p:Prop}(h:p:=by show lb.length - (k+1)<lb.length - k;omega):p:=h
theorem B9{p:Prop}(h:p:=by show d.regions.length - (k+1)<d.regions.length - k;omega):p:=h
theorem Cd{p:Prop}(h:p:=by rw[<- hgn];exact hf):p:=h
theorem Cl{p:Prop}(h:p:=by dsimp only[Int.natCast_zero];rw[Int.sub_zero];repeat (first|exact trivial|refine⟨rfl,?_⟩)):p:=h
theorem Cp{p:Prop}(h:p:=by show L.length - (j+1)<L.length - j;omega):p:=h
theorem CA{p:Prop}(h:p:=by cases xd<;>first|rfl|exact absurd rfl (hni _)):p:=h
theorem CH{p:Prop}(h:p:=by rw[put_defers];exact t2.act.defers.mono hle):p:=h
theorem CI{p:Prop}(h:p:=by generalize F.defers=d at hd;cases hd;rfl):p:=h
theorem CM{p:Prop}(h:p:=by first|((with_reducible apply Gz);(focus ((conv=>lhs;whnf);(first|done|fail))))|((with_reducible apply GA);(focus ((conv=>lhs;whnf);(first|done|fail))))|((with_reducible apply GI);(focus exact rfl))|((with_reducible apply GK);(focus exact rfl);(focus exact rfl))|((with_reducible apply GL);(focus exact rfl);(focus exact rfl))|((with_reducible apply GM);(focus exact rfl);(focus exact rfl))|((with_reducible apply GN);(focus exact rfl);(focus exact rfl))|((with_reducible apply GQ);(focus exact rfl);(focus exact rfl))|((with_reducible apply GR);(focus exact rfl);(focus exact rfl))|((with_reducible apply GH);(focus exact rfl))|((with_reducible apply GD);(focus exact rfl);(focus ((conv=>lhs;whnf);(first|done|fail))))|((with_reducible apply GG);(focus exact rfl);(focus ((conv=>lhs;whnf);(first|done|fail))))|((with_reducible apply GV);(focus exact rfl);(focus ((conv=>lhs;whnf);(first|done|fail))))|((with_reducible apply GX);(focus exact rfl))|((with_reducible apply GY);(focus exact rfl);(focus ((conv=>lhs;whnf);(first|done|fail))))|((with_reducible apply GZ);(focus exact rfl);(focus ((conv=>lhs;whnf);(first|done|fail))))|((with_reducible apply G5);(focus ((conv=>lhs;whnf);(first|done|fail))))|((with_reducible apply G6);(focus exact rfl))|((with_reducible apply G7);(focus exact rfl))|((with_reducible apply G8);(focus exact rfl))|with_reducible exact GJ|((with_reducible apply G9);(focus exact rfl);(focus exact rfl);(focus exact rfl))|((with_reducible apply Hz);(focus exact rfl);(focus exact rfl);(focus ((omega);(first|done|fail))))|((with_reducible apply D8);(focus exact rfl);(focus exact rfl);(focus ((omega);(first|done|fail)));(focus ((omega);(first|done|fail))))|((with_reducible apply He);(focus exact rfl);(focus exact rfl);(focus ((omega);(first|done|fail)));(focus ((omega);(first|done|fail))))|((with_reducible apply BJ);(focus exact rfl);(focus exact rfl);(focus ((omega);(first|done|fail)));(focus ((omega);(first|done|fail))))|((with_reducible apply GU);(focus exact rfl);(focus exact rfl);(focus ((omega);(first|done|fail)));(focus ((omega);(first|done|fail))))|((with_reducible apply Hq);(focus exact rfl);(focus exact rfl);(focus ((first|assumption|kernel_rfl);(first|done|fail))))|((with_reducible apply Hr);(focus exact rfl);(focus exact rfl);(focus ((first|assumption|kernel_rfl);(first|done|fail))))|((with_reducible apply Ht);(focus exact rfl);(focus exact rfl))|((with_reducible apply Hu);(focus exact rfl);(focus exact rfl))|((with_reducible apply Hw);(focus exact rfl);(focus exact rfl);(focus ((omega);(first|done|fail)));(focus ((omega);(first|done|fail))))):p:=h
theorem CN{p:Prop}(h:p:=by rw[<- (hk2 y).eq,<- (hF2 y).eq];exact back w' _ _ c):p:=h
theorem CT{p:Prop}(h:p:=by have:=((Rb Ra).zero x.values x.values).2 rfl;omega):p:=h
theorem C0{p:Prop}(h:p:=by have:=(hO.zero x.values x.values).2 rfl;omega):p:=h
theorem C1{p:Prop}(h:p:=by intro s x lo o B w0;refine go ?_;have z0:Nat:=0;exact Ic z0 rfl):p:=h
theorem C2{p:Prop}(h:p:=by show aD.length - (i+1)<aD.length - i;omega):p:=h
theorem C3{p:Prop}(h:p:=by show ln.length - (j+1)<ln.length - j;omega):p:=h
theorem C4{p:Prop}(h:p:=by show aF.length - (k2+1)<aF.length - k2;omega):p:=h
theorem C5{p:Prop}(h:p:=by show l.length - (i+1)<l.length - i;omega):p:=h
theorem C6{p:Prop}(h:p:=by show k.decl.rules.length - (j+1)<k.decl.rules.length - j;omega):p:=h
theorem C7{p:Prop}(h:p:=by have:=D7 (b:=bm) (f:=0) (c:=grid.length) (xs:=acN s t grid) (hc:=by rw[hyl];exact bV _);rw[hyl]at this;exact this):p:=h
theorem Dd{p:Prop}(h:p:=by show t.length - (k+1)<t.length - k;omega):p:=h
theorem Ds{p:Prop}(h:p:=by simp only[Op.operands,Call.operands,xQ];exact .inr w8):p:=h
theorem DA{p:Prop}(h:p:=by rw[aC.DW (BB yq)];exact hi):p:=h
theorem DB{p:Prop}(h:p:=by unfold jS;rw[if_neg vj,if_neg vj,if_neg vj,if_neg vj,if_neg vj,if_pos vj]):p:=h
theorem DE{p:Prop}(h:p:=by simp only[Op.operands,xQ];exact .inl w8):p:=h
theorem DG{p:Prop}(h:p:=by simp only[Op.operands,xQ];exact .inr w8):p:=h
