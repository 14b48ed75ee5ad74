/-
  Part Dict.
-/
import Derived.KernelRfl
set_option linter.all false
variable{p:Prop}
def be(h:p:=by
 have hjs:j<s.length:=by
  have:=G.iK.len (by unfold lg;simp[hcf]);omega
 refine go ?_;intro _ _ iz hiz;have hig:=iW hiz;obtain rfl:iz=(i:Int):=by
  have:=ng;unfold iQ at this;rw[if_pos (by unfold lg;simp[hcf])]at this;omega
 refine gX (az ai) (xs:=L) (k:=i) λ_ _ l2 (zO:ah) hl2=>?_;rw[G.hl']at hl2;obtain rfl:l'=l2:=Option.some.inj hl2;refine gC (Dg (a:=a9) (xs:=img s l) (ys:=l') (by rw[hil];omega)) λ_ _=>?_;refine gC (GZ (a:=a9) (xs:=img s l) (by rw[hil];omega)) λ_ _=>?_;generalize hxd:(((⟨(cn:Int),(i:Int),dY⟩,vg),iE s l l'):CE)=x;have hnx:(p.take (jj+1)).map (iF k s)=(p.take jj).map (iF k s)++[mJ x]:=by
  rw[fF hg,cB,l6,<- hxd,G.iF];rfl
 have hX:(di++x::oF ((p.drop (jj+1)).map (iF k s))).map mJ=p.map (iF k s):=by
  rw[cB,fA,OJ,lH];conv=>rhs;rw[<- nE (jj+1) p,cB,hnx,List.append_assoc]
  rfl
 have gy:=hy _ bX _ _ hos hX;rw[show G8 x=[qC ⟨(cn:Int),(i:Int),dY⟩ vg,.bool (iE s l l')]by rw[<- hxd];rfl,show EW x=[aj ai vg dY]by rw[<- hxd];rfl]at gy;rw[dm,cK]at gy;have hrl:(img s l).reverse.length=(img s l).length:=Fq;by_cases e0:img s l=l'
 .rw[eT e0];have htb:iE s l l'=false:=by unfold iE;simp[e0]
  rw[htb]at gy;refine gC gy λ_ _=>?_;cases hst:(step bX x).2 with
  |true=>
   have hs1:step bX x=((step bX x).1,true):=Prod.ext rfl hst;refine go ?_;refine aU (jj+1,di++[x],(step bX x).1) (by show p.length - (jj+1)<p.length - jj;omega) ⟨by show jj+1<=_;omega,hok _ bX _ _ hos hX hst,?_,λrest=>?_⟩
   .show(di++[x]).map mJ=_;rw[cB,l6,lH];exact hnx.symm
   .show dA step s0 (di++[x]++rest)=_;rw[List.append_assoc,hrun];show dA step bX (x::rest)=_;rw[dA,hs1]
  |false=>
   have hs1:step bX x=((step bX x).1,false):=Prod.ext rfl hst;have hr:=hrun (x::oF ((p.drop (jj+1)).map (iF k s)));rw[dA,hs1]at hr;dsimp only at hr;refine go ?_;exact gQ (di++x::oF ((p.drop (jj+1)).map (iF k s))) hX (hk:=by rw[hr];first|exact aF.all _|exact aF.self _ _)
 .rw[bY e0];have htb:iE s l l'=decide ((img s l).reverse=l'):=by unfold iE;simp[e0]
  rw[htb]at gy;refine gX (az ai) (xs:=L) (k:=i) λ_ _ l3 (J9:ah) hl3=>?_;rw[G.hl']at hl3;obtain rfl:l'=l3:=Option.some.inj hl3;refine go ?_;rw[<- hrl];refine iy (Dg (a:=a9) (xs:=(img s l).reverse) (ys:=l') (by rw[hrl,hil];omega)) (next:=λ_ _=>?_);refine gC gy λ_ _=>?_;cases hst:(step bX x).2 with
  |true=>
   have hs1:step bX x=((step bX x).1,true):=Prod.ext rfl hst;refine go ?_;refine aU (jj+1,di++[x],(step bX x).1) (by show p.length - (jj+1)<p.length - jj;omega) ⟨by show jj+1<=_;omega,hok _ bX _ _ hos hX hst,?_,λrest=>?_⟩
   .show(di++[x]).map mJ=_;rw[cB,l6,lH];exact hnx.symm
   .show dA step s0 (di++[x]++rest)=_;rw[List.append_assoc,hrun];show dA step bX (x::rest)=_;rw[dA,hs1]
  |false=>
   have hs1:step bX x=((step bX x).1,false):=Prod.ext rfl hst;have hr:=hrun (x::oF ((p.drop (jj+1)).map (iF k s)));rw[dA,hs1]at hr;dsimp only at hr;refine go ?_;exact gQ (di++x::oF ((p.drop (jj+1)).map (iF k s))) hX (hk:=by rw[hr];first|exact aF.all _|exact aF.self _ _)):p:=h
def bh(h:p:=by
 obtain⟨m,rfl⟩:=gV hi0;refine gX (az ai) (xs:=L) λ_ _ l' (tV:ah) hl'=>?_;have yO:=G7 l' (aT hl');refine gC (Kj (b:=b10) (vw:=.slice (some ⟨bw,0,some 0⟩) l.length l.length) (w:=img s l) (by rw[hil];omega) l' yO tV) λ_ _=>?_;dsimp only;cases e1:kL l' (img s l)with
 |false=>
  refine bF ?_;rw[BC hl (by
   cases e:qD L s rf eq l j with
   |false=>rfl
   |true=>
    have:=(BD ng e).2.1;rw[fM,gJ hl',e1]at this;cases this)];rfl
 |true=>
 refine gX (az ai) (xs:=L) λ_ _ l'' (tV:ah) yP=>?_;rw[hl']at yP;obtain rfl:l'=l'':=Option.some.inj yP;refine gC (he tV (.slice (some ⟨bw,0,some 0⟩) l.length l.length) l' (img s l) yO (by rw[hil];omega)) λ_ _=>?_;cases e2:eq l' (img s l)with
 |false=>
  refine bF ?_;rw[BC hl (by
   cases e:qD L s rf eq l j with
   |false=>rfl
   |true=>
    have:=(BD ng e).2.2;rw[fM,gJ hl',e2]at this;cases this)];rfl
 |true=>
  refine go ?_;exact aU (j+1) (by show L.length - (j+1)<L.length - j;omega) ⟨by omega,λi' hi' x hx=>(by
   by_cases e:i'=j
   .subst e;rw[hl]at hx;cases hx;exact OE ng hl' e1 e2
   .exact hall i' (by omega) x hx)⟩):p:=h
def bj(h:p:=by
 have hs1:step bX x=((step bX x).1,true):=Prod.ext rfl hst;refine go ?_;refine aU (jj+1,di++[x],(step bX x).1) (by show p.length - (jj+1)<p.length - jj;omega) ⟨by show jj+1<=_;omega,hok _ bX _ _ hos hX hst,?_,λrest=>?_⟩
 .show(di++[x]).map mJ=_;rw[cB,l6,lH];exact hnx.symm
 .show dA step s0 (di++[x]++rest)=_;rw[List.append_assoc,hrun];show dA step bX (x::rest)=_;rw[dA,hs1]):p:=h
def cj(h:p:=by
 refine go ?_;refine Er ?_;refine go ?_;refine CF (false,(xs.take k).map nm) (hv:=rfl) (hp:=⟨(λh=>by cases h),λ_ hn=>?_⟩);rw[(tO hx).1]at hm;have hsub:(aA.map (·.1)++(xs.take k).map nm++[nm x]).Nodup:=by
  have e:xs.map nm=(xs.take k).map nm++nm x::(xs.drop (k+1)).map nm:=by
   conv=>lhs;rw[<- nE k xs]
   rw[cB];congr 1;rw[nH (aV.1 hx).1,fA,(aV.1 hx).2]
  rw[e,<- List.append_assoc]at hn;rw[jA]at hn⊢;exact⟨hn.1,by simp,λa ha c hc=>hn.2.2 a ha c (by rw[bA.1 hc];exact dD ..)⟩
 rw[jA]at hsub;exact hsub.2.2 _ hm _ (bA.2 rfl) rfl):p:=h
def ck(h:p:=by have hs1:step bX x=((step bX x).1,false):=Prod.ext rfl hst;have hr:=hrun (x::oF ((p.drop (jj+1)).map (iF k s)));rw[dA,hs1]at hr;dsimp only at hr;refine go ?_;exact gQ (di++x::oF ((p.drop (jj+1)).map (iF k s))) hX (hk:=by rw[hr];first|exact aF.all _|exact aF.self _ _)):p:=h
def cw(h:p:=by
 refine gC (UY (n:=k.grid.cells.length) (v:=vL) (lists:=L) (by omega) (by omega) Ky (λl hl=>by have:=uD l hl;omega)) λw _=>?_;refine mD jr (A:=ap (az ai) w (nu k.grid.cells.length L)) (fs:=[aj (az ai) w (nu k.grid.cells.length L)]) (h:=?_);refine gC (OV (b2:=b2) (b3:=b3) (bm:=bm) (v:=w) (e:=0) (z:=kU k i) (more:=nu k.grid.cells.length L) (by omega) (λp hp=>by have:=OW hp;omega)) λ_ _=>?_;have hst:kU k (i+1)=ny (kU k i) (nu k.grid.cells.length L):=by rw[hstep,if_pos (by unfold Dr;simp;omega)]
 rw[<- hst];have hac:=Dq (nu k.grid.cells.length L) (kU k i);rw[<- hst]at hac;refine go ?_;exact aU (i+1) (by omega) ⟨by omega,u+1,by omega,by omega,by omega,by omega,by omega⟩):p:=h
def cA(h:p:=by
 have Eg:Al size (k+1) (ev l x) h=some xs:=hxs;simp only[aK.run,hx,Eg,hs,zb];have e1:pE size m (.slice (some ⟨b,o,f⟩) m m) h=some old:=hold;show∃h',(cond (Nat.ble (Nat.mul (m+(k+1)) bytes) small&&Nat.ble (Nat.mul (m+(k+1)) size) small&&Nat.ble (m+(k+1)) small) _ _)=_/\_;rw[hc];show∃h',(cond (Nat.ble (m+(k+1)) m) _ _)=_/\_;rw[hlt];simp only[cond,e1];rcases hf with rfl|rfl
 .refine⟨_,rfl,?_⟩;exact⟨rfl,λi hi _=>by rw[IH.jq,if_neg (by omega)],⟨zY _,by rw[IH.jq,if_pos rfl,jW]⟩,λ_=>rfl⟩
 .cases size with
  |zero=>
   refine⟨_,rfl,?_⟩;exact⟨rfl,λi hi _=>by rw[IH.jq,if_neg (by omega)],⟨zY _,by rw[IH.jq,if_pos rfl,jW]⟩,λ_=>rfl⟩
  |succ j=>
   have hj:Nat.beq (Nat.succ j) (j+1)=true:=HV _;refine⟨(h.kill b).new (.cells (old++xs)),?_,?_⟩
   .show cond (Nat.beq (Nat.succ j) (j+1)) _ _=_;rw[hj,jW];rfl
   .exact⟨rfl,λi hi hb=>by rw[IH.jq,if_neg (by show i≠h.next;omega),IH.uu,if_neg hb],⟨zY _,by rw[IH.jq];exact if_pos rfl⟩,λhl=>by rw[IH.Im,IH.Aq];omega⟩):p:=h
def cC(h:p:=by
 refine bF ?_;have:xs=ys:=by
  apply iH;intro j;by_cases hj:j<k
  .exact hsame j hj
  .rw[dW (by omega),dW (by omega)]
 rw[eT this];rfl):p:=h
def cD(h:p:=by
 have zq:St B w0 (pt b (.cells cells)::k2) F w:=⟨pG.agree,pG.le,pG.fH,⟨S,⟨_,S2,⟨rfl,hb⟩,q2,e1⟩,hnd,hown⟩,pG.facts⟩
 have Jg:At w.h b (.cells cells):=zq.at_ .here;refine Q0 (old:=cells.drop o) (xs:=E.pat a y) hn hg hs hx1 hx2 ?_ (hf.elim (λe=>.inl (by rw[e])) λe=>.inr (by rw[e])) hm λh' mv=>?_
 .have hdl:(cells.drop o).length=xs.length*E.n:=by rw[lu];omega
  rw[Jg.cX.jd,qp,qJ,if_pos (by omega),<- hdl,fu]
 obtain⟨w',rfl,jY,AV⟩:=zq.move mv;refine r _ w' (jY.zo λS hp=>?_);have hle:∀f∈E.fs a y,f.p w':=λf hf=>jY.facts f (hF.mem f hf);refine put w' _ E.n (cells.drop o) (by rw[lu];omega) (λk z hk=>?_) hle (.inr rfl) S hp;obtain⟨y',u1,u2⟩:=hel k z hk;exact⟨y',λj u hj=>by rw[jU,<- l5];exact u1 j u hj,λf hf=>f.mono AV (u2 f hf)⟩):p:=h
def cE(h:p:=by
 obtain⟨s,o⟩:=so;obtain⟨hn,ho⟩:=ho;have hn:o=.normal:=hn;subst hn;exact RF (Y:=Unit) (L:=⟨.ready,none,iD l,n,ps,assign,body,r⟩) (args:=vals x) (k1:=inv s) (out:=λ_=>(step s x).2) (k1':=λ_=>inv (step s x).1) (fs:=λ_=>[]) (pr:=λ_=>True) l (l3 x) (λz=>k3 x z++inv s) rfl rfl hps (hlen x)
  (λB w0=>ha s x lo _ B w0) (λz B w0=>hb vs s x rest z lo _ B w0 ho hx)):p:=h
def cF(h:p:=by
 refine go ?_;refine aU (k+1) (by omega) ⟨by omega,λj hj=>?_⟩;by_cases e:j=k
 .subst e;rw[hx,hy,h3]
 .exact hsame j (by omega)):p:=h
def cH(h:p:=by refine go ?_;exact gQ false (λh=>by cases h)):p:=h
def cI(h:p:=by
 apply iH;intro j;by_cases hj:j<k
 .exact hsame j hj
 .rw[dW (by omega),dW (by omega)]):p:=h
def cJ(h:p:=by refine go ?_;refine eD (aj (az ai) (.slice none 0 0) ([]:ae (ae Int))) (λw _=>.inl ⟨rfl,none,0,rfl,trivial⟩) ?_;refine eD (aj ai (.slice none 0 0) ([]:ae Int)) (λw _=>.inl ⟨rfl,none,0,rfl,trivial⟩) ?_;refine go ?_;exact gQ ⟨.slice none 0 0,.slice none 0 0,[],[],false⟩ (λh=>by cases h)):p:=h
def cM(h:p:=by
 refine gC gy λ_ _=>?_;rw[hd,dA]at hrun;refine go ?_;cases hst:step s ((k:Int),_)with
 |mk s' b=>
  have hst:=hst;rw[hst]at hrun;cases b with
  |true=>
   refine go ?_;refine aU (k+1,s') (by show g.cells.length - (k+1)<g.cells.length - k;omega) ⟨by show k+1<=_;omega,?_,hrun⟩;have:=hok _ s _ _ hos hX (by rw[hst]);rw[hst]at this;rw[show(bI g).take (k+1)=(bI g).take k++[_]from by rw[rH,hsp];rfl];rw[hso];exact this
  |false=>
   refine go ?_;exact gQ (bI g) rfl (hk:=by rw[<- hrun];exact aF.all _)):p:=h
def cN(h:p:=by
 rw[nH hix,nH JC];have ih:=ih (i+1) (by omega);simp only[fP,JA]at ih;by_cases hxy:xs[i]=ys[i]
 .rw[eT hxy];simp only[Bool.not_true,ww,if_false];show(dK P _).bind _=_;rw[show decide (xs[i]::xs.drop (i+1)=ys[i]::ys.drop (i+1))=decide (xs.drop (i+1)=ys.drop (i+1))from rF.2 (by rw[BV];exact⟨λh=>h.2,λh=>⟨hxy,h⟩⟩)];exact ih
 .rw[bY hxy];simp only[Pg,if_true];rw[show decide (xs[i]::xs.drop (i+1)=ys[i]::ys.drop (i+1))=false from bY (λh=>hxy (List.cons.inj h).1)];rfl):p:=h
def cP(h:p:=by refine bF ?_;rw[bY (λe=>h3 (by rw[e,hy]at hx;cases hx;rfl))];rfl):p:=h
def cQ(h:p:=by
 refine gC (Vb (b4:=b4) (b8:=b8) (b9:=b9) (bs:=bs) (bu:=bu) (m:=m) (cl:=cl) (sy:=iR cl (iq (bT k) p++(upTo' m).take j)) (s:=(j:Int)) (vc:=.slice ac m cc) hc (by omega) hgi.len (by omega) (by omega)) λ_ _=>?_;have hnx:(upTo' m)[j]? =some (j:Int):=by
  unfold upTo';rw[bU,oI (by omega)];rfl
 rw[<- GM,List.append_assoc,<- fF hnx];refine go ?_;exact aU (j+1) (by show m - (j+1)<m - j;omega) (by show j+1<=m;omega)):p:=h
def cR(h:p:=by
 have:=h4 (j+1) g e hg he;rw[List.drop_drop];have hle:o0+P.cellsOf f.type<=g.offset:=by
  have hj:(fs.map (·.offset))[j]? =some g.offset:=by rw[bU,hg];rfl
  rw[h3]at hj;have hs:(fs.map λf=>P.cellsOf f.type)[j]? =some (P.cellsOf g.type):=by rw[bU,hg];rfl
  exact(Cs _ ([]:ae ah) (o0+P.cellsOf f.type) j _ _ hj hs).2
 rw[show P.cellsOf f.type+(g.offset - (o0+P.cellsOf f.type))=g.offset - o0 by omega];exact this):p:=h
def cS(h:p:=by
 intro vs s x rest z lo L B w0 hs hx;subst hs;dsimp only[List.cons_append,List.nil_append];have hlen:s.length<=1000000:=by have:=hl _ hx;rw[eF,nW]at this;omega
 refine zw (h:=λv=>?_);refine go ?_;intro b10;refine kY (xs:=s) ai x () (by omega) (next:=λad=>?_);refine go ?_;refine uC (λv:ah=>[pt b2 (.cells [v]),ap ai v (s++[x])]) _ (h:=?_);exact sV () rfl trivial trivial):p:=h
def cT(h:p:=by refine aU (k+1) (by show m - (k+1)<m - k;omega) (by show k+1<=m;omega) (hk:=by rw[e];repeat (first|exact aF.nil|(apply aF.cons;(focus (repeat (first|exact aB.here|apply aB.there))))))):p:=h
def cU(h:p:=by
 rw[jP (by omega)]at hk;have hk0:k=xs.length:=by
  have:=(aV.1 hk).1;simp at this;omega
 subst hk0;simp at hk;subst hk;refine⟨y,λj u hj=>?_,h3⟩;rw[eB,jP (by omega),h1,Pp];exact hj):p:=h
def cV(h:p:=by
 intro r xs hX;have hrun:∀(ys zs:ae Int),iO (λ(ys:ae Int) (x:Int)=>(ys++[x],Out.normal)) ys zs=(ys++zs,.normal):=by
  intro ys zs;induction zs generalizing ys with
  |nil=>simp[iO]
  |cons z zs ih=>rw[iO];simp only[ih];simp
 rw[hrun,cK];dsimp only[List.cons_append,List.nil_append];refine zw (h:=λv=>?_);refine go ?_;exact yB ⟨v,xs⟩ (hv:=rfl) (hp:=hX)):p:=h
def cW(h:p:=by
 have h:lV (step so.1 x).2=true:=h;have hn:(step so.1 x).2=.normal:=by
  cases e:(step so.1 x).2 with
  |normal=>rfl
  |_=>rw[e]at h;cases h
 exact⟨hn,hok vs so.1 x rest ho.2 hx hn⟩):p:=h
def c6(h:p:=by refine bF ?_;rw[bY (λe=>h1 (by rw[e]))];rfl):p:=h
def c7(h:p:=by
 match j,hj with
 |0,hj=>
  have hj:some (Value.int .i64 x)=some u:=hj;have e1:pre.length+k*ai.n+0=pre.length+k:=by show pre.length+k*1+0=pre.length+k;omega
  rw[e1,jP (by omega),show pre.length+k - pre.length=k by omega,bU,hx];exact hj
 |j+1,hj=>exact absurd hj (by show¬([Value.int .i64 x]:ae ah)[j+1]? =some u;simp)):p:=h
def c9(h:p:=by rw[hp];dsimp only;exact sV () rfl trivial trivial (hk:=by repeat (first|exact aF.nil|(apply aF.cons;(focus (repeat (first|exact aB.here|apply aB.there))))))):p:=h
def da(h:p:=by refine X0 (c:=0) hn hg hs hx1 hx2 (by simpa using hm) λh' ag rP hnx=>?_;obtain⟨w',rfl,jY⟩:=pG.tail.fresh ag rP hnx;refine r _ w' (jY.zo λS hp=>?_);have hle:∀f∈E.fs a y,f.p w':=λf hf=>jY.facts f (hF.mem f hf);exact put w' _ E.n [] (by simp) (λk z hk=>by cases hk) hle (.inr rfl) S hp):p:=h
def dg(h:p:=by rw[H6 hxb.1];refine⟨Int.emod_nonneg _ (by omega),?_⟩;have:=KT x g.w;have h3:0<=g.w*(x/g.w):=Int.mul_nonneg (by omega) (Fj hxb.1 (by omega));omega):p:=h
def dj(h:p:=by
 conv=>lhs;rw[<- nE o cells]
 congr 1;apply iH;intro k;rw[jU,bU];by_cases hkl:k<xs.length
 .obtain⟨y,u1,_⟩:=h9 k xs[k] (bG hkl);have:=u1 0 (.int .i64 xs[k]) rfl;rw[bG hkl];have e1:o+k*ai.n+0=o+k:=by show o+k*1+0=o+k;omega
  rw[e1]at this;exact this
 .rw[dW (by omega),dW (by omega)];rfl):p:=h
def dl(h:p:=by refine go ?_;exact aU (k+1,v5,zs) (by show lists.length - (k+1)<lists.length - k;omega) ⟨by show i+1<=k+1;omega,by show k+1<=_;omega,skip ho⟩):p:=h
def dr(h:p:=by
 refine LJ hn hg hx hi (by omega) (by omega) ?_;have hbS:b∈S:=by rw[e,e2];simp
 refine Jc hn2 (hg2 _) (by show lk _ d=_;simp[lk]) ⟨(h3 b hbS).2.1,hb⟩ hc (next _ _ y w ⟨s.agree,s.le,s.fH,s.own,λf hf=>?_⟩);rcases bH.1 hf with rfl|hf
 .exact u2 _ (bA.2 rfl)
 .exact s.facts f hf):p:=h
def dy(h:p:=by
 refine aO ?_ ?_<;>intro h3
 .refine bF ?_;rw[nS,Df hkx xA (by omega),if_pos (by omega)];rfl
 refine aO ?_ ?_<;>intro h4
 .refine bF ?_;rw[nS,Df hkx xA (by omega),if_neg (by omega),if_pos (by omega)];rfl
 refine bF ?_;rw[nS,Df hkx xA (by omega),if_neg (by omega),if_neg (by omega)];rfl):p:=h
def eo(h:p:=by obtain⟨rfl,rfl⟩:=hr;rw[ha]at hx;refine Good.same hW (v':=ρ' x) ?_ hx;obtain⟨fn',f',c',h1,_,_,e⟩:=hx.Cg;cases h1;simp[execOp,e]):p:=h
def ew(h:p:=by rw[jL hlt]at hk;obtain⟨y',q1,q2⟩:=h2 k z hk;refine⟨y',λj u hj=>?_,q2⟩;rw[eB];have:=q1 j u hj;rw[jL (aV.1 this).1];exact this):p:=h
def ez(h:p:=by refine go ?_;refine Vo rfl ?_;refine go ?_;exact gQ ⟨.slice a1 G.length c1,.slice a2 cl.length c2,G,cl,false⟩ (λh=>by cases h)):p:=h
def eA(h:p:=by
 rw[hf]at hr;simp only[cond_true]at hr;split at hr
 .rename_i u hu;simp only[aN,dH]at hr;obtain⟨rfl,rfl⟩:=hr;obtain⟨h1,h2⟩:=IA hu;have hx':=hx.rM hf;exact Good.same hW (v':=u) (by simp only[execOp,hx',dM,Cf h1 w,dR,fG]) (VR.free h2)
 .cases hr):p:=h
def eC(h:p:=by
 rename_i kt et hu;cases hc;simp only[aK.run]at hr;split at hr
 .rename_i h2 hh;simp only[aN,dH]at hr;obtain⟨rfl,rfl⟩:=hr;obtain⟨w',r1,r2,r3⟩:=WU hu hh hm hk hx hW;exact⟨.skip,w',β,undef,WG r1,.inr ⟨rfl,rfl⟩,.dX _,r2,r3⟩
 .cases hr):p:=h
def eE(h:p:=by
 intro cl hcl;obtain⟨dd,op,ty,ps,af,gd⟩:=o;simp only at hcl;subst hcl;obtain⟨callee,args,ats⟩:=cl;cases callee with
 |value f=>simp only[cop,aN]at iC;rw[<- iC]at hl;cases hl
 |invoke x n=>simp[cop]at iC
 |builtin bb=>simp[cop]at iC):p:=h
def eI(h:p:=by show(match l7 Tryz.prog .neq 20 (.tmp 4) (.const .nilIface) .nilIface .nilIface with|some v=>some (v,h)|none=>none)=_;rw[show l7 Tryz.prog .neq 20 (.tmp 4) (.const .nilIface) .nilIface .nilIface=some (.bool false)by kernel_rfl]):p:=h
def eJ(h:p:=by exact aU (i+1) (by omega) (by omega)):p:=h
def eK(h:p:=by
 rw[show ys.drop k=[]from vz (by omega)];by_cases e:ys.length<xs.length
 .rw[if_neg (by omega),if_pos e];have:k<xs.length:=by omega
  rw[nH this];rfl
 .rw[if_neg (by omega),if_neg e,show xs.drop k=[]from vz (by omega)];rfl):p:=h
def eM(h:p:=by unfold fo dx;simp only[xg];split<;>split at *<;>(try split at *)<;>(try split at *)<;>(try split at *)<;>omega):p:=h
def eN(h:p:=by refine go ?_;exact aU (j+1) (by omega) (by omega)):p:=h
def eR(h:p:=by
 rw[show xs.drop k=[]from vz (by omega)];by_cases e:xs.length<ys.length
 .rw[if_pos e];have:k<ys.length:=by omega
  rw[nH this];rfl
 .rw[if_neg e,if_neg (by omega),show ys.drop k=[]from vz (by omega)];rfl):p:=h
def eV(h:p:=by have h1:(bK (ig (fJ (bI g)) p.2 (fD.take (eO g)))).length=(ig (fJ (bI g)) p.2 (fD.take (eO g))).length:=(Ah _ _).length_eq;have h2:=Nt (fJ (bI g)) p.2 (fD.take (eO g));have h3:=EE g;rw[fU]at h2;omega):p:=h
def eW(h:p:=by refine go ?_;have e0:cO aY aC=cO aY aC++[]:=(gW _).symm;rw[e0];refine Nj aY (aC:=aC) hf (aZ _) ?_ (hall (by simp) λp hp=>hp);exact gQ (.slice (some ⟨b,0,some f⟩) aC.length aC.length) trivial):p:=h
def e9(h:p:=by exact .of_steps (t1.trans (.one hs)) (ih ops bR hv rest (i::done) (i::S') og hds β0 h0 w0 kW jX cs0 β' w' b _ df k cs ρ' hG hdom hcx hI2 r4 (by rw[yg];exact hcs.mono t0) (by rw[yj];exact hro))):p:=h
def fb(h:p:=by
 by_cases e:m=n
 .subst e;simp
 .rw[if_neg (by omega),if_neg (by omega)]):p:=h
def fc(h:p:=by obtain⟨v2,hv2,hr⟩:=hv.get (bG hjl);rw[hv2]at hj;cases hj;have hc:=(jy.1 hall) _ (wo hjl);obtain⟨a,b⟩:=hr.cellV hc;cases v<;>first|rfl|exact absurd rfl (a _)|exact absurd rfl (b _)):p:=h
def ff(h:p:=by unfold lN;rw[fP,F9 (by intro c e;cases e) (by intro e;cases e)];simp only[iL,binOp];rw[fP,he];rfl):p:=h
def fg(h:p:=by exact sV () rfl trivial trivial):p:=h
def fh(h:p:=by
 cases g with
 |none=>cases hg
 |some p=>
  obtain⟨t,w⟩:=p;rw[I8];simp only[F4]at hg;split at hg
  .rename_i b hb;rw[hb];cases w<;>cases b<;>simp_all
  .rename_i b hb;rw[hb]
  .cases hg):p:=h
def fk(h:p:=by refine go ?_;exact O4 rfl ⟨(λh=>by cases h),λh=>absurd h.2 hno⟩ rfl rfl (by repeat (first|exact aB.here|apply aB.there)) (by repeat (first|exact aB.here|apply aB.there))):p:=h
def fp(h:p:=by refine go ?_;exact O4 rfl ⟨(λh=>by cases h),λh=>absurd h.1 hno⟩ rfl rfl (by repeat (first|exact aB.here|apply aB.there)) (by repeat (first|exact aB.here|apply aB.there))):p:=h
def fL(h:p:=by
 have uA:zl.pending=none:=uA;have hto:(zl.pending.map Item.code).toList++k=k:=by rw[uA];rfl
 rw[hto]at hst;exact⟨.normal,a1,_,β3,_,tm,uz,cs,l3,y1,hE.trans y2,hA3,hcs,e4,hst⟩):p:=h
def fN(h:p:=by
 show cond (Nat.ble h.low i) h.low i=_;cases hb:Nat.ble h.low i with
 |true=>have:=pq hb;simp;omega
 |false=>have:¬h.low<=i:=λhh=>by rw[KE hh]at hb;cases hb
         simp;omega):p:=h
def fR(h:p:=by
 unfold sizeOf typeInfo;cases hi:P.info? e with
 |none=>rw[hi]at hs;cases hs
 |some i=>
  rw[hi]at hs;have hs:i.size=1:=by simpa using hs
  simp only[fP,Jz,iL,hi];rw[<- hs];rfl):p:=h
def fS(h:p:=by
 rcases hcx.round with⟨_,hb⟩|⟨l,g,hl,_⟩
 .exact hb
 .rw[<- hro,IW]at hl;cases hl):p:=h
def fW(h:p:=by rw[sO hn];exact⟨u,h2,by rw[pY];exact e1,λd' hd=>by rw[<- e2 d' hd];exact yo _ _⟩):p:=h
def gb(h:p:=by rw[show min (b:Int).toNat 64=b by simp;omega,Pq];congr 2;rw[show((2:Int)^b)=((2^b:Nat):Int)by simp,Int.fdiv_eq_ediv_of_nonneg _ (Int.natCast_nonneg _)];simp):p:=h
def gf(h:p:=by have hs1:step s x=((step s x).1,false):=Prod.ext rfl hst;rw[hs1]at hrun;dsimp only at hrun;refine go ?_;exact gQ xs rfl (hk:=by rw[<- hrun];exact aF.all _)):p:=h
def gg(h:p:=by
 apply iH;intro k;rw[bU];by_cases hk:k<xs.length
 .have hk':k<l.length:=by omega
  rw[bG hk',lq,(hp k l[k] (bG hk')).1]
 .rw[dW (by omega),dW (by omega)];rfl):p:=h
def gj(h:p:=by refine go ?_;exact gQ false (hR _ ⟨(λh=>by cases h),λh=>by exfalso;omega⟩)):p:=h
def gk(h:p:=by
 have hn:(fn.name== "runtime.NumGoroutine")=false:=by simpa using hname
 simp only[callFunc,dM,run_program,dR,hfn,hn,hb,Option.isNone_some,ww,if_false,fG]):p:=h
def gx(h:p:=by exact⟨⟨⟨by omega,by omega,by omega,by omega,hB.Bp,hB.holes,hB.Bq⟩,hB.dw,hB.dh,by omega⟩,⟨hB.gw,hB.gh,by omega,by omega⟩,hB.aP,hB.lists⟩):p:=h
def gA(h:p:=by rw[hle (show Nat.mul (m+(k+1)) bytes<=small from hm.1),hle (show Nat.mul (m+(k+1)) size<=small from hm.2.1),hle (show m+(k+1)<=small from hm.2.2)];rfl):p:=h
def gE(h:p:=by exact ih ops bR hv rest (i::done) S og hds β0 h0 w0 kW jX cs0 β w b tm df k cs ρ hG hdom hcx hI2 hR (by rw[yg];exact hcs) (by rw[yj];exact hro)):p:=h
def gO(h:p:=by
 unfold ze at hz;split at hz
 .rename_i z' n' hz' _;obtain⟨i',j1,j2,_⟩:=FI hz';rw[h1]at j1;cases j1;rw[h2]at j2;cases j2;exact hz'
 .cases hz):p:=h
def gR(h:p:=by
 have hno:¬bE k:=λh=>by have:=hb.2 h;cases this
 dsimp only[cond];refine go ?_;exact gQ 180 ⟨λ_=>rfl,λh=>absurd h hno,λh=>absurd h hno⟩):p:=h
def hJ(h:p:=by
 intro v pm h2 hm;dsimp only at hm;split at hm
 .rename_i lp hlp;split at hm
  .cases hm
  .rename_i hs;exact⟨lp,hlp,λe=>hs e,hm⟩
 .cases hm):p:=h
def hU(h:p:=by
 refine go ?_;refine aU (k+1) (by omega) ⟨by omega,λj hj=>?_⟩;by_cases e:j=k
 .subst e;rw[hx,hy,kv.1 h3]
 .exact hsame j (by omega)):p:=h
def ia(h:p:=by simp only[aN,dH]at hr⊢;exact⟨hr.2.symm,hr.1⟩):p:=h
def ii(h:p:=by
 refine hW.inj _ _ _ _ hk hm ?_ ?_ hr he
 .split at hj
  .exact absurd rfl hj
  .exact hj
 .split at hl
  .exact absurd rfl hl
  .exact hl):p:=h
def ij(h:p:=by
 obtain⟨cs,r,⟨e,_⟩|⟨_,e⟩⟩:=h
 .rw[ha]at e;cases e
 .obtain⟨a,y,q0,q⟩:=hr w H d cs hz r;exact⟨a,y,by rw[<- q0,e],q⟩):p:=h
def ir(h:p:=by subst this;intro e;subst e;exact hm2 ha):p:=h
def iu(h:p:=by rw[DI];exact List.Pairwise.imp (λh=>by omega) List.pairwise_lt_range):p:=h
def iv(h:p:=by rw[y9 hxb.1];exact⟨Fj hxb.1 (by omega),Int.ediv_le_self _ hxb.1⟩):p:=h
def iS(h:p:=by rw[vN (by rw[w9];exact h)]at hy;subst hy;cases e):p:=h
def jn(h:p:=by
 have hbc:jD b c=0\/0<jD b c:=by omega
 rcases hbc with z|z
 .rw[(yx.zero b c).1 z]at h1;exact h1 q
 .exact h2 ((yx.neg c b).2 z)):p:=h
def jp(h:p:=by exact gQ ⟨v4,0⟩ ⟨λ_=>⟨hg,by omega,by omega⟩,λ_=>rfl⟩):p:=h
def js(h:p:=by
 obtain⟨v,hv⟩:=JL h;have e:jJ true zero a aA=.tuple ⟨[v,.bool true]⟩:=by unfold jJ;rw[hv];rfl
 rw[e];exact hit v hv h):p:=h
def jt(h:p:=by
 obtain⟨cs,r,⟨_,e⟩|⟨e,_⟩⟩:=h
 .obtain⟨a,y,rfl,q⟩:=hr w H d cs hz r;exact⟨a,y,e,q⟩
 .rw[ha]at e;cases e):p:=h
def ju(h:p:=by
 cases h:Nat.beq (m%2) 0 with
 |true=>simp[tZ h]
 |false=>simp[Hz h]):p:=h
def jx(h:p:=by simp only[zB];exact⟨λv hv l hl n hn hi=>hcl v (by simpa using hv) l hl n hn hi,(by simp),(by simp),(by simp)⟩):p:=h
def jz(h:p:=by
 refine aO ?_ ?_<;>intro h2
 .refine bF ?_;rw[dx,if_neg h1,if_pos h2];rfl
 refine bF ?_;rw[dx,if_neg h1,if_neg h2];rfl):p:=h
def j0(h:p:=by have h4:=(hn z y).2 (by omega);have h5:=(hn y x).2 (by omega);have h6:=ht z y x h4 h5;have h7:=(hn z x).1 h6;omega):p:=h
def j7(h:p:=by unfold part;rw[fP,hag];show dK P (match xs[o]? with|some v=>pure v|none=>stuck "part: no such cell")=_;rw[hx];rfl):p:=h
def j8(h:p:=by
 rw[dW (by rw[aR,nG];omega),dW (by rw[aR,nG];omega)];by_cases e:j=i
 .rw[if_pos e,if_neg (by omega)]
 .rw[if_neg e]):p:=h
def j9(h:p:=by refine gC (abW (d:=k.decl) hB.Bq hB.Bp) λb hb=>?_;refine go ?_;exact gQ b (λh=>⟨hb h,by omega,by omega⟩)):p:=h
def ki(h:p:=by
 intro o a' h' hm hn;cases o with
 |normal=>exact absurd rfl hn
 |exit _=>exact hm
 |ret=>exact hm
 |panic _=>exact hm):p:=h
def kj(h:p:=by have:=h3 i (nD _ hi);refine⟨this.1,this.2.1,λhz=>hz.elim this.2.2 λhm=>?_⟩;exact hnd.2.2 i hm i hi rfl):p:=h
def kp(h:p:=by exact⟨rr,h2',β2,w2,F2,r2,p1,p2,q3.trans p3,p4,(Steps.head s1 (e2.trans (.one s2))).trans p5,p6,p7,p8⟩):p:=h
def kq(h:p:=by
 induction l with
 |nil=>exact .nil
 |cons x l ih=>exact .cons (h x (by simp)) (ih λy hy=>h y (by simp[hy]))):p:=h
def kx(h:p:=by
 match a,hv,hg with
 |none,hv,_=>exact h0 e c hv w s
 |some ⟨i,o,some f⟩,hv,_=>exact h1 e i o f c hv w s):p:=h
def li(h:p:=by refine go ?_;refine aU (k+1) (by omega) ⟨by omega,?_⟩;rw[fF hx,List.any_append,hno];simpa using h2):p:=h
def lj(h:p:=by show dA step s0 (di++[yy]++rest)=_;rw[List.append_assoc,hrun];show dA step bX (yy::rest)=_;rw[dA,hs1]):p:=h
def lz(h:p:=by
 have e:jJ true zero a aA=.tuple ⟨[zero,.bool false]⟩:=by unfold jJ;rw[vN h];rfl
 rw[e];exact miss h):p:=h
def lA(h:p:=by rw[<- List.append_assoc,<- List.append_assoc];exact List.Perm.append_right T2 List.perm_append_comm):p:=h
def lB(h:p:=by exact absurd (hW.dom _ _ hk) (by omega)):p:=h
def lE(h:p:=by obtain⟨v0,_,h0⟩:=a7 j v hj;obtain⟨v',h1,h2⟩:=b7 j v hj;exact⟨v',h1,h0.restrict hle h2⟩):p:=h
def lO(h:p:=by
 split at hl
 .exact⟨_,.inl (by assumption),hl⟩
 .exact⟨_,.inr (by assumption),hl⟩
 .cases hl):p:=h
def lP(h:p:=by rw[hat.cX.jd,qp,qJ,Ad,yX,if_pos (by omega),<- hlen,fu]):p:=h
def lR(h:p:=by
 rcases a with⟨rfl,a,m,c,rfl,rfl⟩|⟨i,o,f,c,cs,h1,_⟩
 .exact⟨a,c,rfl⟩
 .exact⟨_,c,h1⟩):p:=h
def mc(h:p:=by exact gQ (.slice (some ⟨b,0,some 0⟩) 0 0) trivial):p:=h
def me(h:p:=by
 cases o with
 |normal=>exact absurd rfl hn
 |_=>exact hm):p:=h
def mj(h:p:=by simp[binOp,Op.intCmp,wL,<- Int.not_le]):p:=h
def mm(h:p:=by simp only[aN,dH,Aa]at hr;simp only[hr]):p:=h
def mu(h:p:=by intro h;rw[Bd h]at hy;subst hy;cases e):p:=h
def mw(h:p:=by
 have hx:jG r.kind=⟨true,false,false,false,false,true,true,0⟩:=by rw[hk];rfl
 clear hk;exact vW):p:=h
def mz(h:p:=by
 have hx:jG r.kind=⟨false,true,false,false,false,true,true,0⟩:=by rw[hk];rfl
 clear hk;exact vW):p:=h
def mA(h:p:=by refine go ?_;refine(cZ rfl rfl (Gf rfl rfl)).h ?_;refine go ?_;exact gQ (min n 2001) (by omega)):p:=h
def mB(h:p:=by intro v v0 v1;have r:=ht.inv.at_ v0 v1;have:=h _ r.1 r.2;rw[ht.GI v0 v1]at this;exact this.symm):p:=h
def mC(h:p:=by simp only;rw[<- hf];refine step_lone_go ?_;rw[Ec ho hw (.inl hro)];simp[stepG.apply,hr,hre,ht]):p:=h
def mL(h:p:=by
 exact h1 (by
  apply Classical.byContradiction;intro hn;have h3:=yx.trans b c a e q;exact hn h3)):p:=h
def mN(h:p:=by simp only[execOp,Instr.sliceAt,Instr.slice,dM,gz hu,dR,hx',e1,e2,e3,b1,pF hs1,fG];split<;>rfl):p:=h
def mS(h:p:=by intro v v0 v1;have r:=ht.at_ v0 v1;rw[xk v0 (by rw[ht.len];exact v1),h2 _ r.1 r.2,h _ v0 v1]):p:=h
def mT(h:p:=by simp only[kg]at hc;obtain⟨_,_,rfl⟩:=hc;simp only[aK.run,aK.alloc,h0,h1,h2,h3,and_self]):p:=h
def nh(h:p:=by
 rw[xM,jQ,jQ];by_cases e:jD b a<0
 .right;intro q;have:=(yx.neg b a).1 e;omega
 .exact .inl e):p:=h
def nj(h:p:=by refine go ?_;exact gQ false ⟨(λh=>by cases h),λh=>by exfalso;have:=h.fB s hsm;omega⟩):p:=h
def nl(h:p:=by
 by_cases hx:aC=[]
 .subst hx;exact h1 rfl i o f c hv w s
 .exact h2 (Fb.2 hx) i o f c hv w s):p:=h
def nn(h:p:=by apply Classical.byContradiction;intro hc;exact hb λj k hk hj hkb=>hc ⟨j,k,hk,hj,hkb⟩):p:=h
def nq(h:p:=by rintro r pm h' ⟨hp,w',y,e1,st,e2,_⟩;exact⟨hp,w',(),e1,back w' _ _ st,e2,trivial⟩):p:=h
def nr(h:p:=by exact Nat.pow_lt_pow_right (by omega) (by omega)):p:=h
def nt(h:p:=by apply Classical.byContradiction;intro hc;exact hx λi g hi hg hb=>hc ⟨i,g,hi,hg,hb⟩):p:=h
def nv(h:p:=by obtain⟨v,h1,h2,h3⟩:=hm;cases he;have h2:a.defers=[]:=h2;rw[h2];exact .ret v h1 h3):p:=h
def nw(h:p:=by rw[h3]at e;exact Option.some.inj e):p:=h
def nB(h:p:=by show dK P (Instr.checkKey b (9999+1) kt _)=_;unfold Instr.checkKey;rw[fP,qy hu];rfl):p:=h
def nF(h:p:=by cases hk;rw[if_pos rfl]at hx;cases hx;exact ho):p:=h
def n5(h:p:=by subst hn;simp only[fr]at he' hcall⊢;simp[stepG,stepG.exec,he',stepG.apply,hcall]):p:=h
def n9(h:p:=by
 have:∀k:ae aI,Sub k k:=λk=>by
  have:=Sub.refl' k [];simpa using this
 exact this _):p:=h
def oa(h:p:=by
 match vs with
 |[]=>rfl
 |[v]=>rfl
 |_::_::_=>rfl):p:=h
def oc(h:p:=by simp only[aN]at hc;exact hc.symm):p:=h
def od(h:p:=by
 rcases bH.1 hk with rfl|hk
 .exact dB _ (hpre j hj)
 .exact dB _ (hcl k hk j hj)):p:=h
def oe(h:p:=by obtain⟨w,h4,h5⟩:=hcls u hu2;exact⟨w,by rw[jL (by omega)];exact h4,h5⟩):p:=h
def ov(h:p:=by
 rcases fq.1 hx with hx|hx
 .exact Bl hsy x hx
 .exact(bD.ident m).dJ x (xK hx)):p:=h
def ox(h:p:=by have:=s.lF hk;exact⟨this.agree,this.le,this.fH,this.own,hF w this.facts⟩):p:=h
def oy(h:p:=by
 cases es with
 |nil=>rfl
 |cons e es=>cases h):p:=h
def oA(h:p:=by have:=congrArg List.length (Jd ss cs hsum);rw[aR]at this;rw[this];simp[ss]):p:=h
def oB(h:p:=by
 cases he:eY mk (j:Nat)with
 |false=>rfl
 |true=>exact absurd ⟨j,hj,he⟩ hex):p:=h
def oE(h:p:=by rw[nH (by omega)];congr 1;rw[bG (by omega)]at hx;exact Option.some.inj hx):p:=h
def oR(h:p:=by
 induction h with
 |nil=>exact .nil
 |cons h1 _ ih=>exact .cons (.there h1) ih):p:=h
def oS(h:p:=by
 rcases uW g.b w.heap.size with hh|hh
 .exact hh
 .rw[uX hh]at o1;cases o1):p:=h
def oT(h:p:=by
 rcases fq.1 hx with hx|hx
 .exact Bl hsy x hx
 .exact(bD.ident m).dJ x hx):p:=h
def pb(h:p:=by obtain⟨body,hb⟩:=KJ.1 h5;exact⟨fn,body,h3,hb,by simpa using h4⟩):p:=h
def pe(h:p:=by rw[gW];exact List.Perm.append_right S2 (List.Perm.append_left T1 v2)):p:=h
def ph(h:p:=by
 cases hb:Nat.ble (m+(k+1)) m with
 |false=>rfl
 |true=>have:=pq hb;omega):p:=h
def pn(h:p:=by show(w.h.new _).get b=_;rw[IH.jq,if_neg (by have:=w.nN b hz;omega)]):p:=h
def po(h:p:=by have:=OR.Ir (P:=P) (w:=w) t (hcs.mono hle) hc [] 0;simpa using this):p:=h
def pw(h:p:=by exact this.imp (λh=>by simpa using h)):p:=h
def px(h:p:=by
 intro g hg;rcases fq.1 hg with hg|hg
 .exact q2 g hg
 .exact u2 g hg):p:=h
def py(h:p:=by show ok (xs.take (k+1)) _;rw[fF hx];exact hok _ s _ _ hos hX hst):p:=h
def pA(h:p:=by refine go ?_;exact gQ c2 trivial (hk:=by exact .cons .here .nil)):p:=h
def pB(h:p:=by rw[if_pos ⟨by simp,by simp;omega⟩];simp[pF hs1,addr_add,l5]):p:=h
def pC(h:p:=by refine go ?_;exact bad (λq=>by have:=q.wi;omega) rfl rfl .here):p:=h
def pD(h:p:=by refine go ?_;exact bad (λq=>by have:=q.he;omega) rfl rfl .here):p:=h
def pH(h:p:=by intro e;subst e;rw[hi]at hb;cases hb):p:=h
def pL(h:p:=by have:=hK.typ.lim.r;rw[hK.lists];unfold oq;rw[eF,aR,nG,aR];omega):p:=h
def pN(h:p:=by exact⟨j,by omega,h2,h3⟩):p:=h
def pP(h:p:=by refine go ?_;exact gQ false (Dt.not hx (λq=>by omega) _ rfl)):p:=h
def pS(h:p:=by exact gQ (.slice none 0 0,110) (hend λh=>by have:=h.1;omega)):p:=h
def pT(h:p:=by rw[h2,<- h.decl]at this;exact this):p:=h
def pZ(h:p:=by obtain⟨t1,t2,fn,t3,t4⟩:=e5;exact⟨t1,t2,e4,fn,t3,t4⟩):p:=h
def p0(h:p:=by exact gQ (.slice none 0 0) trivial):p:=h
def qe(h:p:=by refine go ?_;exact M0 () (hv:=rfl) (hm:=rfl) (hp:=trivial)):p:=h
def qk(h:p:=by obtain⟨gm,a,b⟩:=o3.FN;exact⟨gm,a,by simpa using b⟩):p:=h
def qn(h:p:=by simp only[execOp,resolve,k4,Deferred.ofValue,dM,fG,dR,he]):p:=h
def qq(h:p:=by rw[hk]at this;simp[jI,hk,this.mP]):p:=h
def qt(h:p:=by
 induction n with
 |zero=>rfl
 |succ n ih=>rw[xO,fA,<- ih];rfl):p:=h
def qu(h:p:=by show(match (0:Nat)with|0=>some ([]:ae ah)|_=>none)=_;rfl):p:=h
def qv(h:p:=by
 rcases bH.1 hf with rfl|hf
 .exact jl _ hm
 .exact nD _ hf):p:=h
def qS(h:p:=by
 rcases bH.1 h with rfl|h
 .exact dD ..
 .exact dB _ (Sz h)):p:=h
def qT(h:p:=by unfold Op.equalIn;rw[fP,qy h];simp only[iL,if_true];rfl):p:=h
def rh(h:p:=by refine Ac.2 ⟨λhm=>?_,h2⟩;have:=(h3 _ hm).2.1;omega):p:=h
def ri(h:p:=by
 rcases Nat.mul_eq_zero.1 h0 with hh|hh
 .exact hh
 .omega):p:=h
def rj(h:p:=by injection hpq with e1 e2;exact Prod.ext (inj _ _ e1) e2):p:=h
def rp(h:p:=by
 rcases(h3 i (jl _ hz)).1 with q|q
 .omega
 .exact .inr q):p:=h
def rB(h:p:=by exact⟨.value v',w',β',v',Au r1,.inl rfl,r2,r3,r4⟩):p:=h
def rI(h:p:=by rw[bA.1 hf];exact h _ (by simp)):p:=h
def rK(h:p:=by
 rcases hb.1 with q|q
 .omega
 .intro e;exact hB (e▸q)):p:=h
def rL(h:p:=by
 rcases KI E.n with h0|h0
 .rw[h0]at hj;omega
 .exact h0):p:=h
def rN(h:p:=by show(w.heap.push o')[b]? =_;rw[KF,if_neg (by omega)]):p:=h
def rS(h:p:=by rintro t ⟨y,p,_,_,hp',mQ⟩;exact hds y p t hp' mQ):p:=h
def r7(h:p:=by
 rcases bH.1 hy with rfl|hy
 .exact r2
 .exact r3 y hy):p:=h
def r8(h:p:=by have:=Pv (hc i) hi;exact⟨(aV.1 this).1,gJ this⟩):p:=h
def sg(h:p:=by exact hall i' (by omega) x hx'):p:=h
def sk(h:p:=by rw[hu]at hok;obtain⟨c,e,_⟩:=hok;exact⟨c,e⟩):p:=h
def sq(h:p:=by refine go ?_;exact gQ false (hno (by omega) _ rfl)):p:=h
def sv(h:p:=by refine bF ?_;rw[bY (λe=>k7 (by cases e;rfl))];rfl):p:=h
def sx(h:p:=by refine bF ?_;rw[bY (λe=>k6 (by cases e;rfl))];rfl):p:=h
def sA(h:p:=by refine bF ?_;rw[bY (λe=>k5 (by cases e;rfl))];rfl):p:=h
def sB(h:p:=by refine bF ?_;rw[bY (λe=>k4 (by cases e;rfl))];rfl):p:=h
def sC(h:p:=by refine bF ?_;rw[bY (λe=>k3 (by cases e;rfl))];rfl):p:=h
def sE(h:p:=by refine bF ?_;rw[bY (λe=>k2 (by cases e;rfl))];rfl):p:=h
def sL(h:p:=by
 rcases q6 with h6|h6
 .exact .inl h6
 .exact .inr h6):p:=h
def sR(h:p:=by
 cases r with
 |none=>simp[FJ hz,IG]
 |some p=>simp[IG]):p:=h
def sX(h:p:=by
 refine gH ?_ ?_<;>intro t1
 .exact cH
 refine gC (Uo (xs:=k.aP) n1 n2) λm hm=>?_;refine gH ?_ ?_<;>intro t2
 .exact cH
 refine gH ?_ ?_<;>intro t3
 .exact cH
 refine gH ?_ ?_<;>intro t4
 .exact cH
 exact j9):p:=h
def sY(h:p:=by
 rw[hagg]at hr;simp only at hr⊢;split at hr
 .rename_i l hl;try rw[hl]
  exact ia
 .cases hr):p:=h
def s6(h:p:=by omega):p:=h
def s7(h:p:=by simp):p:=h
def s8(h:p:=by kernel_rfl):p:=h
def s9(h:p:=by repeat (first|exact aF.nil|(apply aF.cons;(focus (repeat (first|exact aB.here|apply aB.there)))))):p:=h
def ta(h:p:=by simp[Op.operands]):p:=h
def tb(h:p:=by first|exact rfl|(conv=>lhs;whnf)):p:=h
def tc(h:p:=by simp;omega):p:=h
def td(h:p:=by decide):p:=h
def tf(h:p:=by simpa using h):p:=h
def tg(h:p:=by simpa using hx):p:=h
def th(h:p:=by simp[stepG,stepG.exec,fr]):p:=h
def tj(h:p:=by rw[lu];omega):p:=h
def tn(h:p:=by rw[h1];exact bA.2 rfl):p:=h
def tr(h:p:=by cases e;rfl):p:=h
def tt(h:p:=by simpa using e):p:=h
def tv(h:p:=by rw[hk];rfl):p:=h
def tw(h:p:=by rw[fU];omega):p:=h
def tx(h:p:=by intro e;rw[e]at h;cases h):p:=h
def tD(h:p:=by show k+1<=_;omega):p:=h
def tE(h:p:=by rw[hf];simp):p:=h
def tG(h:p:=by simp[h]):p:=h
def tI(h:p:=by simpa using h1):p:=h
def tM(h:p:=by simpa[wy]using hb):p:=h
def tP(h:p:=by simp[ha]):p:=h
def tR(h:p:=by rw[e2];exact hw):p:=h
def tS(h:p:=by simpa[qm]using hb):p:=h
def tU(h:p:=by rw[aR];omega):p:=h
def tW(h:p:=by rw[hh];exact h2):p:=h
def ua(h:p:=by simpa using h2):p:=h
def uc(h:p:=by rw[kK];omega):p:=h
def ur(h:p:=by subst hy;simp[Op.operands]):p:=h
def us(h:p:=by rw[yj];exact hro):p:=h
def uv(h:p:=by apply Array.ext';simp):p:=h
def ux(h:p:=by rw[ho]):p:=h
def u9(h:p:=by show i+1<=_;omega):p:=h
def wc(h:p:=by rw[hgn];omega):p:=h
def we(h:p:=by simpa using hz):p:=h
def wg(h:p:=by apply Array.ext';exact ha):p:=h
def wk(h:p:=by simp[e]):p:=h
def wl(h:p:=by rw[hop];rfl):p:=h
def wq(h:p:=by simp[hi]):p:=h
def wx(h:p:=by rw[pY];exact hr):p:=h
def wA(h:p:=by intro e;cases e):p:=h
def w7(h:p:=by rw[e];simp):p:=h
def w8(h:p:=by simpa using hnd):p:=h
def xa(h:p:=by simpa using hc):p:=h
def xb(h:p:=by show h1 - l<=m - l;omega):p:=h
def xf(h:p:=by simp only[Op.operands,List.mem_toArray,bS];exact⟨p,hp,rfl⟩):p:=h
def xj(h:p:=by rw[<- hdst];exact hdd):p:=h
def xo(h:p:=by rw[put_defers];exact t2.act.defers):p:=h
def xp(h:p:=by rw[h1];simp):p:=h
def xF(h:p:=by simpa using hl):p:=h
def x6(h:p:=by intro r hr;cases hr):p:=h
def x7(h:p:=by rw[sO hn];exact next):p:=h
def ya(h:p:=by rw[h3];exact bA.2 rfl):p:=h
def yb(h:p:=by simp only[target,jW,gW]):p:=h
def ye(h:p:=by dsimp only;omega):p:=h
def yp(h:p:=by rw[tH];omega):p:=h
def yq(h:p:=by have:=((vI vH).zero x.values x.values).2 rfl;omega):p:=h
def yW(h:p:=by rw[h.len];omega):p:=h
def zc(h:p:=by rw[w9];exact hm):p:=h
def zd(h:p:=by repeat (first|exact aB.here|apply aB.there)):p:=h
def zj(h:p:=by simp[iU,dG,Ideal.cellV]):p:=h
def zp(h:p:=by rw[ku];omega):p:=h
def z6(h:p:=by rw[aR,fU];omega):p:=h
def z7(h:p:=by show j+1<=_;omega):p:=h
def An(h:p:=by show xs.length - (k+1)<xs.length - k;omega):p:=h
def As(h:p:=by rw[<- hxy,aR]):p:=h
def AD(h:p:=by rw[Dj];rfl):p:=h
def AE(h:p:=by simp[Act.eval,Act.put]):p:=h
def AF(h:p:=by rw[kK];exact aZ _):p:=h
def AG(h:p:=by simpa using hi):p:=h
def AH(h:p:=by simpa[dG]using h):p:=h
def AI(h:p:=by rw[e2];exact q1):p:=h
def AK(h:p:=by rw[<- IU];exact hdd):p:=h
def AM(h:p:=by simp[Op.operands,Call.operands]):p:=h
def AN(h:p:=by simp at hk;omega):p:=h
def AS(h:p:=by rw[hget];simp):p:=h
def AT(h:p:=by rw[hx];exact hread):p:=h
def AW(h:p:=by intro c e;cases e):p:=h
def A0(h:p:=by rw[hg.cells];exact Sb _ _):p:=h
def Bk(h:p:=by intro e;rw[e]at hl;cases hl):p:=h
def Bm(h:p:=by show Value.bool _=_;rw[uO]):p:=h
def Bs(h:p:=by show m - (k+1)<m - k;omega):p:=h
def Bx(h:p:=by show k+1<=m;omega):p:=h
def By(h:p:=by rw[<- hrun];exact aF.all _):p:=h
def BE(h:p:=by intro s x lo o B w0;refine go ?_;intro b8;refine go ?_;exact CK b8 rfl):p:=h
def BT(h:p:=by show lb.length - (k+1)<lb.length - k;omega):p:=h
def BW(h:p:=by show d.rules.length - (k+1)<d.rules.length - k;omega):p:=h
def BY(h:p:=by unfold Bu;omega):p:=h
def B0(h:p:=by rw[<- hgn];exact hf):p:=h
def B7(h:p:=by rw[eF,aR];omega):p:=h
def B8(h:p:=by unfold lg;simp[c0]):p:=h
def B9(h:p:=by unfold lg;simp[c4]):p:=h
def Cd(h:p:=by unfold lg;simp[c5]):p:=h
def Cl(h:p:=by rw[hil];omega):p:=h
def Cp(h:p:=by rw[IntKind.wrap_i64];omega):p:=h
def CA(h:p:=by exact aB.here):p:=h
def CC(h:p:=by rw[hr];first|exact aF.all _|exact aF.self _ _):p:=h
def CD(h:p:=by exact .cons .here .nil):p:=h
def CH(h:p:=by simp only[lJ,bH,Ab,or_false]at hf;rcases hf with rfl|rfl|rfl<;>simp):p:=h
def CM(h:p:=by rw[Nat.succ_mul]at hl;omega):p:=h
def CN(h:p:=by cases xd<;>first|rfl|exact absurd rfl (hni _)):p:=h
def C1(h:p:=by simp[stepG,stepG.exec,fr,hr]):p:=h
def C2(h:p:=by rw[put_defers];exact t2.act.defers.mono hle):p:=h
def C3(h:p:=by rw[yg];exact(hcs.mono t0).mono hle):p:=h
def C4(h:p:=by rw[q6];exact hcx.after hle q5):p:=h
def C5(h:p:=by generalize F.defers=d at hd;cases hd;rfl):p:=h
def C6(h:p:=by rw[hget];intro cs e;cases e):p:=h
def C7(h:p:=by simp only[aK.run,aK.alloc,uj]):p:=h
def Dd(h:p:=by first|((with_reducible apply Je);(focus ((conv=>lhs;whnf);(first|done|fail))))|((with_reducible apply LW);(focus ((conv=>lhs;whnf);(first|done|fail))))|((with_reducible apply L6);exact rfl)|((with_reducible apply L9);exact rfl;exact rfl)|((with_reducible apply Ma);exact rfl;exact rfl)|((with_reducible apply Mc);exact rfl;exact rfl)|((with_reducible apply Md);exact rfl;exact rfl)|((with_reducible apply Me);exact rfl;exact rfl)|((with_reducible apply Mf);exact rfl;exact rfl)|((with_reducible apply LZ);exact rfl)|((with_reducible apply LX);exact rfl;(focus ((conv=>lhs;whnf);(first|done|fail))))|((with_reducible apply LY);exact rfl;(focus ((conv=>lhs;whnf);(first|done|fail))))|((with_reducible apply Mh);exact rfl;(focus ((conv=>lhs;whnf);(first|done|fail))))|((with_reducible apply Mi);exact rfl)|((with_reducible apply Mj);exact rfl;(focus ((conv=>lhs;whnf);(first|done|fail))))|((with_reducible apply Mk);exact rfl;(focus ((conv=>lhs;whnf);(first|done|fail))))|((with_reducible apply Ml);(focus ((conv=>lhs;whnf);(first|done|fail))))|((with_reducible apply Mm);exact rfl)|((with_reducible apply Mo);exact rfl)|((with_reducible apply Mq);exact rfl)|with_reducible exact L8|((with_reducible apply Mr);exact rfl;exact rfl;exact rfl)|((with_reducible apply MG);exact rfl;exact rfl;(focus ((omega);(first|done|fail))))|((with_reducible apply Jf);exact rfl;exact rfl;(focus ((omega);(first|done|fail)));(focus ((omega);(first|done|fail))))|((with_reducible apply Ms);exact rfl;exact rfl;(focus ((omega);(first|done|fail)));(focus ((omega);(first|done|fail))))|((with_reducible apply F8);exact rfl;exact rfl;(focus ((omega);(first|done|fail)));(focus ((omega);(first|done|fail))))|((with_reducible apply Mg);exact rfl;exact rfl;(focus ((omega);(first|done|fail)));(focus ((omega);(first|done|fail))))|((with_reducible apply Mx);exact rfl;exact rfl;(focus ((first|assumption|kernel_rfl);(first|done|fail))))|((with_reducible apply MB);exact rfl;exact rfl;(focus ((first|assumption|kernel_rfl);(first|done|fail))))|((with_reducible apply MC);exact rfl;exact rfl)|((with_reducible apply ME);exact rfl;exact rfl)|((with_reducible apply MF);exact rfl;exact rfl;(focus ((omega);(first|done|fail)));(focus ((omega);(first|done|fail))))):p:=h
def Ds(h:p:=by rw[<- (hk2 y).eq,<- (hF2 y).eq];exact back w' _ _ c):p:=h
def DA(h:p:=by rcases ho with rfl|rfl<;>rfl):p:=h
def DB(h:p:=by rw[Fe];exact Nat.div_add_mod j E.n):p:=h
def DE(h:p:=by rw[size_flatK,hd2];exact htn):p:=h
def DG(h:p:=by simp only[fA];exact dB _ h2):p:=h
def DH(h:p:=by have:=(hO.zero x.values x.values).2 rfl;omega):p:=h
def DM(h:p:=by repeat (first|exact trivial|refine⟨rfl,?_⟩)):p:=h
def DO(h:p:=by rw[nY,if_pos rfl,if_pos hk]):p:=h
def DS(h:p:=by intro s x lo o B w0;refine go ?_;have z0:Nat:=0;exact CK z0 rfl):p:=h
def D0(h:p:=by show g.cells.length - (i+1)<g.cells.length - i;omega):p:=h
def D3(h:p:=by show aP.length - (i+1)<aP.length - i;omega):p:=h
def D4(h:p:=by show ln.length - (j+1)<ln.length - j;omega):p:=h
def Ek(h:p:=by show d.regions.length - (k+1)<d.regions.length - k;omega):p:=h
def E0(h:p:=by show aC.length - (k2+1)<aC.length - k2;omega):p:=h
def E3(h:p:=by show k.lists.length - (i+1)<k.lists.length - i;omega):p:=h
def E6(h:p:=by rw[G5 hK hst hka (hQ.right b hb),e2]):p:=h
def E7(h:p:=by show l.length - (i+1)<l.length - i;omega):p:=h
def Fc(h:p:=by repeat (first|exact dD .. |apply dB)):p:=h
def Fi(h:p:=by rw[hdl];simp only[Nat.min_def];split<;>omega):p:=h
def Fk(h:p:=by show 1=_;simp only[Nat.min_def];split<;>omega):p:=h
def Fm(h:p:=by show(kR g.shape).length - (j+1)<(kR g.shape).length - j;omega):p:=h
def Fo(h:p:=by show lists.length - (i+1)<lists.length - i;omega):p:=h
def FG(h:p:=by show gu.length - (i+1)<gu.length - i;omega):p:=h
def Ge(h:p:=by show k.decl.symbols.length - (j+1)<k.decl.symbols.length - j;omega):p:=h
def Gk(h:p:=by rw[List.take_zero,gW];repeat (first|exact aF.nil|(apply aF.cons;(focus (repeat (first|exact aB.here|apply aB.there)))))):p:=h
def GC(h:p:=by show p.length - (i+1)<p.length - i;omega):p:=h
def GF(h:p:=by show turn.length - (j+1)<turn.length - j;omega):p:=h
def GO(h:p:=by rw[gJ (bG hil)];exact wo hil):p:=h
def GP(h:p:=by rw[aR,xC s6];omega):p:=h
def GS(h:p:=by simp only[Op.operands,Call.operands,BU];exact .inr tg):p:=h
def GW(h:p:=by rw[aJ.I7 (FY tS)];exact hi):p:=h
def G0(h:p:=by unfold mI;rw[if_neg s6,if_neg s6,if_neg s6,if_neg s6,if_neg s6,if_pos s6]):p:=h
def G4(h:p:=by rw[<- Ea];exact Jb s6 s6):p:=h
def Hh(h:p:=by simp only[Op.operands,BU];exact .inl tg):p:=h
def Hi(h:p:=by simp only[Op.operands,BU];exact .inr tg):p:=h
def Hj(h:p:=by rw[nY,if_pos rfl,if_pos s6]):p:=h
def Hp(h:p:=by rw[eB,lK,<- pQ,Bz hcl.symm s6,htk]):p:=h
def Hs(h:p:=by rw[<- er];exact Cx rfl rfl td):p:=h
def Hv(h:p:=by rw[eB,lK,<- pQ,Bz rq.symm s6,<- Ny]):p:=h
def Hx(h:p:=by rw[eB,lK,<- pQ,Bz hjl.symm s6,fF hx,cB];rfl):p:=h
def HA(h:p:=by have:=qP (b:=bs) (f:=0) (c:=m) (xs:=fZ (bT k) cl p) (hc:=s6);rw[hfl]at this;exact this):p:=h
