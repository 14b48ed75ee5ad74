/-
  Part Dict.
-/
import Derived.KernelRfl
set_option linter.all false
variable{p:Prop}
def be(h:p:=by
 obtain⟨m,rfl⟩:=jK hi0;refine gX (ay ai) (xs:=L) λ_ _ l' (rT:ah) hl'=>?_;have yM:=Hl l' (aU hl');refine gC (KQ (b:=b10) (vw:=.slice (some ⟨bw,0,some 0⟩) l.length l.length) (w:=img s l) (by rw[hil];omega) l' yM rT) λ_ _=>?_;dsimp only;cases e1:lT l' (img s l)with
 |false=>
  refine aP ?_;rw[Be hl (by
   cases e:qE L s rf eq l j with
   |false=>rfl
   |true=>
    have:=(Bf mW e).2.1;rw[jJ,iR hl',e1]at this;cases this)];rfl
 |true=>
 refine gX (ay ai) (xs:=L) λ_ _ l'' (rT:ah) yN=>?_;rw[hl']at yN;obtain rfl:l'=l'':=Option.some.inj yN;refine gC (he rT (.slice (some ⟨bw,0,some 0⟩) l.length l.length) l' (img s l) yM (by rw[hil];omega)) λ_ _=>?_;cases e2:eq l' (img s l)with
 |false=>
  refine aP ?_;rw[Be hl (by
   cases e:qE L s rf eq l j with
   |false=>rfl
   |true=>
    have:=(Bf mW e).2.2;rw[jJ,iR hl',e2]at this;cases this)];rfl
 |true=>
  refine go ?_;exact aO (j+1) (by show L.length - (j+1)<L.length - j;omega) ⟨by omega,λi' hi' x hx=>(by
   by_cases e:i'=j
   .subst e;rw[hl]at hx;cases hx;exact P7 mW hl' e1 e2
   .exact hall i' (by omega) x hx)⟩):p:=h
def bh(h:p:=by
 refine go ?_;refine Gt ?_;refine go ?_;refine Ej (false,(xs.take k).map nm) (hv:=rfl) (hp:=⟨(λh=>by cases h),λ_ hn=>?_⟩);rw[(sU hx).1]at hm;have hsub:(aA.map (·.1)++(xs.take k).map nm++[nm x]).Nodup:=by
  have e:xs.map nm=(xs.take k).map nm++nm x::(xs.drop (k+1)).map nm:=by
   conv=>lhs;rw[<- si k xs]
   rw[ek];congr 1;rw[qp (bJ.1 hx).1,kv,(bJ.1 hx).2]
  rw[e,<- iO]at hn;rw[jV]at hn⊢;exact⟨hn.1,by simp,λa ha c hc=>hn.2.2 a ha c (by rw[bS.1 hc];exact fF ..)⟩
 rw[jV]at hsub;exact hsub.2.2 _ hm _ (bS.2 rfl) rfl):p:=h
def bj(h:p:=by intro hb;refine⟨⟨?_,?_,?_,?_,?_,?_⟩,⟨?_,?_,?_⟩,?_,?_,?_⟩<;>dsimp only<;>first|(simp_all;done)|(simp_all;omega)|omega):p:=h
def cj(h:p:=by
 refine gC (VL (n:=k.grid.cells.length) (v:=vL) (lists:=L) (by omega) (by omega) K3 (λl hl=>by have:=Cv l hl;omega)) λw _=>?_;refine uy gD (A:=ap (ay ai) w (mY k.grid.cells.length L)) (fs:=[aj (ay ai) w (mY k.grid.cells.length L)]) (h:=?_);refine gC (Qi (b2:=b2) (b3:=b3) (bm:=bm) (v:=w) (e:=0) (z:=kJ k i) (more:=mY k.grid.cells.length L) (by omega) (λp hp=>by have:=Qj hp;omega)) λ_ _=>?_;have hst:kJ k (i+1)=mZ (kJ k i) (mY k.grid.cells.length L):=by rw[hstep,if_pos (by unfold Dh;simp;omega)]
 rw[<- hst];have hac:=Dg (mY k.grid.cells.length L) (kJ k i);rw[<- hst]at hac;refine go ?_;exact aO (i+1) (by omega) ⟨by omega,u+1,by omega,by omega,by omega,by omega,by omega⟩):p:=h
def ck(h:p:=by
 rintro⟨⟨q1,q2,q3,q4,q5,q6⟩,⟨p1,p2,p3⟩,p4,p5,p6⟩;dsimp only at q1 q2 q3 q4 q5 q6 p1 p2 p3 p4 p5 p6
 simp_all):p:=h
def cw(h:p:=by refine go ?_;refine fJ (xs:=upTo' i) ai (i:Int) () (by omega) (next:=λad=>?_);rw[<- vI];refine go ?_;exact aO (i+1,.slice ad ((upTo' i).length+1) ((upTo' i).length+1)) (by show g.cells.length - (i+1)<g.cells.length - i;omega) (by show i+1<=_;omega)):p:=h
def cA(h:p:=by
 have j5:j=ps.length:=by omega
 subst j5;rw[bP]at hmem hnd⊢;have hrl2:(fH g ps).length=ps.length:=by unfold fH;rw[bC]
 refine sZ (E:=ai) (v:=v8) (xs:=fH g ps) λa8 e8=>?_;subst e8;refine aC ?_ ?_<;>intro h5
 .refine go ?_;refine oK (c:=(130:Int)=0) (f:=aj (ay ai) (.slice none 0 0) (eH g rs)) (by omega) ?_;exact gQ ⟨.slice none 0 0,130⟩ ⟨(λh=>by cases h),λh=>by
   exfalso
   exact(h.2.all ps hpm).ne (lW.1 (by omega))⟩
 have hR:Cz g ps:=⟨λe=>h5 (by rw[hrl2,e];rfl),hmem,hnd⟩
 have hrr:eH g (rs.take (k+1))=eH g (rs.take k)++[fH g ps]:=by unfold eH;rw[htk,ek,ww]
 refine gZ (gD (E:=ai) (v:=.slice a8 (fH g ps).length (fH g ps).length) (xs:=fH g ps)) ?_;refine go ?_;intro b61;refine go ?_;refine fJ (xs:=eH g (rs.take k)) (ay ai) (fH g ps) (.slice a8 (fH g ps).length (fH g ps).length) (by omega) (next:=λad=>?_);rw[<- hrr];refine go ?_;refine aO (k+1,.slice ad ((eH g (rs.take k)).length+1) ((eH g (rs.take k)).length+1)) (by show rs.length - (k+1)<rs.length - k;omega) ⟨by show k+1<=_;omega,?_⟩;show∀qs∈rs.take (k+1),Cz g qs;rw[htk];intro qs hq;rcases eP.1 hq with hq|hq
 .exact hall qs hq
 .rw[bS.1 hq];exact hR):p:=h
def cC(h:p:=by refine go ?_;refine aO (k+1) (by omega) ⟨by omega,?_⟩;rw[bU hx,bU hy,hsame,h3]):p:=h
def cD(h:p:=by
 have DZ:yZ size (k+1) (ev l x) h=some xs:=hxs;simp only[aK.run,hx,DZ,hs];have e1:oV size m (.slice (some ⟨b,o,f⟩) m m) h=some old:=hold;show∃h',(cond (Nat.ble (Nat.mul (m+(k+1)) bytes) small&&Nat.ble (Nat.mul (m+(k+1)) size) small&&Nat.ble (m+(k+1)) small) _ _)=_/\_;rw[hc];show∃h',(cond (Nat.ble (m+(k+1)) m) _ _)=_/\_;rw[hlt];simp only[cond,e1];rcases hf with rfl|rfl
 .refine⟨_,rfl,?_⟩;exact⟨rfl,λi hi _=>by rw[IH.jA,if_neg (by omega)],⟨zW _,by rw[IH.jA,if_pos rfl,jO]⟩,λ_=>rfl⟩
 .cases size with
  |zero=>
   refine⟨_,rfl,?_⟩;exact⟨rfl,λi hi _=>by rw[IH.jA,if_neg (by omega)],⟨zW _,by rw[IH.jA,if_pos rfl,jO]⟩,λ_=>rfl⟩
  |succ j=>
   have hj:Nat.beq (Nat.succ j) (j+1)=true:=Dq _;refine⟨(h.kill b).new (.cells (old++xs)),?_,?_⟩
   .show cond (Nat.beq (Nat.succ j) (j+1)) _ _=_;rw[hj,jO];rfl
   .exact⟨rfl,λi hi hb=>by rw[IH.jA,if_neg (by show i≠h.next;omega),IH.um,if_neg hb],⟨zW _,by rw[IH.jA];exact if_pos rfl⟩,λhl=>by rw[IH.IE,IH.Ad];omega⟩):p:=h
def cE(h:p:=by
 refine aP ?_;have:xs=ys:=by
  apply jr;intro j;by_cases hj:j<k
  .exact hsame j hj
  .rw[iJ (by omega),iJ (by omega)]
 rw[dQ this];rfl):p:=h
def cF(h:p:=by
 refine go ?_;refine aO (k+1) (by omega) ⟨by omega,λj hj=>?_⟩;by_cases e:j=k
 .subst e;rw[hx,hy,h3]
 .exact hsame j (by omega)):p:=h
def cH(h:p:=by refine go ?_;exact gQ false (λh=>by cases h)):p:=h
def cI(h:p:=by
 refine gC uI λ_ _=>?_;cases hst:(step s p.1).2 with
 |true=>
  have hs1:step s p.1=((step s p.1).1,true):=Prod.ext rfl hst;refine go ?_;refine aO (ig++[p],(step s p.1).1) (by show aA.length - (ig++[p]).length<_;rw[fV,BD];omega) ⟨?_,⟨rem,by show((ig++[p])++rem).Perm aA;rw[iO];exact hp⟩,λrest=>?_⟩
  .show ok ((ig++[p]).map (·.1)) _;rw[ek];exact hok _ s _ _ hos hX hst
  .show jG step s0 ((ig++[p]).map (·.1)++rest)=_;rw[ek,iO,hrun];show jG step s (p.1::rest)=_;rw[jG,hs1]
 |false=>
  have hs1:step s p.1=((step s p.1).1,false):=Prod.ext rfl hst;have hr:=hrun (p.1::rem.map (·.1));rw[jG,hs1]at hr;dsimp only at hr;refine go ?_;exact gQ (ig.map (·.1)++p.1::rem.map (·.1)) hX (hk:=by rw[hr];exact aH.self _ _)):p:=h
def cJ(h:p:=by
 have zn:St B w0 (pt b (.cells cells)::k2) F w:=⟨pq.agree,pq.le,pq.fZ,⟨S,⟨_,S2,⟨rfl,hb⟩,q2,e1⟩,hnd,hown⟩,pq.facts⟩
 have JK:At w.h b (.cells cells):=zn.at_ .here;refine SG (old:=cells.drop o) (xs:=E.pat a y) hn hg hs hx1 hx2 ?_ (by grind) hm λh' mv=>?_
 .have hdl:(cells.drop o).length=xs.length*E.n:=by grind
  rw[JK.cX.iK,o8,o9,if_pos (by omega),<- hdl,bP]
 obtain⟨w',rfl,jF,yc⟩:=zn.move mv;refine r _ w' (jF.zl λS hp=>?_);have hle:∀f∈E.fs a y,f.p w':=λf hf=>jF.facts f (hF.mem f hf);refine put w' _ E.n (cells.drop o) (by grind) (λk z hk=>?_) hle (.inr rfl) S hp;obtain⟨y',u1,u2⟩:=hel k z hk;exact⟨y',(by grind),λf hf=>f.mono yc (u2 f hf)⟩):p:=h
def cM(h:p:=by
 have:k=xs.length:=by omega
 subst this;refine aP ?_;rw[bP,hlen,bP]at hsame;rw[dQ hsame];rfl):p:=h
def cN(h:p:=by
 refine go ?_;intro b53;refine go ?_;refine fJ (xs:=fH g (ps.take j)) ai (c:Int) () (by omega) (next:=λad=>?_);rw[<- hr1];refine go ?_;refine aO (j+1,.slice ad ((fH g (ps.take j)).length+1) ((fH g (ps.take j)).length+1)) (by show ps.length - (j+1)<ps.length - j;omega) ⟨by show j+1<=_;omega,?_,?_⟩
 .show∀p∈ps.take (j+1),p∈g.cells;rw[htx];intro p hp;rcases eP.1 hp with hp|hp
  .exact hmem p hp
  .rw[bS.1 hp];exact hxm
 .show(fH g (ps.take (j+1))).Nodup;rw[hr1,jV];exact⟨hnd,by simp,λa ha b hb e=>h5 (by rw[bS.1 hb]at e;rw[<- e];exact ha)⟩):p:=h
def cP(h:p:=by refine aP ?_;rw[aW (λe=>by subst e;rw[hx]at hy;exact h3 (Option.some.inj hy))];rfl):p:=h
def cQ(h:p:=by refine aP ?_;rw[aW (λe=>by cases e;rw[hx]at hy;exact h3 (Option.some.inj hy))];rfl):p:=h
def cR(h:p:=by
 refine gC uI λ_ _=>?_;rw[hd,jG]at hrun;refine go ?_;cases hst:step s ((k:Int),_)with
 |mk s' b=>
  have hst:=hst;rw[hst]at hrun;cases b with
  |true=>
   refine go ?_;refine aO (k+1,s') (by show g.cells.length - (k+1)<g.cells.length - k;omega) ⟨by show k+1<=_;omega,?_,hrun⟩;have:=hok _ s _ _ hos hX (by rw[hst]);rw[hst]at this;rw[show(bN g).take (k+1)=(bN g).take k++[_]from by rw[qw,hsp];rfl];rw[hso];exact this
  |false=>
   refine go ?_;exact gQ (bN g) rfl (hk:=by rw[<- hrun];exact aH.all _)):p:=h
def cS(h:p:=by
 have hn0:0<E.n:=by
  rcases QU E.n with h0|h0
  .rw[h0]at hj;omega
  .exact h0
 have hd:j/E.n<aD.length:=by rw[Wx hn0];exact hj
 have hmod:=zX j hn0;have hpk:=bY hd;have hu:(E.pat (aD[j/E.n]).1 (aD[j/E.n]).2)[j%E.n]? =some ((E.pat (aD[j/E.n]).1 (aD[j/E.n]).2)[j%E.n]'(by rw[E.len];exact hmod)):=bY _;have h1:=(q3 (j/E.n) _ hpk).1 (j%E.n) _ hu;have h2:=zu hpk hu;have Cf:j/E.n*E.n+j%E.n=j:=by rw[Ie];exact Nat.div_add_mod j E.n
 rw[oq,Cf]at h1;rw[Cf]at h2;rw[h1,h2]):p:=h
def cT(h:p:=by
 refine go ?_;refine gQ ⟨false,.nilFunc,.nilFunc⟩ ⟨(λe=>by cases e),λe=>?_⟩
 exfalso
 have e:=zF.2 e;obtain⟨q1,q2,q3,q4,q5,q6⟩:=e;omega):p:=h
def cU(h:p:=by refine aP ?_;rw[aW (λe=>h3 (by rw[e,hy]at hx;cases hx;rfl))];rfl):p:=h
def cV(h:p:=by refine go ?_;intro b69;refine go ?_;refine fJ (xs:=dY j λb=>decide (b=(i:Int))||decide (b∈ln)) ai (j:Int) () (by omega) (next:=λad=>?_);rw[<- hss];refine go ?_;exact aO (j+1,.slice ad ((dY j λb=>decide (b=(i:Int))||decide (b∈ln)).length+1) ((dY j λb=>decide (b=(i:Int))||decide (b∈ln)).length+1)) (by show g.cells.length - (j+1)<g.cells.length - j;omega) (by show j+1<=_;omega)):p:=h
def cW(h:p:=by
 refine go ?_;refine oK (c:=(130:Int)=0) (f:=aj (ay ai) (.slice none 0 0) (eH g rs)) (by omega) ?_;exact gQ ⟨.slice none 0 0,130⟩ ⟨(λh=>by cases h),λh=>by
  exfalso
  have h6:(fH g ps).Nodup:=(h.2.all ps hpm).nd;have h7:(fH g (ps.take (j+1))).Nodup:=by
   refine h6.sublist ?_;unfold fH;exact(Q6 _ _).map _
  rw[hr1,jV]at h7;exact h7.2.2 _ h5 _ (bS.2 rfl) rfl⟩):p:=h
def c7(h:p:=by refine go ?_;refine aO (k+1) (by omega) ⟨by omega,?_⟩;rw[bU hx,eP,not_or];exact⟨hno,by simp;exact λe=>h2 e.symm⟩):p:=h
def c9(h:p:=by
 refine go ?_;refine kX rfl (λh2=>?_) (λh2=>?_)
 .rw[eZ]at h2;have h2:=iN h2;subst h2;refine go ?_;exact gQ (k,true) ⟨⟨λ_=>aU nR,λ_=>rfl⟩,λ_=>K6 nR hno⟩
 .rw[eZ]at h2;have h2:=ou h2;refine go ?_;refine aO (k+1) (by omega) ⟨by omega,?_⟩;rw[bU nR,eP,not_or];exact⟨hno,by simp;exact λe=>h2 e.symm⟩):p:=h
def da(h:p:=by
 have:=h4 (j+1) g e hg he;rw[List.drop_drop];have hle:o0+P.cellsOf f.type<=g.offset:=by
  have hj:(fs.map (·.offset))[j]? =some g.offset:=by grind
  rw[h3]at hj;have hs:(fs.map λf=>P.cellsOf f.type)[j]? =some (P.cellsOf g.type):=by grind
  exact(Cc _ ([]:ae ah) (o0+P.cellsOf f.type) j _ _ hj hs).2
 grind):p:=h
def de(h:p:=by refine go ?_;exact aO (k+1,v5,zs) (by show lists.length - (k+1)<lists.length - k;omega) ⟨by show i+1<=k+1;omega,by show k+1<=_;omega,skip ho⟩):p:=h
def dg(h:p:=by refine Yw (c:=0) hn hg hs hx1 hx2 (by simpa using hm) λh' ag vz hnx=>?_;obtain⟨w',rfl,jF⟩:=pq.tail.fresh ag vz hnx;refine r _ w' (jF.zl λS hp=>?_);have hle:∀f∈E.fs a y,f.p w':=λf hf=>jF.facts f (hF.mem f hf);exact put w' _ E.n [] (by simp) (by grind) hle (.inr rfl) S hp):p:=h
def dj(h:p:=by
 refine NN hn hg hx hi (by omega) (by omega) ?_;have hbS:b∈S:=by rw[e,e2];simp
 refine Ji hn2 (hg2 _) (by show lk _ d=_;simp[lk]) ⟨(h3 b hbS).2.1,hb⟩ hc (next _ _ y w ⟨s.agree,s.le,s.fZ,s.own,λf hf=>?_⟩);rcases dB.1 hf with rfl|hf
 .exact u2 _ (bS.2 rfl)
 .exact s.facts f hf):p:=h
def dl(h:p:=by
 refine aC ?_ ?_<;>intro h4
 .refine aP ?_;rw[tq,CZ hk hk2 (by omega),if_pos (by omega)];rfl
 refine aC ?_ ?_<;>intro h5
 .refine aP ?_;rw[tq,CZ hk hk2 (by omega),if_neg (by omega),if_pos (by omega)];rfl
 refine aP ?_;rw[tq,CZ hk hk2 (by omega),if_neg (by omega),if_neg (by omega)];rfl):p:=h
def dr(h:p:=by refine aP ?_;rw[aW (λe=>by subst e;omega)];rfl):p:=h
def dy(h:p:=by rw[BA hxb.1];refine⟨Q3 _ (by omega),?_⟩;have:=MZ x g.w;have h3:0<=g.w*(x/g.w):=Int.mul_nonneg (by omega) (Dw hxb.1 (by omega));omega):p:=h
def eo(h:p:=by exact⟨by omega,c,a3,by unfold Ey;rw[if_neg (by omega),if_neg (by omega),if_neg (by omega)];exact a5,hcp,by omega,by omega,by omega⟩):p:=h
def ew(h:p:=by
 have hkl:k=oJ.length:=by omega
 subst hkl;rw[bP,l4,bP]at hsame;have m4:=hsame;clear hsame hk h2;refine aP ?_;rw[dQ (show bK.mk n1 v1 p1 w1 g1 ho1 pJ oI pK oJ=bK.mk n2 v2 p2 w2 g2 ho2 uH sV lc sW from by rw[k1,iX.1 k2,iX.1 k3,iX.1 k4,iX.1 k5,k6,m1,m2,m3,m4])];rfl):p:=h
def ez(h:p:=by
 refine go ?_;refine aO (k+1) (by omega) ⟨by omega,λs hs'=>?_⟩ (hl:=⟨rfl,by rw[abE hx];rfl,by repeat (first|exact trivial|refine⟨rfl,?_⟩)⟩);rw[qw,hx]at hs';rcases eP.1 hs' with h|h
 .exact hall s h
 .have:s=x:=by simpa using h
  rw[this];exact hm):p:=h
def eA(h:p:=by refine aP ?_;rw[aW (λe=>h1 (by rw[e]))];rfl):p:=h
def eC(h:p:=by
 obtain⟨dst,op,type,pos,after,guard⟩:=o;simp only[cop]at hc;repeat' split at hc
 all_goals first
  |contradiction
  |(cases hc;done)
  |(done)
  |(simp only[lq,reduceCtorEq,and_false,exists_false]at hc;done)
  |(obtain⟨rfl,rfl⟩:=hc
    exact⟨_,rfl,rfl,rfl⟩)):p:=h
def eE(h:p:=by refine go ?_;exact gQ false ⟨(λh=>by cases h),λh=>by exfalso;have:=h.dK s hsm;omega⟩):p:=h
def eI(h:p:=by refine go ?_;exact aO (j+1) (by omega) (by omega)):p:=h
def eJ(h:p:=by obtain⟨rfl,rfl⟩:=hr;rw[ha]at hx;refine Good.same hW ?_ hx;obtain⟨fn',f',c',h1,_,_,e⟩:=hx.BQ;cases h1;simp[execOp,e]):p:=h
def eK(h:p:=by
 rcases QU (aD.length*E.n)with h0|h0
 .exact .inr h0
 .left;have h1:=hcells (aD.length*E.n - 1) (by omega);have hx0:(dx E aD)[aD.length*E.n - 1]? =some ((dx E aD)[aD.length*E.n - 1]'(by omega)):=bY _;rw[hx0]at h1;have:=(bJ.1 h1).1;omega):p:=h
def eM(h:p:=by
 obtain⟨he,hno⟩:=hy.2 rfl;have he:e≠0:=he;dsimp only[cond,G8,G9,List.nil_append];refine go ?_;intro b3;refine gH ?_ ?_<;>intro h1
 .exact absurd (iX.1 h1) he
 refine go ?_;exact gQ false ⟨(λh=>by cases h),λh=>absurd h.b hno⟩):p:=h
def eN(h:p:=by
 intro cl hcl;obtain⟨dd,op,ty,ps,af,gd⟩:=o;simp only at hcl;subst hcl;obtain⟨callee,args,ats⟩:=cl;cases callee with
 |value f=>simp only[cop,bz]at iG;rw[<- iG]at hl;cases hl
 |invoke x n=>simp[cop]at iG
 |builtin bb=>simp[cop]at iG):p:=h
def eR(h:p:=by
 rw[tO (by omega)]at hk;have hk0:k=xs.length:=by
  grind
 subst hk0;simp at hk;subst hk;refine⟨y,λj u hj=>?_,h3⟩
 grind):p:=h
def eV(h:p:=by refine aP ?_;subst h1 h2 h3 h4 h5 h6 h7 h8 h9 h10 h11;rw[show decide (bE.mk n1 o1 k1 f1 zJ os1 s1 t1 p1 m1 y1 c1=bE.mk n1 o1 k1 f1 zJ os1 s1 t1 p1 m1 y1 c2)=decide (c1=c2)from qx.2 ⟨λh=>by cases h;rfl,λh=>by rw[h]⟩];rfl):p:=h
def eW(h:p:=by
 rename_i kt et hu;cases hc;simp only[aK.run]at hr;split at hr
 .rename_i h2 hh;obtain⟨rfl,rfl⟩:=hr;obtain⟨w',r1,r2,r3⟩:=Xy hu hh hm hk hx hW;exact⟨.skip,w',β,undef,Xm r1,.inr ⟨rfl,rfl⟩,.eO _,r2,r3⟩
 .cases hr):p:=h
def e9(h:p:=by
 intro l;induction l with
 |nil=>intro m hm _;exact hm
 |cons s l ih=>
  intro m hm hl;rw[xC];refine ih _ (Wy hm ?_) (λt ht=>hl t (iw _ ht));have:=AJ (hl s (fF ..));rw[Nat.one_shiftLeft];exact Q5 (by omega) (by omega)):p:=h
def fb(h:p:=by
 have hno:¬qZ g.shape g.w g.h g.holes:=λh=>by have:=hy.2 h;cases this
 dsimp only[mkV,rQ,cond,List.nil_append];refine go ?_;intro b3;refine go ?_;exact gQ 130 ⟨(λh=>by cases h),λh=>absurd h.make hno⟩):p:=h
def fc(h:p:=by refine go ?_;refine nM (c:=(0:Int)=0) (f:=aj (ay ai) (.slice an (bR g).length cn) (dL g 4)) (by rw[hf];simp) ?_;exact gQ ⟨.slice an (bR g).length cn,0⟩ ⟨λ_=>⟨hg,by omega,by omega⟩,λ_=>rfl⟩):p:=h
def ff(h:p:=by exact aO (i+1) (by omega) (by omega)):p:=h
def fg(h:p:=by exact .of_steps (t1.trans (.one hs)) (ih ops cz hv rest (i::done) (i::S') nV hds β0 h0 w0 kU kg cs0 β' w' b _ df k cs ρ' hG hdom hcx hI2 r4 (by rw[xW];exact hcs.mono t0) (by rw[xX];exact hro))):p:=h
def fh(h:p:=by refine go ?_;refine oK (c:=(130:Int)=0) (f:=aj (ay ai) (.slice none 0 0) (eH g rs)) (by omega) ?_;exact gQ ⟨.slice none 0 0,130⟩ ⟨(λh=>by cases h),λh=>by exfalso;have:=h.2.len;omega⟩):p:=h
def fk(h:p:=by
 refine go ?_;refine aO (k+1) (by show d.symbols.length - (k+1)<d.symbols.length - k;omega) ⟨by omega,?_⟩;rw[bU hs];intro x hx;rcases eP.1 hx with hx|hx
 .exact hall x hx
 .rw[bS.1 hx];omega):p:=h
def fp(h:p:=by
 refine go ?_;refine fP rfl (λh1=>?_) (λh1=>?_)
 .refine go ?_;exact gQ 130 ⟨(λh=>by cases h),λh=>absurd h.cells.symm h1⟩
 .refine go ?_;exact gQ 0 ⟨λ_=>⟨hmk,h1.symm⟩,λ_=>rfl⟩):p:=h
def fL(h:p:=by
 refine go ?_;refine aO (k+1) (by show d.rules.length - (k+1)<d.rules.length - k;omega) ⟨by omega,?_⟩;rw[bU hr];intro x hx;rcases eP.1 hx with hx|hx
 .exact EM x hx
 .rw[bS.1 hx];exact hR):p:=h
def fN(h:p:=by obtain⟨v2,hv2,hr⟩:=hv.get (bY hjl);rw[hv2]at hj;cases hj;have hc:=(jN.1 hall) _ (rY hjl);obtain⟨a,b⟩:=hr.cellV hc;cases v<;>first|rfl|exact absurd rfl (a _)|exact absurd rfl (b _)):p:=h
def fR(h:p:=by
 have h1:(cK (iH (gu (bN g)) p.2 (fA.take (ed g)))).length=(iH (gu (bN g)) p.2 (fA.take (ed g))).length:=(Bz _ _).length_eq;have h2:=OY (gu (bN g)) p.2 (fA.take (ed g));have h3:=Ex g
 grind):p:=h
def fS(h:p:=by refine go ?_;exact gQ (0,false) ⟨⟨(λh=>by cases h),λh=>absurd h hno⟩,(λh=>by cases h)⟩):p:=h
def fW(h:p:=by
 rw[eZ]at k1;have k1:¬n1=n2:=by simpa using k1
 refine aP ?_;rw[aW (λe=>k1 (by cases e;rfl))];rfl):p:=h
def ga(h:p:=by refine go ?_;refine oK (c:=(1:Int)=0) (f:=aj (ay ai) (.slice none 0 0) (dL g k)) (by omega) ?_;exact gQ ⟨.slice none 0 0,1⟩ ⟨(λh=>by cases h),λh=>by exfalso;have:=h.2;omega⟩):p:=h
def gb(h:p:=by refine go ?_;refine oK (c:=(130:Int)=0) (f:=aj (ay ai) (.slice none 0 0) (eH g rs)) (by omega) ?_;exact gQ ⟨.slice none 0 0,130⟩ ⟨(λh=>by cases h),λh=>absurd (he.2 h.1) h1⟩):p:=h
def gf(h:p:=by
 have uq:zb.pending=none:=uq;have hto:(zb.pending.map Item.code).toList++k=k:=by rw[uq];rfl
 rw[hto]at hst;exact⟨.normal,a1,_,β3,_,tm,u7,cs,l3,y1,hE.trans y2,hA3,hcs,e4,hst⟩):p:=h
def gg(h:p:=by refine aP ?_;rw[aW (λe=>k7 (by cases e;rfl))];rfl):p:=h
def gj(h:p:=by refine aP ?_;rw[aW (λe=>k6 (by cases e;rfl))];rfl):p:=h
def gk(h:p:=by refine aP ?_;rw[aW (λe=>k4 (by cases e;rfl))];rfl):p:=h
def gx(h:p:=by refine aP ?_;rw[aW (λe=>k3 (by cases e;rfl))];rfl):p:=h
def gA(h:p:=by refine aP ?_;rw[aW (λe=>k2 (by cases e;rfl))];rfl):p:=h
def gE(h:p:=by refine aP ?_;rw[aW (λe=>k1 (by cases e;rfl))];rfl):p:=h
def gO(h:p:=by
 show cond (Nat.ble h.low i) h.low i=_;cases hb:Nat.ble h.low i with
 |true=>have:=mG hb;simp;omega
 |false=>have:¬h.low<=i:=λhh=>by rw[MP hh]at hb;cases hb
         simp;omega):p:=h
def gR(h:p:=by
 rw[q2.cells.iK,o8,o9,if_pos (by rw[uT];omega)];congr 1;apply jr;intro j;rw[vZ];by_cases hj:j<aD.length*E.n
 .rw[if_pos hj,rZ];exact hcells j hj
 .rw[if_neg hj,iJ (by omega)]):p:=h
def hJ(h:p:=by
 unfold sizeOf typeInfo;cases hi:P.info? e with
 |none=>rw[hi]at hs;cases hs
 |some i=>
  rw[hi]at hs;have hs:i.size=1:=by simpa using hs
  simp only[fO,J4,lm,hi];rw[<- hs];rfl):p:=h
def hU(h:p:=by refine go ?_;refine oK (c:=e=0) (f:=aj (ay ai) (.slice none 0 0) (dL g k)) h1 ?_;exact gQ ⟨.slice none 0 0,e⟩ ⟨(λh=>absurd h h1),λh=>absurd (hy.2 h.1) h1⟩):p:=h
def ia(h:p:=by rw[sI hn];exact⟨u,h2,by rw[qi];exact e1,λd' hd=>by rw[<- e2 d' hd];exact xZ _ _⟩):p:=h
def ii(h:p:=by
 refine go ?_;refine gQ ⟨false,.nilFunc,.nilFunc⟩ ⟨(λe=>by cases e),λe=>?_⟩
 exfalso
 have e:=zF.2 e;obtain⟨q1,q2,q3,q4,q5,q6⟩:=e;have:=q5 x hxm;omega):p:=h
def ij(h:p:=by
 rw[pX hlt]at hk;obtain⟨y',q1,q2⟩:=h2 k z hk;refine⟨y',λj u hj=>?_,q2⟩
 grind):p:=h
def ir(h:p:=by refine go ?_;exact gQ false ⟨(λh=>by cases h),λh=>by exfalso;have:=h.1;omega⟩):p:=h
def iu(h:p:=by
 have hn:(fn.name== "runtime.NumGoroutine")=false:=by simpa using hname
 simp only[callFunc,dS,run_program,eX,hfn,hn,hb,Option.isNone_some,Dn,if_false,fM]):p:=h
def iv(h:p:=by exact⟨⟨⟨by omega,by omega,by omega,by omega,hB.uF,hB.holes,hB.uG⟩,hB.dw,hB.dh,by omega⟩,⟨hB.gw,hB.gh,by omega,by omega⟩,hB.aR,hB.lists⟩):p:=h
def iz(h:p:=by rw[hle (show Nat.mul (m+(k+1)) bytes<=small from hm.1),hle (show Nat.mul (m+(k+1)) size<=small from hm.2.1),hle (show m+(k+1)<=small from hm.2.2)];rfl):p:=h
def iS(h:p:=by exact ih ops cz hv rest (i::done) S nV hds β0 h0 w0 kU kg cs0 β w b tm df k cs ρ hG hdom hcx hI2 hR (by rw[xW];exact hcs) (by rw[xX];exact hro)):p:=h
def i6(h:p:=by
 unfold jI at this;rw[afU]at this;obtain⟨j,hj⟩:=iI hr;have:=this (r,j) (BB.2 hj);cases h:(fK r.kind).read with
 |true=>rfl
 |false=>simp[h]at this):p:=h
def i7(h:p:=by rw[if_neg hp,iE]at hss;rw[<- hss];refine go ?_;exact aO (j+1,v5) (by show g.cells.length - (j+1)<g.cells.length - j;omega) (by show j+1<=_;omega)):p:=h
def jj(h:p:=by refine go ?_;exact aO (1+1,.slice a3 (oO g (1+1)).length (oO g (1+1)).length) (by show 2 - (1+1)<2 - 1;omega) ⟨by show 1+1<=2;omega,.inr hw⟩):p:=h
def jn(h:p:=by refine go ?_;exact aO (0+1,.slice a3 (oO g (0+1)).length (oO g (0+1)).length) (by show 2 - (0+1)<2 - 0;omega) ⟨by show 0+1<=2;omega,.inr hw⟩):p:=h
def jp(h:p:=by
 have e:(w.new (.mapIter (some b) clock [] clock)).h.get b=w.h.get b:=by
  show(w.h.new _).get b=_;rw[IH.jA,if_neg (by have:=w.l8 b hz;omega)]
 grind):p:=h
def js(h:p:=by
 refine go ?_;refine aO (k+1) (by omega) ⟨by omega,?_⟩;rw[bU hx];intro z hz;rcases eP.1 hz with hz|hz
 .exact hall z hz
 .rw[bS.1 hz];exact h2):p:=h
def jt(h:p:=by
 intro v pm h2 hm;dsimp only at hm;split at hm
 .rename_i lp hlp;split at hm
  .cases hm
  .rename_i hs;exact⟨lp,hlp,λe=>hs e,hm⟩
 .cases hm):p:=h
def ju(h:p:=by exact absurd h (by omega)):p:=h
def jx(h:p:=by rw[h3]at e;exact Option.some.inj e):p:=h
def jz(h:p:=by obtain⟨body,hb⟩:=Fj.1 h5;exact⟨fn,body,h3,hb,by simpa using h4⟩):p:=h
def j0(h:p:=by refine go ?_;refine aO (j+1) (by omega) (by omega) (hl:=⟨rfl,by rw[hst];rfl,by repeat (first|exact trivial|refine⟨rfl,?_⟩)⟩)):p:=h
def j7(h:p:=by refine aP ?_;rw[aW (λe=>k5 (by cases e;rfl))];rfl):p:=h
def j8(h:p:=by
 refine aC ?_ ?_<;>intro h1
 .refine go ?_;exact gQ ⟨false,e,v1,v2,v1,v1,v1,v1⟩ (hend he λh=>hno h.rs)
 .exact absurd (iX.1 h1) he):p:=h
def j9(h:p:=by
 refine hW.inj _ _ _ _ hk hm ?_ ?_ hr he
 .split at hj
  .exact absurd rfl hj
  .exact hj
 .split at hl
  .exact absurd rfl hl
  .exact hl):p:=h
def ki(h:p:=by subst this;intro e;subst e;exact hm2 ha):p:=h
def kj(h:p:=by rw[yV];exact List.Pairwise.imp (λh=>by omega) List.pairwise_lt_range):p:=h
def kp(h:p:=by refine go ?_;have hr:=hrun [];rw[iE]at hr;exact gQ (ig.map (·.1)) (hp.map (·.1)) (hk:=by rw[hr];apply aH.there;exact aH.all _)):p:=h
def kq(h:p:=by
 obtain⟨cs2,hl⟩:=hov;obtain⟨l1,l2,l3⟩:=BL hl;refine⟨cs2,?_,l2,λk z hk=>?_⟩
 .unfold IH.storeAt;simp only[hb',hl]
 grind):p:=h
def kx(h:p:=by rw[su hxb.1];exact⟨Dw hxb.1 (by omega),Int.ediv_le_self _ hxb.1⟩):p:=h
def li(h:p:=by rw[vH (by rw[wS];exact h)]at hy;subst hy;cases e):p:=h
def lj(h:p:=by
 refine go ?_;exact gQ false ⟨(λh=>by cases h),λh=>by
  exfalso
  rcases h.2 with⟨_,q,_⟩|⟨q,_⟩
  .omega
  .exact q h3⟩):p:=h
def lz(h:p:=by exact gQ ⟨v8,0⟩ ⟨λ_=>⟨hg,by omega,by omega⟩,λ_=>rfl⟩):p:=h
def lA(h:p:=by exact gQ ⟨v4,0⟩ ⟨λ_=>⟨hg,by omega,by omega⟩,λ_=>rfl⟩):p:=h
def lB(h:p:=by
 obtain⟨v,hv⟩:=Ke h;have e:jX true zero a aA=.tuple ⟨[v,.bool true]⟩:=by unfold jX;rw[hv];rfl
 rw[e];exact hit v hv h):p:=h
def lE(h:p:=by exact Ck () rfl trivial trivial):p:=h
def lO(h:p:=by
 cases h:Nat.beq (m%2) 0 with
 |true=>simp[tL h]
 |false=>simp[H9 h]):p:=h
def lP(h:p:=by
 rcases hcx.round with⟨_,hb⟩|⟨l,g,hl,_⟩
 .exact hb
 grind):p:=h
def lR(h:p:=by simp only[zA];exact⟨λv hv l hl n hn hi=>hcl v (by simpa using hv) l hl n hn hi,(by simp),(by simp),(by simp)⟩):p:=h
def mc(h:p:=by
 refine go ?_;have:k=xs.length:=by omega
 subst this;rw[bP]at hno;refine fu () (hv:=?_) (hp:=trivial);rw[aW hno];rfl):p:=h
def me(h:p:=by rw[<- EI];refine go ?_;exact aO (j+1,v5) (by show ln.length - (j+1)<ln.length - j;omega) (by show j+1<=_;omega)):p:=h
def mj(h:p:=by refine gC (adV (d:=k.decl) hB.uG hB.uF) λb hb=>?_;refine go ?_;exact gQ b (λh=>⟨hb h,by omega,by omega⟩)):p:=h
def mm(h:p:=by
 intro o a' h' hm hn;cases o with
 |normal=>exact absurd rfl hn
 |exit _=>exact hm
 |ret=>exact hm
 |panic _=>exact hm):p:=h
def mu(h:p:=by exact⟨rr,h2',β2,w2,F2,r2,p1,p2,q3.trans p3,p4,(Steps.head s1 (e2.trans (.one s2))).trans p5,p6,p7,p8⟩):p:=h
def mw(h:p:=by
 obtain⟨cs,r,⟨e,_⟩|⟨_,e⟩⟩:=h
 .rw[ha]at e;cases e
 .obtain⟨a,y,q0,q⟩:=hr w H d cs hz r
  grind):p:=h
def mz(h:p:=by exact gQ ⟨.slice none 0 0,160⟩ ⟨(λh=>by cases h),λh=>by have:=hy1.2 (h.2 x (aU hx));cases this⟩):p:=h
def mA(h:p:=by
 obtain⟨cs,r,⟨_,e⟩|⟨e,_⟩⟩:=h
 .obtain⟨a,y,rfl,q⟩:=hr w H d cs hz r;exact⟨a,y,e,q⟩
 grind):p:=h
def mB(h:p:=by
 have hn:(step so.1 x).2=.normal:=by
  cases e:(step so.1 x).2 with
  |normal=>rfl
  |_=>rw[e]at h;cases h
 grind):p:=h
def mC(h:p:=by
 match a,hv,hg with
 |none,hv,_=>exact h0 e c hv w s
 |some ⟨i,o,some f⟩,hv,_=>exact h1 e i o f c hv w s):p:=h
def mL(h:p:=by refine go ?_;refine aO (k+1) (by omega) ⟨by omega,?_⟩;rw[bU hx,List.any_append,hno];simpa using h2):p:=h
def mN(h:p:=by
 have e:jX true zero a aA=.tuple ⟨[zero,.bool false]⟩:=by unfold jX;rw[vH h];rfl
 rw[e];exact miss h):p:=h
def mS(h:p:=by rw[hat.cX.iK,o8,o9,Fw,wh,if_pos (by omega),<- hlen,bP]):p:=h
def mT(h:p:=by rw[Nat.shiftLeft_eq,Fw];exact Q5 (by omega) (by omega)):p:=h
def nc(h:p:=by
 intro ys zs;induction zs generalizing ys with
 |nil=>simp[kz]
 |cons z zs ih=>rw[kz];simp only[ih];simp):p:=h
def nh(h:p:=by exact absurd (hW.dom _ _ hk) (by omega)):p:=h
def nj(h:p:=by obtain⟨v0,_,h0⟩:=a7 j v hj;obtain⟨v',h1,h2⟩:=b7 j v hj;exact⟨v',h1,h0.restrict hle h2⟩):p:=h
def nl(h:p:=by
 rcases a with⟨rfl,a,m,c,rfl,rfl⟩|⟨i,o,f,c,cs,h1,_⟩
 .exact⟨a,c,rfl⟩
 .exact⟨_,c,h1⟩):p:=h
def nn(h:p:=by exact gQ (.slice (some ⟨b,0,some 0⟩) 0 0) trivial):p:=h
def nq(h:p:=by
 cases o with
 |normal=>exact absurd rfl hn
 |_=>exact hm):p:=h
def nr(h:p:=by
 unfold y5 at hz;split at hz
 .rename_i z' n' hz' _;obtain⟨i',j1,j2,_⟩:=FT hz'
  grind
 .cases hz):p:=h
def nt(h:p:=by intro h;rw[AO h]at hy;subst hy;cases e):p:=h
def nv(h:p:=by
 have hx:fK r.kind=⟨true,false,false,false,false,true,true,0⟩:=by rw[hk];rfl
 clear hk;exact vO):p:=h
def nw(h:p:=by
 have hx:fK r.kind=⟨false,true,false,false,false,true,true,0⟩:=by rw[hk];rfl
 clear hk;exact vO):p:=h
def nF(h:p:=by refine go ?_;refine(cZ rfl rfl (Gr rfl rfl)).h ?_;refine go ?_;exact gQ (min n 2001) (by omega)):p:=h
def n5(h:p:=by refine go ?_;exact gQ false ⟨(λh=>by cases h),λh=>by exfalso;have:=(h.jS k c hc).1;omega⟩):p:=h
def n9(h:p:=by intro v v0 v1;have r:=ht.inv.at_ v0 v1;have:=h _ r.1 r.2;rw[ht.Kq v0 v1]at this;exact this.symm):p:=h
def oa(h:p:=by simp only[execOp,Instr.sliceAt,Instr.slice,dS,gU hu,eX,hx',e1,e2,e3,b1,pg hs1,fM];split<;>rfl):p:=h
def oc(h:p:=by refine go ?_;exact gQ false ⟨(λh=>by cases h),λh=>absurd (hb.2 (h.lH r hrm)) (by simp)⟩):p:=h
def od(h:p:=by
 rw[bU hx];intro c hc;rcases eP.1 hc with hc|hc
 .exact hall c hc
 .rw[bS.1 hc];exact hy1.1 rfl):p:=h
def oe(h:p:=by intro v v0 v1;have r:=ht.at_ v0 v1;rw[AY v0 (by rw[ht.len];exact v1),h2 _ r.1 r.2,h _ v0 v1]):p:=h
def ov(h:p:=by refine aP ?_;rw[aW (λe=>k9 (by cases e;rfl))];rfl):p:=h
def ox(h:p:=by refine aP ?_;rw[aW (λe=>k8 (by cases e;rfl))];rfl):p:=h
def oy(h:p:=by refine aP ?_;rw[aW (λe=>h2 (by cases e;rfl))];rfl):p:=h
def oA(h:p:=by refine aP ?_;rw[aW (λe=>h1 (by cases e;rfl))];rfl):p:=h
def oB(h:p:=by simp only[lq]at hc;obtain⟨_,_,rfl⟩:=hc;simp only[aK.run,aK.alloc,h0,h1,h2,h3,and_self]):p:=h
def oE(h:p:=by rintro r pm h' ⟨hp,w',y,e1,st,e2,_⟩;exact⟨hp,w',(),e1,back w' _ _ st,e2,trivial⟩):p:=h
def oR(h:p:=by unfold kQ;rw[fO];simp only[binOp];rw[fO,he];rfl):p:=h
def oS(h:p:=by rw[<- hf];refine step_lone_go ?_;rw[DX ho hw (.inl hro)];simp[stepG.apply,hr,hre,ht]):p:=h
def oT(h:p:=by
 induction l with
 |nil=>exact .nil
 |cons x l ih=>exact .cons (h x (by simp)) (by grind)):p:=h
def pb(h:p:=by show dR P (Instr.checkKey b (9999+1) kt _)=_;unfold Instr.checkKey;rw[fO,qC hu];rfl):p:=h
def pe(h:p:=by subst hn;simp only[fr]at he' hcall⊢;simp[stepG,stepG.exec,he',stepG.apply,hcall]):p:=h
def ph(h:p:=by
 match vs with
 |[]=>rfl
 |[v]=>rfl
 |_::_::_=>rfl):p:=h
def pn(h:p:=by
 rcases dB.1 hk with rfl|hk
 .exact iw _ (hpre j hj)
 .exact iw _ (hcl k hk j hj)):p:=h
def po(h:p:=by obtain⟨w,h4,h5⟩:=hcls u hu2;exact⟨w,by rw[pX (by omega)];exact h4,h5⟩):p:=h
def pw(h:p:=by exact gQ ⟨.slice none 0 0,161⟩ ⟨(λh=>by cases h),λh=>absurd h.1 h2⟩):p:=h
def px(h:p:=by
 cases es with
 |nil=>rfl
 |cons e es=>cases h):p:=h
def py(h:p:=by
 intro l;induction l with
 |nil=>rfl
 |cons x l ih=>simp[gJ,cB,Ideal.cellV,ih]):p:=h
def pA(h:p:=by
 induction h with
 |nil=>exact .nil
 |cons h1 _ ih=>exact .cons (.there h1) ih):p:=h
def pB(h:p:=by simp only at hab hao;rw[hab,hao.1,hao.2]):p:=h
def pC(h:p:=by have:=GL (g.w*g.h).toNat g.holes;have:=zB hmk.wi hmk.he;unfold pF;omega):p:=h
def pD(h:p:=by refine go ?_;exact gQ false ⟨(λh=>by cases h),λh=>absurd h.e h3⟩):p:=h
def pH(h:p:=by have:=Classical.choose_spec (hc i) hi;exact⟨(bJ.1 this).1,iR this⟩):p:=h
def pL(h:p:=by unfold List.Nodup;rw[yV];exact List.Pairwise.imp_of_mem (by grind) h):p:=h
def pN(h:p:=by
 cases hb:Nat.ble (m+(k+1)) m with
 |false=>rfl
 |true=>have:=mG hb;omega):p:=h
def pP(h:p:=by simp only[bz,kL,Dp]at hr;simp only[hr]):p:=h
def pS(h:p:=by have:=OR.IK (P:=P) (w:=w) t (hcs.mono hle) hc [] 0;simpa using this):p:=h
def pT(h:p:=by exact this.imp (λh=>by simpa using h)):p:=h
def pZ(h:p:=by
 intro g hg;rcases eP.1 hg with hg|hg
 .exact q2 g hg
 .exact u2 g hg):p:=h
def p0(h:p:=by refine go ?_;exact gQ xs rfl (hk:=by rw[<- hrun];exact aH.all _)):p:=h
def qe(h:p:=by refine go ?_;exact gQ c2 trivial (hk:=by exact .cons .here .nil)):p:=h
def qk(h:p:=by refine go ?_;exact bad (λq=>by have:=q.wi;omega) rfl rfl .here):p:=h
def qn(h:p:=by refine go ?_;exact bad (λq=>by have:=q.he;omega) rfl rfl .here):p:=h
def qq(h:p:=by
 rcases hao with e|e
 .omega
 .exact e):p:=h
def qt(h:p:=by have:=hK.typ.lim.r;rw[hK.lists];unfold mR;rw[fV,bC,tV,bC];omega):p:=h
def qu(h:p:=by exact⟨j,by omega,h2,h3⟩):p:=h
def qv(h:p:=by obtain⟨v,h1,h2,h3⟩:=hm;cases he;rw[h2];exact .ret v h1 h3):p:=h
def qS(h:p:=by rw[h2,<- h.decl]at this;exact this):p:=h
def qT(h:p:=by obtain⟨t1,t2,fn,t3,t4⟩:=e5;exact⟨t1,t2,e4,fn,t3,t4⟩):p:=h
def rh(h:p:=by exact gQ (.slice none 0 0) trivial):p:=h
def ri(h:p:=by
 cases O with
 |nil=>simp at h6
 |cons o O2=>exact⟨o,O2,rfl⟩):p:=h
def rj(h:p:=by refine go ?_;exact gQ true ⟨λ_=>⟨hb,h3⟩,λ_=>rfl⟩):p:=h
def rp(h:p:=by
 cases m with
 |zero=>simp[T.FM]
 |succ m=>
  rw[T.y7,T.y7]
  grind):p:=h
def rB(h:p:=by simp only[execOp,resolve,k4,Deferred.ofValue,dS,fM,eX,he]):p:=h
def rI(h:p:=by rw[hl];simp only[bz,kL]at hr⊢;exact⟨hr.2.symm,hr.1⟩):p:=h
def rK(h:p:=by rw[hk]at this;simp[jw,hk,this.nT]):p:=h
def rL(h:p:=by
 induction n with
 |zero=>rfl
 |succ n ih=>rw[yT,kv,<- ih];rfl):p:=h
def rN(h:p:=by simp only[aK.run,hx,hy];rw[Ap];simp[sw,wE,<- Int.not_le]):p:=h
def rS(h:p:=by
 rcases dB.1 hf with rfl|hf
 .exact uR _ hm
 .exact xD _ hf):p:=h
def r5(h:p:=by
 rcases Nat.mul_eq_zero.1 h0 with hh|hh
 .exact hh
 .omega):p:=h
def r6(h:p:=by injection hpq with e1 e2;exact Prod.ext (inj _ _ e1) e2):p:=h
def r7(h:p:=by
 unfold iU eB;simp only[GN]
 grind):p:=h
def r8(h:p:=by exact⟨.value v',w',β',v',Af r1,.inl rfl,r2,r3,r4⟩):p:=h
def sg(h:p:=by rintro t ⟨y,p,_,_,hp',nD⟩;exact hds y p t hp' nD):p:=h
def sk(h:p:=by refine aP ?_;rw[aW (λe=>k10 (by cases e;rfl))];rfl):p:=h
def sn(h:p:=by refine aP ?_;rw[aW (λe=>h11 (by cases e;rfl))];rfl):p:=h
def sq(h:p:=by refine aP ?_;rw[aW (λe=>h10 (by cases e;rfl))];rfl):p:=h
def sv(h:p:=by rw[jN];intro x hx;obtain⟨z,_,rfl⟩:=dM.1 hx;rfl):p:=h
def sx(h:p:=by refine go ?_;exact gQ false (hno (by omega) _ rfl)):p:=h
def sA(h:p:=by refine go ?_;exact aO (i'+1) (by omega) (by omega)):p:=h
def sB(h:p:=by refine aP ?_;rw[aW (λe=>h9 (by cases e;rfl))];rfl):p:=h
def sC(h:p:=by refine aP ?_;rw[aW (λe=>h8 (by cases e;rfl))];rfl):p:=h
def sE(h:p:=by refine aP ?_;rw[aW (λe=>h7 (by cases e;rfl))];rfl):p:=h
def sL(h:p:=by refine aP ?_;rw[aW (λe=>h6 (by cases e;rfl))];rfl):p:=h
def sR(h:p:=by refine aP ?_;rw[aW (λe=>h5 (by cases e;rfl))];rfl):p:=h
def sX(h:p:=by refine aP ?_;rw[aW (λe=>h4 (by cases e;rfl))];rfl):p:=h
def sY(h:p:=by refine aP ?_;rw[aW (λe=>h3 (by cases e;rfl))];rfl):p:=h
def s5(h:p:=by
 cases r with
 |none=>simp[FU hz,IW]
 |some p=>simp[IW]):p:=h
def s6(h:p:=by
 refine gX bZ (xs:=pK) λ_ _ x (_:Unit) hx=>?_;refine gX bZ (xs:=lc) λ_ _ y (_:Unit) hy=>?_;refine go ?_;refine(cZ (v:=.bool (!decide (x=y))) rfl rfl (by rw[<- UU];exact GA rfl rfl hu2 (by kernel_rfl) (by kernel_rfl) (row_of hrow2 rfl rfl (λj=>by rw[gI]) (λj=>by rw[gI])) (by simp[gJ,cB,Ideal.cellV]) (by simp[gJ,cB,Ideal.cellV]))).h ?_;refine go ?_;refine fP rfl (λh3=>?_) (λh3=>?_)
 .exact cQ
 exact cC):p:=h
def s7(h:p:=by
 refine gX fG (xs:=pJ) λ_ _ x (_:Unit) hx=>?_;refine gX fG (xs:=uH) λ_ _ y (_:Unit) hy=>?_;refine go ?_;refine(cZ (v:=.bool (!decide (x=y))) rfl rfl (by rw[<- UT];exact GA rfl rfl hu1 (by kernel_rfl) (by kernel_rfl) (row_of V9 rfl rfl (λj=>by rw[gI]) (λj=>by rw[gI])) (by simp[gJ,cB,Ideal.cellV]) (by simp[gJ,cB,Ideal.cellV]))).h ?_;refine go ?_;refine fP rfl (λh3=>?_) (λh3=>?_)
 .exact cQ
 exact cC):p:=h
def s8(h:p:=by
 have hlen:xs.length=ys.length:=by omega
 refine gN xs.length 5 (λk=>k<=xs.length/\xs.take k=ys.take k) ⟨by omega,by simp⟩ ?_;rintro k ⟨hk,hsame⟩;refine aC ?_ ?_<;>intro h2
 .refine gX aX (xs:=xs) λ_ _ x (_:Unit) hx=>?_;refine gX aX (xs:=ys) λ_ _ y (_:Unit) hy=>?_;refine go ?_;refine fP (p:=x=y) (by show Value.bool _=_;rw[eZ]) (λh3=>?_) (λh3=>?_)
  .exact cP
  exact cC
 exact cM):p:=h
def s9(h:p:=by
 have hlen:xs.length=ys.length:=by omega
 refine gN xs.length 5 (λk=>k<=xs.length/\xs.take k=ys.take k) ⟨by omega,by simp⟩ ?_;rintro k ⟨hk,hsame⟩;refine aC ?_ ?_<;>intro h2
 .refine go ?_;intro _ _ x hx _ _ y hy;refine aC ?_ ?_<;>intro h3
  rotate_left
  .have h3:x=y:=iX.1 h3;exact cC
  .exact cP
 exact cM):p:=h
def ta(h:p:=by
 refine gH ?_ ?_<;>intro t1
 .exact cH
 refine gC (We (xs:=k.aR) n1 n2) λm hm=>?_;refine gH ?_ ?_<;>intro t2
 .exact cH
 refine gH ?_ ?_<;>intro t3
 .exact cH
 refine gH ?_ ?_<;>intro t4
 .exact cH
 exact mj):p:=h
def tb(h:p:=by refine go ?_;intro CQ;exact cw):p:=h
def tc(h:p:=by
 refine go ?_;refine gQ 170 ⟨λh=>?_,λh=>?_⟩
 .exact ju
 exfalso
 have:=h.PO;omega):p:=h
def td(h:p:=by
 refine aC ?_ ?_<;>intro h2
 .refine aP ?_;subst h2;rw[dQ (aU hx)];rfl
 .exact c7):p:=h
def tf(h:p:=by omega):p:=h
def tg(h:p:=by simp):p:=h
def th(h:p:=by kernel_rfl):p:=h
def tj(h:p:=by repeat (first|exact aH.nil|(apply aH.cons;(focus (repeat (first|exact aB.here|apply aB.there)))))):p:=h
def tn(h:p:=by rfl):p:=h
def tr(h:p:=by decide):p:=h
def tt(h:p:=by simp[Op.operands]):p:=h
def tv(h:p:=by first|exact rfl|(conv=>lhs;whnf)):p:=h
def tw(h:p:=by simpa using h):p:=h
def tx(h:p:=by simp;omega):p:=h
def tD(h:p:=by rw[hf];simp):p:=h
def tE(h:p:=by show k+1<=_;omega):p:=h
def tG(h:p:=by simp[stepG,stepG.exec,fr]):p:=h
def tI(h:p:=by show i+1<=_;omega):p:=h
def tM(h:p:=by show j+1<=_;omega):p:=h
def tP(h:p:=by rw[hk];rfl):p:=h
def tR(h:p:=by simp[h]):p:=h
def tS(h:p:=by intro e;rw[e]at h;cases h):p:=h
def tU(h:p:=by simpa using h1):p:=h
def tW(h:p:=by simpa[vY]using hb):p:=h
def ua(h:p:=by rw[e2];exact hw):p:=h
def uc(h:p:=by simpa[qN]using hb):p:=h
def ud(h:p:=by simp only[target,jO,iE]):p:=h
def ur(h:p:=by rw[jH];omega):p:=h
def uv(h:p:=by show g.cells.length - (j+1)<g.cells.length - j;omega):p:=h
def ux(h:p:=by subst hy;simp[Op.operands]):p:=h
def u9(h:p:=by rw[xX];exact hro):p:=h
def vi(h:p:=by apply Array.ext';simp):p:=h
def vj(h:p:=by rw[hh];exact h2):p:=h
def vt(h:p:=by rw[ho]):p:=h
def vA(h:p:=by rw[gM];omega):p:=h
def we(h:p:=by rw[e]):p:=h
def wg(h:p:=by show Value.bool _=_;rw[eZ]):p:=h
def wj(h:p:=by show d.rules.length - (k+1)<d.rules.length - k;omega):p:=h
def wk(h:p:=by unfold qG;omega):p:=h
def wl(h:p:=by rw[hop];rfl):p:=h
def wq(h:p:=by rw[qi];exact hr):p:=h
def wv(h:p:=by simpa using e):p:=h
def wx(h:p:=by rw[h1];exact bS.2 rfl):p:=h
def wA(h:p:=by simpa using h2):p:=h
def w7(h:p:=by simpa using hnd):p:=h
def w8(h:p:=by simpa using hc):p:=h
def xa(h:p:=by cases e;rfl):p:=h
def xb(h:p:=by show g.cells.length - (i+1)<g.cells.length - i;omega):p:=h
def xf(h:p:=by simp only[Op.operands,List.mem_toArray,dM];exact⟨p,hp,rfl⟩):p:=h
def xj(h:p:=by simpa using hx):p:=h
def xo(h:p:=by rw[put_defers];exact t2.act.defers):p:=h
def xF(h:p:=by intro r hr;cases hr):p:=h
def xT(h:p:=by rw[sI hn];exact next):p:=h
def x6(h:p:=by intro e;cases e):p:=h
def x7(h:p:=by rw[hg.cells];exact OX _ _):p:=h
def ya(h:p:=by rw[sS];omega):p:=h
def yb(h:p:=by rw[bC,tV];omega):p:=h
def ye(h:p:=by rw[h.len];omega):p:=h
def yp(h:p:=by rw[wS];exact hm):p:=h
def yq(h:p:=by simp[gJ,cB,Ideal.cellV]):p:=h
def yW(h:p:=by show m - (k+1)<m - k;omega):p:=h
def y3(h:p:=by show k+1<=m;omega):p:=h
def y4(h:p:=by rw[bC,gM];omega):p:=h
def y6(h:p:=by show d.aQ.length - (k+1)<d.aQ.length - k;omega):p:=h
def zc(h:p:=by rw[hre];rfl):p:=h
def zj(h:p:=by simp[Act.eval,Act.put]):p:=h
def zp(h:p:=by rw[bC];omega):p:=h
def z7(h:p:=by dsimp only;omega):p:=h
def An(h:p:=by simpa[cB]using h):p:=h
def As(h:p:=by simpa using hz):p:=h
def Ax(h:p:=by rw[e2];exact q1):p:=h
def AD(h:p:=by rw[<- Jb];exact hdd):p:=h
def AE(h:p:=by simp[Op.operands,Call.operands]):p:=h
def AF(h:p:=by simp only[Op.operands,Call.operands];grind):p:=h
def AG(h:p:=by rw[hget];simp):p:=h
def AH(h:p:=by rw[hx];exact hread):p:=h
def AI(h:p:=by first|((with_reducible apply Jl);(focus ((conv=>lhs;whnf);(first|done|fail))))|((with_reducible apply Jm);(focus ((conv=>lhs;whnf);(first|done|fail))))|((with_reducible apply Jq);exact rfl)|((with_reducible apply Js);exact rfl;exact rfl)|((with_reducible apply Jt);exact rfl;exact rfl)|((with_reducible apply Ju);exact rfl;exact rfl)|((with_reducible apply Jv);exact rfl;exact rfl)|((with_reducible apply Jw);exact rfl;exact rfl)|((with_reducible apply Jy);exact rfl;exact rfl)|((with_reducible apply Jp);exact rfl)|((with_reducible apply Jn);exact rfl;(focus ((conv=>lhs;whnf);(first|done|fail))))|((with_reducible apply Jo);exact rfl;(focus ((conv=>lhs;whnf);(first|done|fail))))|((with_reducible apply JA);exact rfl;(focus ((conv=>lhs;whnf);(first|done|fail))))|((with_reducible apply JB);exact rfl)|((with_reducible apply JC);exact rfl;(focus ((conv=>lhs;whnf);(first|done|fail))))|((with_reducible apply JD);exact rfl;(focus ((conv=>lhs;whnf);(first|done|fail))))|((with_reducible apply JE);(focus ((conv=>lhs;whnf);(first|done|fail))))|((with_reducible apply JF);exact rfl)|((with_reducible apply JG);exact rfl)|((with_reducible apply JH);exact rfl)|with_reducible exact Jr|((with_reducible apply JI);exact rfl;exact rfl;exact rfl)|((with_reducible apply JQ);exact rfl;exact rfl;(focus ((omega);(first|done|fail))))|((with_reducible apply Gg);exact rfl;exact rfl;(focus ((omega);(first|done|fail)));(focus ((omega);(first|done|fail))))|((with_reducible apply JJ);exact rfl;exact rfl;(focus ((omega);(first|done|fail)));(focus ((omega);(first|done|fail))))|((with_reducible apply D7);exact rfl;exact rfl;(focus ((omega);(first|done|fail)));(focus ((omega);(first|done|fail))))|((with_reducible apply Jz);exact rfl;exact rfl;(focus ((omega);(first|done|fail)));(focus ((omega);(first|done|fail))))|((with_reducible apply JL);exact rfl;exact rfl;(focus ((first|assumption|kernel_rfl);(first|done|fail))))|((with_reducible apply JM);exact rfl;exact rfl;(focus ((first|assumption|kernel_rfl);(first|done|fail))))|((with_reducible apply JN);exact rfl;exact rfl)|((with_reducible apply JO);exact rfl;exact rfl)|((with_reducible apply JP);exact rfl;exact rfl;(focus ((omega);(first|done|fail)));(focus ((omega);(first|done|fail))))):p:=h
def AK(h:p:=by simpa using hj):p:=h
def AM(h:p:=by intro s x lo o B w0;refine go ?_;intro b8;refine go ?_;exact Gw b8 rfl):p:=h
def AN(h:p:=by show lb.length - (k+1)<lb.length - k;omega):p:=h
def AS(h:p:=by show d.regions.length - (k+1)<d.regions.length - k;omega):p:=h
def AT(h:p:=by unfold oD;simp[c0]):p:=h
def AW(h:p:=by unfold oD;simp[c4]):p:=h
def A0(h:p:=by unfold oD;simp[c5]):p:=h
def Bk(h:p:=by rw[IntKind.wrap_i64];omega):p:=h
def Bm(h:p:=by exact aB.here):p:=h
def Bs(h:p:=by exact .cons .here .nil):p:=h
def Bx(h:p:=by simpa using k1):p:=h
def By(h:p:=by simp only[execOp,hx',dS,BN h1 w,eX,fM]):p:=h
def BE(h:p:=by simp only[Op.operands,Ib];grind):p:=h
def BT(h:p:=by simp[stepG,stepG.exec,fr,hr]):p:=h
def BW(h:p:=by rw[put_defers];exact t2.act.defers.mono hle):p:=h
def BY(h:p:=by rw[xW];exact(hcs.mono t0).mono hle):p:=h
def B0(h:p:=by rw[q6];exact hcx.after hle q5):p:=h
def B7(h:p:=by generalize F.defers=d at hd;cases hd;rfl):p:=h
def B8(h:p:=by simp only[aK.run,aK.alloc,uf]):p:=h
def B9(h:p:=by rw[<- (hk2 y).eq,<- (hF2 y).eq];exact back w' _ _ c):p:=h
def Cd(h:p:=by rcases ho with rfl|rfl<;>rfl):p:=h
def Cl(h:p:=by rw[size_flatK,hd2];exact htn):p:=h
def Cp(h:p:=by have:=((x9 zk).zero x.values x.values).2 rfl;omega):p:=h
def CA(h:p:=by rw[xE,if_pos rfl,if_pos hk]):p:=h
def CH(h:p:=by intro s x lo o B w0;refine go ?_;have z0:Nat:=0;exact Gw z0 rfl):p:=h
def CI(h:p:=by show aR.length - (i+1)<aR.length - i;omega):p:=h
def CM(h:p:=by show ln.length - (j+1)<ln.length - j;omega):p:=h
def CN(h:p:=by have:=O6 hmem hnd;rw[gM]at this;omega):p:=h
def CT(h:p:=by unfold fH;rw[htx,ek,ww,hpos]):p:=h
def C0(h:p:=by show xs.length - (k+1)<xs.length - k;omega):p:=h
def C2(h:p:=by show l.length - (i+1)<l.length - i;omega):p:=h
def C3(h:p:=by rw[hdl];simp only[Nat.min_def];split<;>omega):p:=h
def C4(h:p:=by show 1=_;simp only[Nat.min_def];split<;>omega):p:=h
def C6(h:p:=by show(kI g.shape).length - (j+1)<(kI g.shape).length - j;omega):p:=h
def C7(h:p:=by show lists.length - (i+1)<lists.length - i;omega):p:=h
def DA(h:p:=by show gy.length - (i+1)<gy.length - i;omega):p:=h
def DB(h:p:=by show k.decl.symbols.length - (j+1)<k.decl.symbols.length - j;omega):p:=h
def DE(h:p:=by show 49 - (i+1)<49 - i;omega):p:=h
def DG(h:p:=by show k.lists.length - (i+1)<k.lists.length - i;omega):p:=h
def DH(h:p:=by rw[bC,Bc tf];omega):p:=h
def DM(h:p:=by rw[aI.Jg (Ga uc)];exact hi):p:=h
def DO(h:p:=by unfold mD;rw[if_neg tf,if_neg tf,if_neg tf,if_neg tf,if_neg tf,if_pos tf]):p:=h
def DP(h:p:=by rw[xE,if_pos rfl,if_pos tf]):p:=h
def DQ(h:p:=by rw[gI,pY,<- wm,ES hcl.symm tf,htk]):p:=h
def DS(h:p:=by rw[<- er];exact Ea rfl rfl tr):p:=h
def D0(h:p:=by rw[gI,pY,<- wm,ES oG.symm tf,<- vI]):p:=h
def D3(h:p:=by rw[gI,pY,<- wm,ES hjl.symm tf,bU hx,ek];rfl):p:=h
