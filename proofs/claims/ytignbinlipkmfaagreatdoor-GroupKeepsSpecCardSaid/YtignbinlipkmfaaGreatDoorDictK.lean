/-
  Part Dict.
-/
import Derived.KernelRfl
set_option linter.all false
variable{p:Prop}
def aq(h:p:=by
 obtain⟨m,rfl⟩:=iO hi0;refine gX (aA ai) (xs:=L) λ_ _ l' (pu:ah) hl'=>?_;have qV:=qU l' (aS hl');refine gC (G5 (b:=b10) (vw:=.slice (some ⟨bw,0,some 0⟩) l.length l.length) (w:=img s l) (by rw[hil];omega) l' qV pu) λ_ _=>?_;dsimp only;cases e1:jw l' (img s l)with
 |false=>
  refine aM ?_;rw[zi hl (by
   cases e:nV L s rf eq l j with
   |false=>rfl
   |true=>
    have:=(zk mK e).2.1;rw[fQ,iC hl',e1]at this;cases this)];rfl
 |true=>
 refine gX (aA ai) (xs:=L) λ_ _ l'' (pu:ah) wP=>?_;rw[hl']at wP;obtain rfl:l'=l'':=Option.some.inj wP;refine gC (he pu (.slice (some ⟨bw,0,some 0⟩) l.length l.length) l' (img s l) qV (by rw[hil];omega)) λ_ _=>?_;cases e2:eq l' (img s l)with
 |false=>
  refine aM ?_;rw[zi hl (by
   cases e:nV L s rf eq l j with
   |false=>rfl
   |true=>
    have:=(zk mK e).2.2;rw[fQ,iC hl',e2]at this;cases this)];rfl
 |true=>
  refine go ?_;exact aQ (j+1) (by show L.length - (j+1)<L.length - j;omega) ⟨by omega,λi' hi' x hx=>(by
   by_cases e:i'=j
   .subst e;rw[hl]at hx;cases hx;exact Lt mK hl' e1 e2
   .exact hall i' (by omega) x hx)⟩):p:=h
def be(h:p:=by
 refine go ?_;refine DF ?_;refine go ?_;refine BI (false,(xs.take k).map nm) (hv:=rfl) (hp:=⟨(λh=>by cases h),λ_ hn=>?_⟩);rw[(qO hx).1]at hm;have hsub:(az.map (·.1)++(xs.take k).map nm++[nm x]).Nodup:=by
  have e:xs.map nm=(xs.take k).map nm++nm x::(xs.drop (k+1)).map nm:=by
   conv=>lhs;rw[<- xX k xs]
   rw[fG];congr 1;rw[x8 (bC.1 hx).1,iQ,(bC.1 hx).2]
  rw[e,<- gz]at hn;rw[iT]at hn⊢;exact⟨hn.1,by simp,λa ha c hc=>hn.2.2 a ha c (by rw[bK.1 hc];exact fT ..)⟩
 rw[iT]at hsub;exact hsub.2.2 _ hm _ (bK.2 rfl) rfl):p:=h
def bh(h:p:=by intro hb;refine⟨⟨?_,?_,?_,?_,?_,?_⟩,⟨?_,?_,?_⟩,?_,?_,?_⟩<;>dsimp only<;>first|(simp_all;done)|(simp_all;omega)|omega):p:=h
def bj(h:p:=by
 rintro⟨⟨q1,q2,q3,q4,q5,q6⟩,⟨p1,p2,p3⟩,p4,p5,p6⟩;dsimp only at q1 q2 q3 q4 q5 q6 p1 p2 p3 p4 p5 p6
 simp_all):p:=h
def bp(h:p:=by
 refine go ?_;intro _ _ iz hiz;have hig:=kX hiz;have hi0:=(H.ps.dQ iz (aS hiz))
 have hLn:=H.jq.len hby;obtain⟨i,rfl⟩:=iO hi0.1;refine gX (aA ai) (xs:=L) (k:=i) λ_ _ l' (pu:ah) hl'=>?_;have qV:=qU l' (aS hl');refine gC (LQ (xs:=l') (ys:=img s l) (by omega) (by rw[hil];omega)) λ_ _=>?_;have hr:pE L s (f:Int) l j=if sH l' (img s l)then(i:Int)else -1:=by
  unfold pE;rw[if_pos hby,hig,fQ,iC hl']
 refine go ?_;refine jS rfl (λh9=>?_) (λh9=>?_)
 .refine go ?_;intro _ _ Hf AO;rw[hiz]at AO;obtain rfl:(i:Int)=Hf:=Option.some.inj AO;refine aM ?_;rw[hr,if_pos h9];rfl
 refine aM ?_;rw[hr,if_neg (by rw[h9];simp)];rfl):p:=h
def bt(h:p:=by refine go ?_;refine fI (xs:=upTo' i) ai (i:Int) () (by omega) (next:=λad=>?_);rw[<- wG];refine go ?_;exact aQ (i+1,.slice ad ((upTo' i).length+1) ((upTo' i).length+1)) (by show g.cells.length - (i+1)<g.cells.length - i;omega) (by show i+1<=_;omega)):p:=h
def cj(h:p:=by
 have iJ:j=ps.length:=by omega
 subst iJ;rw[bM]at hmem hnd⊢;have hrl2:(fA g ps).length=ps.length:=by unfold fA;rw[bZ]
 refine qR (E:=ai) (v:=v8) (xs:=fA g ps) λa8 e8=>?_;subst e8;refine aB ?_ ?_<;>intro h5
 .refine go ?_;refine lc (c:=(130:Int)=0) (f:=aj (aA ai) (.slice none 0 0) (dW g rs)) (by omega) ?_;exact gQ ⟨.slice none 0 0,130⟩ ⟨(λh=>by cases h),λh=>by
   exfalso
   exact(h.2.all ps hpm).ne (jX.1 (by omega))⟩
 have hR:Aj g ps:=⟨λe=>h5 (by rw[hrl2,e];rfl),hmem,hnd⟩
 have hrr:dW g (rs.take (k+1))=dW g (rs.take k)++[fA g ps]:=by unfold dW;rw[htk,fG,sN]
 refine gZ (gI (E:=ai) (v:=.slice a8 (fA g ps).length (fA g ps).length) (xs:=fA g ps)) ?_;refine go ?_;intro b61;refine go ?_;refine fI (xs:=dW g (rs.take k)) (aA ai) (fA g ps) (.slice a8 (fA g ps).length (fA g ps).length) (by omega) (next:=λad=>?_);rw[<- hrr];refine go ?_;refine aQ (k+1,.slice ad ((dW g (rs.take k)).length+1) ((dW g (rs.take k)).length+1)) (by show rs.length - (k+1)<rs.length - k;omega) ⟨by show k+1<=_;omega,?_⟩;show∀qs∈rs.take (k+1),Aj g qs;rw[htk];intro qs hq;rcases dY.1 hq with hq|hq
 .exact hall qs hq
 .rw[bK.1 hq];exact hR):p:=h
def ck(h:p:=by refine go ?_;refine aQ (k+1) (by omega) ⟨by omega,?_⟩;rw[cB hx,cB hy,hsame,h3]):p:=h
def cm(h:p:=by
 have Bv:zC size (k+1) (ev l x) h=some xs:=hxs;simp only[aH.run,hx,Bv,hs,ym];have e1:nJ size m (.slice (some ⟨b,o,f⟩) m m) h=some old:=hold;show∃h',(cond (Nat.ble (Nat.mul (m+(k+1)) bytes) small&&Nat.ble (Nat.mul (m+(k+1)) size) small&&Nat.ble (m+(k+1)) small) _ _)=_/\_;rw[hc];show∃h',(cond (Nat.ble (m+(k+1)) m) _ _)=_/\_;rw[hlt];simp only[cond,e1];rcases hf with rfl|rfl
 .refine⟨_,rfl,?_⟩;exact⟨rfl,λi hi _=>by rw[IH.jF,if_neg (by omega)],⟨xW _,by rw[IH.jF,if_pos rfl,jQ]⟩,λ_=>rfl⟩
 .cases size with
  |zero=>
   refine⟨_,rfl,?_⟩;exact⟨rfl,λi hi _=>by rw[IH.jF,if_neg (by omega)],⟨xW _,by rw[IH.jF,if_pos rfl,jQ]⟩,λ_=>rfl⟩
  |succ j=>
   have hj:Nat.beq (Nat.succ j) (j+1)=true:=Nat.beq_refl _;refine⟨(h.kill b).new (.cells (old++xs)),?_,?_⟩
   .show cond (Nat.beq (Nat.succ j) (j+1)) _ _=_;rw[hj,jQ];rfl
   .exact⟨rfl,λi hi hb=>by rw[IH.jF,if_neg (by show i≠h.next;omega),IH.vT,if_neg hb],⟨xW _,by rw[IH.jF];exact if_pos rfl⟩,λhl=>by rw[IH.MV,IH.Bi];omega⟩):p:=h
def cq(h:p:=by
 refine aM ?_;have:xs=ys:=by
  apply jW;intro j;by_cases hj:j<k
  .exact hsame j hj
  .rw[iq (by omega),iq (by omega)]
 rw[eB this];rfl):p:=h
def cw(h:p:=by
 have zW:St B w0 (pt b (.cells cells)::k2) F w:=⟨nQ.agree,nQ.le,nQ.ig,⟨S,⟨_,S2,⟨rfl,hb⟩,q2,e1⟩,hnd,hown⟩,nQ.facts⟩
 have FN:At w.h b (.cells cells):=zW.at_ .here;refine Oi (old:=cells.drop o) (xs:=E.pat a y) hn hg hs hx1 hx2 ?_ (hf.elim (λe=>.inl (by rw[e])) λe=>.inr (by rw[e])) hm λh' mv=>?_
 .have hdl:(cells.drop o).length=xs.length*E.n:=by rw[vH];omega
  rw[FN.c.jh,qw,qD,if_pos (by omega),<- hdl,bM]
 obtain⟨w',rfl,kz,Dr⟩:=zW.move mv;refine r _ w' (kz.zV λS hp=>?_);have hle:∀f∈E.fs a y,f.p w':=λf hf=>kz.facts f (hF.mem f hf);refine put w' _ E.n (cells.drop o) (by rw[vH];omega) (λk z hk=>?_) hle (.inr rfl) S hp;obtain⟨y',u1,u2⟩:=hel k z hk;exact⟨y',λj u hj=>by rw[sK,<- oM];exact u1 j u hj,λf hf=>f.mono Dr (u2 f hf)⟩):p:=h
def cA(h:p:=by
 refine go ?_;refine aQ (k+1) (by omega) ⟨by omega,λj hj=>?_⟩;by_cases e:j=k
 .subst e;rw[hx,hy,h3]
 .exact hsame j (by omega)):p:=h
def cC(h:p:=by refine go ?_;exact gQ false (λh=>by cases h)):p:=h
def cD(h:p:=by
 refine gC zb λ_ _=>?_;cases hst:(step s p.1).2 with
 |true=>
  have hs1:step s p.1=((step s p.1).1,true):=Prod.ext rfl hst;refine go ?_;refine aQ (jg++[p],(step s p.1).1) (by show az.length - (jg++[p]).length<_;rw[ik,vI];omega) ⟨?_,⟨rem,by show((jg++[p])++rem).Perm az;rw[gz];exact hp⟩,λrest=>?_⟩
  .show ok ((jg++[p]).map (·.1)) _;rw[fG];exact hok _ s _ _ hos hX hst
  .show kK step s0 ((jg++[p]).map (·.1)++rest)=_;rw[fG,gz,hrun];show kK step s (p.1::rest)=_;rw[kK,hs1]
 |false=>
  have hs1:step s p.1=((step s p.1).1,false):=Prod.ext rfl hst;have hr:=hrun (p.1::rem.map (·.1));rw[kK,hs1]at hr;dsimp only at hr;refine go ?_;exact gQ (jg.map (·.1)++p.1::rem.map (·.1)) hX (hk:=by rw[hr];exact aO.self _ _)):p:=h
def cE(h:p:=by
 have:k=xs.length:=by omega
 subst this;refine aM ?_;rw[bM,hlen,bM]at hsame;rw[eB hsame];rfl):p:=h
def cF(h:p:=by
 refine go ?_;intro b53;refine go ?_;refine fI (xs:=fA g (ps.take j)) ai (c:Int) () (by omega) (next:=λad=>?_);rw[<- hr1];refine go ?_;refine aQ (j+1,.slice ad ((fA g (ps.take j)).length+1) ((fA g (ps.take j)).length+1)) (by show ps.length - (j+1)<ps.length - j;omega) ⟨by show j+1<=_;omega,?_,?_⟩
 .show∀p∈ps.take (j+1),p∈g.cells;rw[htx];intro p hp;rcases dY.1 hp with hp|hp
  .exact hmem p hp
  .rw[bK.1 hp];exact hxm
 .show(fA g (ps.take (j+1))).Nodup;rw[hr1,iT];exact⟨hnd,by simp,λa ha b hb e=>h5 (by rw[bK.1 hb]at e;rw[<- e];exact ha)⟩):p:=h
def cH(h:p:=by refine aM ?_;rw[aY (λe=>by subst e;rw[hx]at hy;exact h3 (Option.some.inj hy))];rfl):p:=h
def cI(h:p:=by refine aM ?_;rw[aY (λe=>by cases e;rw[hx]at hy;exact h3 (Option.some.inj hy))];rfl):p:=h
def cJ(h:p:=by
 refine gC zb λ_ _=>?_;rw[hd,kK]at hrun;refine go ?_;cases hst:step s ((k:Int),_)with
 |mk s' b=>
  have hst:=hst;rw[hst]at hrun;cases b with
  |true=>
   refine go ?_;refine aQ (k+1,s') (by show g.cells.length - (k+1)<g.cells.length - k;omega) ⟨by show k+1<=_;omega,?_,hrun⟩;have:=hok _ s _ _ hos hX (by rw[hst]);rw[hst]at this;rw[show(bF g).take (k+1)=(bF g).take k++[_]from by rw[oN,hsp];rfl];rw[hso];exact this
  |false=>
   refine go ?_;exact gQ (bF g) rfl (hk:=by rw[<- hrun];exact aO.all _)):p:=h
def cM(h:p:=by
 refine go ?_;refine gQ ⟨false,.nilFunc,.nilFunc⟩ ⟨(λe=>by cases e),λe=>?_⟩
 exfalso
 have e:=xJ.2 e;obtain⟨q1,q2,q3,q4,q5,q6⟩:=e;omega):p:=h
def cN(h:p:=by
 have:=h4 (j+1) g e hg he;rw[List.drop_drop];have hle:o0+P.cellsOf f.type<=g.offset:=by
  have hj:(fs.map (·.offset))[j]? =some g.offset:=by rw[dN,hg];rfl
  rw[h3]at hj;have hs:(fs.map λf=>P.cellsOf f.type)[j]? =some (P.cellsOf g.type):=by rw[dN,hg];rfl
  exact(zT _ ([]:ae ah) (o0+P.cellsOf f.type) j _ _ hj hs).2
 rw[show P.cellsOf f.type+(g.offset - (o0+P.cellsOf f.type))=g.offset - o0 by omega];exact this):p:=h
def cP(h:p:=by refine aM ?_;rw[aY (λe=>h3 (by rw[e,hy]at hx;cases hx;rfl))];rfl):p:=h
def cQ(h:p:=by refine go ?_;intro b69;refine go ?_;refine fI (xs:=dP j λb=>decide (b=(i:Int))||decide (b∈ln)) ai (j:Int) () (by omega) (next:=λad=>?_);rw[<- hss];refine go ?_;exact aQ (j+1,.slice ad ((dP j λb=>decide (b=(i:Int))||decide (b∈ln)).length+1) ((dP j λb=>decide (b=(i:Int))||decide (b∈ln)).length+1)) (by show g.cells.length - (j+1)<g.cells.length - j;omega) (by show j+1<=_;omega)):p:=h
def cR(h:p:=by
 refine go ?_;refine lc (c:=(130:Int)=0) (f:=aj (aA ai) (.slice none 0 0) (dW g rs)) (by omega) ?_;exact gQ ⟨.slice none 0 0,130⟩ ⟨(λh=>by cases h),λh=>by
  exfalso
  have h6:(fA g ps).Nodup:=(h.2.all ps hpm).nd;have h7:(fA g (ps.take (j+1))).Nodup:=by
   refine h6.sublist ?_;unfold fA;exact(H9 _ _).map _
  rw[hr1,iT]at h7;exact h7.2.2 _ h5 _ (bK.2 rfl) rfl⟩):p:=h
def cS(h:p:=by
 rw[rq (by omega)]at hk;have hk0:k=xs.length:=by
  have:=(bC.1 hk).1;simp at this;omega
 subst hk0;simp at hk;subst hk;refine⟨y,λj u hj=>?_,h3⟩;rw[fq,rq (by omega),h1,Ms];exact hj):p:=h
def cT(h:p:=by refine go ?_;refine aQ (k+1) (by omega) ⟨by omega,?_⟩;rw[cB hx,dY,not_or];exact⟨hno,by simp;exact λe=>h2 e.symm⟩):p:=h
def cU(h:p:=by
 refine go ?_;refine jS rfl (λh2=>?_) (λh2=>?_)
 .rw[ed]at h2;have h2:=gT h2;subst h2;refine go ?_;exact gQ (k,true) ⟨⟨λ_=>aS lU,λ_=>rfl⟩,λ_=>He lU hno⟩
 .rw[ed]at h2;have h2:=ol h2;refine go ?_;refine aQ (k+1) (by omega) ⟨by omega,?_⟩;rw[cB lU,dY,not_or];exact⟨hno,by simp;exact λe=>h2 e.symm⟩):p:=h
def cV(h:p:=by refine Ub (c:=0) hn hg hs hx1 hx2 (by simpa using hm) λh' ag pY hnx=>?_;obtain⟨w',rfl,kz⟩:=nQ.tail.fresh ag pY hnx;refine r _ w' (kz.zV λS hp=>?_);have hle:∀f∈E.fs a y,f.p w':=λf hf=>kz.facts f (hF.mem f hf);exact put w' _ E.n [] (by simp) (λk z hk=>by cases hk) hle (.inr rfl) S hp):p:=h
def cW(h:p:=by refine aM ?_;rw[aY (λe=>by subst e;omega)];rfl):p:=h
def c7(h:p:=by
 refine jC rfl ?_ ?_<;>intro h4
 .refine go ?_;exact gQ (-1) ⟨λh=>by omega,λh=>by have:=key.1 h;omega⟩
 refine aB ?_ ?_<;>intro h5
 .refine go ?_;exact gQ 1 ⟨λh=>by omega,λh=>by have:=key.1 h;omega⟩
 refine go ?_;exact gQ 0 ⟨λ_=>key.2 (by omega),λ_=>rfl⟩):p:=h
def c9(h:p:=by obtain⟨rfl,rfl⟩:=hr;rw[ha]at hx;refine Good.same hW (v':=ρ' x) ?_ hx;obtain⟨fn',f',c',h1,_,_,e⟩:=hx.Bo;cases h1;simp[execOp,e]):p:=h
def da(h:p:=by exact⟨by omega,c,a3,by unfold BQ;rw[if_neg (by omega),if_neg (by omega),if_neg (by omega)];exact a5,hcp,by omega,by omega,by omega⟩):p:=h
def dc(h:p:=by
 have hkl:k=nD.length:=by omega
 subst hkl;rw[bM,l4,bM]at hsame;have m4:=hsame;clear hsame hk h2;refine aM ?_;rw[eB (show bG.mk n1 v1 p1 w1 g1 ho1 nX nC nY nD=bG.mk n2 v2 p2 w2 g2 ho2 rZ qP r9 qQ from by rw[k1,iD.1 k2,iD.1 k3,iD.1 k4,iD.1 k5,k6,m1,m2,m3,m4])];rfl):p:=h
def de(h:p:=by rw[pG hlt]at hk;obtain⟨y',q1,q2⟩:=h2 k z hk;refine⟨y',λj u hj=>?_,q2⟩;rw[fq];have:=q1 j u hj;rw[pG (bC.1 this).1];exact this):p:=h
def dg(h:p:=by refine aM ?_;rw[aY (λe=>h1 (by rw[e]))];rfl):p:=h
def dj(h:p:=by
 refine go ?_;refine aQ (k+1) (by omega) ⟨by omega,λs hs'=>?_⟩ (hl:=⟨rfl,by rw[Xo hx];rfl,by repeat (first|exact trivial|refine⟨rfl,?_⟩)⟩);rw[oN,hx]at hs';rcases dY.1 hs' with h|h
 .exact hall s h
 .have:s=x:=by simpa using h
  rw[this];exact hm):p:=h
def dl(h:p:=by refine go ?_;exact gQ false ⟨(λh=>by cases h),λh=>by exfalso;have:=h.dG s hsm;omega⟩):p:=h
def dr(h:p:=by
 rw[hf]at hr;simp only[cond_true]at hr;split at hr
 .rename_i u hu;simp only[aF,dx]at hr;obtain⟨rfl,rfl⟩:=hr;obtain⟨h1,h2⟩:=EZ hu;have hx':=hx.pR hf;exact Good.same hW (v':=u) (by simp only[execOp,hx',dF,zI h1 w,dH,fD]) (VR.free h2)
 .cases hr):p:=h
def dy(h:p:=by
 rename_i kt et hu;cases hc;simp only[aH.run]at hr;split at hr
 .rename_i h2 hh;simp only[aF,dx]at hr;obtain⟨rfl,rfl⟩:=hr;obtain⟨w',r1,r2,r3⟩:=SH hu hh hm hk hx hW;exact⟨.skip,w',β,undef,Sr r1,.inr ⟨rfl,rfl⟩,.dR _,r2,r3⟩
 .cases hr):p:=h
def ee(h:p:=by
 refine aM ?_;have:j5 k.aK s=false:=by
  cases e:j5 k.aK s with
  |false=>rfl
  |true=>
   unfold j5 at e;rw[mJ]at e;have:=e j l hl2;rw[jL]at this;have:=gT (this _ (aS hb));dsimp only at this;rw[hd,hzg]at this;exact absurd this h3
 rw[this];rfl):p:=h
def ef(h:p:=by
 obtain⟨he,hno⟩:=hy.2 rfl;have he:e≠0:=he;dsimp only[cond,El,Em,List.nil_append];refine go ?_;intro b3;refine gH ?_ ?_<;>intro h1
 .exact absurd (iD.1 h1) he
 refine go ?_;exact gQ false ⟨(λh=>by cases h),λh=>absurd h.b hno⟩):p:=h
def eo(h:p:=by
 intro cl hcl;obtain⟨dd,op,ty,ps,af,gd⟩:=o;simp only at hcl;subst hcl;obtain⟨callee,args,ats⟩:=cl;cases callee with
 |value f=>simp only[cop,aF]at ic;rw[<- ic]at hl;cases hl
 |invoke x n=>simp[cop]at ic
 |builtin bb=>simp[cop]at ic):p:=h
def ew(h:p:=by
 refine go ?_;refine aQ (k+1) (by omega) ⟨by omega,?_,?_⟩
 .rw[htk];intro y hy;rcases dY.1 hy with hy|hy
  .exact hin y hy
  .rw[bK.1 hy];omega
 .rw[htk,iT];exact⟨hnd,by simp,λa ha b hb=>by rw[bK.1 hb];exact λe=>h4 (e▸ha)⟩):p:=h
def ez(h:p:=by refine aM ?_;subst h1 h2 h3 h4 h5 h6 h7 h8 h9 h10 h11;rw[show decide (bE.mk n1 o1 k1 f1 xP os1 s1 t1 p1 m1 y1 c1=bE.mk n1 o1 k1 f1 xP os1 s1 t1 p1 m1 y1 c2)=decide (c1=c2)from pJ.2 ⟨λh=>by cases h;rfl,λh=>by rw[h]⟩];rfl):p:=h
def eA(h:p:=by unfold jI lH;simp only[DY];split<;>split at *<;>(try split at *)<;>(try split at *)<;>(try split at *)<;>omega):p:=h
def eC(h:p:=by
 intro l;induction l with
 |nil=>intro m hm _;exact hm
 |cons s l ih=>
  intro m hm hl;rw[vD];refine ih _ (Mv hm ?_) (λt ht=>hl t (fO _ ht));have:=yS (hl s (fT ..));rw[Nat.one_shiftLeft];exact H8 (by omega) (by omega)):p:=h
def eE(h:p:=by
 have hno:¬qc g.shape g.w g.h g.holes:=λh=>by have:=hy.2 h;cases this
 dsimp only[mkV,qB,cond,List.nil_append];refine go ?_;intro b3;refine go ?_;exact gQ 130 ⟨(λh=>by cases h),λh=>absurd h.make hno⟩):p:=h
def eI(h:p:=by refine go ?_;refine lK (c:=(0:Int)=0) (f:=aj (aA ai) (.slice an (bJ g).length cn) (dD g 4)) (by rw[hf];simp) ?_;exact gQ ⟨.slice an (bJ g).length cn,0⟩ ⟨λ_=>⟨hg,by omega,by omega⟩,λ_=>rfl⟩):p:=h
def eJ(h:p:=by
 refine aM ?_;have:kY (kQ k) t=false:=by
  cases e:kY (kQ k) t with
  |false=>rfl
  |true=>
   unfold kY at e;rw[mJ]at e;have:=gT (e j _ hx);dsimp only at this;rw[e1,e2]at this;exact absurd this h2
 rw[this];rfl):p:=h
def eK(h:p:=by
 obtain⟨cs2,hl⟩:=hov;obtain⟨l1,l2,l3⟩:=Ir hl;refine⟨cs2,?_,l2,λk z hk=>?_⟩
 .unfold IH.storeAt;simp only[hb',hl]
 .rw[l3,if_pos ⟨by omega,by have:=(bC.1 hk).1;rw[bZ];omega⟩,Ms,dN,hk];rfl):p:=h
def eM(h:p:=by have h1:(bR (gM (fF (bF g)) p.2 (eD.take (dS g)))).length=(gM (fF (bF g)) p.2 (eD.take (dS g))).length:=(zA _ _).length_eq;have h2:=Ko (fF (bF g)) p.2 (eD.take (dS g));have h3:=BP g;rw[iY]at h2;omega):p:=h
def eN(h:p:=by exact .of_steps (t1.trans (.one hs)) (ih ops bU hv rest (i::done) (i::S') mO hds β0 h0 w0 ku jR cs0 β' w' b _ df k cs ρ' hG hdom hcx hI2 r4 (by rw[wm];exact hcs.mono t0) (by rw[wo];exact hro))):p:=h
def eR(h:p:=by
 by_cases e:m=n
 .subst e;simp
 .rw[if_neg (by omega),if_neg (by omega)]):p:=h
def eV(h:p:=by refine go ?_;refine lc (c:=(130:Int)=0) (f:=aj (aA ai) (.slice none 0 0) (dW g rs)) (by omega) ?_;exact gQ ⟨.slice none 0 0,130⟩ ⟨(λh=>by cases h),λh=>by exfalso;have:=h.2.len;omega⟩):p:=h
def eW(h:p:=by
 refine go ?_;refine aQ (k+1) (by show d.symbols.length - (k+1)<d.symbols.length - k;omega) ⟨by omega,?_⟩;rw[cB hs];intro x hx;rcases dY.1 hx with hx|hx
 .exact hall x hx
 .rw[bK.1 hx];omega):p:=h
def e9(h:p:=by
 refine go ?_;refine fu rfl (λh1=>?_) (λh1=>?_)
 .refine go ?_;exact gQ 130 ⟨(λh=>by cases h),λh=>absurd h.cells.symm h1⟩
 .refine go ?_;exact gQ 0 ⟨λ_=>⟨hmk,h1.symm⟩,λ_=>rfl⟩):p:=h
def fa(h:p:=by
 refine go ?_;refine aQ (k+1) (by show d.rules.length - (k+1)<d.rules.length - k;omega) ⟨by omega,?_⟩;rw[cB hr];intro x hx;rcases dY.1 hx with hx|hx
 .exact Ci x hx
 .rw[bK.1 hx];exact hR):p:=h
def fb(h:p:=by unfold lT;rw[iW,Dt (by intro c e;cases e) (by intro e;cases e)];simp only[jB,binOp];rw[iW,he];rfl):p:=h
def fc(h:p:=by refine go ?_;exact gQ (0,false) ⟨⟨(λh=>by cases h),λh=>absurd h hno⟩,(λh=>by cases h)⟩):p:=h
def ff(h:p:=by
 rw[ed]at k1;have k1:¬n1=n2:=by simpa using k1
 refine aM ?_;rw[aY (λe=>k1 (by cases e;rfl))];rfl):p:=h
def fg(h:p:=by refine go ?_;refine lc (c:=(1:Int)=0) (f:=aj (aA ai) (.slice none 0 0) (dD g k)) (by omega) ?_;exact gQ ⟨.slice none 0 0,1⟩ ⟨(λh=>by cases h),λh=>by exfalso;have:=h.2;omega⟩):p:=h
def fh(h:p:=by refine go ?_;refine lc (c:=(130:Int)=0) (f:=aj (aA ai) (.slice none 0 0) (dW g rs)) (by omega) ?_;exact gQ ⟨.slice none 0 0,130⟩ ⟨(λh=>by cases h),λh=>absurd (he.2 h.1) h1⟩):p:=h
def fk(h:p:=by
 refine go ?_;refine aQ (j+1) (by omega) ⟨by omega,λi' hi' x hx'=>?_⟩;by_cases e:i'=j
 .subst e;rw[hx]at hx';cases hx';rw[e1,e2];exact iD.1 h2
 .exact hall i' (by omega) x hx'):p:=h
def fp(h:p:=by
 have iJ:j=k.aK.length:=by omega
 subst iJ;refine aM ?_;have:j5 k.aK s=true:=by
  unfold j5;rw[mJ];intro i l hl';rw[jL];exact λb hb=>eB (hall i (bC.1 hl').1 l hl' b hb)
 rw[this];rfl):p:=h
def fL(h:p:=by
 have rO:xy.pending=none:=rO;have hto:(xy.pending.map Item.code).toList++k=k:=by rw[rO];rfl
 rw[hto]at hst;exact⟨.normal,a1,_,β3,_,tm,rM,cs,l3,y1,hE.trans y2,hA3,hcs,e4,hst⟩):p:=h
def fN(h:p:=by refine aM ?_;rw[aY (λe=>k7 (by cases e;rfl))];rfl):p:=h
def fR(h:p:=by refine aM ?_;rw[aY (λe=>k6 (by cases e;rfl))];rfl):p:=h
def fS(h:p:=by refine aM ?_;rw[aY (λe=>k4 (by cases e;rfl))];rfl):p:=h
def fW(h:p:=by refine aM ?_;rw[aY (λe=>k3 (by cases e;rfl))];rfl):p:=h
def ga(h:p:=by refine aM ?_;rw[aY (λe=>k2 (by cases e;rfl))];rfl):p:=h
def gb(h:p:=by refine aM ?_;rw[aY (λe=>k1 (by cases e;rfl))];rfl):p:=h
def gf(h:p:=by
 show cond (Nat.ble h.low i) h.low i=_;cases hb:Nat.ble h.low i with
 |true=>have:=lQ hb;simp;omega
 |false=>have:¬h.low<=i:=λhh=>by rw[Hr hh]at hb;cases hb
         simp;omega):p:=h
def gg(h:p:=by
 unfold jJ at this;rw[List.filterMap_eq_nil_iff]at this;obtain⟨j,hj⟩:=jM hr;have:=this (r,j) (vK.2 hj);cases h:(gy r.kind).read with
 |true=>rfl
 |false=>simp[h]at this):p:=h
def gi(h:p:=by refine go ?_;refine lc (c:=e=0) (f:=aj (aA ai) (.slice none 0 0) (dD g k)) h1 ?_;exact gQ ⟨.slice none 0 0,e⟩ ⟨(λh=>absurd h h1),λh=>absurd (hy.2 h.1) h1⟩):p:=h
def gj(h:p:=by
 rcases hcx.round with⟨_,hb⟩|⟨l,g,hl,_⟩
 .exact hb
 .rw[<- hro,Fw]at hl;cases hl):p:=h
def gk(h:p:=by rw[qH hn];exact⟨u,h2,by rw[oz];exact e1,λd' hd=>by rw[<- e2 d' hd];exact wy _ _⟩):p:=h
def gx(h:p:=by
 refine go ?_;refine gQ ⟨false,.nilFunc,.nilFunc⟩ ⟨(λe=>by cases e),λe=>?_⟩
 exfalso
 have e:=xJ.2 e;obtain⟨q1,q2,q3,q4,q5,q6⟩:=e;have:=q5 x hxm;omega):p:=h
def gA(h:p:=by refine go ?_;exact gQ false ⟨(λh=>by cases h),λh=>by exfalso;have:=h.1;omega⟩):p:=h
def gE(h:p:=by rw[show min (b:Int).toNat 64=b by simp;omega,RD];congr 2;rw[show((2:Int)^b)=((2^b:Nat):Int)by simp,Int.fdiv_eq_ediv_of_nonneg _ (Int.natCast_nonneg _)];simp):p:=h
def gO(h:p:=by refine go ?_;refine gQ false ⟨(λh=>by cases h),λq=>?_⟩;have h5:=q.nd.sublist (H9 (k+1) xs);rw[htk,iT]at h5;exact absurd rfl (h5.2.2 _ h4 _ (bK.2 rfl))):p:=h
def gR(h:p:=by exact⟨⟨⟨by omega,by omega,by omega,by omega,hB.tT,hB.holes,hB.tV⟩,hB.dw,hB.dh,by omega⟩,⟨hB.gw,hB.gh,by omega,by omega⟩,hB.aK,hB.lists⟩):p:=h
def hJ(h:p:=by rw[hle (show Nat.mul (m+(k+1)) bytes<=small from hm.1),hle (show Nat.mul (m+(k+1)) size<=small from hm.2.1),hle (show m+(k+1)<=small from hm.2.2)];rfl):p:=h
def hU(h:p:=by
 have iJ:j=t.length:=by omega
 subst iJ;refine aM ?_;have:kY (kQ k) t=true:=by
  unfold kY;rw[mJ];exact λi x hx=>eB (hall i (bC.1 hx).1 x hx)
 rw[this];rfl):p:=h
def ia(h:p:=by exact ih ops bU hv rest (i::done) S mO hds β0 h0 w0 ku jR cs0 β w b tm df k cs ρ hG hdom hcx hI2 hR (by rw[wm];exact hcs) (by rw[wo];exact hro)):p:=h
def ii(h:p:=by rw[if_neg hp,jd]at hss;rw[<- hss];refine go ?_;exact aQ (j+1,v5) (by show g.cells.length - (j+1)<g.cells.length - j;omega) (by show j+1<=_;omega)):p:=h
def ij(h:p:=by refine go ?_;exact aQ (1+1,.slice a3 (nG g (1+1)).length (nG g (1+1)).length) (by show 2 - (1+1)<2 - 1;omega) ⟨by show 1+1<=2;omega,.inr hw⟩):p:=h
def ir(h:p:=by refine go ?_;exact aQ (0+1,.slice a3 (nG g (0+1)).length (nG g (0+1)).length) (by show 2 - (0+1)<2 - 0;omega) ⟨by show 0+1<=2;omega,.inr hw⟩):p:=h
def iu(h:p:=by
 refine go ?_;refine aQ (k+1) (by omega) ⟨by omega,?_⟩;rw[cB hx];intro z hz;rcases dY.1 hz with hz|hz
 .exact hall z hz
 .rw[bK.1 hz];exact h2):p:=h
def iv(h:p:=by
 unfold xk at hz;split at hz
 .rename_i z' n' hz' _;obtain⟨i',j1,j2,_⟩:=C8 hz';rw[h1]at j1;cases j1;rw[h2]at j2;cases j2;exact hz'
 .cases hz):p:=h
def iS(h:p:=by
 intro v pm h2 hm;dsimp only at hm;split at hm
 .rename_i lp hlp;split at hm
  .cases hm
  .rename_i hs;exact⟨lp,hlp,λe=>hs e,hm⟩
 .cases hm):p:=h
def i6(h:p:=by exact absurd h (by omega)):p:=h
def i7(h:p:=by simp only[aF,dx]at hr⊢;exact⟨hr.2.symm,hr.1⟩):p:=h
def jj(h:p:=by refine go ?_;refine aQ (j+1) (by omega) (by omega) (hl:=⟨rfl,by rw[hst];rfl,by repeat (first|exact trivial|refine⟨rfl,?_⟩)⟩)):p:=h
def jn(h:p:=by refine go ?_;exact gQ false (hno (by omega) _ rfl)):p:=h
def jp(h:p:=by refine aM ?_;rw[aY (λe=>k5 (by cases e;rfl))];rfl):p:=h
def js(h:p:=by
 refine aB ?_ ?_<;>intro h1
 .refine go ?_;exact gQ ⟨false,e,v1,v2,v1,v1,v1,v1⟩ (hend he λh=>hno h.rs)
 .exact absurd (iD.1 h1) he):p:=h
def jt(h:p:=by
 refine hW.inj _ _ _ _ hk hm ?_ ?_ hr he
 .split at hj
  .exact absurd rfl hj
  .exact hj
 .split at hl
  .exact absurd rfl hl
  .exact hl):p:=h
def ju(h:p:=by
 have hno:¬eY k:=λh=>by have:=hb.2 h;cases this
 dsimp only[cond];refine go ?_;exact gQ (false,180) ⟨λ_=>rfl,λh=>absurd h hno⟩):p:=h
def jx(h:p:=by subst this;intro e;subst e;exact hm2 ha):p:=h
def jz(h:p:=by rw[zz];exact List.Pairwise.imp (λh=>by omega) List.pairwise_lt_range):p:=h
def j0(h:p:=by refine go ?_;have hr:=hrun [];rw[jd]at hr;exact gQ (jg.map (·.1)) (hp.map (·.1)) (hk:=by rw[hr];apply aO.there;exact aO.all _)):p:=h
def j7(h:p:=by rw[tN (by rw[uW];exact h)]at hy;subst hy;cases e):p:=h
def j8(h:p:=by
 refine go ?_;exact gQ false ⟨(λh=>by cases h),λh=>by
  exfalso
  rcases h.2 with⟨_,q,_⟩|⟨q,_⟩
  .omega
  .exact q h3⟩):p:=h
def j9(h:p:=by exact gQ ⟨v8,0⟩ ⟨λ_=>⟨hg,by omega,by omega⟩,λ_=>rfl⟩):p:=h
def kj(h:p:=by exact gQ ⟨v4,0⟩ ⟨λ_=>⟨hg,by omega,by omega⟩,λ_=>rfl⟩):p:=h
def kp(h:p:=by
 obtain⟨v,hv⟩:=Gq h;have e:lX true zero a az=.tuple ⟨[v,.bool true]⟩:=by unfold lX;rw[hv];rfl
 rw[e];exact hit v hv h):p:=h
def kq(h:p:=by
 obtain⟨cs,r,⟨_,e⟩|⟨e,_⟩⟩:=h
 .obtain⟨a,y,rfl,q⟩:=hr w H d cs hz r;exact⟨a,y,e,q⟩
 .rw[ha]at e;cases e):p:=h
def kx(h:p:=by
 cases h:Nat.beq (m%2) 0 with
 |true=>simp[qY h]
 |false=>simp[Ez h]):p:=h
def kA(h:p:=by simp only[xD];exact⟨λv hv l hl n hn hi=>hcl v (by simpa using hv) l hl n hn hi,(by simp),(by simp),(by simp)⟩):p:=h
def kB(h:p:=by exact H8 (by omega) (by omega)):p:=h
def li(h:p:=by
 refine go ?_;have:k=xs.length:=by omega
 subst this;rw[bM]at hno;refine fE () (hv:=?_) (hp:=trivial);rw[aY hno];rfl):p:=h
def lj(h:p:=by
 rw[iq (by rw[bZ,qm];omega),iq (by rw[bZ,qm];omega)];by_cases e:j=i
 .rw[if_pos e,if_neg (by omega)]
 .rw[if_neg e]):p:=h
def lz(h:p:=by rw[<- Ce];refine go ?_;exact aQ (j+1,v5) (by show ln.length - (j+1)<ln.length - j;omega) (by show j+1<=_;omega)):p:=h
def lA(h:p:=by refine gC (YR (d:=k.decl) hB.tV hB.tT) λb hb=>?_;refine go ?_;exact gQ b (λh=>⟨hb h,by omega,by omega⟩)):p:=h
def lB(h:p:=by
 intro o a' h' hm hn;cases o with
 |normal=>exact absurd rfl hn
 |exit _=>exact hm
 |ret=>exact hm
 |panic _=>exact hm):p:=h
def lE(h:p:=by have:=h3 i (pI _ hi);refine⟨this.1,this.2.1,λhz=>hz.elim this.2.2 λhm=>?_⟩;exact hnd.2.2 i hm i hi rfl):p:=h
def lO(h:p:=by exact⟨rr,h2',β2,w2,F2,r2,p1,p2,q3.trans p3,p4,(Steps.head s1 (e2.trans (.one s2))).trans p5,p6,p7,p8⟩):p:=h
def lP(h:p:=by exact gQ ⟨.slice none 0 0,160⟩ ⟨(λh=>by cases h),λh=>by have:=hy1.2 (h.2 x (aS hx));cases this⟩):p:=h
def lR(h:p:=by
 induction l with
 |nil=>exact .nil
 |cons x l ih=>exact .cons (h x (by simp)) (ih λy hy=>h y (by simp[hy]))):p:=h
def mc(h:p:=by
 match a,hv,hg with
 |none,hv,_=>exact h0 e c hv w s
 |some ⟨i,o,some f⟩,hv,_=>exact h1 e i o f c hv w s):p:=h
def me(h:p:=by
 rw[dN,ru hi,dN,ru hi];by_cases e:j=i
 .subst e;simp[hj]
 .have e2:¬(i:Int)=(j:Int):=by omega
  simp[e,e2]):p:=h
def mj(h:p:=by
 have e:lX true zero a az=.tuple ⟨[zero,.bool false]⟩:=by unfold lX;rw[tN h];rfl
 rw[e];exact miss h):p:=h
def mm(h:p:=by
 intro ys zs;induction zs generalizing ys with
 |nil=>simp[oF]
 |cons z zs ih=>rw[oF];simp only[ih];simp):p:=h
def mu(h:p:=by exact absurd (hW.dom _ _ hk) (by omega)):p:=h
def mw(h:p:=by obtain⟨v0,_,h0⟩:=a7 j v hj;obtain⟨v',h1,h2⟩:=b7 j v hj;exact⟨v',h1,h0.restrict hle h2⟩):p:=h
def mz(h:p:=by
 split at hl
 .exact⟨_,.inl (by assumption),hl⟩
 .exact⟨_,.inr (by assumption),hl⟩
 .cases hl):p:=h
def mA(h:p:=by rw[hat.c.jh,qw,qD,zy,AY,if_pos (by omega),<- hlen,bM]):p:=h
def mB(h:p:=by
 rcases a with⟨rfl,a,m,c,rfl,rfl⟩|⟨i,o,f,c,cs,h1,_⟩
 .exact⟨a,c,rfl⟩
 .exact⟨_,c,h1⟩):p:=h
def mC(h:p:=by exact gQ (.slice (some ⟨b,0,some 0⟩) 0 0) trivial):p:=h
def mL(h:p:=by exact Dz () rfl trivial trivial):p:=h
def mN(h:p:=by
 cases o with
 |normal=>exact absurd rfl hn
 |_=>exact hm):p:=h
def mS(h:p:=by simp[binOp,Op.intCmp,uG,<- Int.not_le]):p:=h
def mT(h:p:=by simp only[aF,dx,zx]at hr;simp only[hr]):p:=h
def nc(h:p:=by intro h;rw[yU h]at hy;subst hy;cases e):p:=h
def nh(h:p:=by
 have hx:gy r.kind=⟨true,false,false,false,false,true,true,0⟩:=by rw[hk];rfl
 clear hk;exact uf):p:=h
def nj(h:p:=by
 have hx:gy r.kind=⟨false,true,false,false,false,true,true,0⟩:=by rw[hk];rfl
 clear hk;exact uf):p:=h
def nl(h:p:=by refine go ?_;refine(fo rfl rfl (JQ rfl rfl)).h ?_;refine go ?_;exact gQ (min n 2001) (by omega)):p:=h
def nn(h:p:=by refine go ?_;exact gQ false ⟨(λh=>by cases h),λh=>by exfalso;have:=(h.kD k c hc).1;omega⟩):p:=h
def nq(h:p:=by intro v v0 v1;have r:=ht.inv.at_ v0 v1;have:=h _ r.1 r.2;rw[ht.KM v0 v1]at this;exact this.symm):p:=h
def nr(h:p:=by simp only;rw[<- hf];refine step_lone_go ?_;rw[Bq ho hw (.inl hro)];simp[stepG.apply,hr,hre,ht]):p:=h
def nt(h:p:=by obtain⟨a,b⟩:=hr.cellV hc;cases v<;>first|rfl|exact absurd rfl (a _)|exact absurd rfl (b _)):p:=h
def nv(h:p:=by simp only[execOp,Instr.sliceAt,Instr.slice,dF,fV hu,dH,hx',e1,e2,e3,b1,nN hs1,fD];split<;>rfl):p:=h
def nw(h:p:=by refine go ?_;exact gQ false ⟨(λh=>by cases h),λh=>absurd (hb.2 (h.l7 r hrm)) (by simp)⟩):p:=h
def nB(h:p:=by exact hall i' (by omega) x hx'):p:=h
def nF(h:p:=by
 rw[cB hx];intro c hc;rcases dY.1 hc with hc|hc
 .exact hall c hc
 .rw[bK.1 hc];exact hy1.1 rfl):p:=h
def n5(h:p:=by intro v v0 v1;have r:=ht.at_ v0 v1;rw[y5 v0 (by rw[ht.len];exact v1),h2 _ r.1 r.2,h _ v0 v1]):p:=h
def n9(h:p:=by refine aM ?_;rw[aY (λe=>k9 (by cases e;rfl))];rfl):p:=h
def oa(h:p:=by refine aM ?_;rw[aY (λe=>k8 (by cases e;rfl))];rfl):p:=h
def oc(h:p:=by refine aM ?_;rw[aY (λe=>h2 (by cases e;rfl))];rfl):p:=h
def od(h:p:=by refine aM ?_;rw[aY (λe=>h1 (by cases e;rfl))];rfl):p:=h
def oe(h:p:=by simp only[lm]at hc;obtain⟨_,_,rfl⟩:=hc;simp only[aH.run,aH.alloc,h0,h1,h2,h3,and_self]):p:=h
def ov(h:p:=by
 by_cases hx:aN=[]
 .subst hx;exact h1 rfl i o f c hv w s
 .exact h2 (CF.2 hx) i o f c hv w s):p:=h
def ox(h:p:=by
 by_cases e:i'=j
 .subst e;rw[hl2]at hl';cases hl';exact Cs
 .exact hall i' (by omega) l' hl'):p:=h
def oy(h:p:=by apply Classical.byContradiction;intro hc;exact hb λj k hk hj hkb=>hc ⟨j,k,hk,hj,hkb⟩):p:=h
def oA(h:p:=by rintro r pm h' ⟨hp,w',y,e1,st,e2,_⟩;exact⟨hp,w',(),e1,back w' _ _ st,e2,trivial⟩):p:=h
def oB(h:p:=by obtain⟨v,h1,h2,h3⟩:=hm;cases he;have h2:a.defers=[]:=h2;rw[h2];exact .ret v h1 h3):p:=h
def oE(h:p:=by rw[h3]at e;exact Option.some.inj e):p:=h
def oR(h:p:=by show dZ P (Instr.checkKey b (9999+1) kt _)=_;unfold Instr.checkKey;rw[iW,tq hu];rfl):p:=h
def oS(h:p:=by cases hk;rw[if_pos rfl]at hx;cases hx;exact ho):p:=h
def oT(h:p:=by subst hn;simp only[fr]at he' hcall⊢;simp[stepG,stepG.exec,he',stepG.apply,hcall]):p:=h
def pb(h:p:=by
 match vs with
 |[]=>rfl
 |[v]=>rfl
 |_::_::_=>rfl):p:=h
def pe(h:p:=by
 intro l;induction l with
 |nil=>rfl
 |cons x l ih=>rw[iQ];simp[gu,cz,Ideal.cellV,ih]):p:=h
def ph(h:p:=by simp only[aF]at hc;exact hc.symm):p:=h
def pn(h:p:=by
 rcases bT.1 hk with rfl|hk
 .exact fO _ (hpre j hj)
 .exact fO _ (hcl k hk j hj)):p:=h
def po(h:p:=by exact gQ ⟨.slice none 0 0,161⟩ ⟨(λh=>by cases h),λh=>absurd h.1 h2⟩):p:=h
def pw(h:p:=by
 cases es with
 |nil=>rfl
 |cons e es=>cases h):p:=h
def px(h:p:=by have:=congrArg List.length (FJ ss cs hsum);rw[bZ]at this;rw[this];simp[ss]):p:=h
def py(h:p:=by
 cases he:eP mk (j:Nat)with
 |false=>rfl
 |true=>exact absurd ⟨j,hj,he⟩ hex):p:=h
def pA(h:p:=by
 induction h with
 |nil=>exact .nil
 |cons h1 _ ih=>exact .cons (.there h1) ih):p:=h
def pB(h:p:=by
 rcases sJ g.b w.heap.size with hh|hh
 .exact hh
 .rw[vC hh]at o1;cases o1):p:=h
def pC(h:p:=by obtain⟨body,hb⟩:=Rw.1 h5;exact⟨fn,body,h3,hb,by simpa using h4⟩):p:=h
def pD(h:p:=by have:=DW (g.w*g.h).toNat g.holes;have:=xE hmk.wi hmk.he;unfold ny;omega):p:=h
def pH(h:p:=by refine go ?_;exact gQ false ⟨(λh=>by cases h),λh=>absurd h.e h3⟩):p:=h
def pL(h:p:=by rw[<- gz,<- gz];exact List.Perm.append_right T2 List.perm_append_comm):p:=h
def pN(h:p:=by rw[mJ]at e;have:=e j l hl;dsimp only at this;rw[h]at this;cases this):p:=h
def pP(h:p:=by rw[jd];exact List.Perm.append_right S2 (List.Perm.append_left T1 v2)):p:=h
def pS(h:p:=by
 cases hb:Nat.ble (m+(k+1)) m with
 |false=>rfl
 |true=>have:=lQ hb;omega):p:=h
def pT(h:p:=by show(w.h.new _).get b=_;rw[IH.jF,if_neg (by have:=w.nP b hz;omega)]):p:=h
def pZ(h:p:=by have:=OR.Iy (P:=P) (w:=w) t (hcs.mono hle) hc [] 0;simpa using this):p:=h
def p0(h:p:=by exact this.imp (λh=>by simpa using h)):p:=h
def qe(h:p:=by
 intro g hg;rcases dY.1 hg with hg|hg
 .exact q2 g hg
 .exact u2 g hg):p:=h
def qk(h:p:=by refine go ?_;exact gQ xs rfl (hk:=by rw[<- hrun];exact aO.all _)):p:=h
def qn(h:p:=by rw[if_pos ⟨by simp,by simp;omega⟩];simp[nN hs1,addr_add,oM]):p:=h
def qq(h:p:=by refine go ?_;exact bad (λq=>by have:=q.wi;omega) rfl rfl .here):p:=h
def qt(h:p:=by refine go ?_;exact bad (λq=>by have:=q.he;omega) rfl rfl .here):p:=h
def qu(h:p:=by intro e;subst e;rw[hi]at hb;cases hb):p:=h
def qv(h:p:=by exact⟨j,by omega,h2,h3⟩):p:=h
def qS(h:p:=by exact aQ (j+1) (by omega) (by omega)):p:=h
def qT(h:p:=by exact gQ (.slice none 0 0,110) (hend λh=>by have:=h.1;omega)):p:=h
def rh(h:p:=by rw[h2,<- h.decl]at this;exact this):p:=h
def ri(h:p:=by exact gQ (.slice none 0 0) trivial):p:=h
def rj(h:p:=by
 cases O with
 |nil=>simp at h6
 |cons o O2=>exact⟨o,O2,rfl⟩):p:=h
def rp(h:p:=by refine go ?_;exact gQ true ⟨λ_=>⟨hb,h3⟩,λ_=>rfl⟩):p:=h
def rB(h:p:=by obtain⟨gm,a,b⟩:=o3.Dc;exact⟨gm,a,by simpa using b⟩):p:=h
def rI(h:p:=by simp only[execOp,resolve,k4,Deferred.ofValue,dF,fD,dH,he]):p:=h
def rK(h:p:=by rw[hk]at this;simp[jP,hk,this.nO]):p:=h
def rL(h:p:=by show(match (0:Nat)with|0=>some ([]:ae ah)|_=>none)=_;rfl):p:=h
def rN(h:p:=by
 rcases bT.1 hf with rfl|hf
 .exact lq _ hm
 .exact pI _ hf):p:=h
def rS(h:p:=by unfold grownCap Question.cut;exact Nat.le_add_right _ _):p:=h
def r5(h:p:=by refine xY.2 ⟨λhm=>?_,h2⟩;have:=(h3 _ hm).2.1;omega):p:=h
def r6(h:p:=by
 rcases Nat.mul_eq_zero.1 h0 with hh|hh
 .exact hh
 .omega):p:=h
def r7(h:p:=by injection hpq with e1 e2;exact Prod.ext (inj _ _ e1) e2):p:=h
def r8(h:p:=by
 rcases(h3 i (lq _ hz)).1 with q|q
 .omega
 .exact .inr q):p:=h
def sg(h:p:=by exact⟨.value v',w',β',v',yC r1,.inl rfl,r2,r3,r4⟩):p:=h
def sk(h:p:=by
 rcases hb.1 with q|q
 .omega
 .intro e;exact hB (e▸q)):p:=h
def sq(h:p:=by show(w.heap.push o')[b]? =_;rw[EA,if_neg (by omega)]):p:=h
def sv(h:p:=by rintro t ⟨y,p,_,_,hp',lV⟩;exact hds y p t hp' lV):p:=h
def sx(h:p:=by refine aM ?_;rw[aY (λe=>k10 (by cases e;rfl))];rfl):p:=h
def sA(h:p:=by refine aM ?_;rw[aY (λe=>h11 (by cases e;rfl))];rfl):p:=h
def sB(h:p:=by refine aM ?_;rw[aY (λe=>h10 (by cases e;rfl))];rfl):p:=h
def sC(h:p:=by rw[jL];intro x hx;obtain⟨z,_,rfl⟩:=eF.1 hx;rfl):p:=h
def sE(h:p:=by rw[hu]at hok;obtain⟨c,e,_⟩:=hok;exact⟨c,e⟩):p:=h
def sL(h:p:=by refine aM ?_;rw[aY (λe=>h9 (by cases e;rfl))];rfl):p:=h
def sR(h:p:=by refine aM ?_;rw[aY (λe=>h8 (by cases e;rfl))];rfl):p:=h
def sX(h:p:=by refine aM ?_;rw[aY (λe=>h7 (by cases e;rfl))];rfl):p:=h
def sY(h:p:=by refine aM ?_;rw[aY (λe=>h6 (by cases e;rfl))];rfl):p:=h
def s5(h:p:=by refine aM ?_;rw[aY (λe=>h5 (by cases e;rfl))];rfl):p:=h
def s6(h:p:=by refine aM ?_;rw[aY (λe=>h4 (by cases e;rfl))];rfl):p:=h
def s7(h:p:=by refine aM ?_;rw[aY (λe=>h3 (by cases e;rfl))];rfl):p:=h
def s8(h:p:=by
 rcases q6 with h6|h6
 .exact .inl h6
 .exact .inr h6):p:=h
def s9(h:p:=by
 cases r with
 |none=>simp[C9 hz,Fa]
 |some p=>simp[Fa]):p:=h
def ta(h:p:=by
 refine gX bV (xs:=nY) λ_ _ x (_:Unit) hx=>?_;refine gX bV (xs:=r9) λ_ _ y (_:Unit) hy=>?_;refine go ?_;refine(fo (v:=.bool (!decide (x=y))) rfl rfl (by rw[<- P7];exact DN rfl rfl hu2 (by kernel_rfl) (by kernel_rfl) (row_of hrow2 rfl rfl (λj=>by rw[fq]) (λj=>by rw[fq])) (by simp[gu,cz,Ideal.cellV]) (by simp[gu,cz,Ideal.cellV]))).h ?_;refine go ?_;refine fu rfl (λh3=>?_) (λh3=>?_)
 .exact cI
 exact ck):p:=h
def tb(h:p:=by
 refine gX eT (xs:=nX) λ_ _ x (_:Unit) hx=>?_;refine gX eT (xs:=rZ) λ_ _ y (_:Unit) hy=>?_;refine go ?_;refine(fo (v:=.bool (!decide (x=y))) rfl rfl (by rw[<- P6];exact DN rfl rfl hu1 (by kernel_rfl) (by kernel_rfl) (row_of Q5 rfl rfl (λj=>by rw[fq]) (λj=>by rw[fq])) (by simp[gu,cz,Ideal.cellV]) (by simp[gu,cz,Ideal.cellV]))).h ?_;refine go ?_;refine fu rfl (λh3=>?_) (λh3=>?_)
 .exact cI
 exact ck):p:=h
def tc(h:p:=by
 have hlen:xs.length=ys.length:=by omega
 refine gN xs.length 5 (λk=>k<=xs.length/\xs.take k=ys.take k) ⟨by omega,by simp⟩ ?_;rintro k ⟨hk,hsame⟩;refine aB ?_ ?_<;>intro h2
 .refine gX aV (xs:=xs) λ_ _ x (_:Unit) hx=>?_;refine gX aV (xs:=ys) λ_ _ y (_:Unit) hy=>?_;refine go ?_;refine fu (p:=x=y) (by show Value.bool _=_;rw[ed]) (λh3=>?_) (λh3=>?_)
  .exact cH
  exact ck
 exact cE):p:=h
def td(h:p:=by
 have hlen:xs.length=ys.length:=by omega
 refine gN xs.length 5 (λk=>k<=xs.length/\xs.take k=ys.take k) ⟨by omega,by simp⟩ ?_;rintro k ⟨hk,hsame⟩;refine aB ?_ ?_<;>intro h2
 .refine go ?_;intro _ _ x hx _ _ y hy;refine aB ?_ ?_<;>intro h3
  rotate_left
  .have h3:x=y:=iD.1 h3;exact ck
  .exact cH
 exact cE):p:=h
def tf(h:p:=by
 refine gH ?_ ?_<;>intro t1
 .exact cC
 refine gC (Q6 (xs:=k.aK) n1 n2) λm hm=>?_;refine gH ?_ ?_<;>intro t2
 .exact cC
 refine gH ?_ ?_<;>intro t3
 .exact cC
 refine gH ?_ ?_<;>intro t4
 .exact cC
 exact lA):p:=h
def tg(h:p:=by refine go ?_;intro Ar;exact bt):p:=h
def th(h:p:=by
 rw[hagg]at hr;simp only at hr⊢;split at hr
 .rename_i l hl;try rw[hl]
  exact i7
 .cases hr):p:=h
def tj(h:p:=by
 refine go ?_;refine gQ 170 ⟨λh=>?_,λh=>?_⟩
 .exact i6
 exfalso
 have:=h.Qr;omega):p:=h
def tn(h:p:=by
 refine aB ?_ ?_<;>intro h2
 .refine aM ?_;subst h2;rw[eB (aS hx)];rfl
 .exact cT):p:=h
def tr(h:p:=by omega):p:=h
def tt(h:p:=by simp):p:=h
def tv(h:p:=by kernel_rfl):p:=h
def tw(h:p:=by rfl):p:=h
def tx(h:p:=by repeat (first|exact aO.nil|(apply aO.cons;(focus (repeat (first|exact aD.here|apply aD.there)))))):p:=h
def tA(h:p:=by decide):p:=h
def tB(h:p:=by simp[Op.operands]):p:=h
def tD(h:p:=by first|exact rfl|(conv=>lhs;whnf)):p:=h
def tE(h:p:=by simpa using h):p:=h
def tG(h:p:=by simp;omega):p:=h
def tI(h:p:=by rw[hf];simp):p:=h
def tM(h:p:=by show k+1<=_;omega):p:=h
def tP(h:p:=by show i+1<=_;omega):p:=h
def tR(h:p:=by simpa using hx):p:=h
def tS(h:p:=by simp[stepG,stepG.exec,fr]):p:=h
def tU(h:p:=by show j+1<=_;omega):p:=h
def tW(h:p:=by simpa using e):p:=h
def ua(h:p:=by rw[hk];rfl):p:=h
def uc(h:p:=by intro e;rw[e]at h;cases h):p:=h
def ud(h:p:=by simp[h]):p:=h
def ur(h:p:=by simpa using h1):p:=h
def us(h:p:=by simpa[uo]using hb):p:=h
def uv(h:p:=by simp[ha]):p:=h
def ux(h:p:=by rw[e2];exact hw):p:=h
def u9(h:p:=by simpa[oP]using hb):p:=h
def vf(h:p:=by rw[vH];omega):p:=h
def vj(h:p:=by show g.cells.length - (j+1)<g.cells.length - j;omega):p:=h
def vm(h:p:=by subst hy;simp[Op.operands]):p:=h
def vA(h:p:=by rw[wo];exact hro):p:=h
def we(h:p:=by apply Array.ext';simp):p:=h
def wg(h:p:=by rw[h1];exact bK.2 rfl):p:=h
def wj(h:p:=by simpa using h2):p:=h
def wk(h:p:=by rw[ho]):p:=h
def wl(h:p:=by dsimp only;omega):p:=h
def wq(h:p:=by show Value.bool _=_;rw[ed]):p:=h
def wv(h:p:=by show d.rules.length - (k+1)<d.rules.length - k;omega):p:=h
def wx(h:p:=by unfold qg;omega):p:=h
def wA(h:p:=by apply Array.ext';exact ha):p:=h
def w8(h:p:=by simp[e]):p:=h
def xa(h:p:=by rw[hop];rfl):p:=h
def xb(h:p:=by simp[hi]):p:=h
def xf(h:p:=by rw[oz];exact hr):p:=h
def xj(h:p:=by intro e;cases e):p:=h
def xo(h:p:=by simpa using hnd):p:=h
def xp(h:p:=by simpa using hc):p:=h
def xF(h:p:=by cases e;rfl):p:=h
def xT(h:p:=by show g.cells.length - (i+1)<g.cells.length - i;omega):p:=h
def x6(h:p:=by unfold jA;simp[c0]):p:=h
def x7(h:p:=by unfold jA;simp[c4]):p:=h
def ya(h:p:=by unfold jA;simp[c5]):p:=h
def yb(h:p:=by show h1 - l<=m - l;omega):p:=h
def ye(h:p:=by simp only[Op.operands,List.mem_toArray,eF];exact⟨p,hp,rfl⟩):p:=h
def yp(h:p:=by rw[<- hdst];exact hdd):p:=h
def yq(h:p:=by rw[put_defers];exact t2.act.defers):p:=h
def yy(h:p:=by rw[h1];simp):p:=h
def y3(h:p:=by intro r hr;cases hr):p:=h
def y4(h:p:=by rw[qH hn];exact next):p:=h
def y6(h:p:=by rw[h3];exact bK.2 rfl):p:=h
def zc(h:p:=by simp only[target,jQ,jd]):p:=h
def zd(h:p:=by simpa using hj):p:=h
def zj(h:p:=by rw[e];simp):p:=h
def zp(h:p:=by rw[hg.cells];exact Kn _ _):p:=h
def z6(h:p:=by rw[qL];omega):p:=h
def z7(h:p:=by rw[uW];exact hm):p:=h
def An(h:p:=by simp[gu,cz,Ideal.cellV]):p:=h
def As(h:p:=by show m - (k+1)<m - k;omega):p:=h
def Ax(h:p:=by show k+1<=m;omega):p:=h
def AD(h:p:=by show d.aR.length - (k+1)<d.aR.length - k;omega):p:=h
def AE(h:p:=by rw[hre];rfl):p:=h
def AG(h:p:=by simpa[cz]using h):p:=h
def AH(h:p:=by rw[e2];exact q1):p:=h
def AI(h:p:=by rw[<- Fu];exact hdd):p:=h
def AK(h:p:=by simp[Op.operands,Call.operands]):p:=h
def AM(h:p:=by simp at hk;omega):p:=h
def AN(h:p:=by rw[hget];simp):p:=h
def AS(h:p:=by rw[hh];exact h2):p:=h
def AT(h:p:=by rw[hx];exact hread):p:=h
def AW(h:p:=by intro c e;cases e):p:=h
def A0(h:p:=by simpa using hz):p:=h
def A1(h:p:=by intro s x lo o B w0;refine go ?_;intro b8;refine go ?_;exact Gc b8 rfl):p:=h
def A2(h:p:=by show lb.length - (k+1)<lb.length - k;omega):p:=h
def A3(h:p:=by show d.regions.length - (k+1)<d.regions.length - k;omega):p:=h
def A4(h:p:=by simpa using k1):p:=h
def A5(h:p:=by show L.length - (j+1)<L.length - j;omega):p:=h
def A6(h:p:=by rw[Nat.succ_mul]at hl;omega):p:=h
def Bk(h:p:=by cases xd<;>first|rfl|exact absurd rfl (hni _)):p:=h
def Bx(h:p:=by simp[stepG,stepG.exec,fr,hr]):p:=h
def By(h:p:=by rw[put_defers];exact t2.act.defers.mono hle):p:=h
def BE(h:p:=by rw[wm];exact(hcs.mono t0).mono hle):p:=h
def BT(h:p:=by rw[q6];exact hcx.after hle q5):p:=h
def BW(h:p:=by generalize F.defers=d at hd;cases hd;rfl):p:=h
def BY(h:p:=by rw[hget];intro cs e;cases e):p:=h
def B0(h:p:=by simp only[aH.run,aH.alloc,sQ]):p:=h
def B1(h:p:=by first|((with_reducible apply I9);(focus ((conv=>lhs;whnf);(first|done|fail))))|((with_reducible apply Ja);(focus ((conv=>lhs;whnf);(first|done|fail))))|((with_reducible apply Je);exact rfl)|((with_reducible apply Jg);exact rfl;exact rfl)|((with_reducible apply Jh);exact rfl;exact rfl)|((with_reducible apply Ji);exact rfl;exact rfl)|((with_reducible apply Jj);exact rfl;exact rfl)|((with_reducible apply Jk);exact rfl;exact rfl)|((with_reducible apply Jl);exact rfl;exact rfl)|((with_reducible apply Jd);exact rfl)|((with_reducible apply Jb);exact rfl;(focus ((conv=>lhs;whnf);(first|done|fail))))|((with_reducible apply Jc);exact rfl;(focus ((conv=>lhs;whnf);(first|done|fail))))|((with_reducible apply Jn);exact rfl;(focus ((conv=>lhs;whnf);(first|done|fail))))|((with_reducible apply Jo);exact rfl)|((with_reducible apply Jp);exact rfl;(focus ((conv=>lhs;whnf);(first|done|fail))))|((with_reducible apply Jq);exact rfl;(focus ((conv=>lhs;whnf);(first|done|fail))))|((with_reducible apply Jr);(focus ((conv=>lhs;whnf);(first|done|fail))))|((with_reducible apply Js);exact rfl)|((with_reducible apply Jt);exact rfl)|((with_reducible apply Ju);exact rfl)|with_reducible exact Jf|((with_reducible apply Jv);exact rfl;exact rfl;exact rfl)|((with_reducible apply JI);exact rfl;exact rfl;(focus ((omega);(first|done|fail))))|((with_reducible apply FM);exact rfl;exact rfl;(focus ((omega);(first|done|fail)));(focus ((omega);(first|done|fail))))|((with_reducible apply Jw);exact rfl;exact rfl;(focus ((omega);(first|done|fail)));(focus ((omega);(first|done|fail))))|((with_reducible apply Dq);exact rfl;exact rfl;(focus ((omega);(first|done|fail)));(focus ((omega);(first|done|fail))))|((with_reducible apply Jm);exact rfl;exact rfl;(focus ((omega);(first|done|fail)));(focus ((omega);(first|done|fail))))|((with_reducible apply JC);exact rfl;exact rfl;(focus ((first|assumption|kernel_rfl);(first|done|fail))))|((with_reducible apply JD);exact rfl;exact rfl;(focus ((first|assumption|kernel_rfl);(first|done|fail))))|((with_reducible apply JE);exact rfl;exact rfl)|((with_reducible apply JF);exact rfl;exact rfl)|((with_reducible apply JG);exact rfl;exact rfl;(focus ((omega);(first|done|fail)));(focus ((omega);(first|done|fail))))):p:=h
def B3(h:p:=by rw[<- (hk2 y).eq,<- (hF2 y).eq];exact back w' _ _ c):p:=h
def B4(h:p:=by rcases ho with rfl|rfl<;>rfl):p:=h
def B5(h:p:=by simp only[iQ];exact fO _ h2):p:=h
def B6(h:p:=by rw[nI,if_pos rfl,if_pos hk]):p:=h
def B9(h:p:=by intro s x lo o B w0;refine go ?_;have z0:Nat:=0;exact Gc z0 rfl):p:=h
def Cd(h:p:=by show aK.length - (i+1)<aK.length - i;omega):p:=h
def Cl(h:p:=by show ln.length - (j+1)<ln.length - j;omega):p:=h
def Cp(h:p:=by have:=Ky hmem hnd;rw[iY]at this;omega):p:=h
def CA(h:p:=by unfold fA;rw[htx,fG,sN,hpos]):p:=h
def CC(h:p:=by show xs.length - (k+1)<xs.length - k;omega):p:=h
def CD(h:p:=by dsimp only[Int.natCast_zero];rw[Int.sub_zero];repeat (first|exact trivial|refine⟨rfl,?_⟩)):p:=h
def CI(h:p:=by show l.length - (i+1)<l.length - i;omega):p:=h
def CM(h:p:=by show k.decl.rules.length - (j+1)<k.decl.rules.length - j;omega):p:=h
def CN(h:p:=by show 49 - (i+1)<49 - i;omega):p:=h
def CT(h:p:=by show k.lists.length - (i+1)<k.lists.length - i;omega):p:=h
def C0(h:p:=by have:=H.hL;rwa [hf,fQ]at this):p:=h
def C1(h:p:=by show t.length - (k+1)<t.length - k;omega):p:=h
def C2(h:p:=by simp only[Op.operands,Call.operands,zw];exact .inr tR):p:=h
def C3(h:p:=by rw[aI.FH (Dk u9)];exact hi):p:=h
def C4(h:p:=by unfold kR;rw[if_neg tr,if_neg tr,if_neg tr,if_neg tr,if_neg tr,if_pos tr]):p:=h
def C5(h:p:=by simp only[Op.operands,zw];exact .inl tR):p:=h
def C6(h:p:=by simp only[Op.operands,zw];exact .inr tR):p:=h
def C7(h:p:=by rw[nI,if_pos rfl,if_pos tr]):p:=h
def Dd(h:p:=by rw[fq,uu,<- List.map_set,X5 hcl.symm tr,htk]):p:=h
