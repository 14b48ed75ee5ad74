/-
  Part Dict.
-/
import Derived.KernelRfl
set_option linter.all false
variable{p:Prop}
def be(h:p:=by
 obtain⟨m,rfl⟩:=iQ hi0;refine gX (az ai) (xs:=L) λ_ _ l' (qW:ah) hl'=>?_;have wM:=E5 l' (aV hl');refine gC (Io (b:=b10) (vw:=.slice (some ⟨bw,0,some 0⟩) l.length l.length) (w:=img s l) (by rw[hil];omega) l' wM qW) λ_ _=>?_;dsimp only;cases e1:kQ l' (img s l)with
 |false=>
  refine bT ?_;rw[zu hl (by
   cases e:oU L s rf eq l j with
   |false=>rfl
   |true=>
    have:=(zw ol e).2.1;rw[ic,gT hl',e1]at this;cases this)];rfl
 |true=>
 refine gX (az ai) (xs:=L) λ_ _ l'' (qW:ah) wN=>?_;rw[hl']at wN;obtain rfl:l'=l'':=Option.some.inj wN;refine gC (he qW (.slice (some ⟨bw,0,some 0⟩) l.length l.length) l' (img s l) wM (by rw[hil];omega)) λ_ _=>?_;cases e2:eq l' (img s l)with
 |false=>
  refine bT ?_;rw[zu hl (by
   cases e:oU L s rf eq l j with
   |false=>rfl
   |true=>
    have:=(zw ol e).2.2;rw[ic,gT hl',e2]at this;cases this)];rfl
 |true=>
  refine go ?_;exact aY (j+1) (by show L.length - (j+1)<L.length - j;omega) ⟨by omega,λi' hi' x hx=>(by
   by_cases e:i'=j
   .subst e;rw[hl]at hx;cases hx;exact Mo ol hl' e1 e2
   .exact hall i' (by omega) x hx)⟩):p:=h
def bh(h:p:=by
 refine go ?_;refine Eo ?_;refine go ?_;refine Ct (false,(xs.take k).map nm) (hv:=rfl) (hp:=⟨(λh=>by cases h),λ_ hn=>?_⟩);rw[(qU hx).1]at hm;have hsub:(ay.map (·.1)++(xs.take k).map nm++[nm x]).Nodup:=by
  have e:xs.map nm=(xs.take k).map nm++nm x::(xs.drop (k+1)).map nm:=by
   conv=>lhs;rw[<- qz k xs]
   rw[dQ];congr 1;rw[pg (aT.1 hx).1,fK,(aT.1 hx).2]
  rw[e,<- fq]at hn;rw[iT]at hn⊢;exact⟨hn.1,by simp,λa ha c hc=>hn.2.2 a ha c (by rw[bF.1 hc];exact dP ..)⟩
 rw[iT]at hsub;exact hsub.2.2 _ hm _ (bF.2 rfl) rfl):p:=h
def bj(h:p:=by
 refine gC (RZ (n:=k.grid.cells.length) (v:=vL) (lists:=L) (by omega) (by omega) IA (λl hl=>by have:=AV l hl;omega)) λw _=>?_;refine qN jk (A:=ap (az ai) w (lS k.grid.cells.length L)) (fs:=[aA (az ai) w (lS k.grid.cells.length L)]) (h:=?_);refine gC (MF (b2:=b2) (b3:=b3) (bm:=bm) (v:=w) (e:=0) (z:=jQ k i) (more:=lS k.grid.cells.length L) (by omega) (λp hp=>by have:=MG hp;omega)) λ_ _=>?_;have hst:jQ k (i+1)=lT (jQ k i) (lS k.grid.cells.length L):=by rw[hstep,if_pos (by unfold Br;simp;omega)]
 rw[<- hst];have hac:=Bq (lS k.grid.cells.length L) (jQ k i);rw[<- hst]at hac;refine go ?_;exact aY (i+1) (by omega) ⟨by omega,u+1,by omega,by omega,by omega,by omega,by omega⟩):p:=h
def cj(h:p:=by
 have Cf:yA size (k+1) (ev l x) h=some xs:=hxs;simp only[aF.run,hx,Cf,hs,w9];have e1:nG size m (.slice (some ⟨b,o,f⟩) m m) h=some old:=hold;show∃h',(cond (Nat.ble (Nat.mul (m+(k+1)) bytes) small&&Nat.ble (Nat.mul (m+(k+1)) size) small&&Nat.ble (m+(k+1)) small) _ _)=_/\_;rw[hc];show∃h',(cond (Nat.ble (m+(k+1)) m) _ _)=_/\_;rw[hlt];simp only[cond,e1];rcases hf with rfl|rfl
 .refine⟨_,rfl,?_⟩;exact⟨rfl,λi hi _=>by rw[IH.iM,if_neg (by omega)],⟨x9 _,by rw[IH.iM,if_pos rfl,jc]⟩,λ_=>rfl⟩
 .cases size with
  |zero=>
   refine⟨_,rfl,?_⟩;exact⟨rfl,λi hi _=>by rw[IH.iM,if_neg (by omega)],⟨x9 _,by rw[IH.iM,if_pos rfl,jc]⟩,λ_=>rfl⟩
  |succ j=>
   have hj:Nat.beq (Nat.succ j) (j+1)=true:=Fv _;refine⟨(h.kill b).new (.cells (old++xs)),?_,?_⟩
   .show cond (Nat.beq (Nat.succ j) (j+1)) _ _=_;rw[hj,jc];rfl
   .exact⟨rfl,λi hi hb=>by rw[IH.iM,if_neg (by show i≠h.next;omega),IH.rO,if_neg hb],⟨x9 _,by rw[IH.iM];exact if_pos rfl⟩,λhl=>by rw[IH.FU,IH.yE];omega⟩):p:=h
def ck(h:p:=by
 refine bT ?_;have:xs=ys:=by
  apply iK;intro j;by_cases hj:j<k
  .exact hsame j hj
  .rw[dY (by omega),dY (by omega)]
 rw[fo this];rfl):p:=h
def cw(h:p:=by
 have xC:St B w0 (pt b (.cells cells)::k2) F w:=⟨nK.agree,nK.le,nK.eT,⟨S,⟨_,S2,⟨rfl,hb⟩,q2,e1⟩,hnd,hown⟩,nK.facts⟩
 have GG:At w.h b (.cells cells):=xC.at_ .here;refine OQ (old:=cells.drop o) (xs:=E.pat a y) hn hg hs hx1 hx2 ?_ (hf.elim (λe=>.inl (by rw[e])) λe=>.inr (by rw[e])) hm λh' mv=>?_
 .have hdl:(cells.drop o).length=xs.length*E.n:=by rw[lm];omega
  rw[GG.c.iq,oH,pE,if_pos (by omega),<- hdl,eH]
 obtain⟨w',rfl,jw,yT⟩:=xC.move mv;refine r _ w' (jw.xB λS hp=>?_);have hle:∀f∈E.fs a y,f.p w':=λf hf=>jw.facts f (hF.mem f hf);refine put w' _ E.n (cells.drop o) (by rw[lm];omega) (λk z hk=>?_) hle (.inr rfl) S hp;obtain⟨y',u1,u2⟩:=hel k z hk;exact⟨y',λj u hj=>by rw[jR,<- kE];exact u1 j u hj,λf hf=>f.mono yT (u2 f hf)⟩):p:=h
def cA(h:p:=by
 refine go ?_;refine aY (k+1) (by omega) ⟨by omega,λj hj=>?_⟩;by_cases e:j=k
 .subst e;rw[hx,hy,h3]
 .exact hsame j (by omega)):p:=h
def cC(h:p:=by
 refine gC sG λ_ _=>?_;cases hst:(step s p.1).2 with
 |true=>
  have hs1:step s p.1=((step s p.1).1,true):=Prod.ext rfl hst;refine go ?_;refine aY (fI++[p],(step s p.1).1) (by show ay.length - (fI++[p]).length<_;rw[dL,qA];omega) ⟨?_,⟨rem,by show((fI++[p])++rem).Perm ay;rw[fq];exact hp⟩,λrest=>?_⟩
  .show ok ((fI++[p]).map (·.1)) _;rw[dQ];exact hok _ s _ _ hos hX hst
  .show iG step s0 ((fI++[p]).map (·.1)++rest)=_;rw[dQ,fq,hrun];show iG step s (p.1::rest)=_;rw[iG,hs1]
 |false=>
  have hs1:step s p.1=((step s p.1).1,false):=Prod.ext rfl hst;have hr:=hrun (p.1::rem.map (·.1));rw[iG,hs1]at hr;dsimp only at hr;refine go ?_;exact gQ (fI.map (·.1)++p.1::rem.map (·.1)) hX (hk:=by rw[hr];exact aM.self _ _)):p:=h
def cD(h:p:=by refine go ?_;exact gQ false (λh=>by cases h)):p:=h
def cE(h:p:=by
 refine gC sG λ_ _=>?_;rw[hd,iG]at hrun;refine go ?_;cases hst:step s ((k:Int),_)with
 |mk s' b=>
  have hst:=hst;rw[hst]at hrun;cases b with
  |true=>
   refine go ?_;refine aY (k+1,s') (by show g.cells.length - (k+1)<g.cells.length - k;omega) ⟨by show k+1<=_;omega,?_,hrun⟩;have:=hok _ s _ _ hos hX (by rw[hst]);rw[hst]at this;rw[show(bB g).take (k+1)=(bB g).take k++[_]from by rw[qC,hsp];rfl];rw[hso];exact this
  |false=>
   refine go ?_;exact gQ (bB g) rfl (hk:=by rw[<- hrun];exact aM.all _)):p:=h
def cF(h:p:=by
 rw[pg hix,pg He];have ih:=ih (i+1) (by omega);simp only[eF,G8]at ih;by_cases hxy:xs[i]=ys[i]
 .rw[fo hxy];simp only[Bool.not_true,uh,if_false];show(bX P _).bind _=_;rw[show decide (xs[i]::xs.drop (i+1)=ys[i]::ys.drop (i+1))=decide (xs.drop (i+1)=ys.drop (i+1))from sP.2 (by rw[Bw];exact⟨λh=>h.2,λh=>⟨hxy,h⟩⟩)];exact ih
 .rw[di hxy];simp only[M9,if_true];rw[show decide (xs[i]::xs.drop (i+1)=ys[i]::ys.drop (i+1))=false from di (λh=>hxy (List.cons.inj h).1)];rfl):p:=h
def cH(h:p:=by
 have:=h4 (j+1) g e hg he;rw[List.drop_drop];have hle:o0+P.cellsOf f.type<=g.offset:=by
  have hj:(fs.map (·.offset))[j]? =some g.offset:=by rw[bU,hg];rfl
  rw[h3]at hj;have hs:(fs.map λf=>P.cellsOf f.type)[j]? =some (P.cellsOf g.type):=by rw[bU,hg];rfl
  exact(Aq _ ([]:ae ah) (o0+P.cellsOf f.type) j _ _ hj hs).2
 rw[show P.cellsOf f.type+(g.offset - (o0+P.cellsOf f.type))=g.offset - o0 by omega];exact this):p:=h
def cI(h:p:=by refine bT ?_;rw[di (λe=>h3 (by rw[e,hy]at hx;cases hx;rfl))];rfl):p:=h
def cJ(h:p:=by
 obtain⟨s,o⟩:=so;obtain⟨hn,ho⟩:=ho;have hn:o=.normal:=hn;subst hn;exact Wh (Y:=Unit) (L:=⟨.ready,none,iw l,n,ps,assign,body,r⟩) (args:=vals x) (k1:=inv s) (out:=λ_=>(step s x).2) (k1':=λ_=>inv (step s x).1) (fs:=λ_=>[]) (pr:=λ_=>True) l (l3 x) (λz=>k3 x z++inv s) rfl rfl hps (hlen x)
  (λB w0=>ha s x lo _ B w0) (λz B w0=>hb vs s x rest z lo _ B w0 ho hx)):p:=h
def cM(h:p:=by
 rw[jm (by omega)]at hk;have hk0:k=xs.length:=by
  have:=(aT.1 hk).1;simp at this;omega
 subst hk0;simp at hk;subst hk;refine⟨y,λj u hj=>?_,h3⟩;rw[eB,jm (by omega),h1,IR];exact hj):p:=h
def cN(h:p:=by
 match j,hj with
 |0,hj=>
  have hj:some (Value.int .i64 x)=some u:=hj;have e1:pre.length+k*ai.n+0=pre.length+k:=by show pre.length+k*1+0=pre.length+k;omega
  rw[e1,jm (by omega),show pre.length+k - pre.length=k by omega,bU,hx];exact hj
 |j+1,hj=>exact absurd hj (by show¬([Value.int .i64 x]:ae ah)[j+1]? =some u;simp)):p:=h
def cP(h:p:=by refine U6 (c:=0) hn hg hs hx1 hx2 (by simpa using hm) λh' ag qK hnx=>?_;obtain⟨w',rfl,jw⟩:=nK.tail.fresh ag qK hnx;refine r _ w' (jw.xB λS hp=>?_);have hle:∀f∈E.fs a y,f.p w':=λf hf=>jw.facts f (hF.mem f hf);exact put w' _ E.n [] (by simp) (λk z hk=>by cases hk) hle (.inr rfl) S hp):p:=h
def cQ(h:p:=by rw[FC hxb.1];refine⟨Int.emod_nonneg _ (by omega),?_⟩;have:=IW x g.w;have h3:0<=g.w*(x/g.w):=Int.mul_nonneg (by omega) (Dq hxb.1 (by omega));omega):p:=h
def cR(h:p:=by refine go ?_;exact aY (j+1) (by omega) (by omega)):p:=h
def cS(h:p:=by
 conv=>lhs;rw[<- qz o cells]
 congr 1;apply iK;intro k;rw[jR,bU];by_cases hkl:k<xs.length
 .obtain⟨y,u1,_⟩:=h9 k xs[k] (bH hkl);have:=u1 0 (.int .i64 xs[k]) rfl;rw[bH hkl];have e1:o+k*ai.n+0=o+k:=by show o+k*1+0=o+k;omega
  rw[e1]at this;exact this
 .rw[dY (by omega),dY (by omega)];rfl):p:=h
def cT(h:p:=by refine go ?_;exact aY (k+1,v5,zs) (by show lists.length - (k+1)<lists.length - k;omega) ⟨by show i+1<=k+1;omega,by show k+1<=_;omega,skip ho⟩):p:=h
def cU(h:p:=by
 refine OP hn hg hx hi (by omega) (by omega) ?_;have hbS:b∈S:=by rw[e,e2];simp
 refine JD hn2 (hg2 _) (by show lk _ d=_;simp[lk]) ⟨(h3 b hbS).2.1,hb⟩ hc (next _ _ y w ⟨s.agree,s.le,s.eT,s.own,λf hf=>?_⟩);rcases bN.1 hf with rfl|hf
 .exact u2 _ (bF.2 rfl)
 .exact s.facts f hf):p:=h
def cV(h:p:=by obtain⟨rfl,rfl⟩:=hr;rw[ha]at hx;refine Good.same hW (v':=ρ' x) ?_ hx;obtain⟨fn',f',c',h1,_,_,e⟩:=hx.Af;cases h1;simp[execOp,e]):p:=h
def cW(h:p:=by rw[iY hlt]at hk;obtain⟨y',q1,q2⟩:=h2 k z hk;refine⟨y',λj u hj=>?_,q2⟩;rw[eB];have:=q1 j u hj;rw[iY (aT.1 this).1];exact this):p:=h
def c7(h:p:=by refine bT ?_;rw[di (λe=>h1 (by rw[e]))];rfl):p:=h
def c9(h:p:=by
 rw[hf]at hr;simp only[cond_true]at hr;split at hr
 .rename_i u hu;simp only[aI,cB]at hr;obtain⟨rfl,rfl⟩:=hr;obtain⟨h1,h2⟩:=F5 hu;have hx':=hx.pF hf;exact Good.same hW (v':=u) (by simp only[execOp,hx',dm,Ad h1 w,dB,ed]) (VR.free h2)
 .cases hr):p:=h
def da(h:p:=by refine go ?_;intro b50;refine go ?_;refine l7 (xs:=upTo' i) ai (i:Int) () (by omega) (next:=λad=>?_);rw[<- EH];refine go ?_;exact aY (i+1,.slice ad ((upTo' i).length+1) ((upTo' i).length+1)) (by show n - (i+1)<n - i;omega) (by show i+1<=_;omega)):p:=h
def de(h:p:=by
 rename_i kt et hu;cases hc;simp only[aF.run]at hr;split at hr
 .rename_i h2 hh;simp only[aI,cB]at hr;obtain⟨rfl,rfl⟩:=hr;obtain⟨w',r1,r2,r3⟩:=TS hu hh hm hk hx hW;exact⟨.skip,w',β,undef,TF r1,.inr ⟨rfl,rfl⟩,.dH _,r2,r3⟩
 .cases hr):p:=h
def dg(h:p:=by
 intro cl hcl;obtain⟨dd,op,ty,ps,af,gd⟩:=o;simp only at hcl;subst hcl;obtain⟨callee,args,ats⟩:=cl;cases callee with
 |value f=>simp only[cop,aI]at gu;rw[<- gu]at hl;cases hl
 |invoke x n=>simp[cop]at gu
 |builtin bb=>simp[cop]at gu):p:=h
def dj(h:p:=by unfold gV fZ;simp only[EI];split<;>split at *<;>(try split at *)<;>(try split at *)<;>(try split at *)<;>omega):p:=h
def dl(h:p:=by
 obtain⟨cs2,hl⟩:=hov;obtain⟨l1,l2,l3⟩:=Ab hl;refine⟨cs2,?_,l2,λk z hk=>?_⟩
 .unfold IH.storeAt;simp only[hb',hl]
 .rw[l3,if_pos ⟨by omega,by have:=(aT.1 hk).1;rw[aS];omega⟩,IR,bU,hk];rfl):p:=h
def dr(h:p:=by have h1:(bP (fU (eO (bB g)) p.2 (dX.take (dM g)))).length=(fU (eO (bB g)) p.2 (dX.take (dM g))).length:=(zT _ _).length_eq;have h2:=Lg (eO (bB g)) p.2 (dX.take (dM g));have h3:=CJ g;rw[gq]at h2;omega):p:=h
def dy(h:p:=by exact aY (i+1) (by omega) (by omega)):p:=h
def eo(h:p:=by exact .of_steps (t1.trans (.one hs)) (ih ops bO hv rest (i::done) (i::S') mE hds β0 h0 w0 jW jr cs0 β' w' b _ df k cs ρ' hG hdom hcx hI2 r4 (by rw[vX];exact hcs.mono t0) (by rw[vY];exact hro))):p:=h
def ez(h:p:=by
 by_cases e:m=n
 .subst e;simp
 .rw[if_neg (by omega),if_neg (by omega)]):p:=h
def eA(h:p:=by obtain⟨v2,hv2,hr⟩:=hv.get (bH hjl);rw[hv2]at hj;cases hj;have hc:=(iE.1 hall) _ (wR hjl);obtain⟨a,b⟩:=hr.cellV hc;cases v<;>first|rfl|exact absurd rfl (a _)|exact absurd rfl (b _)):p:=h
def eC(h:p:=by unfold jo;rw[eF,Ay (by intro c e;cases e) (by intro e;cases e)];simp only[gy,binOp];rw[eF,he];rfl):p:=h
def eE(h:p:=by
 have h:nL (step so.1 x).2=true:=h;have hn:(step so.1 x).2=.normal:=by
  cases e:(step so.1 x).2 with
  |normal=>rfl
  |_=>rw[e]at h;cases h
 exact⟨hn,hok vs so.1 x rest ho.2 hx hn⟩):p:=h
def eI(h:p:=by
 have rR:xq.pending=none:=rR;have hto:(xq.pending.map Item.code).toList++k=k:=by rw[rR];rfl
 rw[hto]at hst;exact⟨.normal,a1,_,β3,_,tm,rQ,cs,l3,y1,hE.trans y2,hA3,hcs,e4,hst⟩):p:=h
def eJ(h:p:=by
 show cond (Nat.ble h.low i) h.low i=_;cases hb:Nat.ble h.low i with
 |true=>have:=lg hb;simp;omega
 |false=>have:¬h.low<=i:=λhh=>by rw[II hh]at hb;cases hb
         simp;omega):p:=h
def eK(h:p:=by
 unfold sizeOf typeInfo;cases hi:P.info? e with
 |none=>rw[hi]at hs;cases hs
 |some i=>
  rw[hi]at hs;have hs:i.size=1:=by simpa using hs
  simp only[eF,G7,gy,hi];rw[<- hs];rfl):p:=h
def eM(h:p:=by
 rcases hcx.round with⟨_,hb⟩|⟨l,g,hl,_⟩
 .exact hb
 .rw[<- hro,Gn]at hl;cases hl):p:=h
def eN(h:p:=by rw[qI hn];exact⟨u,h2,by rw[nX];exact e1,λd' hd=>by rw[<- e2 d' hd];exact wh _ _⟩):p:=h
def eR(h:p:=by rw[show min (b:Int).toNat 64=b by simp;omega,Nf];congr 2;rw[show((2:Int)^b)=((2^b:Nat):Int)by simp,Int.fdiv_eq_ediv_of_nonneg _ (Int.natCast_nonneg _)];simp):p:=h
def eV(h:p:=by
 have hn:(fn.name== "runtime.NumGoroutine")=false:=by simpa using hname
 simp only[callFunc,dm,run_program,dB,hfn,hn,hb,Option.isNone_some,uh,if_false,ed]):p:=h
def eW(h:p:=by exact⟨⟨⟨by omega,by omega,by omega,by omega,hB.zg,hB.holes,hB.zh⟩,hB.dw,hB.dh,by omega⟩,⟨hB.gw,hB.gh,by omega,by omega⟩,hB.aN,hB.lists⟩):p:=h
def e9(h:p:=by rw[hle (show Nat.mul (m+(k+1)) bytes<=small from hm.1),hle (show Nat.mul (m+(k+1)) size<=small from hm.2.1),hle (show m+(k+1)<=small from hm.2.2)];rfl):p:=h
def fb(h:p:=by exact ih ops bO hv rest (i::done) S mE hds β0 h0 w0 jW jr cs0 β w b tm df k cs ρ hG hdom hcx hI2 hR (by rw[vX];exact hcs) (by rw[vY];exact hro)):p:=h
def fc(h:p:=by
 unfold xe at hz;split at hz
 .rename_i z' n' hz' _;obtain⟨i',j1,j2,_⟩:=DJ hz';rw[h1]at j1;cases j1;rw[h2]at j2;cases j2;exact hz'
 .cases hz):p:=h
def ff(h:p:=by
 intro v pm h2 hm;dsimp only at hm;split at hm
 .rename_i lp hlp;split at hm
  .cases hm
  .rename_i hs;exact⟨lp,hlp,λe=>hs e,hm⟩
 .cases hm):p:=h
def fg(h:p:=by rw[h3]at e;exact Option.some.inj e):p:=h
def fh(h:p:=by obtain⟨body,hb⟩:=Dn.1 h5;exact⟨fn,body,h3,hb,by simpa using h4⟩):p:=h
def fk(h:p:=by simp only[aI,cB]at hr⊢;exact⟨hr.2.symm,hr.1⟩):p:=h
def fp(h:p:=by
 refine hW.inj _ _ _ _ hk hm ?_ ?_ hr he
 .split at hj
  .exact absurd rfl hj
  .exact hj
 .split at hl
  .exact absurd rfl hl
  .exact hl):p:=h
def fL(h:p:=by
 obtain⟨cs,r,⟨e,_⟩|⟨_,e⟩⟩:=h
 .rw[ha]at e;cases e
 .obtain⟨a,y,q0,q⟩:=hr w H d cs hz r;exact⟨a,y,by rw[<- q0,e],q⟩):p:=h
def fN(h:p:=by subst this;intro e;subst e;exact hm2 ha):p:=h
def fR(h:p:=by rw[BG];exact List.Pairwise.imp (λh=>by omega) List.pairwise_lt_range):p:=h
def fS(h:p:=by refine go ?_;have hr:=hrun [];rw[iH]at hr;exact gQ (fI.map (·.1)) (hp.map (·.1)) (hk:=by rw[hr];apply aM.there;exact aM.all _)):p:=h
def fW(h:p:=by rw[wY hxb.1];exact⟨Dq hxb.1 (by omega),Int.ediv_le_self _ hxb.1⟩):p:=h
def ga(h:p:=by rw[tK (by rw[uS];exact h)]at hy;subst hy;cases e):p:=h
def gb(h:p:=by exact gQ ⟨v4,0⟩ ⟨λ_=>⟨hg,by omega,by omega⟩,λ_=>rfl⟩):p:=h
def gf(h:p:=by
 obtain⟨v,hv⟩:=Hr h;have e:jd true zero a ay=.tuple ⟨[v,.bool true]⟩:=by unfold jd;rw[hv];rfl
 rw[e];exact hit v hv h):p:=h
def gg(h:p:=by
 obtain⟨cs,r,⟨_,e⟩|⟨e,_⟩⟩:=h
 .obtain⟨a,y,rfl,q⟩:=hr w H d cs hz r;exact⟨a,y,e,q⟩
 .rw[ha]at e;cases e):p:=h
def gj(h:p:=by exact AB () rfl trivial trivial):p:=h
def gk(h:p:=by
 cases h:Nat.beq (m%2) 0 with
 |true=>simp[rq h]
 |false=>simp[Fj h]):p:=h
def gx(h:p:=by simp only[xI];exact⟨λv hv l hl n hn hi=>hcl v (by simpa using hv) l hl n hn hi,(by simp),(by simp),(by simp)⟩):p:=h
def gA(h:p:=by unfold part;rw[eF,hag];show bX P (match xs[o]? with|some v=>pure v|none=>stuck "part: no such cell")=_;rw[hx];rfl):p:=h
def gE(h:p:=by refine gC (aas (d:=k.decl) hB.zh hB.zg) λb hb=>?_;refine go ?_;exact gQ b (λh=>⟨hb h,by omega,by omega⟩)):p:=h
def gO(h:p:=by
 intro o a' h' hm hn;cases o with
 |normal=>exact absurd rfl hn
 |exit _=>exact hm
 |ret=>exact hm
 |panic _=>exact hm):p:=h
def gR(h:p:=by have:=h3 i (ou _ hi);refine⟨this.1,this.2.1,λhz=>hz.elim this.2.2 λhm=>?_⟩;exact hnd.2.2 i hm i hi rfl):p:=h
def hJ(h:p:=by exact⟨rr,h2',β2,w2,F2,r2,p1,p2,q3.trans p3,p4,(Steps.head s1 (e2.trans (.one s2))).trans p5,p6,p7,p8⟩):p:=h
def hU(h:p:=by
 induction l with
 |nil=>exact .nil
 |cons x l ih=>exact .cons (h x (by simp)) (ih λy hy=>h y (by simp[hy]))):p:=h
def ia(h:p:=by
 match a,hv,hg with
 |none,hv,_=>exact h0 e c hv w s
 |some ⟨i,o,some f⟩,hv,_=>exact h1 e i o f c hv w s):p:=h
def ii(h:p:=by refine go ?_;refine aY (k+1) (by omega) ⟨by omega,?_⟩;rw[gz hx,List.any_append,hno];simpa using h2):p:=h
def ij(h:p:=by
 have e:jd true zero a ay=.tuple ⟨[zero,.bool false]⟩:=by unfold jd;rw[tK h];rfl
 rw[e];exact miss h):p:=h
def ir(h:p:=by
 intro ys zs;induction zs generalizing ys with
 |nil=>simp[jF]
 |cons z zs ih=>rw[jF];simp only[ih];simp):p:=h
def iu(h:p:=by exact absurd (hW.dom _ _ hk) (by omega)):p:=h
def iv(h:p:=by obtain⟨v0,_,h0⟩:=a7 j v hj;obtain⟨v',h1,h2⟩:=b7 j v hj;exact⟨v',h1,h0.restrict hle h2⟩):p:=h
def iz(h:p:=by
 split at hl
 .exact⟨_,.inl (by assumption),hl⟩
 .exact⟨_,.inr (by assumption),hl⟩
 .cases hl):p:=h
def iS(h:p:=by rw[hat.c.iq,oH,pE,zP,vI,if_pos (by omega),<- hlen,eH]):p:=h
def i6(h:p:=by
 rcases a with⟨rfl,a,m,c,rfl,rfl⟩|⟨i,o,f,c,cs,h1,_⟩
 .exact⟨a,c,rfl⟩
 .exact⟨_,c,h1⟩):p:=h
def i7(h:p:=by exact gQ (.slice (some ⟨b,0,some 0⟩) 0 0) trivial):p:=h
def jj(h:p:=by
 cases o with
 |normal=>exact absurd rfl hn
 |_=>exact hm):p:=h
def jn(h:p:=by simp[binOp,Op.intCmp,uz,<- Int.not_le]):p:=h
def jp(h:p:=by simp only[aI,cB,zO]at hr;simp only[hr]):p:=h
def js(h:p:=by intro h;rw[y7 h]at hy;subst hy;cases e):p:=h
def jt(h:p:=by
 have hx:iX r.kind=⟨true,false,false,false,false,true,true,0⟩:=by rw[hk];rfl
 clear hk;exact tV):p:=h
def ju(h:p:=by
 have hx:iX r.kind=⟨false,true,false,false,false,true,true,0⟩:=by rw[hk];rfl
 clear hk;exact tV):p:=h
def jx(h:p:=by refine go ?_;refine(bV rfl rfl (Em rfl rfl)).h ?_;refine go ?_;exact gQ (min n 2001) (by omega)):p:=h
def jz(h:p:=by intro v v0 v1;have r:=ht.inv.at_ v0 v1;have:=h _ r.1 r.2;rw[ht.HZ v0 v1]at this;exact this.symm):p:=h
def j0(h:p:=by simp only;rw[<- hf];refine step_lone_go ?_;rw[Cc ho hw (.inl hro)];simp[stepG.apply,hr,hre,ht]):p:=h
def j7(h:p:=by simp only[execOp,Instr.sliceAt,Instr.slice,dm,fE hu,dB,hx',e1,e2,e3,b1,nJ hs1,ed];split<;>rfl):p:=h
def j8(h:p:=by intro v v0 v1;have r:=ht.at_ v0 v1;rw[ze v0 (by rw[ht.len];exact v1),h2 _ r.1 r.2,h _ v0 v1]):p:=h
def j9(h:p:=by refine go ?_;exact aY (j+1,t) (by show i - (j+1)<i - j;omega) ⟨by show j+1<=i;omega,ht⟩):p:=h
def ki(h:p:=by simp only[jC]at hc;obtain⟨_,_,rfl⟩:=hc;simp only[aF.run,aF.alloc,h0,h1,h2,h3,and_self]):p:=h
def kj(h:p:=by refine go ?_;exact gQ false ⟨(λh=>by cases h),λh=>by exfalso;have:=h.dZ s hsm;omega⟩):p:=h
def kp(h:p:=by
 by_cases hx:aJ=[]
 .subst hx;exact h1 rfl i o f c hv w s
 .exact h2 (Dm.2 hx) i o f c hv w s):p:=h
def kq(h:p:=by apply Classical.byContradiction;intro hc;exact hb λj k hk hj hkb=>hc ⟨j,k,hk,hj,hkb⟩):p:=h
def kx(h:p:=by rintro r pm h' ⟨hp,w',y,e1,st,e2,_⟩;exact⟨hp,w',(),e1,back w' _ _ st,e2,trivial⟩):p:=h
def li(h:p:=by exact Nat.pow_lt_pow_right (by omega) (by omega)):p:=h
def lj(h:p:=by apply Classical.byContradiction;intro hc;exact hx λi g hi hg hb=>hc ⟨i,g,hi,hg,hb⟩):p:=h
def lz(h:p:=by obtain⟨v,h1,h2,h3⟩:=hm;cases he;have h2:a.defers=[]:=h2;rw[h2];exact .ret v h1 h3):p:=h
def lA(h:p:=by unfold jo;rw[eF,Ay (by intro c e;cases e) (by intro e;cases e)];simp only[gy,hv];rfl):p:=h
def lB(h:p:=by show bX P (Instr.checkKey b (9999+1) kt _)=_;unfold Instr.checkKey;rw[eF,oL hu];rfl):p:=h
def lE(h:p:=by cases hk;rw[if_pos rfl]at hx;cases hx;exact ho):p:=h
def lO(h:p:=by subst hn;simp only[fr]at he' hcall⊢;simp[stepG,stepG.exec,he',stepG.apply,hcall]):p:=h
def lP(h:p:=by
 match vs with
 |[]=>rfl
 |[v]=>rfl
 |_::_::_=>rfl):p:=h
def lR(h:p:=by
 intro l;induction l with
 |nil=>rfl
 |cons x l ih=>rw[fK];simp[gD,bR,Ideal.cellV,ih]):p:=h
def mc(h:p:=by simp only[aI]at hc;exact hc.symm):p:=h
def me(h:p:=by
 rcases bN.1 hk with rfl|hk
 .exact dO _ (hpre j hj)
 .exact dO _ (hcl k hk j hj)):p:=h
def mj(h:p:=by obtain⟨w,h4,h5⟩:=hcls u hu2;exact⟨w,by rw[iY (by omega)];exact h4,h5⟩):p:=h
def mm(h:p:=by
 cases es with
 |nil=>rfl
 |cons e es=>cases h):p:=h
def mu(h:p:=by have:=congrArg List.length (Gx ss cs hsum);rw[aS]at this;rw[this];simp[ss]):p:=h
def mw(h:p:=by
 cases he:dU mk (j:Nat)with
 |false=>rfl
 |true=>exact absurd ⟨j,hj,he⟩ hex):p:=h
def mz(h:p:=by
 induction h with
 |nil=>exact .nil
 |cons h1 _ ih=>exact .cons (.there h1) ih):p:=h
def mA(h:p:=by simp only at hab hao;rw[hab,hao.1,hao.2]):p:=h
def mB(h:p:=by
 rcases sM g.b w.heap.size with hh|hh
 .exact hh
 .rw[sN hh]at o1;cases o1):p:=h
def mC(h:p:=by rw[<- fq,<- fq];exact List.Perm.append_right T2 List.perm_append_comm):p:=h
def mL(h:p:=by rw[iH];exact List.Perm.append_right S2 (List.Perm.append_left T1 v2)):p:=h
def mN(h:p:=by
 cases hb:Nat.ble (m+(k+1)) m with
 |false=>rfl
 |true=>have:=lg hb;omega):p:=h
def mS(h:p:=by show(w.h.new _).get b=_;rw[IH.iM,if_neg (by have:=w.lH b hz;omega)]):p:=h
def mT(h:p:=by have:=OR.FY (P:=P) (w:=w) t (hcs.mono hle) hc [] 0;simpa using this):p:=h
def nc(h:p:=by exact this.imp (λh=>by simpa using h)):p:=h
def nh(h:p:=by
 intro g hg;rcases fO.1 hg with hg|hg
 .exact q2 g hg
 .exact u2 g hg):p:=h
def nj(h:p:=by refine go ?_;exact gQ xs rfl (hk:=by rw[<- hrun];exact aM.all _)):p:=h
def nl(h:p:=by refine go ?_;exact gQ c2 trivial (hk:=by exact .cons .here .nil)):p:=h
def nn(h:p:=by rw[if_pos ⟨by simp,by simp;omega⟩];simp[nJ hs1,addr_add,kE]):p:=h
def nq(h:p:=by refine go ?_;exact bad (λq=>by have:=q.wi;omega) rfl rfl .here):p:=h
def nr(h:p:=by refine go ?_;exact bad (λq=>by have:=q.he;omega) rfl rfl .here):p:=h
def nt(h:p:=by
 rcases hao with e|e
 .omega
 .exact e):p:=h
def nv(h:p:=by intro e;subst e;rw[hi]at hb;cases hb):p:=h
def nw(h:p:=by have:=hK.typ.lim.r;rw[hK.lists];unfold mG;rw[dL,aS,nP,aS];omega):p:=h
def nB(h:p:=by exact⟨j,by omega,h2,h3⟩):p:=h
def nF(h:p:=by simp only[aF.run,hx,hy,h2]):p:=h
def n5(h:p:=by rw[h2,<- h.decl]at this;exact this):p:=h
def n9(h:p:=by obtain⟨t1,t2,fn,t3,t4⟩:=e5;exact⟨t1,t2,e4,fn,t3,t4⟩):p:=h
def oa(h:p:=by exact gQ (.slice none 0 0) trivial):p:=h
def oc(h:p:=by obtain⟨gm,a,b⟩:=o3.DR;exact⟨gm,a,by simpa using b⟩):p:=h
def od(h:p:=by simp only[execOp,resolve,k4,Deferred.ofValue,dm,ed,dB,he]):p:=h
def oe(h:p:=by rw[hk]at this;simp[ja,hk,this.mq]):p:=h
def ov(h:p:=by
 induction n with
 |zero=>rfl
 |succ n ih=>rw[wV,fK,<- ih];rfl):p:=h
def ox(h:p:=by show(match (0:Nat)with|0=>some ([]:ae ah)|_=>none)=_;rfl):p:=h
def oy(h:p:=by
 rcases bN.1 hf with rfl|hf
 .exact jS _ hm
 .exact ou _ hf):p:=h
def oA(h:p:=by unfold Op.equalIn;rw[eF,oL h];simp only[gy,if_true];rfl):p:=h
def oB(h:p:=by refine yj.2 ⟨λhm=>?_,h2⟩;have:=(h3 _ hm).2.1;omega):p:=h
def oE(h:p:=by
 rcases Nat.mul_eq_zero.1 h0 with hh|hh
 .exact hh
 .omega):p:=h
def oR(h:p:=by injection hpq with e1 e2;exact Prod.ext (inj _ _ e1) e2):p:=h
def oS(h:p:=by
 rcases(h3 i (jS _ hz)).1 with q|q
 .omega
 .exact .inr q):p:=h
def oT(h:p:=by exact⟨.value v',w',β',v',yG r1,.inl rfl,r2,r3,r4⟩):p:=h
def pb(h:p:=by refine go ?_;exact gQ v trivial):p:=h
def pe(h:p:=by
 rcases hb.1 with q|q
 .omega
 .intro e;exact hB (e▸q)):p:=h
def ph(h:p:=by show(w.heap.push o')[b]? =_;rw[Fp,if_neg (by omega)]):p:=h
def pn(h:p:=by rintro t ⟨y,p,_,_,hp',lD⟩;exact hds y p t hp' lD):p:=h
def po(h:p:=by have:=SC (hc i) hi;exact⟨(aT.1 this).1,gT this⟩):p:=h
def pw(h:p:=by exact hall i' (by omega) x hx'):p:=h
def px(h:p:=by rw[iE];intro x hx;obtain⟨z,_,rfl⟩:=cZ.1 hx;rfl):p:=h
def py(h:p:=by rw[hu]at hok;obtain⟨c,e,_⟩:=hok;exact⟨c,e⟩):p:=h
def pA(h:p:=by refine go ?_;exact gQ false (hno (by omega) _ rfl)):p:=h
def pB(h:p:=by refine bT ?_;rw[di (λe=>k7 (by cases e;rfl))];rfl):p:=h
def pC(h:p:=by refine bT ?_;rw[di (λe=>k6 (by cases e;rfl))];rfl):p:=h
def pD(h:p:=by refine bT ?_;rw[di (λe=>k5 (by cases e;rfl))];rfl):p:=h
def pH(h:p:=by refine bT ?_;rw[di (λe=>k4 (by cases e;rfl))];rfl):p:=h
def pL(h:p:=by refine bT ?_;rw[di (λe=>k3 (by cases e;rfl))];rfl):p:=h
def pN(h:p:=by refine bT ?_;rw[di (λe=>k2 (by cases e;rfl))];rfl):p:=h
def pP(h:p:=by
 rcases q6 with h6|h6
 .exact .inl h6
 .exact .inr h6):p:=h
def pS(h:p:=by
 cases r with
 |none=>simp[DK hz,F9]
 |some p=>simp[F9]):p:=h
def pT(h:p:=by
 refine gH ?_ ?_<;>intro t1
 .exact cD
 refine gC (Sb (xs:=k.aN) n1 n2) λm hm=>?_;refine gH ?_ ?_<;>intro t2
 .exact cD
 refine gH ?_ ?_<;>intro t3
 .exact cD
 refine gH ?_ ?_<;>intro t4
 .exact cD
 exact gE):p:=h
def pZ(h:p:=by
 rw[hagg]at hr;simp only at hr⊢;split at hr
 .rename_i l hl;try rw[hl]
  exact fk
 .cases hr):p:=h
def p0(h:p:=by omega):p:=h
def qe(h:p:=by simp):p:=h
def qk(h:p:=by kernel_rfl):p:=h
def qn(h:p:=by repeat (first|exact aM.nil|(apply aM.cons;(focus (repeat (first|exact aC.here|apply aC.there)))))):p:=h
def qq(h:p:=by simp[Op.operands]):p:=h
def qt(h:p:=by first|exact rfl|(conv=>lhs;whnf)):p:=h
def qu(h:p:=by simp;omega):p:=h
def qv(h:p:=by decide):p:=h
def qS(h:p:=by simpa using h):p:=h
def qT(h:p:=by simpa using hx):p:=h
def rh(h:p:=by simp[stepG,stepG.exec,fr]):p:=h
def ri(h:p:=by rw[lm];omega):p:=h
def rj(h:p:=by rw[h1];exact bF.2 rfl):p:=h
def rp(h:p:=by cases e;rfl):p:=h
def rB(h:p:=by simpa using e):p:=h
def rI(h:p:=by rw[hk];rfl):p:=h
def rK(h:p:=by intro e;rw[e]at h;cases h):p:=h
def rL(h:p:=by rfl):p:=h
def rN(h:p:=by show k+1<=_;omega):p:=h
def rS(h:p:=by rw[hf];simp):p:=h
def r5(h:p:=by simp[h]):p:=h
def r6(h:p:=by simpa using h1):p:=h
def r7(h:p:=by simpa[uj]using hb):p:=h
def r8(h:p:=by simp[ha]):p:=h
def sg(h:p:=by rw[e2];exact hw):p:=h
def sk(h:p:=by simpa[oF]using hb):p:=h
def sn(h:p:=by rw[hh];exact h2):p:=h
def sq(h:p:=by simpa using h2):p:=h
def sv(h:p:=by simp only[target,jc,iH]):p:=h
def sx(h:p:=by rw[gq];omega):p:=h
def sA(h:p:=by rw[jL];omega):p:=h
def sC(h:p:=by subst hy;simp[Op.operands]):p:=h
def sE(h:p:=by rw[vY];exact hro):p:=h
def sL(h:p:=by apply Array.ext';simp):p:=h
def sR(h:p:=by rw[ho]):p:=h
def sX(h:p:=by show i+1<=_;omega):p:=h
def sY(h:p:=by simpa using hz):p:=h
def s5(h:p:=by apply Array.ext';exact ha):p:=h
def s7(h:p:=by simp[e]):p:=h
def s8(h:p:=by rw[hop];rfl):p:=h
def s9(h:p:=by simp[hi]):p:=h
def ta(h:p:=by rw[nX];exact hr):p:=h
def tb(h:p:=by rw[aS];omega):p:=h
def tc(h:p:=by intro e;cases e):p:=h
def td(h:p:=by simpa using hnd):p:=h
def tf(h:p:=by simpa using hc):p:=h
def tg(h:p:=by show h1 - l<=m - l;omega):p:=h
def th(h:p:=by simp only[Op.operands,List.mem_toArray,cZ];exact⟨p,hp,rfl⟩):p:=h
def tj(h:p:=by rw[<- hdst];exact hdd):p:=h
def tn(h:p:=by rw[put_defers];exact t2.act.defers):p:=h
def tr(h:p:=by rw[h1];simp):p:=h
def tv(h:p:=by intro r hr;cases hr):p:=h
def tw(h:p:=by rw[qI hn];exact next):p:=h
def tx(h:p:=by rw[h3];exact bF.2 rfl):p:=h
def tD(h:p:=by simpa using hj):p:=h
def tE(h:p:=by rw[e];simp):p:=h
def tG(h:p:=by dsimp only;omega):p:=h
def tI(h:p:=by rw[qQ];omega):p:=h
def tM(h:p:=by rw[aS,nP];omega):p:=h
def tP(h:p:=by rw[h.len];omega):p:=h
def tR(h:p:=by rw[uS];exact hm):p:=h
def tS(h:p:=by simp[gD,bR,Ideal.cellV]):p:=h
def tU(h:p:=by rw[jD];omega):p:=h
def tW(h:p:=by rw[aS,gq];omega):p:=h
def ua(h:p:=by show j+1<=_;omega):p:=h
def ud(h:p:=by simp[Act.eval,Act.put]):p:=h
def ur(h:p:=by simpa[bR]using h):p:=h
def us(h:p:=by rw[e2];exact q1):p:=h
def uv(h:p:=by rw[<- Gj];exact hdd):p:=h
def ux(h:p:=by simp[Op.operands,Call.operands]):p:=h
def u9(h:p:=by simp at hk;omega):p:=h
def vi(h:p:=by rw[hget];simp):p:=h
def vj(h:p:=by rw[hx];exact hread):p:=h
def vA(h:p:=by intro c e;cases e):p:=h
def wc(h:p:=by rw[hg.cells];exact P6 _ _):p:=h
def we(h:p:=by show Value.bool _=_;rw[sD]):p:=h
def wg(h:p:=by intro s x lo o B w0;refine go ?_;intro b8;refine go ?_;exact Es b8 rfl):p:=h
def wj(h:p:=by show lb.length - (k+1)<lb.length - k;omega):p:=h
def wk(h:p:=by show d.rules.length - (k+1)<d.rules.length - k;omega):p:=h
def wl(h:p:=by unfold zl;omega):p:=h
def wq(h:p:=by unfold mX;simp[c0]):p:=h
def wv(h:p:=by unfold mX;simp[c4]):p:=h
def wx(h:p:=by unfold mX;simp[c5]):p:=h
def wA(h:p:=by rw[IntKind.wrap_i64];omega):p:=h
def w7(h:p:=by exact aC.here):p:=h
def w8(h:p:=by exact .cons .here .nil):p:=h
def xa(h:p:=by rw[Nat.succ_mul]at hl;omega):p:=h
def xb(h:p:=by cases xd<;>first|rfl|exact absurd rfl (hni _)):p:=h
def xo(h:p:=by simp[stepG,stepG.exec,fr,hr]):p:=h
def xp(h:p:=by rw[put_defers];exact t2.act.defers.mono hle):p:=h
def xF(h:p:=by rw[vX];exact(hcs.mono t0).mono hle):p:=h
def xT(h:p:=by rw[q6];exact hcx.after hle q5):p:=h
def x6(h:p:=by generalize F.defers=d at hd;cases hd;rfl):p:=h
def x7(h:p:=by rw[hget];intro cs e;cases e):p:=h
def ya(h:p:=by simp only[aF.run,aF.alloc,rD]):p:=h
def yb(h:p:=by first|((with_reducible apply JI);(focus ((conv=>lhs;whnf);(first|done|fail))))|((with_reducible apply JJ);(focus ((conv=>lhs;whnf);(first|done|fail))))|((with_reducible apply JN);exact rfl)|((with_reducible apply JP);exact rfl;exact rfl)|((with_reducible apply JQ);exact rfl;exact rfl)|((with_reducible apply JR);exact rfl;exact rfl)|((with_reducible apply JS);exact rfl;exact rfl)|((with_reducible apply JU);exact rfl;exact rfl)|((with_reducible apply JV);exact rfl;exact rfl)|((with_reducible apply JM);exact rfl)|((with_reducible apply JK);exact rfl;(focus ((conv=>lhs;whnf);(first|done|fail))))|((with_reducible apply JL);exact rfl;(focus ((conv=>lhs;whnf);(first|done|fail))))|((with_reducible apply JX);exact rfl;(focus ((conv=>lhs;whnf);(first|done|fail))))|((with_reducible apply JY);exact rfl)|((with_reducible apply JZ);exact rfl;(focus ((conv=>lhs;whnf);(first|done|fail))))|((with_reducible apply J2);exact rfl;(focus ((conv=>lhs;whnf);(first|done|fail))))|((with_reducible apply J3);(focus ((conv=>lhs;whnf);(first|done|fail))))|((with_reducible apply J4);exact rfl)|((with_reducible apply J5);exact rfl)|((with_reducible apply J6);exact rfl)|with_reducible exact JO|((with_reducible apply J7);exact rfl;exact rfl;exact rfl)|((with_reducible apply Kl);exact rfl;exact rfl;(focus ((omega);(first|done|fail))))|((with_reducible apply GD);exact rfl;exact rfl;(focus ((omega);(first|done|fail)));(focus ((omega);(first|done|fail))))|((with_reducible apply J8);exact rfl;exact rfl;(focus ((omega);(first|done|fail)));(focus ((omega);(first|done|fail))))|((with_reducible apply Ee);exact rfl;exact rfl;(focus ((omega);(first|done|fail)));(focus ((omega);(first|done|fail))))|((with_reducible apply JW);exact rfl;exact rfl;(focus ((omega);(first|done|fail)));(focus ((omega);(first|done|fail))))|((with_reducible apply Kc);exact rfl;exact rfl;(focus ((first|assumption|kernel_rfl);(first|done|fail))))|((with_reducible apply Ke);exact rfl;exact rfl;(focus ((first|assumption|kernel_rfl);(first|done|fail))))|((with_reducible apply Kg);exact rfl;exact rfl)|((with_reducible apply Kh);exact rfl;exact rfl)|((with_reducible apply Ki);exact rfl;exact rfl;(focus ((omega);(first|done|fail)));(focus ((omega);(first|done|fail))))):p:=h
def ye(h:p:=by rw[<- (hk2 y).eq,<- (hF2 y).eq];exact back w' _ _ c):p:=h
def yp(h:p:=by rcases ho with rfl|rfl<;>rfl):p:=h
def yq(h:p:=by rw[size_flatK,hd2];exact htn):p:=h
def yW(h:p:=by simp only[fK];exact dO _ h2):p:=h
def y3(h:p:=by have:=((Au Ch).zero x.values x.values).2 rfl;omega):p:=h
def y4(h:p:=by repeat (first|exact trivial|refine⟨rfl,?_⟩)):p:=h
def y6(h:p:=by rw[ow,if_pos rfl,if_pos hk]):p:=h
def zj(h:p:=by intro s x lo o B w0;refine go ?_;have z0:Nat:=0;exact Es z0 rfl):p:=h
def zp(h:p:=by show g.cells.length - (i+1)<g.cells.length - i;omega):p:=h
def z6(h:p:=by show aN.length - (i+1)<aN.length - i;omega):p:=h
def z7(h:p:=by show ln.length - (j+1)<ln.length - j;omega):p:=h
def An(h:p:=by show xs.length - (k+1)<xs.length - k;omega):p:=h
def As(h:p:=by show d.regions.length - (k+1)<d.regions.length - k;omega):p:=h
def AD(h:p:=by show l.length - (i+1)<l.length - i;omega):p:=h
def AE(h:p:=by rw[hdl];simp only[Nat.min_def];split<;>omega):p:=h
def AF(h:p:=by show 1=_;simp only[Nat.min_def];split<;>omega):p:=h
def AH(h:p:=by show(jP g.shape).length - (j+1)<(jP g.shape).length - j;omega):p:=h
def AI(h:p:=by show lists.length - (i+1)<lists.length - i;omega):p:=h
def AN(h:p:=by show fB.length - (i+1)<fB.length - i;omega):p:=h
def AS(h:p:=by show k.decl.symbols.length - (j+1)<k.decl.symbols.length - j;omega):p:=h
def AT(h:p:=by show k.lists.length - (i+1)<k.lists.length - i;omega):p:=h
def A0(h:p:=by rw[aS,zo p0];omega):p:=h
def Bk(h:p:=by simp only[Op.operands,Call.operands,zN];exact .inr qT):p:=h
def Bm(h:p:=by rw[aD.Gv (D9 sk)];exact hi):p:=h
def Bs(h:p:=by unfold kY;rw[if_neg p0,if_neg p0,if_neg p0,if_neg p0,if_neg p0,if_pos p0]):p:=h
def Bx(h:p:=by simp only[Op.operands,zN];exact .inl qT):p:=h
def By(h:p:=by simp only[Op.operands,zN];exact .inr qT):p:=h
def BE(h:p:=by rw[ow,if_pos rfl,if_pos p0]):p:=h
def BT(h:p:=by rw[eB,nQ,<- ul,CW hcl.symm p0,htk]):p:=h
def BW(h:p:=by rw[<- er];exact Kk rfl rfl qv):p:=h
def BY(h:p:=by rw[eB,nQ,<- ul,CW qi.symm p0,<- EH]):p:=h
def B0(h:p:=by rw[eB,nQ,<- ul,CW hjl.symm p0,gz hx,dQ];rfl):p:=h
