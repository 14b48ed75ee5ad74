/-
  Totals and ranks: add, Rank, Exact.
-/
import Derived.Test.YtjmgkllpcidhjaaGreatDoorLibEN
set_option linter.all false
set_option maxRecDepth 10000
set_option maxHeartbeats 4000000
namespace Go.Proofs.YtjmgkllpcidhjaaGreatDoor
open Go.Ideal Rk
noncomputable def MQ:=sN Tryz.prog 16
theorem Ul:ja Tryz.prog 16=some MQ:=by kernel_rfl
noncomputable def MS:=sN Tryz.prog 33
theorem Um:ja Tryz.prog 33=some MS:=by kernel_rfl
theorem ic{xs:List Int}{k:Nat}{x:Int}(h:xs[k]? =some x):xs.getD k 0=x:=by rw[nY,h];rfl
theorem Un{s:aT}{v1 v2 v3 v4 vl vo vp:Value}{l:List aG}{p:Nat}{aF t:List Int}(h:Av s l)(hp:(p:Int)<s.p)(hpl:aF.length=(aL l p).length)(hpr:∀x∈aF,0<=x/\x<=1048576)(ht:t.length=8)(htr:∀x∈t,0<=x/\x<=1099511627776):
 bD Tryz.prog (.func 32) [.agg ⟨t.map (.int .i64)⟩,.agg ⟨kz s v1 v2 v3 v4⟩,vl,.int .i64 (p:Int),vo,vp] [] [] [lG 0 mh,ah ae v1 s.lv,ah ae v2 s.cl,ah fw v3 s.pg,ah cO vl l,ah ae vo (ints (aL l p)),ah ae vp aF]
  (λ_:Unit=>.agg ⟨(fO s l p aF t).map (.int .i64)⟩) (λ_=>[]) (λ_=>[]) (λ_=>True):=by
 have hcl:=Dr l (p:Int);have hll:=h.len;have hil:=tN (aL l p);have hlv:=h.sh.lv;have JD:=h.sh.cl;refine aX _ (bN 32) λB w0=>?_;refine go ?_;intro b6 b7 b12;refine go ?_;refine bE (λk=>(aL l p).length - k) (λk:Nat=>[(19,.int .i64 (k:Int))]) (λk=>[pt b6 (.cells ((addN s l p (aL l p) aF t k).map (.int .i64)))]) (λ_=>[]) (λk=>k<=(aL l p).length) 0 (bF _) (hk:=by repeat (first|exact aM.nil|(apply aM.cons;(focus (repeat (first|exact ai.here|apply ai.there)))))) (body:=?_);intro k hk;have vC:=Aw s l p (aL l p) aF t k;have hTr:=Dp (s:=s) (l:=l) (p:=p) (own:=aL l p) (aF:=aF) htr (by decide) k;have hsucc:addN s l p (aL l p) aF t (k+1)=add1 s l p (aL l p) aF (addN s l p (aL l p) aF t k) k:=rfl;generalize hT:addN s l p (aL l p) aF t k=T at vC hTr hsucc⊢;refine go ?_;refine aC rfl (λh1=>?_) (λh1=>?_)
 ·obtain⟨vD,hok⟩:=Dq h.rs (p:=(p:Int)) (i:=k) (by omega);refine go ?_;intro _ _ i' hi';obtain⟨i,hi,rfl⟩:=yH hi';have hgi:(aL l p).getD k 0=i:=by rw[nY,hi];rfl
  rw[hgi]at vD hok;refine go ?_;intro _ _ y hy _ _ z1 hz1 _ _ z2 hz2;have hyr:=hpr y (cZ hy);have afl:=h.sh.Gp z1 (cZ hz1);have afm:=h.sh.Gq z2 (cZ hz2);have hx0:l[i]? =some (l[i]'vD):=bf _;have hgx:l.getD i dR=l[i]'vD:=by rw[nY,hx0];rfl
  rw[hgx]at hok;refine bJ cO (k:=i) (next:=λbx ox x _ hx=>?_);have hxe:l[i]'vD=x:=Option.some.inj (hx0.symm.trans hx);rw[hxe]at hok hgx;refine go ?_;intro MU;have MV:yF [y,((ints (aL l p)).length:Int),z1,z2,x.t]:=by
   refine⟨rfl,λu hu=>?_⟩;have q1:=hok.t0;have q2:=hok.t1;simp only[aU,xy,or_false]at hu;rcases hu with rfl|rfl|rfl|rfl|rfl<;>omega
  refine bG (A:=pt MU (.cells [.int .i64 y,.int .i64 ((ints (aL l p)).length:Int),.int .i64 z1,.int .i64 z2,.int .i64 x.t])) (fs:=[ah ae (.slice (some ⟨MU,0,some 0⟩) 5 5) [y,((ints (aL l p)).length:Int),z1,z2,x.t]]) (lC (b:=MU) (f:=0) (c:=5) (xs:=[y,((ints (aL l p)).length:Int),z1,z2,x.t])) (h:=?_);refine aD (afd (ws:=s.pg) (inp:=[y,((ints (aL l p)).length:Int),z1,z2,x.t]) h.pg MV) (next:=λ_ _=>?_);have hpt:=LU s.pg [y,((ints (aL l p)).length:Int),z1,z2,x.t];have hnext:addN s l p (aL l p) aF t (k+1)=T.set x.c.toNat (T.getD x.c.toNat 0+pts s.pg [y,((ints (aL l p)).length:Int),z1,z2,x.t]):=by
   rw[hsucc,add1,hgi,hgx,ic hy,ic hz1,ic hz2,hil]
  generalize pts s.pg [y,((ints (aL l p)).length:Int),z1,z2,x.t]=q at hpt hnext;refine go ?_;refine bJ cO (k:=i) (next:=λyQ yR x2 _ hx2=>?_);cases hx.symm.trans hx2;have c0:=hok.c0;have c1:=hok.c1;have c8:=h.sh.c8;have hT0:=hTr _ (qO (st:=T) (k:=x.c.toNat) (by omega));refine go ?_;refine jU (o:=0+x.c.toNat*1) (cs:=T.map (.int .i64)) (.int .i64 (T.getD x.c.toNat 0)) (by rw[dD,gT,bX,ng (by omega)];rfl) ?_;refine go ?_;refine p9 (o:=0+x.c.toNat*1) (cs:=T.map (.int .i64)) (cs':=(T.set x.c.toNat (T.getD x.c.toNat 0+q)).map (.int .i64)) (v:=.int .i64 (T.getD x.c.toNat 0+q)) (by rw[dD,gT,pI]) (by rw[bC];omega) ?_;rw[<- hnext];refine go ?_;exact aO (k+1) (by omega) (by omega)
 have hkl:k=(aL l p).length:=by omega
 subst hkl;have hTe:fO s l p aF t=T:=by rw[fO,hT]
 rw[ht]at vC;rw[hTe];obtain⟨a0,a1,a2,a3,a4,a5,a6,a7,rfl⟩:=len8 vC;refine go ?_;exact aj () (hv:=rfl) (hp:=trivial)
theorem MW{vl:Value}{xs:List Int}(hl:xs.length<=1000000):bD Tryz.prog (.func 16) [vl] [] [] [ah ae vl xs] (λv:Value=>v) (λ_=>[]) (λv=>[ah ae v (aQ xs)]) (λ_=>True):=by
 refine aX MQ Ul λB w0=>?_;refine go ?_;refine nE ae ?_;refine bE (λy:Nat×Value=>xs.length - y.1) (λy=>[(10,.int .i64 (y.1:Int)),(2,y.2)]) (λy=>[ap ae y.2 ((aQ xs).take y.1)]) (λ_=>[]) (λy=>y.1<=xs.length) (0,.slice none 0 0) (bF _) (hk:=by repeat (first|exact aM.nil|(apply aM.cons;(focus (repeat (first|exact ai.here|apply ai.there)))))) (body:=?_);rintro⟨k,v⟩ hk;dsimp only at hk⊢;have hrl:(aQ xs).length=xs.length:=bC ..;have htl:((aQ xs).take k).length=k:=by rw[dw];omega
 refine go ?_;refine aC rfl (λh1=>?_) (λh1=>?_)
 ·refine go ?_;intro _ _ x hx;refine go ?_;refine bE (λj=>xs.length - j) (λj:Nat=>[(16,.int .i64 (j:Int)),(5,.int .i64 (1+((xs.take j).countP λm=>decide (x<m):Nat):Int))]) (λ_=>[]) (λ_=>[]) (λj=>j<=xs.length) 0 (bF _) (body:=?_);intro j hj;have hcl:((xs.take j).countP λm=>decide (x<m))<=(xs.take j).length:=Bq;rw[dw]at hcl;refine go ?_;refine aC rfl (λh2=>?_) (λh2=>?_)
  ·refine go ?_;intro _ _ z hz;have hs:((xs.take (j+1)).countP λm=>decide (x<m))=((xs.take j).countP λm=>decide (x<m))+if x<z then 1 else 0:=by rw[dx hz,Br,Bt];simp
   refine go ?_;refine aC rfl (λh3=>?_) (λh3=>?_)
   ·rw[if_pos h3]at hs;refine go ?_;rw[show(1+(((xs.take j).countP λm=>decide (x<m):Nat):Int))+1=1+(((xs.take (j+1)).countP λm=>decide (x<m):Nat):Int)by rw[hs];omega];exact aO (j+1) (by omega) (by omega)
   ·have hs2:((xs.take j).countP λm=>decide (x<m))=((xs.take (j+1)).countP λm=>decide (x<m)):=by rw[hs,if_neg h3,nV]
    rw[hs2];refine go ?_;exact aO (j+1) (by omega) (by omega)
  have hjl:j=xs.length:=by omega
  subst hjl;rw[fK];refine go ?_;intro yS;refine go ?_;have vF:(aQ xs)[k]? =some (1+((xs.countP λm=>decide (x<m):Nat):Int)):=by unfold aQ;rw[bX,hx];rfl
  refine nH (xs:=(aQ xs).take k) ae (1+((xs.countP λm=>decide (x<m):Nat):Int)) () (by omega) (next:=λad=>?_);rw[<- dx vF];refine go ?_;exact aO (k+1,.slice ad (((aQ xs).take k).length+1) (((aQ xs).take k).length+1)) (by show xs.length - (k+1)<xs.length - k;omega) (by show k+1<=_;omega)
 have hkl:k=xs.length:=by omega
 subst hkl;rw[mM (by omega)];refine go ?_;refine bG (A:=ap ae v (aQ xs)) (fs:=[ah ae v (aQ xs)]) pX (h:=?_);exact aj v (hv:=rfl) (hp:=trivial)
theorem Uo{a:Addr}{m c:Nat}{xs:List Int}(h0:0<xs.length)(hl:xs.length<=1000000):bD Tryz.prog (.func 33) [.slice (some a) m c] [] [] [ah ae (.slice (some a) m c) xs] (λv:Value=>v) (λ_=>[]) (λv=>[ah ae v xs]) (λ_=>True):=by
 refine aX MS Um λB w0=>?_;refine go ?_;refine(bO rfl rfl (QO (e:=3) (by kernel_rfl) rfl)).h ?_;refine go ?_;intro b5;refine go ?_;refine aa8 (b:=b5) (xs:=xs) h0 ⟨by omega,by omega⟩ (λb'=>?_);refine go ?_;refine bG (A:=pt b' (.cells (xs.map (.int .i64)))) (fs:=[ah ae (.slice (some ⟨b',0,some 1⟩) xs.length xs.length) xs]) (lC (b:=b') (f:=1) (c:=xs.length) (xs:=xs)) (h:=?_);exact aj (.slice (some ⟨b',0,some 1⟩) xs.length xs.length) (hv:=rfl) (hp:=trivial)
structure Uq where
 v:Value
 e:Int
 xs:List Int
abbrev afn(y:Uq):Value:=.tuple ⟨[y.v,.int .i64 y.e]⟩
abbrev afo(y:Uq):List aK:=[ah ae y.v y.xs]
theorem MX(n:Nat):zeros [.int .i64 0] n=(List.replicate n (0:Int)).map (.int .i64):=by
 induction n with
 |zero=>rfl
 |succ n ih=>rw[Il,mJ,<- ih];rfl
theorem Ur{P:Program}{ρ:Operand->Value}{x hi:Operand}{b m n size:Nat}(hx:ρ x=.pointer (some ⟨b,0,none⟩))(hh:ρ hi=.int .i64 (m:Int))(hm:m<=n):Pu P ρ (.Iy n size x none (some hi) none) (.slice (some ⟨b,0,some 0⟩) m n):=λh=>by
 have hbd:bounds? n n (fD ρ none) (fD ρ (some hi)) (fD ρ none)=some (0,m,n):=by
  show bounds? n n none (some (ρ hi)) none=_;rw[hh];show(match upTo n (.int .i64 (m:Int))with|none=>none|some h=>match some 0 with|none=>none|some l=>some (l,h,n))=_;rw[C9 hm]
 simp only[ak.run,hx,hbd];show some (Value.slice (uu b (Nat.add 0 (Nat.mul 0 size))) (Nat.sub m 0) (Nat.sub n 0),h)=_;rw[show Nat.mul 0 size=0 from pF _];rfl
theorem Hw(w:Wd):(ah ae (.slice none 0 0) ([]:List Int)).p w:=.inl ⟨rfl,none,0,rfl,trivial⟩
theorem Us{w:Wd}{b m c:Nat}{T:List Int}(h:(dG b 0 (T.map (.int .i64))).p w)(h1:m<=T.length)(h2:m<=c):(ah ae (.slice (some ⟨b,0,some 0⟩) m c) (T.take m)).p w:=by
 obtain⟨cells,q1,q2⟩:=h;refine .inr ⟨b,0,0,c,cells,⟨by rw[dw,xB h1],by rw[dw];omega,.inl rfl⟩,q1,λk x hx=>⟨(),λj u hj=>?_,λf hf=>by cases hf⟩⟩;have hx:T[k]? =some x:=by
  have hk:=(dX.1 hx).1;rw[dw]at hk
  rwa [qi,if_pos (by omega)]at hx
 match j,hj with
 |0,hj=>
  cases hj;rw[show 0+k*ae.n+0=0+k by show 0+k*1+0=_;omega];exact q2 k _ (by rw[bX,hx];rfl)
def tZ(aF:List Int)(i m:Nat):List Int:=aF.take i++List.replicate (m - i) 0
theorem afp{aF:List Int}{i:Nat}(h:i<=aF.length):(tZ aF i aF.length).length=aF.length:=by unfold tZ;rw[dW,dw,qo];omega
theorem afq{aF:List Int}{i:Nat}{x:Int}(h:i<aF.length):(tZ aF i aF.length).set i x=aF.take i++x::List.replicate (aF.length - (i+1)) 0:=by
 unfold tZ;rw[NP _ _ (by rw[dw];omega),dw,xB (by omega),xA,show aF.length - i=(aF.length - (i+1))+1 by omega,Il];rfl
theorem afr{aF:List Int}{i:Nat}{x y:Int}{r:List Int}(h:i<aF.length):(aF.take i++x::r).set i y=aF.take i++y::r:=by
 rw[NP _ _ (by rw[dw];omega),dw,xB (by omega),xA];rfl
theorem afs{aF:List Int}{i:Nat}{x:Int}{r:List Int}(h:i<aF.length):(aF.take i++x::r)[i]? =some x:=by
 rw[pq (by rw[dw];omega),dw,xB (by omega),xA];rfl
theorem Hy{s:aT}{v1 v2 v3 v4 vl vt:Value}{l:List aG}{ts:List Int}(hb1:s.lv.length<9223372036854775808)(hb2:s.cl.length<9223372036854775808)(hb3:s.pz.length<9223372036854775808)(hx1:cellsOf v1=some [v1])(hx2:cellsOf v2=some [v2])(hx3:cellsOf v3=some [v3])(hx4:cellsOf v4=some [v4]):
 bD Tryz.prog (.func 11) [.agg ⟨kz s v1 v2 v3 v4⟩,vl,vt] [] [] [lG 0 mh,ah ae v1 s.lv,ah ae v2 s.cl,ah fw v3 s.pg,ah ae v4 s.pz,ah cO vl l,ah ae vt ts] afn (λ_=>[]) afo (λy=>y.e=rW s l ts/\y.xs=yI s l ts):=by
 refine aX _ (bN 11) λB w0=>?_;refine go ?_;intro b3;refine go ?_;refine aD (Uh (s:=s) (l:=l) hb1 hb2 hb3 hx1 hx2 hx3 hx4) (next:=λy hy=>?_);subst hy;refine go ?_;refine aC rfl (λh1=>?_) (λh1=>?_)
 ·refine go ?_;refine cK (ah ae (.slice none 0 0) ([]:List Int)) (λw _=>Hw w) ?_;exact aj ⟨.slice none 0 0,eU s l,[]⟩ (hv:=rfl) (hp:=⟨(Sk h1).1.symm,(Sk h1).2.symm⟩)
 have h1:eU s l=0:=sG.1 h1;have h:=mX h1;have hll:=h.len;refine go ?_;refine aC rfl (λh2=>?_) (λh2=>?_)
 ·have hno:¬lH l ts:=λk=>h2 (by rw[k.1]);refine go ?_;refine cK (ah ae (.slice none 0 0) ([]:List Int)) (λw _=>Hw w) ?_;exact aj ⟨.slice none 0 0,1,[]⟩ (hv:=rfl) (hp:=⟨(Ay h1 hno).1.symm,(Ay h1 hno).2.symm⟩)
 have htl:ts.length=l.length:=by omega
 refine go ?_;refine bE (λk=>ts.length - k) (λk:Nat=>[(32,.int .i64 (k:Int))]) (λ_=>[]) (λ_=>[]) (λk=>k<=ts.length/\∀(i:Nat) x t,i<k->l[i]? =some x->ts[i]? =some t->x.lo<=t/\t<=x.hi) 0 ⟨bF _,λi _ _ hi=>by omega⟩ (body:=?_);rintro k ⟨hk,hin⟩;refine go ?_;refine aC rfl (λh3=>?_) (λh3=>?_)
 ·refine go ?_;intro _ _ t ht;refine go ?_;refine bJ cO (k:=k) (next:=λbx ox x _ hx=>?_);refine go ?_;refine(rO (b:=bx) (o:=ox) (j:=3) (v:=.int .i64 x.lo) rfl rfl rfl (bz ..) rfl).h ?_;refine go ?_;refine gG (λh4=>?_) (λh4=>?_)
  rotate_left
  ·have hno:¬lH l ts:=λq=>by have:=q.2 k x t hx ht;omega
   refine go ?_;refine cK (ah ae (.slice none 0 0) ([]:List Int)) (λw _=>Hw w) ?_;exact aj ⟨.slice none 0 0,1,[]⟩ (hv:=rfl) (hp:=⟨(Ay h1 hno).1.symm,(Ay h1 hno).2.symm⟩)
  refine go ?_;refine bJ cO (k:=k) (next:=λyQ yR x2 _ hx2=>?_);cases hx.symm.trans hx2;refine go ?_;refine(rO (b:=yQ) (o:=yR) (j:=4) (v:=.int .i64 x.hi) rfl rfl rfl (bz ..) rfl).h ?_;refine go ?_;refine aC rfl (λh5=>?_) (λh5=>?_)
  ·have hno:¬lH l ts:=λq=>by have:=q.2 k x t hx ht;omega
   refine go ?_;refine cK (ah ae (.slice none 0 0) ([]:List Int)) (λw _=>Hw w) ?_;exact aj ⟨.slice none 0 0,1,[]⟩ (hv:=rfl) (hp:=⟨(Ay h1 hno).1.symm,(Ay h1 hno).2.symm⟩)
  refine go ?_;refine aO (k+1) (by omega) ⟨by omega,λi x' t' hi hx' ht'=>?_⟩;by_cases e:i=k
  ·subst e;cases hx.symm.trans hx';cases ht.symm.trans ht';exact⟨by omega,by omega⟩
  ·exact hin i x' t' (by omega) hx' ht'
 have hkl:k=ts.length:=by omega
 subst hkl;have vG:lH l ts:=⟨htl,λi x t hx ht=>hin i x t (dX.1 ht).1 hx ht⟩
 clear hin hk h3;refine go ?_;intro b11;refine go ?_;have hp1:=h.sh.p1;have MZ:=h.sh.p8;refine bE (λp=>s.p.toNat - p) (λp:Nat=>[(58,.int .i64 (p:Int))]) (λp=>[pt b11 (.cells ((iP s l ts (List.replicate 8 0) p).map (.int .i64)))]) (λ_=>[]) (λp=>(p:Int)<=s.p) 0 (by show(0:Int)<=_;omega) (hk:=by repeat (first|exact aM.nil|(apply aM.cons;(focus (repeat (first|exact ai.here|apply ai.there)))))) (body:=?_);intro p hp;refine go ?_;refine aC rfl (λh4=>?_) (λh4=>?_)
 ·refine go ?_;refine aD (Uk (l:=l) (p:=(p:Int)) (by omega)) (next:=λvo _=>?_);have hil:=tN (aL l p);have hcl:=Dr l (p:Int);have hol:=L8 l ts (p:Int);have hpl:=yD (ts:=iQ l ts (p:Int));have hpr:∀x∈places (iQ l ts (p:Int)),0<=x/\x<=1048576:=λx hx=>by have:=Sd hx;omega
  have M0:iP s l ts (List.replicate 8 0) (p+1)=fO s l p (places (iQ l ts (p:Int))) (iP s l ts (List.replicate 8 0) p):=rfl;have vC:(iP s l ts (List.replicate 8 0) p).length=8:=by rw[yG];rfl
  have hTr:=Sc (s:=s) (l:=l) hll (ts:=ts) (t:=List.replicate 8 0) (λx hx=>V5 hx) p;refine go ?_;refine FT (aL l p).length ⟨by omega,by omega,by omega⟩ (hx:=by show Value.int .i64 _=_;rw[hil]) (hy:=by show Value.int .i64 _=_;rw[hil]) (λb14=>?_);rw[MX];refine go ?_;generalize hpq:places (iQ l ts (p:Int))=aF at hpl hpr M0;have hpm:aF.length=(aL l p).length:=by omega
  refine bE (λi=>(aL l p).length - i) (λi:Nat=>[(69,.int .i64 (i:Int))]) (λi=>[pt b14 (.cells ((tZ aF i aF.length).map (.int .i64)))]) (λ_=>[]) (λi=>i<=(aL l p).length) 0 (bF _) (hk:=by
   rw[<- hpm];repeat (first|exact aM.nil|(apply aM.cons;(focus (repeat (first|exact ai.here|apply ai.there)))))) (body:=?_)
  intro i hi;have hrow:=afp (aF:=aF) (i:=i) (by omega);refine go ?_;refine aC rfl (λh5=>?_) (λh5=>?_)
  ·refine go ?_;intro _ _ a' ha';obtain⟨a,ha,rfl⟩:=yH ha';have hal:=rX ha;have hoa:=Gr (ts:=ts) ha;have hra:=Sl hoa;rw[hpq]at hra;refine go ?_;have Ut:=ng (st:=ts) (k:=a) (by omega);generalize ts.getD a 0=ta at Ut hoa hra;refine p9 (o:=0+i*1) (cs:=(tZ aF i aF.length).map (.int .i64)) (cs':=(aF.take i++(1:Int)::List.replicate (aF.length - (i+1)) 0).map (.int .i64)) (v:=.int .i64 1) (by rw[dD,gT,<- afq (by omega),pI]) (by rw[bC];omega) ?_;refine go ?_;refine bE (λj=>(aL l p).length - j) (λj:Nat=>[(79,.int .i64 (j:Int))]) (λj=>[pt b14 (.cells ((aF.take i++(1+(((iQ l ts p).take j).countP λb=>decide (b<ta):Nat):Int)::List.replicate (aF.length - (i+1)) 0).map (.int .i64)))]) (λ_=>[]) (λj=>j<=(aL l p).length) 0 (bF _) (hk:=by repeat (first|exact aM.nil|(apply aM.cons;(focus (repeat (first|exact ai.here|apply ai.there)))))) (body:=?_);intro j hj;have hcj:(((iQ l ts p).take j).countP λb=>decide (b<ta))<=((iQ l ts p).take j).length:=Bq;rw[dw]at hcj;refine go ?_;refine aC rfl (λh6=>?_) (λh6=>?_)
   ·refine go ?_;intro _ _ b' hb';obtain⟨b,hb,rfl⟩:=yH hb';have hbl:=rX hb;have Uu:=Gr (ts:=ts) hb;have Uv:=ng (st:=ts) (k:=b) (by omega);generalize ts.getD b 0=tb at Uv Uu;have hs:(((iQ l ts p).take (j+1)).countP λb=>decide (b<ta))=(((iQ l ts p).take j).countP λb=>decide (b<ta))+if tb<ta then 1 else 0:=by rw[dx Uu,Br,Bt];simp
    refine go ?_;intro _ _ tb' htb' _ _ ta' aft;cases Uv.symm.trans htb';cases Ut.symm.trans aft;refine go ?_;refine aC rfl (λh7=>?_) (λh7=>?_)
    ·rw[if_pos h7]at hs;have hlr:(aF.take i++(1+(((iQ l ts p).take j).countP λb=>decide (b<ta):Nat):Int)::List.replicate (aF.length - (i+1)) 0).length=aF.length:=by
      rw[dW,dw,qh,qo];omega
     have hgt:((aF.take i++(1+(((iQ l ts p).take j).countP λb=>decide (b<ta):Nat):Int)::List.replicate (aF.length - (i+1)) 0).map (Value.int .i64))[0+i*1]? =some (.int .i64 (1+(((iQ l ts p).take j).countP λb=>decide (b<ta):Nat):Int)):=by
      rw[dD,gT,bX,afs (by omega)];rfl
     have hst:((aF.take i++(1+(((iQ l ts p).take j).countP λb=>decide (b<ta):Nat):Int)::List.replicate (aF.length - (i+1)) 0).map (Value.int .i64)).set (0+i*1) (.int .i64 ((1+(((iQ l ts p).take j).countP λb=>decide (b<ta):Nat):Int)+1))=
      (aF.take i++(1+(((iQ l ts p).take (j+1)).countP λb=>decide (b<ta):Nat):Int)::List.replicate (aF.length - (i+1)) 0).map (Value.int .i64):=by
      rw[dD,gT,<- pI,afr (by omega),hs];congr 3
     refine go ?_;refine jU _ hgt ?_;refine go ?_;refine p9 hst (by rw[bC];omega) ?_;refine go ?_;exact aO (j+1) (by omega) (by omega)
    ·have hs2:(((iQ l ts p).take j).countP λb=>decide (b<ta))=(((iQ l ts p).take (j+1)).countP λb=>decide (b<ta)):=by rw[hs,if_neg h7,nV]
     rw[hs2];refine go ?_;exact aO (j+1) (by omega) (by omega)
   have hjl:j=(aL l p).length:=by omega
   subst hjl;have htk:(iQ l ts p).take (aL l p).length=iQ l ts p:=mM (by omega);rw[htk];refine go ?_;have hnx:aF.take i++(1+((iQ l ts p).countP λb=>decide (b<ta):Nat):Int)::List.replicate (aF.length - (i+1)) 0=tZ aF (i+1) aF.length:=by
    unfold tZ;rw[dx hra,ik];rfl
   rw[hnx];exact aO (i+1) (by omega) (by omega)
  have hik:i=(aL l p).length:=by omega
  subst hik;have hfull:tZ aF (aL l p).length aF.length=aF:=by
   unfold tZ;rw[mM (by omega),show aF.length - (aL l p).length=0 by omega];simp
  rw[hfull];refine bG (A:=pt b14 (.cells (aF.map (.int .i64)))) (fs:=[ah ae (.slice (some ⟨b14,0,some 0⟩) (aL l p).length (aL l p).length) aF]) (by rw[<- hpm];exact lC (b:=b14) (f:=0) (c:=aF.length) (xs:=aF)) (h:=?_);have Uw:∀x∈iP s l ts (List.replicate 8 0) p,0<=x/\x<=1099511627776:=λx hx=>by have:=hTr x hx;omega
  generalize iP s l ts (List.replicate 8 0) p=T at M0 vC hTr Uw⊢;obtain⟨a0,a1,a2,a3,a4,a5,a6,a7,rfl⟩:=len8 vC;refine go ?_;refine aD (Un (s:=s) (l:=l) (p:=p) (aF:=aF) (t:=[a0,a1,a2,a3,a4,a5,a6,a7]) h h4 hpm hpr rfl Uw) (next:=λ_ _=>?_);rw[<- M0];have hT2:(iP s l ts (List.replicate 8 0) (p+1)).length=8:=by rw[yG];rfl
  obtain⟨c0,c1,c2,c3,c4,c5,c6,c7,hc⟩:=len8 hT2;rw[hc];refine go ?_;rw[show[Value.int .i64 c0,Value.int .i64 c1,Value.int .i64 c2,Value.int .i64 c3,Value.int .i64 c4,Value.int .i64 c5,Value.int .i64 c6,Value.int .i64 c7]=(iP s l ts (List.replicate 8 0) (p+1)).map (.int .i64)by rw[hc];rfl];exact aO (p+1) (by omega) (by omega)
 have hpe:p=s.p.toNat:=by omega
 subst hpe;have hc1:=h.sh.c1;have hc8:=h.sh.c8;have happ:=Sb h (ts:=ts) (t:=List.replicate s.c.toNat 0) (z:=List.replicate (8 - s.c.toNat) 0) (by rw[qo];omega) s.p.toNat
 rw[<- Sm (by omega)]at happ;have hlen:(iP s l ts (List.replicate s.c.toNat 0) s.p.toNat).length=s.c.toNat:=by rw[yG,qo]
 have hT8:(iP s l ts (List.replicate 8 0) s.p.toNat).length=8:=by rw[yG,qo]
 have htake:(iP s l ts (List.replicate 8 0) s.p.toNat).take s.c.toNat=mF s l ts:=by rw[happ];exact List.take_left' hlen
 have hvl:(mF s l ts).length=s.c.toNat:=hlen;generalize iP s l ts (List.replicate 8 0) s.p.toNat=T at hT8 htake;refine go ?_;refine(bO rfl rfl (Ur (m:=s.c.toNat) rfl (by show Value.int .i64 _=_;congr 1;omega) (by omega))).h ?_;refine go ?_;refine bG (eP (b:=b11) (cs:=T.map (.int .i64))) (h:=?_);refine cK (ah ae (.slice (some ⟨b11,0,some 0⟩) s.c.toNat 8) (mF s l ts)) (λw hw=>by rw[<- htake];exact Us (hw _ (bz ..)) (by omega) (by omega)) ?_;refine aD (Uo (xs:=mF s l ts) (by omega) (by omega)) (next:=λv _=>?_);refine go ?_;exact aj ⟨v,0,mF s l ts⟩ (hv:=rfl) (hp:=⟨(Az h1 vG).1.symm,(Az h1 vG).2.symm⟩)
