/-
  Totals and ranks: add, Rank, Exact.
-/
import Derived.Test.YtbdaaopebgcnaaaGreatDoorLibEM
set_option linter.all false
set_option maxRecDepth 10000
set_option maxHeartbeats 4000000
namespace Go.Proofs.YtbdaaopebgcnaaaGreatDoor
open Go.Ideal Rk
noncomputable def UN:=yB Tryz.prog 19
theorem afo:jN Tryz.prog 19=some UN:=by kernel_rfl
noncomputable def Nh:=yB Tryz.prog 50
theorem UO:jN Tryz.prog 50=some Nh:=by kernel_rfl
theorem afp{cs:List Value}{m:Nat}(h:cs.length=m):iN (ja cs 0) m=some cs:=by
 rw[jO,jP,sj,if_pos (by omega),<- h,gV]
theorem Bq{xs:List Int}{k:Nat}{x:Int}(h:xs[k]? =some x):xs.getD k 0=x:=by rw[iA,h];rfl
theorem UQ{s:aK}{v1 v2 v3 v4 vl vo vp:Value}{l:List ak}{p:Nat}{aF t:List Int}(h:yX s l)(hp:(p:Int)<s.p)(hpl:aF.length=(aO l p).length)(hpr:∀x∈aF,0<=x/\x<=1048576)(ht:t.length=8)(htr:∀x∈t,0<=x/\x<=1099511627776):
 aX Tryz.prog (.func 48) [.agg ⟨t.map (.int .i64)⟩,.agg ⟨jD s v1 v2 v3 v4⟩,vl,.int .i64 (p:Int),vo,vp] [] [] [l6 0 mU,ae ah v1 s.lv,ae ah v2 s.cl,ae fP v3 s.pg,ae aZ vl l,ae ah vo (ints (aO l p)),ae ah vp aF]
  (λ_:Unit=>.agg ⟨(iw s l p aF t).map (.int .i64)⟩) (λ_=>[]) (λ_=>[]) (λ_=>True):=by
 have hcl:=Bf l (p:Int);have hll:=h.len;have hil:=om (aO l p);have hlv:=h.sh.lv;have KC:=h.sh.cl;refine aT _ (bz 48) λB w0=>?_;refine go ?_;intro b6 b7 b12;refine go ?_;refine bR (λk=>(aO l p).length - k) (λk:Nat=>[(19,.int .i64 (k:Int))]) (λk=>[pt b6 (.cells ((addN s l p (aO l p) aF t k).map (.int .i64)))]) (λ_=>[]) (λk=>k<=(aO l p).length) 0 (cu _) (hk:=by repeat (first|exact aI.nil|(apply aI.cons;(focus (repeat (first|exact ai.here|apply ai.there)))))) (body:=?_);intro k hk;have qA:=Be s l p (aO l p) aF t k;have hTr:=Dx (s:=s) (l:=l) (p:=p) (own:=aO l p) (aF:=aF) htr (by decide) k;have hsucc:addN s l p (aO l p) aF t (k+1)=add1 s l p (aO l p) aF (addN s l p (aO l p) aF t k) k:=rfl;generalize hT:addN s l p (aO l p) aF t k=T at qA hTr hsucc⊢;refine go ?_;refine aC rfl (λh1=>?_) (λh1=>?_)
 ·obtain⟨wu,hok⟩:=Dy h.rs (p:=(p:Int)) (i:=k) (by omega);refine go ?_;intro _ _ i' hi';obtain⟨i,hi,rfl⟩:=vP hi';have hgi:(aO l p).getD k 0=i:=by rw[iA,hi];rfl
  rw[hgi]at wu hok;refine go ?_;intro _ _ y hy _ _ z1 hz1 _ _ z2 hz2;have Ni:=hpr y (dA hy);have afq:=h.sh.HY z1 (dA hz1);have afr:=h.sh.HZ z2 (dA hz2);have hx0:l[i]? =some (l[i]'wu):=bB _;have hgx:l.getD i dR=l[i]'wu:=by rw[iA,hx0];rfl
  rw[hgx]at hok;refine cZ aZ (k:=i) (next:=λbx ox x _ hx=>?_);have hxe:l[i]'wu=x:=Option.some.inj (hx0.symm.trans hx);rw[hxe]at hok hgx;refine go ?_;intro Nj;have Nk:yV [y,((ints (aO l p)).length:Int),z1,z2,x.t]:=by
   refine⟨rfl,λu hu=>?_⟩;have q1:=hok.t0;have q2:=hok.t1;simp only[bD,zu,or_false]at hu;rcases hu with rfl|rfl|rfl|rfl|rfl<;>omega
  refine bP (A:=pt Nj (.cells [.int .i64 y,.int .i64 ((ints (aO l p)).length:Int),.int .i64 z1,.int .i64 z2,.int .i64 x.t])) (fs:=[ae ah (.slice (some ⟨Nj,0,some 0⟩) 5 5) [y,((ints (aO l p)).length:Int),z1,z2,x.t]]) (pF (b:=Nj) (f:=0) (c:=5) (xs:=[y,((ints (aO l p)).length:Int),z1,z2,x.t])) (h:=?_);refine aB (afi (ws:=s.pg) (inp:=[y,((ints (aO l p)).length:Int),z1,z2,x.t]) h.pg Nk) (next:=λ_ _=>?_);have hpt:=Ml s.pg [y,((ints (aO l p)).length:Int),z1,z2,x.t];have hnext:addN s l p (aO l p) aF t (k+1)=T.set x.c.toNat (T.getD x.c.toNat 0+pts s.pg [y,((ints (aO l p)).length:Int),z1,z2,x.t]):=by
   rw[hsucc,add1,hgi,hgx,Bq hy,Bq hz1,Bq hz2,hil]
  generalize pts s.pg [y,((ints (aO l p)).length:Int),z1,z2,x.t]=q at hpt hnext;refine go ?_;refine cZ aZ (k:=i) (next:=λoH oI x2 _ hx2=>?_);cases hx.symm.trans hx2;have c0:=hok.c0;have c1:=hok.c1;have c8:=h.sh.c8;have hT0:=hTr _ (rP (st:=T) (k:=x.c.toNat) (by omega));refine go ?_;refine gp (o:=0+x.c.toNat*1) (cs:=T.map (.int .i64)) (.int .i64 (T.getD x.c.toNat 0)) (by rw[bG,fV,bU,oD (by omega)];rfl) ?_;refine go ?_;refine jk (o:=0+x.c.toNat*1) (cs:=T.map (.int .i64)) (cs':=(T.set x.c.toNat (T.getD x.c.toNat 0+q)).map (.int .i64)) (v:=.int .i64 (T.getD x.c.toNat 0+q)) (by rw[bG,fV,lS]) (by rw[bI];omega) ?_;rw[<- hnext];refine go ?_;exact aL (k+1) (by omega) (by omega)
 have hkl:k=(aO l p).length:=by omega
 subst hkl;have hTe:iw s l p aF t=T:=by rw[iw,hT]
 rw[ht]at qA;rw[hTe];obtain⟨a0,a1,a2,a3,a4,a5,a6,a7,rfl⟩:=len8 qA;refine go ?_;exact aj () (hv:=rfl) (hp:=trivial)
theorem Nl{vl:Value}{xs:List Int}(hl:xs.length<=1000000):aX Tryz.prog (.func 19) [vl] [] [] [ae ah vl xs] (λv:Value=>v) (λ_=>[]) (λv=>[ae ah v (iy xs)]) (λ_=>True):=by
 refine aT UN afo λB w0=>?_;refine go ?_;refine tq ah ?_;refine bR (λy:Nat×Value=>xs.length - y.1) (λy=>[(10,.int .i64 (y.1:Int)),(2,y.2)]) (λy=>[ap ah y.2 ((iy xs).take y.1)]) (λ_=>[]) (λy=>y.1<=xs.length) (0,.slice none 0 0) (cu _) (hk:=by repeat (first|exact aI.nil|(apply aI.cons;(focus (repeat (first|exact ai.here|apply ai.there)))))) (body:=?_);rintro⟨k,v⟩ hk;dsimp only at hk⊢;have hrl:(iy xs).length=xs.length:=bI ..;have htl:((iy xs).take k).length=k:=by rw[cB];omega
 refine go ?_;refine aC rfl (λh1=>?_) (λh1=>?_)
 ·refine go ?_;intro _ _ x hx;refine go ?_;refine bR (λj=>xs.length - j) (λj:Nat=>[(16,.int .i64 (j:Int)),(5,.int .i64 (1+((xs.take j).countP λm=>decide (x<m):Nat):Int))]) (λ_=>[]) (λ_=>[]) (λj=>j<=xs.length) 0 (cu _) (body:=?_);intro j hj;have hcl:((xs.take j).countP λm=>decide (x<m))<=(xs.take j).length:=OI;rw[cB]at hcl;refine go ?_;refine aC rfl (λh2=>?_) (λh2=>?_)
  ·refine go ?_;intro _ _ z hz;have hs:((xs.take (j+1)).countP λm=>decide (x<m))=((xs.take j).countP λm=>decide (x<m))+if x<z then 1 else 0:=by rw[eD hz,OJ,OL];simp
   refine go ?_;refine aC rfl (λh3=>?_) (λh3=>?_)
   ·rw[if_pos h3]at hs;refine go ?_;rw[show(1+(((xs.take j).countP λm=>decide (x<m):Nat):Int))+1=1+(((xs.take (j+1)).countP λm=>decide (x<m):Nat):Int)by rw[hs];omega];exact aL (j+1) (by omega) (by omega)
   ·have hs2:((xs.take j).countP λm=>decide (x<m))=((xs.take (j+1)).countP λm=>decide (x<m)):=by rw[hs,if_neg h3,jG]
    rw[hs2];refine go ?_;exact aL (j+1) (by omega) (by omega)
  have hjl:j=xs.length:=by omega
  subst hjl;rw[gV];refine go ?_;intro b28;refine go ?_;have xU:(iy xs)[k]? =some (1+((xs.countP λm=>decide (x<m):Nat):Int)):=by unfold iy;rw[bU,hx];rfl
  refine lY (xs:=(iy xs).take k) ah (1+((xs.countP λm=>decide (x<m):Nat):Int)) () (by omega) (next:=λad=>?_);rw[<- eD xU];refine go ?_;exact aL (k+1,.slice ad (((iy xs).take k).length+1) (((iy xs).take k).length+1)) (by show xs.length - (k+1)<xs.length - k;omega) (by show k+1<=_;omega)
 have hkl:k=xs.length:=by omega
 subst hkl;rw[nO (by omega)];refine go ?_;refine bP (A:=ap ah v (iy xs)) (fs:=[ae ah v (iy xs)]) rD (h:=?_);exact aj v (hv:=rfl) (hp:=trivial)
theorem UR{a:Addr}{m c:Nat}{xs:List Int}(h0:0<xs.length)(hl:xs.length<=1000000):aX Tryz.prog (.func 50) [.slice (some a) m c] [] [] [ae ah (.slice (some a) m c) xs] (λv:Value=>v) (λ_=>[]) (λv=>[ae ah v xs]) (λ_=>True):=by
 refine aT Nh UO λB w0=>?_;refine go ?_;refine(bC rfl rfl (G6 (e:=3) (by kernel_rfl) rfl)).h ?_;refine go ?_;intro b5;refine go ?_;refine abE (b:=b5) (xs:=xs) h0 ⟨by omega,by omega⟩ (λb'=>?_);refine go ?_;refine bP (A:=pt b' (.cells (xs.map (.int .i64)))) (fs:=[ae ah (.slice (some ⟨b',0,some 1⟩) xs.length xs.length) xs]) (pF (b:=b') (f:=1) (c:=xs.length) (xs:=xs)) (h:=?_);exact aj (.slice (some ⟨b',0,some 1⟩) xs.length xs.length) (hv:=rfl) (hp:=trivial)
structure UT where
 v:Value
 e:Int
 xs:List Int
abbrev UU(y:UT):Value:=.tuple ⟨[y.v,.int .i64 y.e]⟩
abbrev UW(y:UT):List aD:=[ae ah y.v y.xs]
theorem Nn(n:Nat):zeros [.int .i64 0] n=(List.replicate n (0:Int)).map (.int .i64):=by
 induction n with
 |zero=>rfl
 |succ n ih=>rw[BK,lK,<- ih];rfl
theorem UX{P:Program}{ρ:Operand->Value}{x hi:Operand}{b m n size:Nat}(hx:ρ x=.pointer (some ⟨b,0,none⟩))(hh:ρ hi=.int .i64 (m:Int))(hm:m<=n):Pu P ρ (.EU n size x none (some hi) none) (.slice (some ⟨b,0,some 0⟩) m n):=λh=>by
 have hbd:bounds? n n (fF ρ none) (fF ρ (some hi)) (fF ρ none)=some (0,m,n):=by
  show bounds? n n none (some (ρ hi)) none=_;rw[hh];show(match upTo n (.int .i64 (m:Int))with|none=>none|some h=>match some 0 with|none=>none|some l=>some (l,h,n))=_;rw[Dj hm]
 simp only[au.run,hx,hbd];show some (Value.slice (ul b (Nat.add 0 (Nat.mul 0 size))) (Nat.sub m 0) (Nat.sub n 0),h)=_;rw[show Nat.mul 0 size=0 from oQ _];rfl
theorem xV(w:Wd):(ae ah (.slice none 0 0) ([]:List Int)).p w:=.inl ⟨rfl,none,0,rfl,trivial⟩
theorem UY{w:Wd}{b m c:Nat}{T:List Int}(h:(bW b 0 (T.map (.int .i64))).p w)(h1:m<=T.length)(h2:m<=c):(ae ah (.slice (some ⟨b,0,some 0⟩) m c) (T.take m)).p w:=by
 obtain⟨cells,q1,q2⟩:=h;refine .inr ⟨b,0,0,c,cells,⟨by rw[cB,wI h1],by rw[cB];omega,.inl rfl⟩,q1,λk x hx=>⟨(),λj u hj=>?_,λf hf=>by cases hf⟩⟩;have hx:T[k]? =some x:=by
  have hk:=(dU.1 hx).1;rw[cB]at hk
  rwa [qN,if_pos (by omega)]at hx
 match j,hj with
 |0,hj=>
  cases hj;rw[show 0+k*ah.n+0=0+k by show 0+k*1+0=_;omega];exact q2 k _ (by rw[bU,hx];rfl)
def uP(aF:List Int)(i m:Nat):List Int:=aF.take i++List.replicate (m - i) 0
theorem afs{aF:List Int}{i:Nat}(h:i<=aF.length):(uP aF i aF.length).length=aF.length:=by unfold uP;rw[dN,cB,nP];omega
theorem aft{aF:List Int}{i:Nat}{x:Int}(h:i<aF.length):(uP aF i aF.length).set i x=aF.take i++x::List.replicate (aF.length - (i+1)) 0:=by
 unfold uP;rw[EK _ _ (by rw[cB];omega),cB,wI (by omega),qc,show aF.length - i=(aF.length - (i+1))+1 by omega,BK];rfl
theorem afu{aF:List Int}{i:Nat}{x y:Int}{r:List Int}(h:i<aF.length):(aF.take i++x::r).set i y=aF.take i++y::r:=by
 rw[EK _ _ (by rw[cB];omega),cB,wI (by omega),qc];rfl
theorem afv{aF:List Int}{i:Nat}{x:Int}{r:List Int}(h:i<aF.length):(aF.take i++x::r)[i]? =some x:=by
 rw[lM (by rw[cB];omega),cB,wI (by omega),qc];rfl
theorem afw{s:aK}{v1 v2 v3 v4 vl vt:Value}{l:List ak}{ts:List Int}(hb1:s.lv.length<9223372036854775808)(hb2:s.cl.length<9223372036854775808)(hb3:s.pz.length<9223372036854775808)(hx1:cellsOf v1=some [v1])(hx2:cellsOf v2=some [v2])(hx3:cellsOf v3=some [v3])(hx4:cellsOf v4=some [v4]):
 aX Tryz.prog (.func 21) [.agg ⟨jD s v1 v2 v3 v4⟩,vl,vt] [] [] [l6 0 mU,ae ah v1 s.lv,ae ah v2 s.cl,ae fP v3 s.pg,ae ah v4 s.pz,ae aZ vl l,ae ah vt ts] UU (λ_=>[]) UW (λy=>y.e=rR s l ts/\y.xs=xH s l ts):=by
 refine aT _ (bz 21) λB w0=>?_;refine go ?_;intro b3;refine go ?_;refine aB (Ng (s:=s) (l:=l) hb1 hb2 hb3 hx1 hx2 hx3 hx4) (next:=λy hy=>?_);subst hy;refine go ?_;refine aC rfl (λh1=>?_) (λh1=>?_)
 ·refine go ?_;refine bJ (ae ah (.slice none 0 0) ([]:List Int)) (λw _=>xV w) ?_;exact aj ⟨.slice none 0 0,dL s l,[]⟩ (hv:=rfl) (hp:=⟨(H7 h1).1.symm,(H7 h1).2.symm⟩)
 have h1:dL s l=0:=qd.1 h1;have h:=l7 h1;have hll:=h.len;refine go ?_;refine aC rfl (λh2=>?_) (λh2=>?_)
 ·have hno:¬jV l ts:=λk=>h2 (by rw[k.1]);refine go ?_;refine bJ (ae ah (.slice none 0 0) ([]:List Int)) (λw _=>xV w) ?_;exact aj ⟨.slice none 0 0,1,[]⟩ (hv:=rfl) (hp:=⟨(rT h1 hno).1.symm,(rT h1 hno).2.symm⟩)
 have htl:ts.length=l.length:=by omega
 refine go ?_;refine bR (λk=>ts.length - k) (λk:Nat=>[(32,.int .i64 (k:Int))]) (λ_=>[]) (λ_=>[]) (λk=>k<=ts.length/\∀(i:Nat) x t,i<k->l[i]? =some x->ts[i]? =some t->x.lo<=t/\t<=x.hi) 0 ⟨cu _,λi _ _ hi=>by omega⟩ (body:=?_);rintro k ⟨hk,hin⟩;refine go ?_;refine aC rfl (λh3=>?_) (λh3=>?_)
 ·refine go ?_;intro _ _ t ht;refine go ?_;refine cZ aZ (k:=k) (next:=λbx ox x _ hx=>?_);refine go ?_;refine(ko (b:=bx) (o:=ox) (j:=3) (v:=.int .i64 x.lo) rfl rfl rfl (aR ..) rfl).h ?_;refine go ?_;refine gG (λh4=>?_) (λh4=>?_)
  rotate_left
  ·have hno:¬jV l ts:=λq=>by have:=q.2 k x t hx ht;omega
   refine go ?_;refine bJ (ae ah (.slice none 0 0) ([]:List Int)) (λw _=>xV w) ?_;exact aj ⟨.slice none 0 0,1,[]⟩ (hv:=rfl) (hp:=⟨(rT h1 hno).1.symm,(rT h1 hno).2.symm⟩)
  refine go ?_;refine cZ aZ (k:=k) (next:=λoH oI x2 _ hx2=>?_);cases hx.symm.trans hx2;refine go ?_;refine(ko (b:=oH) (o:=oI) (j:=4) (v:=.int .i64 x.hi) rfl rfl rfl (aR ..) rfl).h ?_;refine go ?_;refine aC rfl (λh5=>?_) (λh5=>?_)
  ·have hno:¬jV l ts:=λq=>by have:=q.2 k x t hx ht;omega
   refine go ?_;refine bJ (ae ah (.slice none 0 0) ([]:List Int)) (λw _=>xV w) ?_;exact aj ⟨.slice none 0 0,1,[]⟩ (hv:=rfl) (hp:=⟨(rT h1 hno).1.symm,(rT h1 hno).2.symm⟩)
  refine go ?_;refine aL (k+1) (by omega) ⟨by omega,λi x' t' hi hx' ht'=>?_⟩;by_cases e:i=k
  ·subst e;cases hx.symm.trans hx';cases ht.symm.trans ht';exact⟨by omega,by omega⟩
  ·exact hin i x' t' (by omega) hx' ht'
 have hkl:k=ts.length:=by omega
 subst hkl;have tX:jV l ts:=⟨htl,λi x t hx ht=>hin i x t (dU.1 ht).1 hx ht⟩
 clear hin hk h3;refine go ?_;intro b11;refine go ?_;have hp1:=h.sh.p1;have oJ:=h.sh.p8;refine bR (λp=>s.p.toNat - p) (λp:Nat=>[(58,.int .i64 (p:Int))]) (λp=>[pt b11 (.cells ((gT s l ts (List.replicate 8 0) p).map (.int .i64)))]) (λ_=>[]) (λp=>(p:Int)<=s.p) 0 (by show(0:Int)<=_;omega) (hk:=by repeat (first|exact aI.nil|(apply aI.cons;(focus (repeat (first|exact ai.here|apply ai.there)))))) (body:=?_);intro p hp;refine go ?_;refine aC rfl (λh4=>?_) (λh4=>?_)
 ·refine go ?_;refine aB (UM (l:=l) (p:=(p:Int)) (by omega)) (next:=λvo _=>?_);have hil:=om (aO l p);have hcl:=Bf l (p:Int);have hol:=H8 l ts (p:Int);have hpl:=Dv (ts:=fT l ts (p:Int));have hpr:∀x∈places (fT l ts (p:Int)),0<=x/\x<=1048576:=λx hx=>by have:=Mt hx;omega
  have Ea:gT s l ts (List.replicate 8 0) (p+1)=iw s l p (places (fT l ts (p:Int))) (gT s l ts (List.replicate 8 0) p):=rfl;have qA:(gT s l ts (List.replicate 8 0) p).length=8:=by rw[xG];rfl
  have hTr:=Ms (s:=s) (l:=l) hll (ts:=ts) (t:=List.replicate 8 0) (λx hx=>Ju hx) p;refine go ?_;refine AL (aO l p).length ⟨by omega,by omega,by omega⟩ (hx:=by show Value.int .i64 _=_;rw[hil]) (hy:=by show Value.int .i64 _=_;rw[hil]) (λb14=>?_);rw[Nn];refine go ?_;generalize hpq:places (fT l ts (p:Int))=aF at hpl hpr Ea;have hpm:aF.length=(aO l p).length:=by omega
  refine bR (λi=>(aO l p).length - i) (λi:Nat=>[(69,.int .i64 (i:Int))]) (λi=>[pt b14 (.cells ((uP aF i aF.length).map (.int .i64)))]) (λ_=>[]) (λi=>i<=(aO l p).length) 0 (cu _) (hk:=by
   rw[<- hpm];repeat (first|exact aI.nil|(apply aI.cons;(focus (repeat (first|exact ai.here|apply ai.there)))))) (body:=?_)
  intro i hi;have hrow:=afs (aF:=aF) (i:=i) (by omega);refine go ?_;refine aC rfl (λh5=>?_) (λh5=>?_)
  ·refine go ?_;intro _ _ a' ha';obtain⟨a,ha,rfl⟩:=vP ha';have hal:=vT ha;have hoa:=DD (ts:=ts) ha;have hra:=Tf hoa;rw[hpq]at hra;refine go ?_;have Eb:=oD (st:=ts) (k:=a) (by omega);generalize ts.getD a 0=ta at Eb hoa hra;refine jk (o:=0+i*1) (cs:=(uP aF i aF.length).map (.int .i64)) (cs':=(aF.take i++(1:Int)::List.replicate (aF.length - (i+1)) 0).map (.int .i64)) (v:=.int .i64 1) (by rw[bG,fV,<- aft (by omega),lS]) (by rw[bI];omega) ?_;refine go ?_;refine bR (λj=>(aO l p).length - j) (λj:Nat=>[(79,.int .i64 (j:Int))]) (λj=>[pt b14 (.cells ((aF.take i++(1+(((fT l ts p).take j).countP λb=>decide (b<ta):Nat):Int)::List.replicate (aF.length - (i+1)) 0).map (.int .i64)))]) (λ_=>[]) (λj=>j<=(aO l p).length) 0 (cu _) (hk:=by repeat (first|exact aI.nil|(apply aI.cons;(focus (repeat (first|exact ai.here|apply ai.there)))))) (body:=?_);intro j hj;have hcj:(((fT l ts p).take j).countP λb=>decide (b<ta))<=((fT l ts p).take j).length:=OI;rw[cB]at hcj;refine go ?_;refine aC rfl (λh6=>?_) (λh6=>?_)
   ·refine go ?_;intro _ _ b' hb';obtain⟨b,hb,rfl⟩:=vP hb';have hbl:=vT hb;have UZ:=DD (ts:=ts) hb;have U0:=oD (st:=ts) (k:=b) (by omega);generalize ts.getD b 0=tb at U0 UZ;have hs:(((fT l ts p).take (j+1)).countP λb=>decide (b<ta))=(((fT l ts p).take j).countP λb=>decide (b<ta))+if tb<ta then 1 else 0:=by rw[eD UZ,OJ,OL];simp
    refine go ?_;intro _ _ tb' htb' _ _ ta' Np;cases U0.symm.trans htb';cases Eb.symm.trans Np;refine go ?_;refine aC rfl (λh7=>?_) (λh7=>?_)
    ·rw[if_pos h7]at hs;have hlr:(aF.take i++(1+(((fT l ts p).take j).countP λb=>decide (b<ta):Nat):Int)::List.replicate (aF.length - (i+1)) 0).length=aF.length:=by
      rw[dN,cB,oN,nP];omega
     have hgt:((aF.take i++(1+(((fT l ts p).take j).countP λb=>decide (b<ta):Nat):Int)::List.replicate (aF.length - (i+1)) 0).map (Value.int .i64))[0+i*1]? =some (.int .i64 (1+(((fT l ts p).take j).countP λb=>decide (b<ta):Nat):Int)):=by
      rw[bG,fV,bU,afv (by omega)];rfl
     have hst:((aF.take i++(1+(((fT l ts p).take j).countP λb=>decide (b<ta):Nat):Int)::List.replicate (aF.length - (i+1)) 0).map (Value.int .i64)).set (0+i*1) (.int .i64 ((1+(((fT l ts p).take j).countP λb=>decide (b<ta):Nat):Int)+1))=
      (aF.take i++(1+(((fT l ts p).take (j+1)).countP λb=>decide (b<ta):Nat):Int)::List.replicate (aF.length - (i+1)) 0).map (Value.int .i64):=by
      rw[bG,fV,<- lS,afu (by omega),hs];congr 3
     refine go ?_;refine gp _ hgt ?_;refine go ?_;refine jk hst (by rw[bI];omega) ?_;refine go ?_;exact aL (j+1) (by omega) (by omega)
    ·have hs2:(((fT l ts p).take j).countP λb=>decide (b<ta))=(((fT l ts p).take (j+1)).countP λb=>decide (b<ta)):=by rw[hs,if_neg h7,jG]
     rw[hs2];refine go ?_;exact aL (j+1) (by omega) (by omega)
   have hjl:j=(aO l p).length:=by omega
   subst hjl;have htk:(fT l ts p).take (aO l p).length=fT l ts p:=nO (by omega);rw[htk];refine go ?_;have hnx:aF.take i++(1+((fT l ts p).countP λb=>decide (b<ta):Nat):Int)::List.replicate (aF.length - (i+1)) 0=uP aF (i+1) aF.length:=by
    unfold uP;rw[eD hra,ig];rfl
   rw[hnx];exact aL (i+1) (by omega) (by omega)
  have hik:i=(aO l p).length:=by omega
  subst hik;have hfull:uP aF (aO l p).length aF.length=aF:=by
   unfold uP;rw[nO (by omega),show aF.length - (aO l p).length=0 by omega];simp
  rw[hfull];refine bP (A:=pt b14 (.cells (aF.map (.int .i64)))) (fs:=[ae ah (.slice (some ⟨b14,0,some 0⟩) (aO l p).length (aO l p).length) aF]) (by rw[<- hpm];exact pF (b:=b14) (f:=0) (c:=aF.length) (xs:=aF)) (h:=?_);have IL:∀x∈gT s l ts (List.replicate 8 0) p,0<=x/\x<=1099511627776:=λx hx=>by have:=hTr x hx;omega
  generalize gT s l ts (List.replicate 8 0) p=T at Ea qA hTr IL⊢;obtain⟨a0,a1,a2,a3,a4,a5,a6,a7,rfl⟩:=len8 qA;refine go ?_;refine aB (UQ (s:=s) (l:=l) (p:=p) (aF:=aF) (t:=[a0,a1,a2,a3,a4,a5,a6,a7]) h h4 hpm hpr rfl IL) (next:=λ_ _=>?_);rw[<- Ea];have IM:(gT s l ts (List.replicate 8 0) (p+1)).length=8:=by rw[xG];rfl
  obtain⟨c0,c1,c2,c3,c4,c5,c6,c7,hc⟩:=len8 IM;rw[hc];refine go ?_;rw[show[Value.int .i64 c0,Value.int .i64 c1,Value.int .i64 c2,Value.int .i64 c3,Value.int .i64 c4,Value.int .i64 c5,Value.int .i64 c6,Value.int .i64 c7]=(gT s l ts (List.replicate 8 0) (p+1)).map (.int .i64)by rw[hc];rfl];exact aL (p+1) (by omega) (by omega)
 have hpe:p=s.p.toNat:=by omega
 subst hpe;have hc1:=h.sh.c1;have hc8:=h.sh.c8;have happ:=Ta h (ts:=ts) (t:=List.replicate s.c.toNat 0) (z:=List.replicate (8 - s.c.toNat) 0) (by rw[nP];omega) s.p.toNat
 rw[<- Tg (by omega)]at happ;have hlen:(gT s l ts (List.replicate s.c.toNat 0) s.p.toNat).length=s.c.toNat:=by rw[xG,nP]
 have hT8:(gT s l ts (List.replicate 8 0) s.p.toNat).length=8:=by rw[xG,nP]
 have htake:(gT s l ts (List.replicate 8 0) s.p.toNat).take s.c.toNat=l9 s l ts:=by rw[happ];exact List.take_left' hlen
 have hvl:(l9 s l ts).length=s.c.toNat:=hlen;generalize gT s l ts (List.replicate 8 0) s.p.toNat=T at hT8 htake;refine go ?_;refine(bC rfl rfl (UX (m:=s.c.toNat) rfl (by show Value.int .i64 _=_;congr 1;omega) (by omega))).h ?_;refine go ?_;refine bP (fQ (b:=b11) (cs:=T.map (.int .i64))) (h:=?_);refine bJ (ae ah (.slice (some ⟨b11,0,some 0⟩) s.c.toNat 8) (l9 s l ts)) (λw hw=>by rw[<- htake];exact UY (hw _ (aR ..)) (by omega) (by omega)) ?_;refine aB (UR (xs:=l9 s l ts) (by omega) (by omega)) (next:=λv _=>?_);refine go ?_;exact aj ⟨v,0,l9 s l ts⟩ (hv:=rfl) (hp:=⟨(DC h1 tX).1.symm,(DC h1 tX).2.symm⟩)
