/-
  ref53: Add, Rank; lists compared.
-/
import Derived.Test.YtjmgkllpcidhjaaGreatDoorLibIN
set_option linter.all false
set_option maxRecDepth 10000
set_option maxHeartbeats 4000000
namespace Go.Proofs.YtjmgkllpcidhjaaGreatDoor
open Go.Ideal Rk
noncomputable def M7:=sN Tryz.prog 17
theorem UW:ja Tryz.prog 17=some M7:=by kernel_rfl
noncomputable def UX:=sN Tryz.prog 15
theorem af8:ja Tryz.prog 15=some UX:=by kernel_rfl
theorem af9{s:aT}{v1 v2 v3 v4 vl vo vp vt:Value}{l:List aG}{p:Nat}{aF t:List Int}(hW:nP s.pg)(h:Av s l)(hp:(p:Int)<s.p)(hpl:aF.length=(aL l p).length)(hpr:∀x∈aF,0<=x/\x<=1048576)(ht:(t.length:Int)=s.c)(htr:∀x∈t,0<=x/\x<=1099511627776):
 bD Tryz.prog (.func 35) [.agg ⟨kz s v1 v2 v3 v4⟩,vl,.int .i64 (p:Int),vo,vp,vt] [] [] [ah ae v1 s.lv,ah ae v2 s.cl,ah fw v3 s.pg,ah cO vl l,ah ae vo (ints (aL l p)),ah ae vp aF,ah ae vt t]
  (λv:Value=>v) (λ_=>[]) (λv=>[ah ae v (fO s l p aF t)]) (λ_=>True):=by
 have hcl:=Dr l (p:Int);have hll:=h.len;have hil:=tN (aL l p);have hlv:=h.sh.lv;have JD:=h.sh.cl;have c1:=h.sh.c1;have c8:=h.sh.c8;refine aX UT af1 λB w0=>?_;refine go ?_;intro b6;refine go ?_;refine UU (xs:=t) (by omega) ⟨by omega,by omega⟩ (λb13=>?_);refine go ?_;refine bE (λk=>(aL l p).length - k) (λk:Nat=>[(14,.int .i64 (k:Int))]) (λk=>[pt b13 (.cells ((addN s l p (aL l p) aF t k).map (.int .i64)))]) (λ_=>[]) (λk=>k<=(aL l p).length) 0 (bF _) (hk:=by repeat (first|exact aM.nil|(apply aM.cons;(focus (repeat (first|exact ai.here|apply ai.there)))))) (body:=?_);intro k hk;have vC:=Aw s l p (aL l p) aF t k;have hTr:=Dp (s:=s) (l:=l) (p:=p) (own:=aL l p) (aF:=aF) htr (by decide) k;have hsucc:addN s l p (aL l p) aF t (k+1)=add1 s l p (aL l p) aF (addN s l p (aL l p) aF t k) k:=rfl;generalize hT:addN s l p (aL l p) aF t k=T at vC hTr hsucc⊢;refine go ?_;refine aC rfl (λh1=>?_) (λh1=>?_)
 ·obtain⟨vD,hok⟩:=Dq h.rs (p:=(p:Int)) (i:=k) (by omega);refine go ?_;intro _ _ i' hi';obtain⟨i,hi,rfl⟩:=yH hi';have hgi:(aL l p).getD k 0=i:=by rw[nY,hi];rfl
  rw[hgi]at vD hok;have hx0:l[i]? =some (l[i]'vD):=bf _;have hgx:l.getD i dR=l[i]'vD:=by rw[nY,hx0];rfl
  rw[hgx]at hok;refine go ?_;refine bJ cO (k:=i) (next:=λbx ox x _ hx=>?_);have hxe:l[i]'vD=x:=Option.some.inj (hx0.symm.trans hx);rw[hxe]at hok hgx;refine go ?_;intro b15;refine go ?_;intro _ _ y hy;have hyr:=hpr y (cZ hy);refine go ?_;intro _ _ z1 hz1;have afl:=h.sh.Gp z1 (cZ hz1);refine go ?_;intro _ _ z2 hz2;have afm:=h.sh.Gq z2 (cZ hz2);refine go ?_;intro vJ;have MV:yF [y,((ints (aL l p)).length:Int),z1,z2,x.t]:=by
   refine⟨rfl,λu hu=>?_⟩;have q1:=hok.t0;have q2:=hok.t1;simp only[aU,xy,or_false]at hu;rcases hu with rfl|rfl|rfl|rfl|rfl<;>omega
  refine bG (A:=pt vJ (.cells [.int .i64 y,.int .i64 ((ints (aL l p)).length:Int),.int .i64 z1,.int .i64 z2,.int .i64 x.t])) (fs:=[ah ae (.slice (some ⟨vJ,0,some 0⟩) 5 5) [y,((ints (aL l p)).length:Int),z1,z2,x.t]]) (lC (b:=vJ) (f:=0) (c:=5) (xs:=[y,((ints (aL l p)).length:Int),z1,z2,x.t])) (h:=?_);refine aD (afY (ws:=s.pg) (inp:=[y,((ints (aL l p)).length:Int),z1,z2,x.t]) hW h.pg MV) (next:=λ_ _=>?_);have hpt:=LU s.pg [y,((ints (aL l p)).length:Int),z1,z2,x.t];have hnext:addN s l p (aL l p) aF t (k+1)=T.set x.c.toNat (T.getD x.c.toNat 0+pts s.pg [y,((ints (aL l p)).length:Int),z1,z2,x.t]):=by
   rw[hsucc,add1,hgi,hgx,ic hy,ic hz1,ic hz2,hil]
  generalize pts s.pg [y,((ints (aL l p)).length:Int),z1,z2,x.t]=q at hpt hnext;have c0:=hok.c0;have c1:=hok.c1;have hT0:=hTr _ (qO (st:=T) (k:=x.c.toNat) (by omega));refine go ?_;refine jU (o:=0+x.c.toNat*1) (cs:=T.map (.int .i64)) (.int .i64 (T.getD x.c.toNat 0)) (by rw[dD,gT,bX,ng (by omega)];rfl) ?_;refine go ?_;refine p9 (o:=0+x.c.toNat*1) (cs:=T.map (.int .i64)) (cs':=(T.set x.c.toNat (T.getD x.c.toNat 0+q)).map (.int .i64)) (v:=.int .i64 (T.getD x.c.toNat 0+q)) (by rw[dD,gT,pI]) (by rw[bC];omega) ?_;rw[<- hnext];refine go ?_;exact aO (k+1) (by omega) (by omega)
 have hkl:k=(aL l p).length:=by omega
 subst hkl;have hTe:fO s l p aF t=T:=by rw[fO,hT]
 rw[hTe,<- vC];refine go ?_;refine bG (A:=pt b13 (.cells (T.map (.int .i64)))) (fs:=[ah ae (.slice (some ⟨b13,0,some 1⟩) T.length T.length) T]) (lC (b:=b13) (f:=1) (c:=T.length) (xs:=T)) (h:=?_);exact aj (.slice (some ⟨b13,0,some 1⟩) T.length T.length) (hv:=rfl) (hp:=trivial)
theorem aga{vl:Value}{xs:List Int}(hl:xs.length<=1000000):bD Tryz.prog (.func 17) [vl] [] [] [ah ae vl xs] (λv:Value=>v) (λ_=>[]) (λv=>[ah ae v (aQ xs)]) (λ_=>True):=by
 refine aX M7 UW λB w0=>?_;refine go ?_;refine nE ae ?_;refine bE (λy:Nat×Value=>xs.length - y.1) (λy=>[(4,.int .i64 (y.1:Int)),(3,y.2)]) (λy=>[ap ae y.2 ((aQ xs).take y.1)]) (λ_=>[]) (λy=>y.1<=xs.length) (0,.slice none 0 0) (bF _) (hk:=by repeat (first|exact aM.nil|(apply aM.cons;(focus (repeat (first|exact ai.here|apply ai.there)))))) (body:=?_);rintro⟨k,v⟩ hk;dsimp only at hk⊢;have hrl:(aQ xs).length=xs.length:=bC ..;have htl:((aQ xs).take k).length=k:=by rw[dw];omega
 refine go ?_;refine aC rfl (λh1=>?_) (λh1=>?_)
 ·have hx:xs[k]? =some (xs[k]'(by omega)):=bf _;generalize xs[k]'(by omega)=x at hx;refine go ?_;refine bE (λj=>xs.length - j) (λj:Nat=>[(6,.int .i64 (j:Int)),(5,.int .i64 (1+((xs.take j).countP λm=>decide (x<m):Nat):Int))]) (λ_=>[]) (λ_=>[]) (λj=>j<=xs.length) 0 (bF _) (body:=?_);intro j hj;have hcl:((xs.take j).countP λm=>decide (x<m))<=(xs.take j).length:=Bq;rw[dw]at hcl;refine go ?_;refine aC rfl (λh2=>?_) (λh2=>?_)
  ·refine go ?_;intro _ _ z hz _ _ x2 hx2;cases hx.symm.trans hx2;have hs:((xs.take (j+1)).countP λm=>decide (x<m))=((xs.take j).countP λm=>decide (x<m))+if x<z then 1 else 0:=by rw[dx hz,Br,Bt];simp
   refine go ?_;refine aC rfl (λh3=>?_) (λh3=>?_)
   ·rw[if_pos h3]at hs;refine go ?_;rw[show(1+(((xs.take j).countP λm=>decide (x<m):Nat):Int))+1=1+(((xs.take (j+1)).countP λm=>decide (x<m):Nat):Int)by rw[hs];omega];exact aO (j+1) (by omega) (by omega)
   ·have hs2:((xs.take j).countP λm=>decide (x<m))=((xs.take (j+1)).countP λm=>decide (x<m)):=by rw[hs,if_neg h3,nV]
    rw[hs2];refine go ?_;exact aO (j+1) (by omega) (by omega)
  have hjl:j=xs.length:=by omega
  subst hjl;rw[fK];refine go ?_;intro yS;refine go ?_;have vF:(aQ xs)[k]? =some (1+((xs.countP λm=>decide (x<m):Nat):Int)):=by unfold aQ;rw[bX,hx];rfl
  refine nH (xs:=(aQ xs).take k) ae (1+((xs.countP λm=>decide (x<m):Nat):Int)) () (by omega) (next:=λad=>?_);rw[<- dx vF];refine go ?_;exact aO (k+1,.slice ad (((aQ xs).take k).length+1) (((aQ xs).take k).length+1)) (by show xs.length - (k+1)<xs.length - k;omega) (by show k+1<=_;omega)
 have hkl:k=xs.length:=by omega
 subst hkl;rw[mM (by omega)];refine go ?_;refine bG (A:=ap ae v (aQ xs)) (fs:=[ah ae v (aQ xs)]) pX (h:=?_);exact aj v (hv:=rfl) (hp:=trivial)
