/-
  ref53: Add, Rank; lists compared.
-/
import Derived.Test.YtjmgkllpcidhjaaGreatDoorLibIE
set_option linter.all false
set_option maxRecDepth 10000
set_option maxHeartbeats 4000000
namespace Go.Proofs.YtjmgkllpcidhjaaGreatDoor
open Go.Ideal Rk
theorem WI{s:dm}{v1 v2 v3 v4 vl vo vp vt:Value}{l:List bE}{p:Nat}{aD t:List Int}(hW:rU s.pg)(h:vO s l)(hp:(p:Int)<s.p)(hpl:aD.length=(aL l p).length)(hpr:∀x∈aD,0<=x/\x<=1048576)(ht:(t.length:Int)=s.c)(htr:∀x∈t,0<=x/\x<=1099511627776):
 bJ Tryz.prog (.func 35) [.agg ⟨ou s v1 v2 v3 v4⟩,vl,.int .i64 (p:Int),vo,vp,vt] [] [] [ah au v1 s.lv,ah au v2 s.cl,ah fV v3 s.pg,ah eH vl l,ah au vo (ints (aL l p)),ah au vp aD,ah au vt t]
  (λv:Value=>v) (λ_=>[]) (λv=>[ah au v (lI s l p aD t)]) (λ_=>True):=by
 have hcl:=yo l (p:Int);have hll:=h.len;have hil:=vP (aL l p);have hlv:=h.sh.lv;have De:=h.sh.cl;have c1:=h.sh.c1;have c8:=h.sh.c8;refine bq Md Wy λB w0=>?_;refine go ?_;intro b6;refine go ?_;refine Wz (xs:=t) (by omega) ⟨by omega,by omega⟩ (λb13=>?_);refine go ?_;refine dZ (λk=>(aL l p).length - k) (λk:Nat=>[(14,.int .i64 (k:Int))]) (λk=>[pt b13 (.cells ((addN s l p (aL l p) aD t k).map (.int .i64)))]) (λ_=>[]) (λk=>k<=(aL l p).length) 0 (dz _) (hk:=by repeat (first|exact bI.nil|(apply bI.cons;(focus (repeat (first|exact ak.here|apply ak.there)))))) (body:=?_);intro k hk;have oz:=yn s l p (aL l p) aD t k;have hTr:=AV (s:=s) (l:=l) (p:=p) (own:=aL l p) (aD:=aD) htr (by decide) k;have hsucc:addN s l p (aL l p) aD t (k+1)=add1 s l p (aL l p) aD (addN s l p (aL l p) aD t k) k:=rfl;generalize hT:addN s l p (aL l p) aD t k=T at oz hTr hsucc⊢;refine go ?_;refine aJ rfl (λh1=>?_) (λh1=>?_)
 ·obtain⟨qi,hok⟩:=AX h.rs (p:=(p:Int)) (i:=k) (by omega);refine go ?_;intro _ _ i' hi';obtain⟨i,hi,rfl⟩:=yu hi';have hgi:(aL l p).getD k 0=i:=by rw[si,hi];rfl
  rw[hgi]at qi hok;have hx0:l[i]? =some (l[i]'qi):=bO _;have hgx:l.getD i dR=l[i]'qi:=by rw[si,hx0];rfl
  rw[hgx]at hok;refine go ?_;refine dh eH (k:=i) (next:=λbx ox x _ hx=>?_);have hxe:l[i]'qi=x:=Option.some.inj (hx0.symm.trans hx);rw[hxe]at hok hgx;refine go ?_;intro b15;refine go ?_;intro _ _ y hy;have VA:=hpr y (dG hy);refine go ?_;intro _ _ z1 hz1;have VB:=h.sh.AQ z1 (dG hz1);refine go ?_;intro _ _ z2 hz2;have VC:=h.sh.AU z2 (dG hz2);refine go ?_;intro qj;have FP:tN [y,((ints (aL l p)).length:Int),z1,z2,x.t]:=by
   refine⟨rfl,λu hu=>?_⟩;have q1:=hok.t0;have q2:=hok.t1;simp only[bz,rY,or_false]at hu;rcases hu with rfl|rfl|rfl|rfl|rfl<;>omega
  refine dB (A:=pt qj (.cells [.int .i64 y,.int .i64 ((ints (aL l p)).length:Int),.int .i64 z1,.int .i64 z2,.int .i64 x.t])) (fs:=[ah au (.slice (some ⟨qj,0,some 0⟩) 5 5) [y,((ints (aL l p)).length:Int),z1,z2,x.t]]) (l8 (b:=qj) (f:=0) (c:=5) (xs:=[y,((ints (aL l p)).length:Int),z1,z2,x.t])) (h:=?_);refine aF (Wv (ws:=s.pg) (inp:=[y,((ints (aL l p)).length:Int),z1,z2,x.t]) hW h.pg FP) (next:=λ_ _=>?_);have hpt:=Fa s.pg [y,((ints (aL l p)).length:Int),z1,z2,x.t];have hnext:addN s l p (aL l p) aD t (k+1)=T.set x.c.toNat (T.getD x.c.toNat 0+pts s.pg [y,((ints (aL l p)).length:Int),z1,z2,x.t]):=by
   rw[hsucc,add1,hgi,hgx,vU hy,vU hz1,vU hz2,hil]
  generalize pts s.pg [y,((ints (aL l p)).length:Int),z1,z2,x.t]=q at hpt hnext;have c0:=hok.c0;have c1:=hok.c1;have hT0:=hTr _ (l9 (st:=T) (k:=x.c.toNat) (by omega));refine go ?_;refine jW (o:=0+x.c.toNat*1) (cs:=T.map (.int .i64)) (.int .i64 (T.getD x.c.toNat 0)) (by rw[eU,ko,bT,j3 (by omega)];rfl) ?_;refine go ?_;refine vG (o:=0+x.c.toNat*1) (cs:=T.map (.int .i64)) (cs':=(T.set x.c.toNat (T.getD x.c.toNat 0+q)).map (.int .i64)) (v:=.int .i64 (T.getD x.c.toNat 0+q)) (by rw[eU,ko,zg]) (by rw[dw];omega) ?_;rw[<- hnext];refine go ?_;exact bC (k+1) (by omega) (by omega)
 have hkl:k=(aL l p).length:=by omega
 subst hkl;have hTe:lI s l p aD t=T:=by rw[lI,hT]
 rw[hTe,<- oz];refine go ?_;refine dB (A:=pt b13 (.cells (T.map (.int .i64)))) (fs:=[ah au (.slice (some ⟨b13,0,some 1⟩) T.length T.length) T]) (l8 (b:=b13) (f:=1) (c:=T.length) (xs:=T)) (h:=?_);exact av (.slice (some ⟨b13,0,some 1⟩) T.length T.length) (hv:=rfl) (hp:=trivial)
theorem WJ{vl:Value}{xs:List Int}(hl:xs.length<=1000000):bJ Tryz.prog (.func 17) [vl] [] [] [ah au vl xs] (λv:Value=>v) (λ_=>[]) (λv=>[ah au v (fU xs)]) (λ_=>True):=by
 refine bq _ (bP 17) λB w0=>?_;refine go ?_;refine u7 au ?_;refine dZ (λy:Nat×Value=>xs.length - y.1) (λy=>[(4,.int .i64 (y.1:Int)),(3,y.2)]) (λy=>[ap au y.2 ((fU xs).take y.1)]) (λ_=>[]) (λy=>y.1<=xs.length) (0,.slice none 0 0) (dz _) (hk:=by repeat (first|exact bI.nil|(apply bI.cons;(focus (repeat (first|exact ak.here|apply ak.there)))))) (body:=?_);rintro⟨k,v⟩ hk;dsimp only at hk⊢;have hrl:(fU xs).length=xs.length:=dw ..;have htl:((fU xs).take k).length=k:=by rw[cB];omega
 refine go ?_;refine aJ rfl (λh1=>?_) (λh1=>?_)
 ·have hx:xs[k]? =some (xs[k]'(by omega)):=bO _;generalize xs[k]'(by omega)=x at hx;refine go ?_;refine dZ (λj=>xs.length - j) (λj:Nat=>[(6,.int .i64 (j:Int)),(5,.int .i64 (1+((xs.take j).countP λm=>decide (x<m):Nat):Int))]) (λ_=>[]) (λ_=>[]) (λj=>j<=xs.length) 0 (dz _) (body:=?_);intro j hj;have hcl:((xs.take j).countP λm=>decide (x<m))<=(xs.take j).length:=F6;rw[cB]at hcl;refine go ?_;refine aJ rfl (λh2=>?_) (λh2=>?_)
  ·refine go ?_;intro _ _ z hz _ _ x2 hx2;cases hx.symm.trans hx2;have hs:((xs.take (j+1)).countP λm=>decide (x<m))=((xs.take j).countP λm=>decide (x<m))+if x<z then 1 else 0:=by rw[eT hz,F7,F8];simp
   refine go ?_;refine aJ rfl (λh3=>?_) (λh3=>?_)
   ·rw[if_pos h3]at hs;refine go ?_;rw[show(1+(((xs.take j).countP λm=>decide (x<m):Nat):Int))+1=1+(((xs.take (j+1)).countP λm=>decide (x<m):Nat):Int)by rw[hs];omega];exact bC (j+1) (by omega) (by omega)
   ·have hs2:((xs.take j).countP λm=>decide (x<m))=((xs.take (j+1)).countP λm=>decide (x<m)):=by rw[hs,if_neg h3,oH]
    rw[hs2];refine go ?_;exact bC (j+1) (by omega) (by omega)
  have hjl:j=xs.length:=by omega
  subst hjl;rw[jc];refine go ?_;intro VE;refine go ?_;have yL:(fU xs)[k]? =some (1+((xs.countP λm=>decide (x<m):Nat):Int)):=by unfold fU;rw[bT,hx];rfl
  refine tC (xs:=(fU xs).take k) au (1+((xs.countP λm=>decide (x<m):Nat):Int)) () (by omega) (next:=λad=>?_);rw[<- eT yL];refine go ?_;exact bC (k+1,.slice ad (((fU xs).take k).length+1) (((fU xs).take k).length+1)) (by show xs.length - (k+1)<xs.length - k;omega) (by show k+1<=_;omega)
 have hkl:k=xs.length:=by omega
 subst hkl;rw[oJ (by omega)];refine go ?_;refine dB (A:=ap au v (fU xs)) (fs:=[ah au v (fU xs)]) u6 (h:=?_);exact av v (hv:=rfl) (hp:=trivial)
theorem Me{va vb:Value}{xs ys:List Int}(h:xs=ys)(hl:xs.length<9223372036854775808):fG Tryz.prog 15 [va,vb] [ah au va xs,ah au vb ys] (.bool true):=by
 subst h;refine bq _ (bP 15) λB w0=>?_;refine go ?_;refine aJ rfl (λh1=>?_) (λh1=>?_)
 ·exact absurd rfl h1
 refine go ?_;refine dZ (λk=>xs.length - k) (λk:Nat=>[(5,.int .i64 (k:Int))]) (λ_=>[]) (λ_=>[]) (λk=>k<=xs.length) 0 (dz _) (body:=?_);intro k hk;refine go ?_;refine aJ rfl (λh2=>?_) (λh2=>?_)
 ·refine go ?_;intro _ _ x hx _ _ y hy;cases hx.symm.trans hy;refine go ?_;refine aJ rfl (λh3=>?_) (λh3=>?_)
  ·exact absurd rfl h3
  refine go ?_;exact bC (k+1) (by omega) (by omega)
 refine go ?_;exact av () (hv:=rfl) (hp:=trivial)
theorem WK{s:dm}{v1 v2 v3 v4 vl vt:Value}{l:List bE}{ts:List Int}(hW:rU s.pg)(hb1:s.lv.length<9223372036854775808)(hb2:s.cl.length<9223372036854775808)(hb3:s.pz.length<9223372036854775808)(hb4:s.pg.length<9223372036854775808)(hx1:cellsOf v1=some [v1])(hx2:cellsOf v2=some [v2])(hx3:cellsOf v3=some [v3])(hx4:cellsOf v4=some [v4]):
 bJ Tryz.prog (.func 12) [.agg ⟨ou s v1 v2 v3 v4⟩,vl,vt] [] [] [ah au v1 s.lv,ah au v2 s.cl,ah fV v3 s.pg,ah au v4 s.pz,ah eH vl l,ah au vt ts] Lv (λ_=>[]) Lx (λy=>y.e=jZ s l ts/\y.xs=mg s l ts):=by
 refine bq _ (bP 12) λB w0=>?_;refine go ?_;intro b3;refine go ?_;refine aF (Mc (s:=s) (l:=l) hW hb1 hb2 hb3 hb4 hx1 hx2 hx3 hx4) (next:=λy hy=>?_);subst hy;refine go ?_;refine aJ rfl (λh1=>?_) (λh1=>?_)
 ·refine go ?_;refine bM (ah au (.slice none 0 0) ([]:List Int)) (λw _=>rM w) ?_;exact av ⟨.slice none 0 0,fT s l,[]⟩ (hv:=rfl) (hp:=⟨(AY h1).1.symm,(AY h1).2.symm⟩)
 have h1:fT s l=0:=zh.1 h1;have h:=Fb h1;have hll:=h.len;refine go ?_;refine aJ rfl (λh2=>?_) (λh2=>?_)
 ·have hno:¬mZ l ts:=λk=>h2 (by rw[k.1]);refine go ?_;refine bM (ah au (.slice none 0 0) ([]:List Int)) (λw _=>rM w) ?_;exact av ⟨.slice none 0 0,1,[]⟩ (hv:=rfl) (hp:=⟨(mh h1 hno).1.symm,(mh h1 hno).2.symm⟩)
 have htl:ts.length=l.length:=by omega
 refine go ?_;refine dZ (λk=>l.length - k) (λk:Nat=>[(9,.int .i64 (k:Int))]) (λ_=>[]) (λ_=>[]) (λk=>k<=l.length/\∀(i:Nat) x t,i<k->l[i]? =some x->ts[i]? =some t->x.lo<=t/\t<=x.hi) 0 ⟨dz _,λi _ _ hi=>by omega⟩ (body:=?_);rintro k ⟨hk,hin⟩;refine go ?_;refine aJ rfl (λh3=>?_) (λh3=>?_)
 ·refine go ?_;intro _ _ t ht;refine go ?_;refine dh eH (k:=k) (next:=λbx ox x _ hx=>?_);refine go ?_;refine(pO (b:=bx) (o:=ox) (j:=3) (v:=.int .i64 x.lo) rfl rfl rfl (aT ..) rfl).h ?_;refine go ?_;refine gG (λh4=>?_) (λh4=>?_)
  rotate_left
  ·have hno:¬mZ l ts:=λq=>by have:=q.2 k x t hx ht;omega
   refine go ?_;refine bM (ah au (.slice none 0 0) ([]:List Int)) (λw _=>rM w) ?_;exact av ⟨.slice none 0 0,1,[]⟩ (hv:=rfl) (hp:=⟨(mh h1 hno).1.symm,(mh h1 hno).2.symm⟩)
  refine go ?_;intro _ _ t2 ht2;cases ht.symm.trans ht2;refine go ?_;refine dh eH (k:=k) (next:=λvV vW x2 _ hx2=>?_);cases hx.symm.trans hx2;refine go ?_;refine(pO (b:=vV) (o:=vW) (j:=4) (v:=.int .i64 x.hi) rfl rfl rfl (aT ..) rfl).h ?_;refine go ?_;refine aJ rfl (λh5=>?_) (λh5=>?_)
  ·have hno:¬mZ l ts:=λq=>by have:=q.2 k x t hx ht;omega
   refine go ?_;refine bM (ah au (.slice none 0 0) ([]:List Int)) (λw _=>rM w) ?_;exact av ⟨.slice none 0 0,1,[]⟩ (hv:=rfl) (hp:=⟨(mh h1 hno).1.symm,(mh h1 hno).2.symm⟩)
  refine go ?_;refine bC (k+1) (by omega) ⟨by omega,λi x' t' hi hx' ht'=>?_⟩;by_cases e:i=k
  ·subst e;cases hx.symm.trans hx';cases ht.symm.trans ht';exact⟨by omega,by omega⟩
  ·exact hin i x' t' (by omega) hx' ht'
 have hkl:k=l.length:=by omega
 subst hkl;have yM:mZ l ts:=⟨htl,λi x t hx ht=>hin i x t (fH.1 hx).1 hx ht⟩
 clear hin hk h3;have hc1:=h.sh.c1;have hc8:=h.sh.c8;have hp1:=h.sh.p1;have VN:=h.sh.p8;obtain⟨c,hc⟩:=uk (show 0<=s.c by omega);refine go ?_;refine EC c ⟨by omega,by omega,by omega⟩ (hx:=by show Value.int .i64 _=_;rw[hc]) (hy:=by show Value.int .i64 _=_;rw[hc]) (λb10=>?_);rw[LA];refine go ?_;refine dB (A:=pt b10 (.cells ((List.replicate c (0:Int)).map (.int .i64)))) (fs:=[ah au (.slice (some ⟨b10,0,some 0⟩) c c) (fD s l ts (List.replicate c (0:Int)) 0)]) (by have:=l8 (b:=b10) (f:=0) (c:=c) (xs:=List.replicate c (0:Int)) (hc:=by rw[qw];exact az _);rw[qw]at this;exact this) (h:=?_);refine dZ (λy:Nat×Value=>s.p.toNat - y.1) (λy=>[(11,.int .i64 (y.1:Int)),(10,y.2)]) (λ_=>[]) (λy=>[ah au y.2 (fD s l ts (List.replicate c 0) y.1)]) (λy=>(y.1:Int)<=s.p) (0,.slice (some ⟨b10,0,some 0⟩) c c) (by show(0:Int)<=_;omega) (body:=?_);rintro⟨p,v⟩ hp;dsimp only at hp⊢;refine go ?_;refine aJ rfl (λh4=>?_) (λh4=>?_)
 ·refine go ?_;refine aF (WA (l:=l) (p:=(p:Int)) (by omega)) (next:=λvo _=>?_);have hil:=vP (aL l p);have hcl:=yo l (p:Int);have hol:=Km l ts (p:Int);have hpl:=E5 (ts:=eu l ts (p:Int));have hpr:∀x∈places (eu l ts (p:Int)),0<=x/\x<=1048576:=λx hx=>by have:=Ki hx;omega
  have yN:fD s l ts (List.replicate c 0) (p+1)=lI s l p (places (eu l ts (p:Int))) (fD s l ts (List.replicate c 0) p):=rfl;have oz:(fD s l ts (List.replicate c 0) p).length=c:=by rw[rC,qw]
  have hTr:=Fg (s:=s) (l:=l) hll (ts:=ts) (t:=List.replicate c 0) (λx hx=>Ml hx) p;have Bu:∀x∈fD s l ts (List.replicate c 0) p,0<=x/\x<=1099511627776:=λx hx=>by have:=hTr x hx;omega
  refine go ?_;refine u7 au ?_;refine dZ (λy:Nat×Value=>(aL l p).length - y.1) (λy=>[(14,.int .i64 (y.1:Int)),(13,y.2)]) (λy=>[ap au y.2 ((eu l ts p).take y.1)]) (λ_=>[]) (λy=>y.1<=(aL l p).length) (0,.slice none 0 0) (dz _) (hk:=by repeat (first|exact bI.nil|(apply bI.cons;(focus (repeat (first|exact ak.here|apply ak.there)))))) (body:=?_);rintro⟨i,vw⟩ hi;dsimp only at hi⊢;have htk:((eu l ts p).take i).length=i:=by rw[cB];omega
  refine go ?_;refine aJ rfl (λh5=>?_) (λh5=>?_)
  ·refine go ?_;intro _ _ a' ha';obtain⟨a,ha,rfl⟩:=yu ha';have hal:=Fp ha;have hoa:=Fj (ts:=ts) ha;have yO:=j3 (st:=ts) (k:=a) (by omega);generalize ts.getD a 0=ta at yO hoa;refine go ?_;intro _ _ VO FQ;cases yO.symm.trans FQ;refine go ?_;intro XZ;refine go ?_;refine tC (xs:=(eu l ts p).take i) au ta () (by omega) (next:=λad=>?_);rw[<- eT hoa];refine go ?_;exact bC (i+1,.slice ad (((eu l ts p).take i).length+1) (((eu l ts p).take i).length+1)) (by show(aL l p).length - (i+1)<(aL l p).length - i;omega) (by show i+1<=_;omega)
  have hik:i=(aL l p).length:=by omega
  subst hik;rw[oJ (by omega)];refine dB (A:=ap au vw (eu l ts p)) (fs:=[ah au vw (eu l ts p)]) u6 (h:=?_);refine go ?_;refine aF (WH (ts:=eu l ts p) (by omega)) (next:=λvp _=>?_);refine go ?_;refine aF (WI (s:=s) (l:=l) (p:=p) (aD:=places (eu l ts p)) (t:=fD s l ts (List.replicate c 0) p) hW h h4 (by omega) hpr (by omega) Bu) (next:=λv2 _=>?_);rw[<- yN];refine go ?_;exact bC (p+1,v2) (by show s.p.toNat - (p+1)<s.p.toNat - p;omega) (by show((p+1:Nat):Int)<=_;omega)
 have hpe:p=s.p.toNat:=by omega
 subst hpe;have hev:fD s l ts (List.replicate c 0) s.p.toNat=mY s l ts:=by unfold mY;rw[hc];rfl
 rw[hev];refine go ?_;exact av ⟨v,0,mY s l ts⟩ (hv:=rfl) (hp:=⟨(AZ h1 yM).1.symm,(AZ h1 yM).2.symm⟩)
