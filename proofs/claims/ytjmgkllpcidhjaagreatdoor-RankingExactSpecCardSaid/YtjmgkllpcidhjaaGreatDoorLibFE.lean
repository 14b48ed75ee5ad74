/-
  Totals and ranks: add, Rank, Exact.
-/
import Derived.Test.YtjmgkllpcidhjaaGreatDoorLibEE
set_option linter.all false
set_option maxRecDepth 10000
set_option maxHeartbeats 4000000
namespace Go.Proofs.YtjmgkllpcidhjaaGreatDoor
open Go.Ideal Rk
theorem vU{xs:List Int}{k:Nat}{x:Int}(h:xs[k]? =some x):xs.getD k 0=x:=by rw[si,h];rfl
theorem Vz{s:dm}{v1 v2 v3 v4 vl vo vp:Value}{l:List bE}{p:Nat}{aD t:List Int}(h:vO s l)(hp:(p:Int)<s.p)(hpl:aD.length=(aL l p).length)(hpr:∀x∈aD,0<=x/\x<=1048576)(ht:t.length=8)(htr:∀x∈t,0<=x/\x<=1099511627776):
 bJ Tryz.prog (.func 32) [.agg ⟨t.map (.int .i64)⟩,.agg ⟨ou s v1 v2 v3 v4⟩,vl,.int .i64 (p:Int),vo,vp] [] [] [mX 0 og,ah au v1 s.lv,ah au v2 s.cl,ah fV v3 s.pg,ah eH vl l,ah au vo (ints (aL l p)),ah au vp aD]
  (λ_:Unit=>.agg ⟨(lI s l p aD t).map (.int .i64)⟩) (λ_=>[]) (λ_=>[]) (λ_=>True):=by
 have hcl:=yo l (p:Int);have hll:=h.len;have hil:=vP (aL l p);have hlv:=h.sh.lv;have De:=h.sh.cl;refine bq _ (bP 32) λB w0=>?_;refine go ?_;intro b6 b7 b12;refine go ?_;refine dZ (λk=>(aL l p).length - k) (λk:Nat=>[(19,.int .i64 (k:Int))]) (λk=>[pt b6 (.cells ((addN s l p (aL l p) aD t k).map (.int .i64)))]) (λ_=>[]) (λk=>k<=(aL l p).length) 0 (dz _) (hk:=by repeat (first|exact bI.nil|(apply bI.cons;(focus (repeat (first|exact ak.here|apply ak.there)))))) (body:=?_);intro k hk;have oz:=yn s l p (aL l p) aD t k;have hTr:=AV (s:=s) (l:=l) (p:=p) (own:=aL l p) (aD:=aD) htr (by decide) k;have hsucc:addN s l p (aL l p) aD t (k+1)=add1 s l p (aL l p) aD (addN s l p (aL l p) aD t k) k:=rfl;generalize hT:addN s l p (aL l p) aD t k=T at oz hTr hsucc⊢;refine go ?_;refine aJ rfl (λh1=>?_) (λh1=>?_)
 ·obtain⟨qi,hok⟩:=AX h.rs (p:=(p:Int)) (i:=k) (by omega);refine go ?_;intro _ _ i' hi';obtain⟨i,hi,rfl⟩:=yu hi';have hgi:(aL l p).getD k 0=i:=by rw[si,hi];rfl
  rw[hgi]at qi hok;refine go ?_;intro _ _ y hy _ _ z1 hz1 _ _ z2 hz2;have VA:=hpr y (dG hy);have VB:=h.sh.AQ z1 (dG hz1);have VC:=h.sh.AU z2 (dG hz2);have hx0:l[i]? =some (l[i]'qi):=bO _;have hgx:l.getD i dR=l[i]'qi:=by rw[si,hx0];rfl
  rw[hgx]at hok;refine dh eH (k:=i) (next:=λbx ox x _ hx=>?_);have hxe:l[i]'qi=x:=Option.some.inj (hx0.symm.trans hx);rw[hxe]at hok hgx;refine go ?_;intro FO;have FP:tN [y,((ints (aL l p)).length:Int),z1,z2,x.t]:=by
   refine⟨rfl,λu hu=>?_⟩;have q1:=hok.t0;have q2:=hok.t1;simp only[bz,rY,or_false]at hu;rcases hu with rfl|rfl|rfl|rfl|rfl<;>omega
  refine dB (A:=pt FO (.cells [.int .i64 y,.int .i64 ((ints (aL l p)).length:Int),.int .i64 z1,.int .i64 z2,.int .i64 x.t])) (fs:=[ah au (.slice (some ⟨FO,0,some 0⟩) 5 5) [y,((ints (aL l p)).length:Int),z1,z2,x.t]]) (l8 (b:=FO) (f:=0) (c:=5) (xs:=[y,((ints (aL l p)).length:Int),z1,z2,x.t])) (h:=?_);refine aF (Vr (ws:=s.pg) (inp:=[y,((ints (aL l p)).length:Int),z1,z2,x.t]) h.pg FP) (next:=λ_ _=>?_);have hpt:=Fa s.pg [y,((ints (aL l p)).length:Int),z1,z2,x.t];have hnext:addN s l p (aL l p) aD t (k+1)=T.set x.c.toNat (T.getD x.c.toNat 0+pts s.pg [y,((ints (aL l p)).length:Int),z1,z2,x.t]):=by
   rw[hsucc,add1,hgi,hgx,vU hy,vU hz1,vU hz2,hil]
  generalize pts s.pg [y,((ints (aL l p)).length:Int),z1,z2,x.t]=q at hpt hnext;refine go ?_;refine dh eH (k:=i) (next:=λvV vW x2 _ hx2=>?_);cases hx.symm.trans hx2;have c0:=hok.c0;have c1:=hok.c1;have c8:=h.sh.c8;have hT0:=hTr _ (l9 (st:=T) (k:=x.c.toNat) (by omega));refine go ?_;refine jW (o:=0+x.c.toNat*1) (cs:=T.map (.int .i64)) (.int .i64 (T.getD x.c.toNat 0)) (by rw[eU,ko,bT,j3 (by omega)];rfl) ?_;refine go ?_;refine vG (o:=0+x.c.toNat*1) (cs:=T.map (.int .i64)) (cs':=(T.set x.c.toNat (T.getD x.c.toNat 0+q)).map (.int .i64)) (v:=.int .i64 (T.getD x.c.toNat 0+q)) (by rw[eU,ko,zg]) (by rw[dw];omega) ?_;rw[<- hnext];refine go ?_;exact bC (k+1) (by omega) (by omega)
 have hkl:k=(aL l p).length:=by omega
 subst hkl;have hTe:lI s l p aD t=T:=by rw[lI,hT]
 rw[ht]at oz;rw[hTe];obtain⟨a0,a1,a2,a3,a4,a5,a6,a7,rfl⟩:=len8 oz;refine go ?_;exact av () (hv:=rfl) (hp:=trivial)
theorem VD{vl:Value}{xs:List Int}(hl:xs.length<=1000000):bJ Tryz.prog (.func 16) [vl] [] [] [ah au vl xs] (λv:Value=>v) (λ_=>[]) (λv=>[ah au v (fU xs)]) (λ_=>True):=by
 refine bq _ (bP 16) λB w0=>?_;refine go ?_;refine u7 au ?_;refine dZ (λy:Nat×Value=>xs.length - y.1) (λy=>[(10,.int .i64 (y.1:Int)),(2,y.2)]) (λy=>[ap au y.2 ((fU xs).take y.1)]) (λ_=>[]) (λy=>y.1<=xs.length) (0,.slice none 0 0) (dz _) (hk:=by repeat (first|exact bI.nil|(apply bI.cons;(focus (repeat (first|exact ak.here|apply ak.there)))))) (body:=?_);rintro⟨k,v⟩ hk;dsimp only at hk⊢;have hrl:(fU xs).length=xs.length:=dw ..;have htl:((fU xs).take k).length=k:=by rw[cB];omega
 refine go ?_;refine aJ rfl (λh1=>?_) (λh1=>?_)
 ·refine go ?_;intro _ _ x hx;refine go ?_;refine dZ (λj=>xs.length - j) (λj:Nat=>[(16,.int .i64 (j:Int)),(5,.int .i64 (1+((xs.take j).countP λm=>decide (x<m):Nat):Int))]) (λ_=>[]) (λ_=>[]) (λj=>j<=xs.length) 0 (dz _) (body:=?_);intro j hj;have hcl:((xs.take j).countP λm=>decide (x<m))<=(xs.take j).length:=F6;rw[cB]at hcl;refine go ?_;refine aJ rfl (λh2=>?_) (λh2=>?_)
  ·refine go ?_;intro _ _ z hz;have hs:((xs.take (j+1)).countP λm=>decide (x<m))=((xs.take j).countP λm=>decide (x<m))+if x<z then 1 else 0:=by rw[eT hz,F7,F8];simp
   refine go ?_;refine aJ rfl (λh3=>?_) (λh3=>?_)
   ·rw[if_pos h3]at hs;refine go ?_;rw[show(1+(((xs.take j).countP λm=>decide (x<m):Nat):Int))+1=1+(((xs.take (j+1)).countP λm=>decide (x<m):Nat):Int)by rw[hs];omega];exact bC (j+1) (by omega) (by omega)
   ·have hs2:((xs.take j).countP λm=>decide (x<m))=((xs.take (j+1)).countP λm=>decide (x<m)):=by rw[hs,if_neg h3,oH]
    rw[hs2];refine go ?_;exact bC (j+1) (by omega) (by omega)
  have hjl:j=xs.length:=by omega
  subst hjl;rw[jc];refine go ?_;intro VE;refine go ?_;have yL:(fU xs)[k]? =some (1+((xs.countP λm=>decide (x<m):Nat):Int)):=by unfold fU;rw[bT,hx];rfl
  refine tC (xs:=(fU xs).take k) au (1+((xs.countP λm=>decide (x<m):Nat):Int)) () (by omega) (next:=λad=>?_);rw[<- eT yL];refine go ?_;exact bC (k+1,.slice ad (((fU xs).take k).length+1) (((fU xs).take k).length+1)) (by show xs.length - (k+1)<xs.length - k;omega) (by show k+1<=_;omega)
 have hkl:k=xs.length:=by omega
 subst hkl;rw[oJ (by omega)];refine go ?_;refine dB (A:=ap au v (fU xs)) (fs:=[ah au v (fU xs)]) u6 (h:=?_);exact av v (hv:=rfl) (hp:=trivial)
theorem VF{a:Addr}{m c:Nat}{xs:List Int}(h0:0<xs.length)(hl:xs.length<=1000000):bJ Tryz.prog (.func 33) [.slice (some a) m c] [] [] [ah au (.slice (some a) m c) xs] (λv:Value=>v) (λ_=>[]) (λv=>[ah au v xs]) (λ_=>True):=by
 refine bq _ (bP 33) λB w0=>?_;refine go ?_;refine(bY rfl rfl (Sq (e:=3) (by kernel_rfl) rfl)).h ?_;refine go ?_;intro b5;refine go ?_;refine R6 (b:=b5) (xs:=xs) h0 ⟨by omega,by omega⟩ (λb'=>?_);refine go ?_;refine dB (A:=pt b' (.cells (xs.map (.int .i64)))) (fs:=[ah au (.slice (some ⟨b',0,some 1⟩) xs.length xs.length) xs]) (l8 (b:=b') (f:=1) (c:=xs.length) (xs:=xs)) (h:=?_);exact av (.slice (some ⟨b',0,some 1⟩) xs.length xs.length) (hv:=rfl) (hp:=trivial)
structure Lu where
 v:Value
 e:Int
 xs:List Int
abbrev Lv(y:Lu):Value:=.tuple ⟨[y.v,.int .i64 y.e]⟩
abbrev Lx(y:Lu):List aH:=[ah au y.v y.xs]
theorem LA(n:Nat):zeros [.int .i64 0] n=(List.replicate n (0:Int)).map (.int .i64):=by
 induction n with
 |zero=>rfl
 |succ n ih=>rw[BG,oI,<- ih];rfl
theorem VG{P:Program}{ρ:Operand->Value}{x hi:Operand}{b m n size:Nat}(hx:ρ x=.pointer (some ⟨b,0,none⟩))(hh:ρ hi=.int .i64 (m:Int))(hm:m<=n):Pu P ρ (.BJ n size x none (some hi) none) (.slice (some ⟨b,0,some 0⟩) m n):=λh=>by
 have hbd:bounds? n n (dJ ρ none) (dJ ρ (some hi)) (dJ ρ none)=some (0,m,n):=by
  show bounds? n n none (some (ρ hi)) none=_;rw[hh];show(match upTo n (.int .i64 (m:Int))with|none=>none|some h=>match some 0 with|none=>none|some l=>some (l,h,n))=_;rw[Ap hm]
 simp only[ae.run,hx,hbd];show some (Value.slice (oK b (Nat.add 0 (Nat.mul 0 size))) (Nat.sub m 0) (Nat.sub n 0),h)=_;rw[show Nat.mul 0 size=0 from nG _];rfl
theorem rM(w:Wd):(ah au (.slice none 0 0) ([]:List Int)).p w:=.inl ⟨rfl,none,0,rfl,trivial⟩
theorem VH{w:Wd}{b m c:Nat}{T:List Int}(h:(dK b 0 (T.map (.int .i64))).p w)(h1:m<=T.length)(h2:m<=c):(ah au (.slice (some ⟨b,0,some 0⟩) m c) (T.take m)).p w:=by
 obtain⟨cells,q1,q2⟩:=h;refine .inr ⟨b,0,0,c,cells,⟨by rw[cB,um h1],by rw[cB];omega,.inl rfl⟩,q1,λk x hx=>⟨(),λj u hj=>?_,λf hf=>by cases hf⟩⟩;have hx:T[k]? =some x:=by
  have hk:=(fH.1 hx).1;rw[cB]at hk
  rwa [mo,if_pos (by omega)]at hx
 match j,hj with
 |0,hj=>
  cases hj;rw[show 0+k*au.n+0=0+k by show 0+k*1+0=_;omega];exact q2 k _ (by rw[bT,hx];rfl)
def oC(aD:List Int)(i m:Nat):List Int:=aD.take i++List.replicate (m - i) 0
theorem VI{aD:List Int}{i:Nat}(h:i<=aD.length):(oC aD i aD.length).length=aD.length:=by unfold oC;rw[fE,cB,qw];omega
theorem VJ{aD:List Int}{i:Nat}{x:Int}(h:i<aD.length):(oC aD i aD.length).set i x=aD.take i++x::List.replicate (aD.length - (i+1)) 0:=by
 unfold oC;rw[List.set_append_right _ _ (by rw[cB];omega),cB,um (by omega),Nat.sub_self,show aD.length - i=(aD.length - (i+1))+1 by omega,BG];rfl
theorem VK{aD:List Int}{i:Nat}{x y:Int}{r:List Int}(h:i<aD.length):(aD.take i++x::r).set i y=aD.take i++y::r:=by
 rw[List.set_append_right _ _ (by rw[cB];omega),cB,um (by omega),Nat.sub_self];rfl
theorem VL{aD:List Int}{i:Nat}{x:Int}{r:List Int}(h:i<aD.length):(aD.take i++x::r)[i]? =some x:=by
 rw[ny (by rw[cB];omega),cB,um (by omega),Nat.sub_self];rfl
theorem VM{s:dm}{v1 v2 v3 v4 vl vt:Value}{l:List bE}{ts:List Int}(hb1:s.lv.length<9223372036854775808)(hb2:s.cl.length<9223372036854775808)(hb3:s.pz.length<9223372036854775808)(hx1:cellsOf v1=some [v1])(hx2:cellsOf v2=some [v2])(hx3:cellsOf v3=some [v3])(hx4:cellsOf v4=some [v4]):
 bJ Tryz.prog (.func 11) [.agg ⟨ou s v1 v2 v3 v4⟩,vl,vt] [] [] [mX 0 og,ah au v1 s.lv,ah au v2 s.cl,ah fV v3 s.pg,ah au v4 s.pz,ah eH vl l,ah au vt ts] Lv (λ_=>[]) Lx (λy=>y.e=jZ s l ts/\y.xs=mg s l ts):=by
 refine bq _ (bP 11) λB w0=>?_;refine go ?_;intro b3;refine go ?_;refine aF (Lp (s:=s) (l:=l) hb1 hb2 hb3 hx1 hx2 hx3 hx4) (next:=λy hy=>?_);subst hy;refine go ?_;refine aJ rfl (λh1=>?_) (λh1=>?_)
 ·refine go ?_;refine bM (ah au (.slice none 0 0) ([]:List Int)) (λw _=>rM w) ?_;exact av ⟨.slice none 0 0,fT s l,[]⟩ (hv:=rfl) (hp:=⟨(AY h1).1.symm,(AY h1).2.symm⟩)
 have h1:fT s l=0:=zh.1 h1;have h:=Fb h1;have hll:=h.len;refine go ?_;refine aJ rfl (λh2=>?_) (λh2=>?_)
 ·have hno:¬mZ l ts:=λk=>h2 (by rw[k.1]);refine go ?_;refine bM (ah au (.slice none 0 0) ([]:List Int)) (λw _=>rM w) ?_;exact av ⟨.slice none 0 0,1,[]⟩ (hv:=rfl) (hp:=⟨(mh h1 hno).1.symm,(mh h1 hno).2.symm⟩)
 have htl:ts.length=l.length:=by omega
 refine go ?_;refine dZ (λk=>ts.length - k) (λk:Nat=>[(32,.int .i64 (k:Int))]) (λ_=>[]) (λ_=>[]) (λk=>k<=ts.length/\∀(i:Nat) x t,i<k->l[i]? =some x->ts[i]? =some t->x.lo<=t/\t<=x.hi) 0 ⟨dz _,λi _ _ hi=>by omega⟩ (body:=?_);rintro k ⟨hk,hin⟩;refine go ?_;refine aJ rfl (λh3=>?_) (λh3=>?_)
 ·refine go ?_;intro _ _ t ht;refine go ?_;refine dh eH (k:=k) (next:=λbx ox x _ hx=>?_);refine go ?_;refine(pO (b:=bx) (o:=ox) (j:=3) (v:=.int .i64 x.lo) rfl rfl rfl (aT ..) rfl).h ?_;refine go ?_;refine gG (λh4=>?_) (λh4=>?_)
  rotate_left
  ·have hno:¬mZ l ts:=λq=>by have:=q.2 k x t hx ht;omega
   refine go ?_;refine bM (ah au (.slice none 0 0) ([]:List Int)) (λw _=>rM w) ?_;exact av ⟨.slice none 0 0,1,[]⟩ (hv:=rfl) (hp:=⟨(mh h1 hno).1.symm,(mh h1 hno).2.symm⟩)
  refine go ?_;refine dh eH (k:=k) (next:=λvV vW x2 _ hx2=>?_);cases hx.symm.trans hx2;refine go ?_;refine(pO (b:=vV) (o:=vW) (j:=4) (v:=.int .i64 x.hi) rfl rfl rfl (aT ..) rfl).h ?_;refine go ?_;refine aJ rfl (λh5=>?_) (λh5=>?_)
  ·have hno:¬mZ l ts:=λq=>by have:=q.2 k x t hx ht;omega
   refine go ?_;refine bM (ah au (.slice none 0 0) ([]:List Int)) (λw _=>rM w) ?_;exact av ⟨.slice none 0 0,1,[]⟩ (hv:=rfl) (hp:=⟨(mh h1 hno).1.symm,(mh h1 hno).2.symm⟩)
  refine go ?_;refine bC (k+1) (by omega) ⟨by omega,λi x' t' hi hx' ht'=>?_⟩;by_cases e:i=k
  ·subst e;cases hx.symm.trans hx';cases ht.symm.trans ht';exact⟨by omega,by omega⟩
  ·exact hin i x' t' (by omega) hx' ht'
 have hkl:k=ts.length:=by omega
 subst hkl;have yM:mZ l ts:=⟨htl,λi x t hx ht=>hin i x t (fH.1 ht).1 hx ht⟩
 clear hin hk h3;refine go ?_;intro b11;refine go ?_;have hp1:=h.sh.p1;have VN:=h.sh.p8;refine dZ (λp=>s.p.toNat - p) (λp:Nat=>[(58,.int .i64 (p:Int))]) (λp=>[pt b11 (.cells ((fD s l ts (List.replicate 8 0) p).map (.int .i64)))]) (λ_=>[]) (λp=>(p:Int)<=s.p) 0 (by show(0:Int)<=_;omega) (hk:=by repeat (first|exact bI.nil|(apply bI.cons;(focus (repeat (first|exact ak.here|apply ak.there)))))) (body:=?_);intro p hp;refine go ?_;refine aJ rfl (λh4=>?_) (λh4=>?_)
 ·refine go ?_;refine aF (Vy (l:=l) (p:=(p:Int)) (by omega)) (next:=λvo _=>?_);have hil:=vP (aL l p);have hcl:=yo l (p:Int);have hol:=Km l ts (p:Int);have hpl:=E5 (ts:=eu l ts (p:Int));have hpr:∀x∈places (eu l ts (p:Int)),0<=x/\x<=1048576:=λx hx=>by have:=Ki hx;omega
  have yN:fD s l ts (List.replicate 8 0) (p+1)=lI s l p (places (eu l ts (p:Int))) (fD s l ts (List.replicate 8 0) p):=rfl;have oz:(fD s l ts (List.replicate 8 0) p).length=8:=by rw[rC];rfl
  have hTr:=Fg (s:=s) (l:=l) hll (ts:=ts) (t:=List.replicate 8 0) (λx hx=>Ml hx) p;refine go ?_;refine EC (aL l p).length ⟨by omega,by omega,by omega⟩ (hx:=by show Value.int .i64 _=_;rw[hil]) (hy:=by show Value.int .i64 _=_;rw[hil]) (λb14=>?_);rw[LA];refine go ?_;generalize hpq:places (eu l ts (p:Int))=aD at hpl hpr yN;have hpm:aD.length=(aL l p).length:=by omega
  refine dZ (λi=>(aL l p).length - i) (λi:Nat=>[(69,.int .i64 (i:Int))]) (λi=>[pt b14 (.cells ((oC aD i aD.length).map (.int .i64)))]) (λ_=>[]) (λi=>i<=(aL l p).length) 0 (dz _) (hk:=by
   rw[<- hpm];repeat (first|exact bI.nil|(apply bI.cons;(focus (repeat (first|exact ak.here|apply ak.there)))))) (body:=?_)
  intro i hi;have hrow:=VI (aD:=aD) (i:=i) (by omega);refine go ?_;refine aJ rfl (λh5=>?_) (λh5=>?_)
  ·refine go ?_;intro _ _ a' ha';obtain⟨a,ha,rfl⟩:=yu ha';have hal:=Fp ha;have hoa:=Fj (ts:=ts) ha;have hra:=Kn hoa;rw[hpq]at hra;refine go ?_;have yO:=j3 (st:=ts) (k:=a) (by omega);generalize ts.getD a 0=ta at yO hoa hra;refine vG (o:=0+i*1) (cs:=(oC aD i aD.length).map (.int .i64)) (cs':=(aD.take i++(1:Int)::List.replicate (aD.length - (i+1)) 0).map (.int .i64)) (v:=.int .i64 1) (by rw[eU,ko,<- VJ (by omega),zg]) (by rw[dw];omega) ?_;refine go ?_;refine dZ (λj=>(aL l p).length - j) (λj:Nat=>[(79,.int .i64 (j:Int))]) (λj=>[pt b14 (.cells ((aD.take i++(1+(((eu l ts p).take j).countP λb=>decide (b<ta):Nat):Int)::List.replicate (aD.length - (i+1)) 0).map (.int .i64)))]) (λ_=>[]) (λj=>j<=(aL l p).length) 0 (dz _) (hk:=by repeat (first|exact bI.nil|(apply bI.cons;(focus (repeat (first|exact ak.here|apply ak.there)))))) (body:=?_);intro j hj;have hcj:(((eu l ts p).take j).countP λb=>decide (b<ta))<=((eu l ts p).take j).length:=F6;rw[cB]at hcj;refine go ?_;refine aJ rfl (λh6=>?_) (λh6=>?_)
   ·refine go ?_;intro _ _ b' hb';obtain⟨b,hb,rfl⟩:=yu hb';have hbl:=Fp hb;have LB:=Fj (ts:=ts) hb;have LC:=j3 (st:=ts) (k:=b) (by omega);generalize ts.getD b 0=tb at LC LB;have hs:(((eu l ts p).take (j+1)).countP λb=>decide (b<ta))=(((eu l ts p).take j).countP λb=>decide (b<ta))+if tb<ta then 1 else 0:=by rw[eT LB,F7,F8];simp
    refine go ?_;intro _ _ XQ htb' _ _ VO FQ;cases LC.symm.trans htb';cases yO.symm.trans FQ;refine go ?_;refine aJ rfl (λh7=>?_) (λh7=>?_)
    ·rw[if_pos h7]at hs;have hlr:(aD.take i++(1+(((eu l ts p).take j).countP λb=>decide (b<ta):Nat):Int)::List.replicate (aD.length - (i+1)) 0).length=aD.length:=by
      rw[fE,cB,oG,qw];omega
     have hgt:((aD.take i++(1+(((eu l ts p).take j).countP λb=>decide (b<ta):Nat):Int)::List.replicate (aD.length - (i+1)) 0).map (Value.int .i64))[0+i*1]? =some (.int .i64 (1+(((eu l ts p).take j).countP λb=>decide (b<ta):Nat):Int)):=by
      rw[eU,ko,bT,VL (by omega)];rfl
     have hst:((aD.take i++(1+(((eu l ts p).take j).countP λb=>decide (b<ta):Nat):Int)::List.replicate (aD.length - (i+1)) 0).map (Value.int .i64)).set (0+i*1) (.int .i64 ((1+(((eu l ts p).take j).countP λb=>decide (b<ta):Nat):Int)+1))=
      (aD.take i++(1+(((eu l ts p).take (j+1)).countP λb=>decide (b<ta):Nat):Int)::List.replicate (aD.length - (i+1)) 0).map (Value.int .i64):=by
      rw[eU,ko,<- zg,VK (by omega),hs];congr 3
     refine go ?_;refine jW _ hgt ?_;refine go ?_;refine vG hst (by rw[dw];omega) ?_;refine go ?_;exact bC (j+1) (by omega) (by omega)
    ·have hs2:(((eu l ts p).take j).countP λb=>decide (b<ta))=(((eu l ts p).take (j+1)).countP λb=>decide (b<ta)):=by rw[hs,if_neg h7,oH]
     rw[hs2];refine go ?_;exact bC (j+1) (by omega) (by omega)
   have hjl:j=(aL l p).length:=by omega
   subst hjl;have htk:(eu l ts p).take (aL l p).length=eu l ts p:=oJ (by omega);rw[htk];refine go ?_;have hnx:aD.take i++(1+((eu l ts p).countP λb=>decide (b<ta):Nat):Int)::List.replicate (aD.length - (i+1)) 0=oC aD (i+1) aD.length:=by
    unfold oC;rw[eT hra,jb];rfl
   rw[hnx];exact bC (i+1) (by omega) (by omega)
  have hik:i=(aL l p).length:=by omega
  subst hik;have hfull:oC aD (aL l p).length aD.length=aD:=by
   unfold oC;rw[oJ (by omega),show aD.length - (aL l p).length=0 by omega];simp
  rw[hfull];refine dB (A:=pt b14 (.cells (aD.map (.int .i64)))) (fs:=[ah au (.slice (some ⟨b14,0,some 0⟩) (aL l p).length (aL l p).length) aD]) (by rw[<- hpm];exact l8 (b:=b14) (f:=0) (c:=aD.length) (xs:=aD)) (h:=?_);have Bu:∀x∈fD s l ts (List.replicate 8 0) p,0<=x/\x<=1099511627776:=λx hx=>by have:=hTr x hx;omega
  generalize fD s l ts (List.replicate 8 0) p=T at yN oz hTr Bu⊢;obtain⟨a0,a1,a2,a3,a4,a5,a6,a7,rfl⟩:=len8 oz;refine go ?_;refine aF (Vz (s:=s) (l:=l) (p:=p) (aD:=aD) (t:=[a0,a1,a2,a3,a4,a5,a6,a7]) h h4 hpm hpr rfl Bu) (next:=λ_ _=>?_);rw[<- yN];have VP:(fD s l ts (List.replicate 8 0) (p+1)).length=8:=by rw[rC];rfl
  obtain⟨c0,c1,c2,c3,c4,c5,c6,c7,hc⟩:=len8 VP;rw[hc];refine go ?_;rw[show[Value.int .i64 c0,Value.int .i64 c1,Value.int .i64 c2,Value.int .i64 c3,Value.int .i64 c4,Value.int .i64 c5,Value.int .i64 c6,Value.int .i64 c7]=(fD s l ts (List.replicate 8 0) (p+1)).map (.int .i64)by rw[hc];rfl];exact bC (p+1) (by omega) (by omega)
 have hpe:p=s.p.toNat:=by omega
 subst hpe;have hc1:=h.sh.c1;have hc8:=h.sh.c8;have happ:=Kh h (ts:=ts) (t:=List.replicate s.c.toNat 0) (z:=List.replicate (8 - s.c.toNat) 0) (by rw[qw];omega) s.p.toNat
 rw[<- TY (by omega)]at happ;have hlen:(fD s l ts (List.replicate s.c.toNat 0) s.p.toNat).length=s.c.toNat:=by rw[rC,qw]
 have VQ:(fD s l ts (List.replicate 8 0) s.p.toNat).length=8:=by rw[rC,qw]
 have htake:(fD s l ts (List.replicate 8 0) s.p.toNat).take s.c.toNat=mY s l ts:=by rw[happ];exact List.take_left' hlen
 have hvl:(mY s l ts).length=s.c.toNat:=hlen;generalize fD s l ts (List.replicate 8 0) s.p.toNat=T at VQ htake;refine go ?_;refine(bY rfl rfl (VG (m:=s.c.toNat) rfl (by show Value.int .i64 _=_;congr 1;omega) (by omega))).h ?_;refine go ?_;refine dB (kL (b:=b11) (cs:=T.map (.int .i64))) (h:=?_);refine bM (ah au (.slice (some ⟨b11,0,some 0⟩) s.c.toNat 8) (mY s l ts)) (λw hw=>by rw[<- htake];exact VH (hw _ (aT ..)) (by omega) (by omega)) ?_;refine aF (VF (xs:=mY s l ts) (by omega) (by omega)) (next:=λv _=>?_);refine go ?_;exact av ⟨v,0,mY s l ts⟩ (hv:=rfl) (hp:=⟨(AZ h1 yM).1.symm,(AZ h1 yM).2.symm⟩)
