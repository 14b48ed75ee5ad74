/-
  ref53: lists put into their places; times that suffice.
-/
import Derived.Test.YtjmgkllpcidhjaaGreatDoorLibMN
set_option linter.all false
set_option maxRecDepth 10000
set_option maxHeartbeats 4000000
namespace Go.Proofs.YtjmgkllpcidhjaaGreatDoor
open Go.Ideal Rk
theorem A7{va vb:Value}{xs ys:List Int}(hl:xs.length<9223372036854775808):eY Tryz.prog 15 [va,vb] [ah ae va xs,ah ae vb ys] (.bool (decide (xs=ys))):=by
 refine aX UX af8 λB w0=>?_;refine go ?_;refine aC rfl (λh1=>?_) (λh1=>?_)
 ·refine go ?_;exact aj () (hv:=by rw[gz (λe=>h1 (by rw[e]))];rfl) (hp:=trivial)
 refine go ?_;refine bE (λk=>xs.length - k) (λk:Nat=>[(5,.int .i64 (k:Int))]) (λ_=>[]) (λ_=>[]) (λk=>k<=xs.length/\xs.take k=ys.take k) 0 ⟨bF _,rfl⟩ (body:=?_);rintro k ⟨hk,heq⟩;refine go ?_;refine aC rfl (λh2=>?_) (λh2=>?_)
 ·refine go ?_;intro _ _ x hx _ _ y hy;refine go ?_;refine aC rfl (λh3=>?_) (λh3=>?_)
  ·refine go ?_;refine aj () (hv:=?_) (hp:=trivial);rw[gz (λe=>h3 (by subst e;cases hx.symm.trans hy;rfl))];rfl
  have h3:x=y:=sG.1 h3;subst h3;refine go ?_;exact aO (k+1) (by omega) ⟨by omega,by rw[dx hx,dx hy,heq]⟩
 have hkl:k=xs.length:=by omega
 subst hkl;rw[fK,mM (by omega)]at heq;refine go ?_;exact aj () (hv:=by rw[eH heq];rfl) (hp:=trivial)
theorem agQ{vl:Value}{xs:List Int}{z:Int}(hl:xs.length<9223372036854775808):bD Tryz.prog (.func 96) [vl,.int .i64 z] [] [ap ae vl xs] [] (λ_:Unit=>.bool (decide (z∈xs))) (λ_=>[ap ae vl xs]) (λ_=>[]) (λ_=>True):=by
 refine aX U3 agd λB w0=>?_;refine go ?_;refine bE (λk=>xs.length - k) (λk:Nat=>[(5,.int .i64 (k:Int))]) (λ_=>[]) (λ_=>[]) (λk=>k<=xs.length/\z∉xs.take k) 0 ⟨by omega,by simp⟩ (body:=?_);rintro k ⟨hk,hno⟩;refine go ?_;refine aC rfl (λh1=>?_) (λh1=>?_)
 ·have hx:xs[k]? =some (xs[k]'(by omega)):=bf _;generalize xs[k]'(by omega)=x at hx;refine go ?_;refine aa5 k x hx λ_ _=>?_;refine go ?_;refine aC rfl (λh2=>?_) (λh2=>?_)
  ·refine go ?_;refine aj () (hv:=?_) (hp:=trivial);subst h2;rw[eH (cZ hx)];rfl
  ·refine go ?_;refine aO (k+1) (by omega) ⟨by omega,?_⟩;rw[dx hx,gy,not_or];exact⟨hno,by simp;exact λe=>h2 e.symm⟩
 refine go ?_;have:k=xs.length:=by omega
 subst this;rw[fK]at hno;refine aj () (hv:=?_) (hp:=trivial);rw[gz hno];rfl
theorem Eh{w:Wd}{b:Nat}{v:Value}{α:Type}{E:Enc α}{xs:List α}(h1:(dG b 0 [v]).p w)(h2:(ah E v xs).p w):(ah (aI E) (.slice (some ⟨b,0,some 0⟩) 1 1) [xs]).p w:=by
 obtain⟨cells,q1,q2⟩:=h1;refine .inr ⟨b,0,0,1,cells,⟨rfl,aH _,.inl rfl⟩,q1,λk x hx=>?_⟩;match k,hx with
 |0,hx=>
  cases hx;exact⟨v,λj u hj=>by
   match j,hj with
   |0,hj=>cases hj;exact q2 0 v rfl,λf hf=>by rw[di.1 hf];exact h2⟩
theorem Vq{vl vx:Value}{l:List (List Int)}{x:List Int}(hll:l.length<=100000)(hxl:x.length<=1000000)(hlen:∀t∈l,t.length=x.length):
 bD Tryz.prog (.func 49) [vl,vx] [] [] [ah (aI ae) vl l,ah ae vx x] (λv:Value=>v) (λ_=>[]) (λv=>[ah (aI ae) v (kV x l)]) (λ_=>True):=by
 refine aX _ (bN 49) λB w0=>?_;refine gH (E:=ae) (v:=vx) (xs:=x) (by simp) λax cx ex=>?_;subst ex;refine go ?_;refine bE (λk=>l.length - k) (λk:Nat=>[(5,.int .i64 (k:Int))]) (λ_=>[]) (λ_=>[]) (λk=>k<=l.length/\∀i y,i<k->l[i]? =some y->gZ y x=true) 0 ⟨bF _,λi y hi=>absurd hi (Nat.not_lt_zero _)⟩ (body:=?_);rintro k ⟨hk,hlt⟩;refine go ?_;refine gG (λh1=>?_) (λh1=>?_)
 · -- the end of the list
   have hkl:k=l.length:=by omega
   have hat:=Me (x:=x) (l:=l) hlt hk (λy hy=>by have:=(dX.1 hy).1;omega);have hno:¬l[k]? =some x:=λe=>by have:=(dX.1 e).1;omega
   refine go ?_;rw[gz h1];refine go ?_;refine yj (aI ae) k (by omega) (next:=λa1 m1=>?_);refine nI (aI ae) (.slice a1 k m1) (xs:=l.take k) λy1 e1=>?_;refine Lx (aI ae) ?_;refine oM (aI ae) (aa:=[]) y1 (by have h:=congrArg List.length e1;rw[bC,dw]at h;rw[ql];omega) (λw1=>?_);rw[gL];refine go ?_;intro y5;refine bG (eP (b:=y5)) (h:=?_);refine cK (ah (aI ae) (.slice (some ⟨y5,0,some 0⟩) 1 1) [x]) (λw hw=>Eh (hw _ (bz ..)) (hw (ah ae (.slice ax x.length cx) x) (by simp))) ?_;refine nI (aI ae) (.slice (some ⟨y5,0,some 0⟩) 1 1) (xs:=[x]) λy2 e2=>?_;refine oM (aI ae) (aa:=y1) y2 (by have h:=congrArg List.length e1;have h2:=congrArg List.length e2;rw[bC]at h2;rw[bC,dw]at h;simp only[qm]at h2;omega) (λw2=>?_);refine go ?_;refine Qt (aI ae) k (by omega) (next:=λa3 m3=>?_);refine nI (aI ae) (.slice a3 (l.length - k) m3) (xs:=l.drop k) λy3 e3=>?_;refine oM (aI ae) (aa:=y1++y2) y3 (by have h:=congrArg List.length e1;have h2:=congrArg List.length e2;have h3:=congrArg List.length e3;rw[bC]at h2;rw[bC,dw]at h;rw[bC,jR]at h3;simp only[qm]at h2;rw[dW];omega) (λw3=>?_);refine go ?_;have hmap:(y1++y2++y3).map (·.1)=kV x l:=by
    rw[fH,fH,e1,e2,e3,hat,if_neg hno,ik];rfl
   refine tK (aI ae) (aa:=y1++y2++y3) ?_;refine bG (rU (aI ae) (aa:=y1++y2++y3)) (h:=?_);rw[hmap];exact aj w3 (hv:=rfl) (hp:=trivial)
 refine go ?_;refine bJ (aI ae) (k:=k) (next:=λ_ _ y (vy:Value) hy=>?_);have hyl:=hlen y (cZ hy);refine go ?_;refine aD (age (xs:=y) (ys:=x) hyl (by omega)) (next:=λ_ _=>?_);refine go ?_;refine iy rfl (λh2=>?_) (λh2=>?_)
 ·refine go ?_;refine aO (k+1) (by omega) ⟨by omega,λi z hi hz=>?_⟩;by_cases e:i=k
  ·subst e;cases hy.symm.trans hz;exact h2
  ·exact hlt i z (by omega) hz
 have hat:=Me (x:=x) (l:=l) hlt hk (λz hz=>by cases hy.symm.trans hz;exact h2);refine go ?_;rw[eH h1];refine go ?_;refine bJ (aI ae) (k:=k) (next:=λ_ _ z (vz:Value) hz=>?_);cases hy.symm.trans hz;refine go ?_;refine aD (A7 (xs:=y) (ys:=x) (by omega)) (next:=λ_ _=>?_);refine go ?_;refine aC rfl (λh3=>?_) (λh3=>?_)
 ·rw[if_pos (by rw[hy,h3])]at hat
  refine go ?_;refine aj vl (hv:=rfl) (hp:=trivial) (hF:=?_);rw[hat];apply Sub.cons
  ·simp
  ·exact Sub.nil
 have hno:¬l[k]? =some x:=λe=>h3 (by cases hy.symm.trans e;rfl);refine go ?_;refine yj (aI ae) k (by omega) (next:=λa1 m1=>?_);refine nI (aI ae) (.slice a1 k m1) (xs:=l.take k) λy1 e1=>?_;refine Lx (aI ae) ?_;refine oM (aI ae) (aa:=[]) y1 (by have h:=congrArg List.length e1;rw[bC,dw]at h;rw[ql];omega) (λw1=>?_);rw[gL];refine go ?_;intro y5;refine bG (eP (b:=y5)) (h:=?_);refine cK (ah (aI ae) (.slice (some ⟨y5,0,some 0⟩) 1 1) [x]) (λw hw=>Eh (hw _ (bz ..)) (hw (ah ae (.slice ax x.length cx) x) (by simp))) ?_;refine nI (aI ae) (.slice (some ⟨y5,0,some 0⟩) 1 1) (xs:=[x]) λy2 e2=>?_;refine oM (aI ae) (aa:=y1) y2 (by have h:=congrArg List.length e1;have h2:=congrArg List.length e2;rw[bC]at h2;rw[bC,dw]at h;simp only[qm]at h2;omega) (λw2=>?_);refine go ?_;refine Qt (aI ae) k (by omega) (next:=λa3 m3=>?_);refine nI (aI ae) (.slice a3 (l.length - k) m3) (xs:=l.drop k) λy3 e3=>?_;refine oM (aI ae) (aa:=y1++y2) y3 (by have h:=congrArg List.length e1;have h2:=congrArg List.length e2;have h3:=congrArg List.length e3;rw[bC]at h2;rw[bC,dw]at h;rw[bC,jR]at h3;simp only[qm]at h2;rw[dW];omega) (λw3=>?_);refine go ?_;have hmap:(y1++y2++y3).map (·.1)=kV x l:=by
  rw[fH,fH,e1,e2,e3,hat,if_neg hno,ik];rfl
 refine tK (aI ae) (aa:=y1++y2++y3) ?_;refine bG (rU (aI ae) (aa:=y1++y2++y3)) (h:=?_);rw[hmap];exact aj w3 (hv:=rfl) (hp:=trivial)
end Go.Proofs.YtjmgkllpcidhjaaGreatDoor
namespace Go.Proofs.YtjmgkllpcidhjaaGreatDoor
open Go.Ideal Rk
theorem Vr{l:List aG}{p:Int}{k:Nat}(h:k<(aL l p).length):∃i x,(aL l p)[k]? =some i/\l[i]? =some x/\lo (wl l p) k=x.lo/\hi (wl l p) k=x.hi:=by
 have hi:=bf h;have hlt:=rX hi;have hx:=bf hlt;obtain⟨a,b⟩:=M8 hi hx;exact⟨_,_,hi,hx,a,b⟩
theorem ints_at{l:List Nat}{k i:Nat}(h:l[k]? =some i){z:Int}(hz:(ints l)[k]? =some z):z=(i:Int):=by
 obtain⟨j,hj,e⟩:=yH hz;rw[h]at hj;cases hj;exact e
structure Nr where
 v:Value
 xs:List Int
theorem agR{vl vo:Value}{l:List aG}{s:aT}{p:Int}{i:Nat}(hr:∀x∈l,iW s x)(Eb:l.length<=32)(hn:(aL l p).length<=8)(hi:i<(aL l p).length):
 bD Tryz.prog (.func 66) [vl,vo,.int .i64 (i:Int)] [] [] [ah cO vl l,ah ae vo (ints (aL l p))] (λy:Nr=>y.v) (λ_=>[]) (λy=>[ah ae y.v y.xs]) (λy=>(∀x,x∈y.xs↔Dx (wl l p) i x)/\y.xs.length<=8*(aL l p).length):=by
 have hil:=tN (aL l p);have jX:=mY l p;obtain⟨i0,x0,hi0,hx0,hlo0,hhi0⟩:=Vr hi;refine aX _ (bN 66) λB w0=>?_;refine go ?_;intro _ _ z hz;obtain rfl:=ints_at hi0 hz;have ajB:=rX hi0;refine go ?_;refine bJ cO (k:=i0) (next:=λbx ox x _ hx=>?_);cases hx0.symm.trans hx;refine go ?_;intro b8;refine go ?_;refine nE ae ?_;refine bE (λy:Nat×Nr=>(aL l p).length - y.1) (λy=>[(9,.int .i64 (y.1:Int)),(7,y.2.v)]) (λy=>[ap ae y.2.v y.2.xs]) (λ_=>[]) (λy=>y.1<=(aL l p).length/\(∀x,x∈y.2.xs↔tQ (wl l p) i y.1 0 x)/\y.2.xs.length<=8*y.1) (0,⟨.slice none 0 0,[]⟩) ⟨bF _,λx=>⟨λh=>(by cases h),λh=>absurd h adg⟩,bF _⟩ (hk:=by repeat (first|exact aM.nil|(apply aM.cons;(focus (repeat (first|exact ai.here|apply ai.there)))))) (body:=?_);rintro⟨k,v,xs⟩ ⟨hk,hxs,hxl⟩;dsimp only at hk hxs hxl⊢;refine go ?_;refine aC rfl (λh1=>?_) (λh1=>?_)
 ·obtain⟨k0,z0,hk0,hz0,agS,ajC⟩:=Vr (l:=l) (p:=p) (k:=k) (by omega);have ajD:=rX hk0;have hok:=hr z0 (cZ hz0);have hz1:=hok.lo;have hz2:=hok.le;have hz3:=hok.hi;refine go ?_;refine bE (λy:Nat×Nr=>(aL l p).length - y.1) (λy=>[(10,.int .i64 (y.1:Int)),(7,y.2.v)]) (λy=>[ap ae y.2.v y.2.xs]) (λ_=>[]) (λy=>y.1<=(aL l p).length/\(∀x,x∈y.2.xs↔tQ (wl l p) i k y.1 x)/\y.2.xs.length<=8*k+y.1) (0,⟨v,xs⟩) ⟨bF _,hxs,hxl⟩ (hk:=by repeat (first|exact aM.nil|(apply aM.cons;(focus (repeat (first|exact ai.here|apply ai.there)))))) (body:=?_);rintro⟨d,v,xs⟩ ⟨hd,hxs,hxl⟩;dsimp only at hd hxs hxl⊢;refine go ?_;refine aC rfl (λh2=>?_) (λh2=>?_)
  ·have htd:∀x,tQ (wl l p) i k (d+1) x↔tQ (wl l p) i k d x\/(x=z0.lo+((d:Nat):Int)/\x0.lo<=x/\x<=x0.hi):=λx=>by rw[adh,agS,hlo0,hhi0]
   refine go ?_;intro _ _ z hz;obtain rfl:=ints_at hk0 hz;refine go ?_;refine bJ cO (k:=k0) (next:=λbx ox x _ hx=>?_);cases hz0.symm.trans hx;refine go ?_;refine cK (dG bx (ox+3) [.int .i64 z0.lo,.int .i64 z0.hi,.bool z0.r]) (λw hw=>Hz (m:=3) (hw _ (bz ..))) ?_;refine(rO (b:=bx) (o:=ox+3) (j:=0) (v:=.int .i64 z0.lo) rfl rfl rfl (bz ..) rfl).h ?_;refine go ?_;refine gG (λe1=>?_) (λe1=>?_)
   ·refine go ?_;exact aO (d+1,⟨v,xs⟩) (by show(aL l p).length - (d+1)<(aL l p).length - d;omega) ⟨by show d+1<=_;omega,λx=>by rw[htd,hxs];exact⟨.inl,λh=>h.elim id λh=>by omega⟩,by show xs.length<=8*k+(d+1);omega⟩
   refine go ?_;refine gG (λe2=>?_) (λe2=>?_)
   ·refine go ?_;exact aO (d+1,⟨v,xs⟩) (by show(aL l p).length - (d+1)<(aL l p).length - d;omega) ⟨by show d+1<=_;omega,λx=>by rw[htd,hxs];exact⟨.inl,λh=>h.elim id λh=>by omega⟩,by show xs.length<=8*k+(d+1);omega⟩
   refine go ?_;refine aD (agQ (xs:=xs) (z:=z0.lo+((d:Nat):Int)) (by omega)) (next:=λ_ _=>?_);refine go ?_;refine KG rfl (λe3=>?_) (λe3=>?_)
   ·refine go ?_;intro b61;refine go ?_;refine nH (xs:=xs) ae (z0.lo+((d:Nat):Int)) () (by omega) (next:=λad=>?_);refine go ?_;refine aO (d+1,⟨.slice ad (xs.length+1) (xs.length+1),xs++[z0.lo+((d:Nat):Int)]⟩) (by show(aL l p).length - (d+1)<(aL l p).length - d;omega) ⟨by show d+1<=_;omega,λx=>?_,by show(xs++[_]).length<=8*k+(d+1);rw[dW,qm];omega⟩;show x∈xs++[_]↔_;rw[htd,gy,hxs,di];exact⟨λh=>h.imp id λh=>⟨h,by omega,by omega⟩,λh=>h.imp id λh=>h.1⟩
   ·refine go ?_;refine aO (d+1,⟨v,xs⟩) (by show(aL l p).length - (d+1)<(aL l p).length - d;omega) ⟨by show d+1<=_;omega,λx=>?_,by show xs.length<=8*k+(d+1);omega⟩;show x∈xs↔_;rw[htd];exact⟨λh=>.inl ((hxs x).1 h),λh=>h.elim (hxs x).2 λh=>by rw[h.1];exact e3⟩
  have hdl:d=(aL l p).length:=by omega
  subst hdl;refine go ?_;exact aO (k+1,⟨v,xs⟩) (by show(aL l p).length - (k+1)<(aL l p).length - k;omega) ⟨by show k+1<=_;omega,λx=>by rw[<- adi,jX];exact hxs x,by show xs.length<=8*(k+1);omega⟩
 have hkl:k=(aL l p).length:=by omega
 subst hkl;refine go ?_;refine bG (A:=ap ae v xs) (fs:=[ah ae v xs]) pX (h:=?_);exact aj ⟨v,xs⟩ (hv:=rfl) (hp:=⟨λx=>by rw[<- adj,jX];exact hxs x,hxl⟩)
section
variable {P:Program} {B:List Nat} {w0:Wd} {kl kl':List OA} {F:List aK} {K:KO} {ds:List Tmp} {rest:List aY} {n:Nat} {l:List (Nat×Value)} {D:List Deferred} {pm:Option FrameMode} {ro:Option Nat} {d:Nat} {g:Option (Tmp×Bool)}
theorem agT{e:TypeId}{bytes:Nat}{s x:Operand}{v:Value}{xs:List Int}(hm:xs.length*bytes<=1073741824/\xs.length<=1073741824)
 (next:∀a,R (λh=>aB P ds rest (act n ((d,.slice a xs.length xs.length)::l) D pm ro) h K) B w0 (ap ae (.slice a xs.length xs.length) xs::kl) F)
 (hs:ev l s=.slice none 0 0:=by rfl) (hx:ev l x=v:=by conv=>lhs;whnf) (hf:ah ae v xs∈F:=by exact oF) (hn:Nat.blt d n=true:=by rfl) (hg:bH l g=true:=by rfl):
 R (λh=>aB P ds (⟨⟨some d,g,.append e 1 bytes s x⟩,[]⟩::rest) (act n l D pm ro) h K) B w0 kl F:=by
 by_cases h0:xs=[]
 ·subst h0;refine gH (E:=ae) (v:=v) (xs:=[]) hf λa c ea=>?_;subst ea;refine(bO hn hg (Q4 hs (hx.trans rfl))).h ?_;exact nE ae (next none)
 ·refine UU (xs:=xs) (o9.2 h0) hm (λb'=>?_) hs hx hf hn hg;exact λw st=>next _ w (st.nD λS hp=>.inr ⟨b',0,1,_,rfl,.inr rfl,hp.1,hp.2,by rw[bC];show _=0+xs.length*1;omega,λk x hk=>⟨(),λj u hj=>by
   match j,hj with
   |0,hj=>
    cases hj;rw[show 0+k*ae.n+0=k by show 0+k*1+0=k;omega,bX,hk];rfl,λf hf=>by cases hf⟩⟩)
end
theorem Vs{i:Nat}(h:i<=4):32^i<=1048576:=dz (Nat.pow_le_pow_right (by decide) h) (by decide)
theorem agU{W:List (Int×Int)}(htop:∀i,i<W.length->hi W i<=kv)(h0:∀i,i<W.length->0<=lo W i)(hn:W.length<=4){all:List (List Int)}(h:∀ts,ts∈all↔Cut W W.length ts)(k:Nat):
 (∀t∈gI ((all.take k).map places),t.length=W.length)/\(gI ((all.take k).map places)).length<=256:=by
 have hl:∀t∈(all.take k).map places,t.length=W.length:=λt ht=>by
  obtain⟨u,hu,rfl⟩:=jQ.1 ht;rw[yD,((h u).1 (y7 hu)).len]
 refine⟨λt ht=>hl t ((uV _).1 ht),?_⟩;have:=wL (a:=gI ((all.take k).map places)) (b:=jd W) (AA _ hl).nodup λt ht=>by
  obtain⟨u,hu,rfl⟩:=jQ.1 ((uV _).1 ht);exact(Sv htop h0).2 ⟨u,(h u).1 (y7 hu),rfl⟩
 exact dz this (Gj htop hn)
theorem agV{vl vo:Value}{l:List aG}{s:aT}{p:Int}(hr:∀x∈l,iW s x)(Eb:l.length<=32)(hn:(aL l p).length<=4):
 bD Tryz.prog (.func 48) [vl,vo] [] [] [ah cO vl l,ah ae vo (ints (aL l p))] (λv:Value=>v) (λ_=>[]) (λv=>[ah (aI ae) v (jv (wl l p))]) (λ_=>True):=by
 have hil:=tN (aL l p);have jX:=mY l p;have htop:∀i,i<(wl l p).length->hi (wl l p) i<=kv:=λi hi=>(mZ hr hi).2.2;have hlo:∀i,i<(wl l p).length->0<=lo (wl l p) i:=λi hi=>(mZ hr hi).1;refine aX _ (bN 48) λB w0=>?_;refine go ?_;intro b14;refine bG (eP (b:=b14)) (h:=?_);refine cK (ah (aI ae) (.slice (some ⟨b14,0,some 0⟩) 1 1) [([]:List Int)]) (λw hw=>Eh (hw _ (bz ..)) (uf w)) ?_;refine go ?_;refine bE (λy:Nat×Value×List (List Int)=>(aL l p).length - y.1) (λy=>[(6,.int .i64 (y.1:Int)),(5,y.2.1)]) (λ_=>[]) (λy=>[ah (aI ae) y.2.1 y.2.2]) (λy=>y.1<=(aL l p).length/\(∀ts,ts∈y.2.2↔Cut (wl l p) y.1 ts)/\y.2.2.length<=32^y.1)
  (0,.slice (some ⟨b14,0,some 0⟩) 1 1,[[]]) ⟨bF _,λts=>ade,by simp⟩ (body:=?_)
 rintro⟨i,va,all⟩ ⟨hi,hall,hal⟩;dsimp only at hi hall hal⊢;have ajF:=Vs (i:=i) (by omega);refine go ?_;refine aC rfl (λh1=>?_) (λh1=>?_)
 ·have hps:32^(i+1)=32^i*32:=Nat.pow_succ ..;have ajG:=Vs (i:=i+1) (by omega);refine go ?_;refine aD (agR (vl:=vl) (vo:=vo) (l:=l) (s:=s) (p:=p) (i:=i) hr Eb (by omega) (by omega)) (next:=λy hy=>?_);obtain⟨vm,may⟩:=y;obtain⟨hmay,hml⟩:=hy;dsimp only at hmay hml⊢;have hnx:=λk=>adn all may k;refine go ?_;refine nE (aI ae) ?_;refine bE (λy:Nat×Value=>all.length - y.1) (λy=>[(9,.int .i64 (y.1:Int)),(8,y.2)]) (λy=>[ap (aI ae) y.2 (qd all may y.1)]) (λ_=>[]) (λy=>y.1<=all.length) (0,.slice none 0 0) (bF _) (hk:=by
   show aM [ap (aI ae) (.slice none 0 0) []] _ _;repeat (first|exact aM.nil|(apply aM.cons;(focus (repeat (first|exact ai.here|apply ai.there)))))) (body:=?_)
  rintro⟨k,vn⟩ hk;dsimp only at hk⊢;have hnk:=hnx k;have hkm:k*may.length<=1048576*32:=xC (by omega) (by omega);refine go ?_;refine aC rfl (λh2=>?_) (λh2=>?_)
  ·have hu:all[k]? =some (all[k]'(by omega)):=bf _;have ug:=((hall _).1 (cZ hu)).len;generalize all[k]'(by omega)=u at hu ug;refine go ?_;refine bE (λy:Nat×Value=>may.length - y.1) (λy=>[(10,.int .i64 (y.1:Int)),(8,y.2)]) (λy=>[ap (aI ae) y.2 (r9 all may u k y.1)]) (λ_=>[]) (λy=>y.1<=may.length) (0,vn) (bF _) (hk:=by
    rw[adk];repeat (first|exact aM.nil|(apply aM.cons;(focus (repeat (first|exact ai.here|apply ai.there)))))) (body:=?_)
   rintro⟨j,vn⟩ hj;dsimp only at hj⊢;have hbl:(r9 all may u k j).length<=1048576*32+32:=by
    unfold r9;rw[dW,bC,dw];omega
   refine go ?_;refine aC rfl (λh3=>?_) (λh3=>?_)
   ·refine go ?_;refine bJ (aI ae) (k:=k) (next:=λ_ _ u' (vu:Value) hu'=>?_);cases hu.symm.trans hu';refine go ?_;refine agT (xs:=u) (by omega) (λa=>?_);refine go ?_;intro _ _ x hx;refine go ?_;intro b49;refine go ?_;refine nH (xs:=u) ae x () (by omega) (next:=λad=>?_);refine go ?_;intro Ho;refine bG (A:=ap ae (.slice ad (u.length+1) (u.length+1)) (u++[x])) (fs:=[ah ae (.slice ad (u.length+1) (u.length+1)) (u++[x])]) pX (h:=?_);refine go ?_;refine nH (xs:=r9 all may u k j) (aI ae) (u++[x]) (.slice ad (u.length+1) (u.length+1)) (by omega) (next:=λad2=>?_);rw[<- adl hx];refine go ?_;exact aO (j+1,_) (by show may.length - (j+1)<may.length - j;omega) (by show j+1<=_;omega)
   have hjl:j=may.length:=by omega
   subst hjl;rw[adm hu];refine go ?_;exact aO (k+1,vn) (by show all.length - (k+1)<all.length - k;omega) (by show k+1<=_;omega)
  have hkl:k=all.length:=by omega
  subst hkl;refine bG (A:=ap (aI ae) vn (qd all may all.length)) (fs:=[ah (aI ae) vn (qd all may all.length)]) pX (h:=?_);refine go ?_;exact aO (i+1,vn,qd all may all.length) (by show(aL l p).length - (i+1)<(aL l p).length - i;omega) ⟨by show i+1<=_;omega,ado hall hmay,by
   show(qd all may all.length).length<=32^(i+1);rw[hps];exact dz hnk (xC hal (by omega))⟩
 have hin:i=(wl l p).length:=by omega
 subst hin;have hpre:=agU htop hlo (by omega) hall;refine go ?_;refine cK (ah (aI ae) (.slice none 0 0) (gI ((all.take 0).map places))) (λw _=>uf w) ?_;refine bE (λy:Nat×Value=>all.length - y.1) (λy=>[(13,.int .i64 (y.1:Int)),(12,y.2)]) (λ_=>[]) (λy=>[ah (aI ae) y.2 (gI ((all.take y.1).map places))]) (λy=>y.1<=all.length) (0,.slice none 0 0) (bF _) (body:=?_);rintro⟨k,vs⟩ hk;dsimp only at hk⊢;refine go ?_;refine aC rfl (λh2=>?_) (λh2=>?_)
 ·refine go ?_;refine bJ (aI ae) (k:=k) (next:=λ_ _ u (vu:Value) hu=>?_);have ug:=((hall _).1 (cZ hu)).len;have hpl:=yD (ts:=u);refine go ?_;refine aD (af7 (ts:=u) (by omega)) (next:=λvp _=>?_);refine go ?_;refine aD (Vq (l:=gI ((all.take k).map places)) (x:=places u) (by have:=(hpre k).2;omega) (by omega) (λt ht=>by rw[(hpre k).1 t ht];omega)) (next:=λvs' _=>?_);rw[<- Du,show(all.take k).map places++[places u]=(all.take (k+1)).map places by rw[dx hu,fH];rfl];refine go ?_;exact aO (k+1,vs') (by show all.length - (k+1)<all.length - k;omega) (by show k+1<=_;omega)
 have hkl:k=all.length:=by omega
 subst hkl;rw[fK,adp htop hlo hall];refine go ?_;exact aj vs (hv:=rfl) (hp:=trivial)
