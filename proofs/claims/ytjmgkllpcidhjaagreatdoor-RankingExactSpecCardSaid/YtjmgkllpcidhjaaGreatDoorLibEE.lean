/-
  Sheets and results: ranking.Check, counted.
-/
import Derived.Test.YtjmgkllpcidhjaaGreatDoorLibDE
set_option linter.all false
set_option maxRecDepth 10000
set_option maxHeartbeats 4000000
namespace Go.Proofs.YtjmgkllpcidhjaaGreatDoor
open Go.Ideal Rk
def eH:Enc bE:=⟨6,Unit,λx _=>[.int .i64 x.c,.int .i64 x.p,.int .i64 x.t,.int .i64 x.lo,.int .i64 x.hi,.bool x.r],λ_ _=>[],λ_ _=>rfl⟩
abbrev ou(s:dm)(v1 v2 v3 v4:Value):List Value:=[.int .i64 s.c,.int .i64 s.p,v1,v2,v3,v4]
theorem Vv{b3 b4:Nat}{lo hi x:Int}:Bb Tryz.prog (.func 58) [] [ptr' b3,ptr' b4] (.int .i64 x) [dK b3 0 [.int .i64 lo],dK b4 0 [.int .i64 hi]] (decide (x<lo\/hi<x)):=by
 refine bq _ (bP 58) λB w0=>?_;refine go ?_;refine gG (λh1=>?_) (λh1=>?_)
 ·refine go ?_;refine av () (hv:=?_) (hp:=trivial);rw[show decide (x<lo\/hi<x)=decide (hi<x)from decide_eq_decide.2 ⟨λh=>h.elim (λh=>absurd h h1) id,.inr⟩];rfl
 refine go ?_;refine av () (hv:=?_) (hp:=trivial);rw[gL (.inl h1)];rfl
theorem yI{lo hi:Int}{va:Value}{xs:List Int}(hl:xs.length<9223372036854775808):fG Tryz.prog 38 [.int .i64 lo,.int .i64 hi,va] [ah au va xs] (.bool (p9 xs lo hi)):=by
 refine bq _ (bP 38) λB w0=>?_;refine go ?_;intro b3 b4;refine dB (kL (b:=b3)) (h:=?_);refine dB (kL (b:=b4)) (h:=?_);refine go ?_;refine aF (KV (xs:=xs) (p:=λx=>decide (x<lo\/hi<x)) hl (λx _=>Vv (b3:=b3) (b4:=b4))) (next:=λ_ _=>?_);refine go ?_;exact av () (hv:=rfl) (hp:=trivial)
theorem yJ{lo hi x:Int}{b:Nat}:fG Tryz.prog 38 [.int .i64 lo,.int .i64 hi,.slice (some ⟨b,0,some 0⟩) 1 1] [ah au (.slice (some ⟨b,0,some 0⟩) 1 1) [x]] (.bool (p9 [x] lo hi)):=yI (by simp)
theorem Lp{s:dm}{v1 v2 v3 v4 vl:Value}{l:List bE}(hb1:s.lv.length<9223372036854775808)(hb2:s.cl.length<9223372036854775808)(hb3:s.pz.length<9223372036854775808)(hx1:cellsOf v1=some [v1])(hx2:cellsOf v2=some [v2])(hx3:cellsOf v3=some [v3])(hx4:cellsOf v4=some [v4]):
 bJ Tryz.prog (.func 13) [.agg ⟨ou s v1 v2 v3 v4⟩,vl] [] [] [mX 0 og,ah au v1 s.lv,ah au v2 s.cl,ah fV v3 s.pg,ah au v4 s.pz,ah eH vl l] (λy:Int=>.int .i64 y) (λ_=>[]) (λ_=>[]) (λy=>y=fT s l):=by
 refine bq _ (bP 13) λB w0=>?_;refine go ?_;intro b2;refine go ?_;refine aJ rfl (λh1=>?_) (λh1=>?_)
 ·refine go ?_;exact av 2 (hv:=rfl) (hp:=(Ka (by omega)).symm)
 refine go ?_;refine aF (Lh (ws:=s.pg)) (next:=λy hy=>?_);refine go ?_;refine aJ rfl (λh2=>?_) (λh2=>?_)
 ·refine go ?_;refine av y (hv:=rfl) (hp:=?_);have hno:¬dD s.pg:=λh=>h2 (hy.1 h);rw[Kb (by omega) hno];exact hy.2 hno
 have hp:dD s.pg:=Classical.byContradiction λh=>by have:=hy.2 h;omega
 refine go ?_;intro b20;refine dB (A:=pt b20 (.cells [.int .i64 s.c])) (fs:=[ah au (.slice (some ⟨b20,0,some 0⟩) 1 1) [s.c]]) (l8 (b:=b20) (f:=0) (c:=1) (xs:=[s.c])) (h:=?_);refine aF (yJ (b:=b20) (x:=s.c)) (next:=λ_ _=>?_);refine go ?_;refine gG (λg1=>?_) (λg1=>?_)
 ·refine go ?_;refine av 530 (hv:=rfl) (hp:=?_);refine(jY (by omega) hp λhs hr=>?_).symm;exact qa g1 (oo.2 ⟨hs.c1,hs.c8⟩)
 refine go ?_;intro Bp;refine dB (A:=pt Bp (.cells [.int .i64 s.p])) (fs:=[ah au (.slice (some ⟨Bp,0,some 0⟩) 1 1) [s.p]]) (l8 (b:=Bp) (f:=0) (c:=1) (xs:=[s.p])) (h:=?_);refine aF (yJ (b:=Bp) (x:=s.p)) (next:=λ_ _=>?_);refine go ?_;refine gG (λg2=>?_) (λg2=>?_)
 ·refine go ?_;refine av 530 (hv:=rfl) (hp:=?_);refine(jY (by omega) hp λhs hr=>?_).symm;exact qa g2 (oo.2 ⟨hs.p1,hs.p8⟩)
 have g1:=oo.1 (iX.1 g1);have g2:=oo.1 (iX.1 g2);refine go ?_;refine gG (λg3=>?_) (λg3=>?_)
 ·refine go ?_;refine av 530 (hv:=rfl) (hp:=?_);refine(jY (by omega) hp λhs hr=>?_).symm;exact g3 hs.lv
 refine go ?_;refine gG (λg4=>?_) (λg4=>?_)
 ·refine go ?_;refine av 530 (hv:=rfl) (hp:=?_);refine(jY (by omega) hp λhs hr=>?_).symm;exact g4 hs.cl
 refine go ?_;refine gG (λg5=>?_) (λg5=>?_)
 rotate_left
 ·refine go ?_;refine av 530 (hv:=rfl) (hp:=?_);refine(jY (by omega) hp λhs hr=>?_).symm;have:=hs.pz;omega
 refine go ?_;refine aF (yI (xs:=s.lv) (lo:=0) (hi:=9) hb1) (next:=λ_ _=>?_);refine go ?_;refine gG (λg6=>?_) (λg6=>?_)
 rotate_left
 ·refine go ?_;refine av 530 (hv:=rfl) (hp:=?_);refine(jY (by omega) hp λhs hr=>?_).symm;exact qa (by simpa using g6) hs.AQ
 refine go ?_;refine aF (yI (xs:=s.cl) (lo:=0) (hi:=512) hb2) (next:=λ_ _=>?_);refine go ?_;refine gG (λg7=>?_) (λg7=>?_)
 rotate_left
 ·refine go ?_;refine av 530 (hv:=rfl) (hp:=?_);refine(jY (by omega) hp λhs hr=>?_).symm;exact qa (by simpa using g7) hs.AU
 refine go ?_;refine aF (yI (xs:=s.pz) (lo:=0) (hi:=1048576) hb3) (next:=λ_ _=>?_);refine go ?_;refine jr rfl (λg8=>?_) (λg8=>?_)
 ·refine go ?_;refine av 530 (hv:=rfl) (hp:=?_);refine(jY (by omega) hp λhs hr=>?_).symm;exact qa (by simpa using g8) hs.J9
 have hsh:ym s:=⟨g1.1,g1.2,g2.1,g2.2,g3,g4,by omega,iX.1 (by simpa using g6),iX.1 (by simpa using g7),iX.1 (by simpa using g8)⟩
 refine go ?_;refine dZ (λk=>l.length - k) (λk:Nat=>[(72,.int .i64 (k:Int))]) (λ_=>[]) (λ_=>[]) (λk=>k<=l.length/\∀x∈l.take k,rA s x) 0 ⟨dz _,by simp⟩ (body:=?_);rintro k ⟨hk,hok⟩;refine go ?_;refine aJ rfl (λh3=>?_) (λh3=>?_)
 ·refine go ?_;refine dh eH (k:=k) (next:=λbx ox x _ hx=>?_);have hxm:=dG hx;refine go ?_;intro b8;refine go ?_;intro Bq;refine dB (A:=pt Bq (.cells [.int .i64 x.c])) (fs:=[ah au (.slice (some ⟨Bq,0,some 0⟩) 1 1) [x.c]]) (l8 (b:=Bq) (f:=0) (c:=1) (xs:=[x.c])) (h:=?_);refine aF (yJ (b:=Bq) (x:=x.c)) (next:=λ_ _=>?_);refine go ?_;refine gG (λf1=>?_) (λf1=>?_)
  rotate_left
  ·refine go ?_;refine av 530 (hv:=rfl) (hp:=?_);refine(jY (by omega) hp λhs hr=>?_).symm;exact qa (by simpa using f1) (oo.2 ⟨(hr x hxm).c0,by have:=(hr x hxm).c1;omega⟩)
  have f1:=oo.1 (iX.1 (by simpa using f1));refine go ?_;intro Br;refine dB (A:=pt Br (.cells [.int .i64 x.p])) (fs:=[ah au (.slice (some ⟨Br,0,some 0⟩) 1 1) [x.p]]) (l8 (b:=Br) (f:=0) (c:=1) (xs:=[x.p])) (h:=?_);refine aF (yJ (b:=Br) (x:=x.p)) (next:=λ_ _=>?_);refine go ?_;refine gG (λf2=>?_) (λf2=>?_)
  rotate_left
  ·refine go ?_;refine av 530 (hv:=rfl) (hp:=?_);refine(jY (by omega) hp λhs hr=>?_).symm;exact qa (by simpa using f2) (oo.2 ⟨(hr x hxm).p0,by have:=(hr x hxm).p1;omega⟩)
  have f2:=oo.1 (iX.1 (by simpa using f2));refine go ?_;intro Bt;refine dB (A:=pt Bt (.cells [.int .i64 x.t])) (fs:=[ah au (.slice (some ⟨Bt,0,some 0⟩) 1 1) [x.t]]) (l8 (b:=Bt) (f:=0) (c:=1) (xs:=[x.t])) (h:=?_);refine aF (yJ (b:=Bt) (x:=x.t)) (next:=λ_ _=>?_);refine go ?_;refine gG (λf3=>?_) (λf3=>?_)
  rotate_left
  ·refine go ?_;refine av 530 (hv:=rfl) (hp:=?_);refine(jY (by omega) hp λhs hr=>?_).symm;exact qa (by simpa using f3) (oo.2 ⟨(hr x hxm).t0,(hr x hxm).t1⟩)
  have f3:=oo.1 (iX.1 (by simpa using f3));refine go ?_;refine gG (λf4=>?_) (λf4=>?_)
  rotate_left
  ·refine go ?_;refine av 530 (hv:=rfl) (hp:=?_);refine(jY (by omega) hp λhs hr=>?_).symm;have:=(hr x hxm).le;omega
  refine go ?_;intro vT;refine dB (A:=pt vT (.cells [.int .i64 x.lo,.int .i64 x.hi])) (fs:=[ah au (.slice (some ⟨vT,0,some 0⟩) 2 2) [x.lo,x.hi]]) (l8 (b:=vT) (f:=0) (c:=2) (xs:=[x.lo,x.hi])) (h:=?_);refine aF (yI (xs:=[x.lo,x.hi]) (lo:=0) (hi:=1048576) (by simp)) (next:=λ_ _=>?_);refine go ?_;refine jr rfl (λf5=>?_) (λf5=>?_)
  ·refine go ?_;refine av 530 (hv:=rfl) (hp:=?_);refine(jY (by omega) hp λhs hr=>?_).symm;exact qa (by simpa using f5) (Kl.2 ⟨⟨(hr x hxm).lo,by have:=(hr x hxm).le;have:=(hr x hxm).hi;omega⟩,by have:=(hr x hxm).lo;have:=(hr x hxm).le;omega,(hr x hxm).hi⟩)
  have f5:=Kl.1 (iX.1 (by simpa using f5));refine go ?_;refine bC (k+1) (by omega) ⟨by omega,λy hy=>?_⟩;rw[eT hx]at hy;rcases gZ.1 hy with hy|hy
  ·exact hok y hy
  ·rw[dH.1 hy];exact⟨f1.1,by omega,f2.1,by omega,f3.1,f3.2,f5.1.1,by omega,f5.2.2⟩
 have hkl:k=l.length:=by omega
 subst hkl;rw[jc]at hok;refine go ?_;exact av 0 (hv:=rfl) (hp:=(Kc ⟨by omega,hp,hsh,hok⟩).symm)
theorem Lr{α β:Type}[DecidableEq α](a b:α)(v:β):∀m:List (α×β),nY a (upd b v m)=if a=b then some v else nY a m
 |[]=>rfl
 |(k,w)::m=>by
  have hc:∀(x:α) (u:β) (r:List (α×β)),nY a ((x,u)::r)=if a=x then some u else nY a r:=λ_ _ _=>rfl
  unfold upd;by_cases e:b=k
  ·rw[if_pos e,hc,hc];by_cases e2:a=b
   ·rw[if_pos e2,if_pos e2]
   ·rw[if_neg e2,if_neg e2,if_neg (λe3=>e2 (e3.trans e.symm))]
  ·rw[if_neg e,hc,hc,Lr a b v m];by_cases e2:a=k
   ·rw[if_pos e2,if_pos e2,if_neg (λe3=>e (e3.symm.trans e2))]
   ·rw[if_neg e2,if_neg e2]
def rJ(xs:List Int):List (Int×Value):=xs.foldl (λm c=>upd c (.bool true) m) []
theorem Ls(xs:List Int)(c:Int):rJ (xs++[c])=upd c (.bool true) (rJ xs):=by
 unfold rJ;rw[List.foldl_append];rfl
theorem Vw(c:Int)(n:Nat):∀xs:List Int,xs.length=n->nY c (rJ xs)=if c∈xs then some (.bool true)else none:=by
 induction n with
 |zero=>
  intro xs h;rw[nA.1 h];rfl
 |succ n ih=>
  intro xs h;obtain⟨ys,p,rfl⟩:∃ys p,xs=ys++[p]:=⟨xs.dropLast,xs.getLast (by intro e;rw[e]at h;cases h),(List.dropLast_concat_getLast _).symm⟩
  rw[Ls,Lr,ih ys (by simpa using h)];by_cases e:c=p
  ·subst e;simp
  ·simp[e]
theorem Vx(c:Int)(xs:List Int):Ar false (.bool false) c (rJ xs)=.bool (decide (c∈xs)):=by
 unfold Ar;rw[Vw c _ xs rfl];by_cases e:c∈xs
 ·rw[if_pos e,gL e];rfl
 ·rw[if_neg e,jS e];rfl
abbrev yK(n:Int):Value:=.int .i64 n
theorem Lt:vH Tryz.prog 3 yK:=Sa (by kernel_rfl)
theorem Vy{vl:Value}{l:List bE}{p:Int}(hl:l.length<=1000000):bJ Tryz.prog (.func 31) [vl,.int .i64 p] [] [] [ah eH vl l] (λv:Value=>v) (λ_=>[]) (λv=>[ah au v (ints (aL l p))]) (λ_=>True):=by
 refine bq _ (bP 31) λB w0=>?_;refine go ?_;refine Sd yK (λbm=>?_);refine go ?_;refine u7 au ?_;refine dZ (λy:Nat×Value=>l.length - y.1) (λy=>[(11,.int .i64 (y.1:Int)),(4,y.2)]) (λy=>[ap au y.2 (ints (dI l p y.1)),qZ yK bm (rJ (iW l p y.1))]) (λ_=>[]) (λy=>y.1<=l.length) (0,.slice none 0 0) (dz _) (hk:=by repeat (first|exact bI.nil|(apply bI.cons;(focus (repeat (first|exact ak.here|apply ak.there)))))) (body:=?_);rintro⟨k,v⟩ hk;dsimp only at hk⊢;have hcl:=Ff l p k;have hil:=vP (dI l p k);refine go ?_;refine aJ rfl (λh1=>?_) (λh1=>?_)
 ·refine go ?_;refine dh eH (k:=k) (next:=λbx ox x _ hx=>?_);have hF:=TW (p:=p) hx;have hgd:l.getD k dR=x:=by rw[si,hx];rfl
  have hm:=Kj l p k;have hc:=Fe l p k;refine go ?_;intro b7;refine go ?_;refine gG (λg1=>?_) (λg1=>?_)
  ·have hf:iI l p k=false:=by rw[hF,g1];rfl
   rw[hf]at hm hc;rw[show dI l p k=dI l p (k+1)from hc.symm,show iW l p k=iW l p (k+1)from hm.symm];refine go ?_;exact bC (k+1,v) (by show l.length - (k+1)<l.length - k;omega) (by show k+1<=_;omega)
  refine go ?_;refine gG (λg2=>?_) (λg2=>?_)
  ·have hf:iI l p k=false:=by rw[hF,g1,jS g2];rfl
   rw[hf]at hm hc;rw[show dI l p k=dI l p (k+1)from hc.symm,show iW l p k=iW l p (k+1)from hm.symm];refine go ?_;exact bC (k+1,v) (by show l.length - (k+1)<l.length - k;omega) (by show k+1<=_;omega)
  refine go ?_;refine Sg (bK:=yK) (b:=bm) (aY:=rJ (iW l p k)) Lt x.c ?_;rw[Vx];refine go ?_;refine Q9 rfl (λg3=>?_) (λg3=>?_)
  ·have hf:iI l p k=true:=by rw[hF,g1,gL g2,jS g3];rfl
   rw[hf,hgd]at hm;rw[hf]at hc;refine go ?_;refine Si (bK:=yK) (b:=bm) (v:=.bool true) (aY:=rJ (iW l p k)) Lt x.c ?_;rw[<- Ls,show iW l p k++[x.c]=iW l p (k+1)from hm.symm];refine go ?_;intro XP;refine go ?_;refine tC (xs:=ints (dI l p k)) au (k:Int) () (by omega) (next:=λad=>?_);rw[<- Fh,show dI l p k++[k]=dI l p (k+1)from hc.symm];refine go ?_;exact bC (k+1,.slice ad ((ints (dI l p k)).length+1) ((ints (dI l p k)).length+1)) (by show l.length - (k+1)<l.length - k;omega) (by show k+1<=_;omega)
  ·have hf:iI l p k=false:=by rw[hF,g1,gL g2,gL g3];rfl
   rw[hf]at hm hc;rw[show dI l p k=dI l p (k+1)from hc.symm,show iW l p k=iW l p (k+1)from hm.symm];refine go ?_;exact bC (k+1,v) (by show l.length - (k+1)<l.length - k;omega) (by show k+1<=_;omega)
 have hkl:k=l.length:=by omega
 subst hkl;refine go ?_;rw[show dI l p l.length=aL l p from rfl];refine dB (A:=ap au v (ints (aL l p))) (fs:=[ah au v (ints (aL l p))]) u6 (h:=?_);exact av v (hv:=rfl) (hp:=trivial)
