/-
  Sheets and results: ranking.Check, counted.
-/
import Derived.Test.YtbdaaopebgcnaaaGreatDoorLibDM
set_option linter.all false
set_option maxRecDepth 10000
set_option maxHeartbeats 4000000
namespace Go.Proofs.YtbdaaopebgcnaaaGreatDoor
open Go.Ideal Rk
def aZ:Enc ak:=⟨6,Unit,λx _=>[.int .i64 x.c,.int .i64 x.p,.int .i64 x.t,.int .i64 x.lo,.int .i64 x.hi,.bool x.r],λ_ _=>[],λ_ _=>rfl⟩
abbrev jD(s:aK)(v1 v2 v3 v4:Value):List Value:=[.int .i64 s.c,.int .i64 s.p,v1,v2,v3,v4]
theorem afl{b3 b4:Nat}{lo hi x:Int}:xO Tryz.prog (.func 82) [] [ptr' b3,ptr' b4] (.int .i64 x) [bW b3 0 [.int .i64 lo],bW b4 0 [.int .i64 hi]] (decide (x<lo\/hi<x)):=by
 refine aT _ (bz 82) λB w0=>?_;refine go ?_;refine gG (λh1=>?_) (λh1=>?_)
 ·refine go ?_;refine aj () (hv:=?_) (hp:=trivial);rw[show decide (x<lo\/hi<x)=decide (hi<x)from zA.2 ⟨λh=>h.elim (λh=>absurd h h1) id,.inr⟩];rfl
 refine go ?_;refine aj () (hv:=?_) (hp:=trivial);rw[eP (.inl h1)];rfl
theorem D7{lo hi:Int}{va:Value}{xs:List Int}(hl:xs.length<9223372036854775808):gy Tryz.prog 64 [.int .i64 lo,.int .i64 hi,va] [ae ah va xs] (.bool (vQ xs lo hi)):=by
 refine aT _ (bz 64) λB w0=>?_;refine go ?_;intro b3 b4;refine bP (fQ (b:=b3)) (h:=?_);refine bP (fQ (b:=b4)) (h:=?_);refine go ?_;refine aB (M3 (xs:=xs) (p:=λx=>decide (x<lo\/hi<x)) hl (λx _=>afl (b3:=b3) (b4:=b4))) (next:=λ_ _=>?_);refine go ?_;exact aj () (hv:=rfl) (hp:=trivial)
theorem D8{lo hi x:Int}{b:Nat}:gy Tryz.prog 64 [.int .i64 lo,.int .i64 hi,.slice (some ⟨b,0,some 0⟩) 1 1] [ae ah (.slice (some ⟨b,0,some 0⟩) 1 1) [x]] (.bool (vQ [x] lo hi)):=D7 (by simp)
theorem Ng{s:aK}{v1 v2 v3 v4 vl:Value}{l:List ak}(hb1:s.lv.length<9223372036854775808)(hb2:s.cl.length<9223372036854775808)(hb3:s.pz.length<9223372036854775808)(hx1:cellsOf v1=some [v1])(hx2:cellsOf v2=some [v2])(hx3:cellsOf v3=some [v3])(hx4:cellsOf v4=some [v4]):
 aX Tryz.prog (.func 38) [.agg ⟨jD s v1 v2 v3 v4⟩,vl] [] [] [l6 0 mU,ae ah v1 s.lv,ae ah v2 s.cl,ae fP v3 s.pg,ae ah v4 s.pz,ae aZ vl l] (λy:Int=>.int .i64 y) (λ_=>[]) (λ_=>[]) (λy=>y=dL s l):=by
 refine aT _ (bz 38) λB w0=>?_;refine go ?_;intro b2;refine go ?_;refine aC rfl (λh1=>?_) (λh1=>?_)
 ·refine go ?_;exact aj 2 (hv:=rfl) (hp:=(SV (by omega)).symm)
 refine go ?_;refine aB (UD (ws:=s.pg)) (next:=λy hy=>?_);refine go ?_;refine aC rfl (λh2=>?_) (λh2=>?_)
 ·refine go ?_;refine aj y (hv:=rfl) (hp:=?_);have hno:¬fI s.pg:=λh=>h2 (hy.1 h);rw[SX (by omega) hno];exact hy.2 hno
 have hp:fI s.pg:=Classical.byContradiction λh=>by have:=hy.2 h;omega
 refine go ?_;intro b20;refine bP (A:=pt b20 (.cells [.int .i64 s.c])) (fs:=[ae ah (.slice (some ⟨b20,0,some 0⟩) 1 1) [s.c]]) (pF (b:=b20) (f:=0) (c:=1) (xs:=[s.c])) (h:=?_);refine aB (D8 (b:=b20) (x:=s.c)) (next:=λ_ _=>?_);refine go ?_;refine gG (λg1=>?_) (λg1=>?_)
 ·refine go ?_;refine aj 530 (hv:=rfl) (hp:=?_);refine(ol (by omega) hp λhs hr=>?_).symm;exact vR g1 (uK.2 ⟨hs.c1,hs.c8⟩)
 refine go ?_;intro IG;refine bP (A:=pt IG (.cells [.int .i64 s.p])) (fs:=[ae ah (.slice (some ⟨IG,0,some 0⟩) 1 1) [s.p]]) (pF (b:=IG) (f:=0) (c:=1) (xs:=[s.p])) (h:=?_);refine aB (D8 (b:=IG) (x:=s.p)) (next:=λ_ _=>?_);refine go ?_;refine gG (λg2=>?_) (λg2=>?_)
 ·refine go ?_;refine aj 530 (hv:=rfl) (hp:=?_);refine(ol (by omega) hp λhs hr=>?_).symm;exact vR g2 (uK.2 ⟨hs.p1,hs.p8⟩)
 have g1:=uK.1 (mg.1 g1);have g2:=uK.1 (mg.1 g2);refine go ?_;refine gG (λg3=>?_) (λg3=>?_)
 ·refine go ?_;refine aj 530 (hv:=rfl) (hp:=?_);refine(ol (by omega) hp λhs hr=>?_).symm;exact g3 hs.lv
 refine go ?_;refine gG (λg4=>?_) (λg4=>?_)
 ·refine go ?_;refine aj 530 (hv:=rfl) (hp:=?_);refine(ol (by omega) hp λhs hr=>?_).symm;exact g4 hs.cl
 refine go ?_;refine gG (λg5=>?_) (λg5=>?_)
 rotate_left
 ·refine go ?_;refine aj 530 (hv:=rfl) (hp:=?_);refine(ol (by omega) hp λhs hr=>?_).symm;have:=hs.pz;omega
 refine go ?_;refine aB (D7 (xs:=s.lv) (lo:=0) (hi:=9) hb1) (next:=λ_ _=>?_);refine go ?_;refine gG (λg6=>?_) (λg6=>?_)
 rotate_left
 ·refine go ?_;refine aj 530 (hv:=rfl) (hp:=?_);refine(ol (by omega) hp λhs hr=>?_).symm;exact vR (by simpa using g6) hs.HY
 refine go ?_;refine aB (D7 (xs:=s.cl) (lo:=0) (hi:=512) hb2) (next:=λ_ _=>?_);refine go ?_;refine gG (λg7=>?_) (λg7=>?_)
 rotate_left
 ·refine go ?_;refine aj 530 (hv:=rfl) (hp:=?_);refine(ol (by omega) hp λhs hr=>?_).symm;exact vR (by simpa using g7) hs.HZ
 refine go ?_;refine aB (D7 (xs:=s.pz) (lo:=0) (hi:=1048576) hb3) (next:=λ_ _=>?_);refine go ?_;refine iW rfl (λg8=>?_) (λg8=>?_)
 ·refine go ?_;refine aj 530 (hv:=rfl) (hp:=?_);refine(ol (by omega) hp λhs hr=>?_).symm;exact vR (by simpa using g8) hs.H6
 have hsh:rQ s:=⟨g1.1,g1.2,g2.1,g2.2,g3,g4,by omega,mg.1 (by simpa using g6),mg.1 (by simpa using g7),mg.1 (by simpa using g8)⟩
 refine go ?_;refine bR (λk=>l.length - k) (λk:Nat=>[(72,.int .i64 (k:Int))]) (λ_=>[]) (λ_=>[]) (λk=>k<=l.length/\∀x∈l.take k,iq s x) 0 ⟨cu _,by simp⟩ (body:=?_);rintro k ⟨hk,hok⟩;refine go ?_;refine aC rfl (λh3=>?_) (λh3=>?_)
 ·refine go ?_;refine cZ aZ (k:=k) (next:=λbx ox x _ hx=>?_);have hxm:=dA hx;refine go ?_;intro b8;refine go ?_;intro II;refine bP (A:=pt II (.cells [.int .i64 x.c])) (fs:=[ae ah (.slice (some ⟨II,0,some 0⟩) 1 1) [x.c]]) (pF (b:=II) (f:=0) (c:=1) (xs:=[x.c])) (h:=?_);refine aB (D8 (b:=II) (x:=x.c)) (next:=λ_ _=>?_);refine go ?_;refine gG (λf1=>?_) (λf1=>?_)
  rotate_left
  ·refine go ?_;refine aj 530 (hv:=rfl) (hp:=?_);refine(ol (by omega) hp λhs hr=>?_).symm;exact vR (by simpa using f1) (uK.2 ⟨(hr x hxm).c0,by have:=(hr x hxm).c1;omega⟩)
  have f1:=uK.1 (mg.1 (by simpa using f1));refine go ?_;intro IJ;refine bP (A:=pt IJ (.cells [.int .i64 x.p])) (fs:=[ae ah (.slice (some ⟨IJ,0,some 0⟩) 1 1) [x.p]]) (pF (b:=IJ) (f:=0) (c:=1) (xs:=[x.p])) (h:=?_);refine aB (D8 (b:=IJ) (x:=x.p)) (next:=λ_ _=>?_);refine go ?_;refine gG (λf2=>?_) (λf2=>?_)
  rotate_left
  ·refine go ?_;refine aj 530 (hv:=rfl) (hp:=?_);refine(ol (by omega) hp λhs hr=>?_).symm;exact vR (by simpa using f2) (uK.2 ⟨(hr x hxm).p0,by have:=(hr x hxm).p1;omega⟩)
  have f2:=uK.1 (mg.1 (by simpa using f2));refine go ?_;intro IK;refine bP (A:=pt IK (.cells [.int .i64 x.t])) (fs:=[ae ah (.slice (some ⟨IK,0,some 0⟩) 1 1) [x.t]]) (pF (b:=IK) (f:=0) (c:=1) (xs:=[x.t])) (h:=?_);refine aB (D8 (b:=IK) (x:=x.t)) (next:=λ_ _=>?_);refine go ?_;refine gG (λf3=>?_) (λf3=>?_)
  rotate_left
  ·refine go ?_;refine aj 530 (hv:=rfl) (hp:=?_);refine(ol (by omega) hp λhs hr=>?_).symm;exact vR (by simpa using f3) (uK.2 ⟨(hr x hxm).t0,(hr x hxm).t1⟩)
  have f3:=uK.1 (mg.1 (by simpa using f3));refine go ?_;refine gG (λf4=>?_) (λf4=>?_)
  rotate_left
  ·refine go ?_;refine aj 530 (hv:=rfl) (hp:=?_);refine(ol (by omega) hp λhs hr=>?_).symm;have:=(hr x hxm).le;omega
  refine go ?_;intro Bp;refine bP (A:=pt Bp (.cells [.int .i64 x.lo,.int .i64 x.hi])) (fs:=[ae ah (.slice (some ⟨Bp,0,some 0⟩) 2 2) [x.lo,x.hi]]) (pF (b:=Bp) (f:=0) (c:=2) (xs:=[x.lo,x.hi])) (h:=?_);refine aB (D7 (xs:=[x.lo,x.hi]) (lo:=0) (hi:=1048576) (by simp)) (next:=λ_ _=>?_);refine go ?_;refine iW rfl (λf5=>?_) (λf5=>?_)
  ·refine go ?_;refine aj 530 (hv:=rfl) (hp:=?_);refine(ol (by omega) hp λhs hr=>?_).symm;exact vR (by simpa using f5) (Te.2 ⟨⟨(hr x hxm).lo,by have:=(hr x hxm).le;have:=(hr x hxm).hi;omega⟩,by have:=(hr x hxm).lo;have:=(hr x hxm).le;omega,(hr x hxm).hi⟩)
  have f5:=Te.1 (mg.1 (by simpa using f5));refine go ?_;refine aL (k+1) (by omega) ⟨by omega,λy hy=>?_⟩;rw[eD hx]at hy;rcases gF.1 hy with hy|hy
  ·exact hok y hy
  ·rw[cz.1 hy];exact⟨f1.1,by omega,f2.1,by omega,f3.1,f3.2,f5.1.1,by omega,f5.2.2⟩
 have hkl:k=l.length:=by omega
 subst hkl;rw[gV]at hok;refine go ?_;exact aj 0 (hv:=rfl) (hp:=(Mm ⟨by omega,hp,hsh,hok⟩).symm)
theorem UJ{α β:Type}[DecidableEq α](a b:α)(v:β):∀m:List (α×β),uG a (upd b v m)=if a=b then some v else uG a m
 |[]=>rfl
 |(k,w)::m=>by
  have hc:∀(x:α) (u:β) (r:List (α×β)),uG a ((x,u)::r)=if a=x then some u else uG a r:=λ_ _ _=>rfl
  unfold upd;by_cases e:b=k
  ·rw[if_pos e,hc,hc];by_cases e2:a=b
   ·rw[if_pos e2,if_pos e2]
   ·rw[if_neg e2,if_neg e2,if_neg (λe3=>e2 (e3.trans e.symm))]
  ·rw[if_neg e,hc,hc,UJ a b v m];by_cases e2:a=k
   ·rw[if_pos e2,if_pos e2,if_neg (λe3=>e (e3.symm.trans e2))]
   ·rw[if_neg e2,if_neg e2]
def xS(xs:List Int):List (Int×Value):=xs.foldl (λm c=>upd c (.bool true) m) []
theorem UK(xs:List Int)(c:Int):xS (xs++[c])=upd c (.bool true) (xS xs):=by
 unfold xS;rw[List.foldl_append];rfl
theorem afm(c:Int)(n:Nat):∀xs:List Int,xs.length=n->uG c (xS xs)=if c∈xs then some (.bool true)else none:=by
 induction n with
 |zero=>
  intro xs h;rw[qM.1 h];rfl
 |succ n ih=>
  intro xs h;obtain⟨ys,p,rfl⟩:∃ys p,xs=ys++[p]:=⟨xs.dropLast,xs.getLast (by intro e;rw[e]at h;cases h),(List.dropLast_concat_getLast _).symm⟩
  rw[UK,UJ,ih ys (by simpa using h)];by_cases e:c=p
  ·subst e;simp
  ·simp[e]
theorem afn(c:Int)(xs:List Int):GM false (.bool false) c (xS xs)=.bool (decide (c∈xs)):=by
 unfold GM;rw[afm c _ xs rfl];by_cases e:c∈xs
 ·rw[if_pos e,eP e];rfl
 ·rw[if_neg e,fB e];rfl
abbrev D9(n:Int):Value:=.int .i64 n
theorem UL:xq Tryz.prog 3 D9:=abP (by kernel_rfl)
theorem UM{vl:Value}{l:List ak}{p:Int}(hl:l.length<=1000000):aX Tryz.prog (.func 46) [vl,.int .i64 p] [] [] [ae aZ vl l] (λv:Value=>v) (λ_=>[]) (λv=>[ae ah v (ints (aO l p))]) (λ_=>True):=by
 refine aT _ (bz 46) λB w0=>?_;refine go ?_;refine GL D9 (λbm=>?_);refine go ?_;refine tq ah ?_;refine bR (λy:Nat×Value=>l.length - y.1) (λy=>[(11,.int .i64 (y.1:Int)),(4,y.2)]) (λy=>[ap ah y.2 (ints (fK l p y.1)),kQ D9 bm (xS (jK l p y.1))]) (λ_=>[]) (λy=>y.1<=l.length) (0,.slice none 0 0) (cu _) (hk:=by repeat (first|exact aI.nil|(apply aI.cons;(focus (repeat (first|exact ai.here|apply ai.there)))))) (body:=?_);rintro⟨k,v⟩ hk;dsimp only at hk⊢;have hcl:=Mr l p k;have hil:=om (fK l p k);refine go ?_;refine aC rfl (λh1=>?_) (λh1=>?_)
 ·refine go ?_;refine cZ aZ (k:=k) (next:=λbx ox x _ hx=>?_);have hF:=Td (p:=p) hx;have hgd:l.getD k dR=x:=by rw[iA,hx];rfl
  have hm:=Mv l p k;have hc:=Mo l p k;refine go ?_;intro b7;refine go ?_;refine gG (λg1=>?_) (λg1=>?_)
  ·have hf:jU l p k=false:=by rw[hF,g1];rfl
   rw[hf]at hm hc;rw[show fK l p k=fK l p (k+1)from hc.symm,show jK l p k=jK l p (k+1)from hm.symm];refine go ?_;exact aL (k+1,v) (by show l.length - (k+1)<l.length - k;omega) (by show k+1<=_;omega)
  refine go ?_;refine gG (λg2=>?_) (λg2=>?_)
  ·have hf:jU l p k=false:=by rw[hF,g1,fB g2];rfl
   rw[hf]at hm hc;rw[show fK l p k=fK l p (k+1)from hc.symm,show jK l p k=jK l p (k+1)from hm.symm];refine go ?_;exact aL (k+1,v) (by show l.length - (k+1)<l.length - k;omega) (by show k+1<=_;omega)
  refine go ?_;refine abS (aQ:=D9) (b:=bm) (aJ:=xS (jK l p k)) UL x.c ?_;rw[afn];refine go ?_;refine QR rfl (λg3=>?_) (λg3=>?_)
  ·have hf:jU l p k=true:=by rw[hF,g1,eP g2,fB g3];rfl
   rw[hf,hgd]at hm;rw[hf]at hc;refine go ?_;refine GN (aQ:=D9) (b:=bm) (v:=.bool true) (aJ:=xS (jK l p k)) UL x.c ?_;rw[<- UK,show jK l p k++[x.c]=jK l p (k+1)from hm.symm];refine go ?_;intro b36;refine go ?_;refine lY (xs:=ints (fK l p k)) ah (k:Int) () (by omega) (next:=λad=>?_);rw[<- Dz,show fK l p k++[k]=fK l p (k+1)from hc.symm];refine go ?_;exact aL (k+1,.slice ad ((ints (fK l p k)).length+1) ((ints (fK l p k)).length+1)) (by show l.length - (k+1)<l.length - k;omega) (by show k+1<=_;omega)
  ·have hf:jU l p k=false:=by rw[hF,g1,eP g2,eP g3];rfl
   rw[hf]at hm hc;rw[show fK l p k=fK l p (k+1)from hc.symm,show jK l p k=jK l p (k+1)from hm.symm];refine go ?_;exact aL (k+1,v) (by show l.length - (k+1)<l.length - k;omega) (by show k+1<=_;omega)
 have hkl:k=l.length:=by omega
 subst hkl;refine go ?_;rw[show fK l p l.length=aO l p from rfl];refine bP (A:=ap ah v (ints (aO l p))) (fs:=[ae ah v (ints (aO l p))]) rD (h:=?_);exact aj v (hv:=rfl) (hp:=trivial)
