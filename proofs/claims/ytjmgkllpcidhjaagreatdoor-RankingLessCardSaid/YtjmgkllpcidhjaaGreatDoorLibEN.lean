/-
  Sheets and results: ranking.Check, counted.
-/
import Derived.Test.YtjmgkllpcidhjaaGreatDoorLibDN
set_option linter.all false
set_option maxRecDepth 10000
set_option maxHeartbeats 4000000
namespace Go.Proofs.YtjmgkllpcidhjaaGreatDoor
open Go.Ideal Rk
def cO:Enc aG:=⟨6,Unit,λx _=>[.int .i64 x.c,.int .i64 x.p,.int .i64 x.t,.int .i64 x.lo,.int .i64 x.hi,.bool x.r],λ_ _=>[],λ_ _=>rfl⟩
abbrev kz(s:aT)(v1 v2 v3 v4:Value):List Value:=[.int .i64 s.c,.int .i64 s.p,v1,v2,v3,v4]
theorem afh{b3 b4:Nat}{lo hi x:Int}:GX Tryz.prog (.func 58) [] [ptr' b3,ptr' b4] (.int .i64 x) [dG b3 0 [.int .i64 lo],dG b4 0 [.int .i64 hi]] (decide (x<lo\/hi<x)):=by
 refine aX _ (bN 58) λB w0=>?_;refine go ?_;refine gG (λh1=>?_) (λh1=>?_)
 ·refine go ?_;refine aj () (hv:=?_) (hp:=trivial);rw[show decide (x<lo\/hi<x)=decide (hi<x)from EB.2 ⟨λh=>h.elim (λh=>absurd h h1) id,.inr⟩];rfl
 refine go ?_;refine aj () (hv:=?_) (hp:=trivial);rw[eH (.inl h1)];rfl
theorem DY{lo hi:Int}{va:Value}{xs:List Int}(hl:xs.length<9223372036854775808):eY Tryz.prog 38 [.int .i64 lo,.int .i64 hi,va] [ah ae va xs] (.bool (uT xs lo hi)):=by
 refine aX _ (bN 38) λB w0=>?_;refine go ?_;intro b3 b4;refine bG (eP (b:=b3)) (h:=?_);refine bG (eP (b:=b4)) (h:=?_);refine go ?_;refine aD (TK (xs:=xs) (p:=λx=>decide (x<lo\/hi<x)) hl (λx _=>afh (b3:=b3) (b4:=b4))) (next:=λ_ _=>?_);refine go ?_;exact aj () (hv:=rfl) (hp:=trivial)
theorem DZ{lo hi x:Int}{b:Nat}:eY Tryz.prog 38 [.int .i64 lo,.int .i64 hi,.slice (some ⟨b,0,some 0⟩) 1 1] [ah ae (.slice (some ⟨b,0,some 0⟩) 1 1) [x]] (.bool (uT [x] lo hi)):=DY (by simp)
theorem Uh{s:aT}{v1 v2 v3 v4 vl:Value}{l:List aG}(hb1:s.lv.length<9223372036854775808)(hb2:s.cl.length<9223372036854775808)(hb3:s.pz.length<9223372036854775808)(hx1:cellsOf v1=some [v1])(hx2:cellsOf v2=some [v2])(hx3:cellsOf v3=some [v3])(hx4:cellsOf v4=some [v4]):
 bD Tryz.prog (.func 13) [.agg ⟨kz s v1 v2 v3 v4⟩,vl] [] [] [lG 0 mh,ah ae v1 s.lv,ah ae v2 s.cl,ah fw v3 s.pg,ah ae v4 s.pz,ah cO vl l] (λy:Int=>.int .i64 y) (λ_=>[]) (λ_=>[]) (λy=>y=eU s l):=by
 refine aX _ (bN 13) λB w0=>?_;refine go ?_;intro b2;refine go ?_;refine aC rfl (λh1=>?_) (λh1=>?_)
 ·refine go ?_;exact aj 2 (hv:=rfl) (hp:=(R7 (by omega)).symm)
 refine go ?_;refine aD (Uc (ws:=s.pg)) (next:=λy hy=>?_);refine go ?_;refine aC rfl (λh2=>?_) (λh2=>?_)
 ·refine go ?_;refine aj y (hv:=rfl) (hp:=?_);have hno:¬fo s.pg:=λh=>h2 (hy.1 h);rw[R8 (by omega) hno];exact hy.2 hno
 have hp:fo s.pg:=Classical.byContradiction λh=>by have:=hy.2 h;omega
 refine go ?_;intro b20;refine bG (A:=pt b20 (.cells [.int .i64 s.c])) (fs:=[ah ae (.slice (some ⟨b20,0,some 0⟩) 1 1) [s.c]]) (lC (b:=b20) (f:=0) (c:=1) (xs:=[s.c])) (h:=?_);refine aD (DZ (b:=b20) (x:=s.c)) (next:=λ_ _=>?_);refine go ?_;refine gG (λg1=>?_) (λg1=>?_)
 ·refine go ?_;refine aj 530 (hv:=rfl) (hp:=?_);refine(nL (by omega) hp λhs hr=>?_).symm;exact uU g1 (tO.2 ⟨hs.c1,hs.c8⟩)
 refine go ?_;intro Hq;refine bG (A:=pt Hq (.cells [.int .i64 s.p])) (fs:=[ah ae (.slice (some ⟨Hq,0,some 0⟩) 1 1) [s.p]]) (lC (b:=Hq) (f:=0) (c:=1) (xs:=[s.p])) (h:=?_);refine aD (DZ (b:=Hq) (x:=s.p)) (next:=λ_ _=>?_);refine go ?_;refine gG (λg2=>?_) (λg2=>?_)
 ·refine go ?_;refine aj 530 (hv:=rfl) (hp:=?_);refine(nL (by omega) hp λhs hr=>?_).symm;exact uU g2 (tO.2 ⟨hs.p1,hs.p8⟩)
 have g1:=tO.1 (lI.1 g1);have g2:=tO.1 (lI.1 g2);refine go ?_;refine gG (λg3=>?_) (λg3=>?_)
 ·refine go ?_;refine aj 530 (hv:=rfl) (hp:=?_);refine(nL (by omega) hp λhs hr=>?_).symm;exact g3 hs.lv
 refine go ?_;refine gG (λg4=>?_) (λg4=>?_)
 ·refine go ?_;refine aj 530 (hv:=rfl) (hp:=?_);refine(nL (by omega) hp λhs hr=>?_).symm;exact g4 hs.cl
 refine go ?_;refine gG (λg5=>?_) (λg5=>?_)
 rotate_left
 ·refine go ?_;refine aj 530 (hv:=rfl) (hp:=?_);refine(nL (by omega) hp λhs hr=>?_).symm;have:=hs.pz;omega
 refine go ?_;refine aD (DY (xs:=s.lv) (lo:=0) (hi:=9) hb1) (next:=λ_ _=>?_);refine go ?_;refine gG (λg6=>?_) (λg6=>?_)
 rotate_left
 ·refine go ?_;refine aj 530 (hv:=rfl) (hp:=?_);refine(nL (by omega) hp λhs hr=>?_).symm;exact uU (by simpa using g6) hs.Gp
 refine go ?_;refine aD (DY (xs:=s.cl) (lo:=0) (hi:=512) hb2) (next:=λ_ _=>?_);refine go ?_;refine gG (λg7=>?_) (λg7=>?_)
 rotate_left
 ·refine go ?_;refine aj 530 (hv:=rfl) (hp:=?_);refine(nL (by omega) hp λhs hr=>?_).symm;exact uU (by simpa using g7) hs.Gq
 refine go ?_;refine aD (DY (xs:=s.pz) (lo:=0) (hi:=1048576) hb3) (next:=λ_ _=>?_);refine go ?_;refine iy rfl (λg8=>?_) (λg8=>?_)
 ·refine go ?_;refine aj 530 (hv:=rfl) (hp:=?_);refine(nL (by omega) hp λhs hr=>?_).symm;exact uU (by simpa using g8) hs.R6
 have hsh:Dn s:=⟨g1.1,g1.2,g2.1,g2.2,g3,g4,by omega,lI.1 (by simpa using g6),lI.1 (by simpa using g7),lI.1 (by simpa using g8)⟩
 refine go ?_;refine bE (λk=>l.length - k) (λk:Nat=>[(72,.int .i64 (k:Int))]) (λ_=>[]) (λ_=>[]) (λk=>k<=l.length/\∀x∈l.take k,iW s x) 0 ⟨bF _,by simp⟩ (body:=?_);rintro k ⟨hk,hok⟩;refine go ?_;refine aC rfl (λh3=>?_) (λh3=>?_)
 ·refine go ?_;refine bJ cO (k:=k) (next:=λbx ox x _ hx=>?_);have hxm:=cZ hx;refine go ?_;intro b8;refine go ?_;intro Hr;refine bG (A:=pt Hr (.cells [.int .i64 x.c])) (fs:=[ah ae (.slice (some ⟨Hr,0,some 0⟩) 1 1) [x.c]]) (lC (b:=Hr) (f:=0) (c:=1) (xs:=[x.c])) (h:=?_);refine aD (DZ (b:=Hr) (x:=x.c)) (next:=λ_ _=>?_);refine go ?_;refine gG (λf1=>?_) (λf1=>?_)
  rotate_left
  ·refine go ?_;refine aj 530 (hv:=rfl) (hp:=?_);refine(nL (by omega) hp λhs hr=>?_).symm;exact uU (by simpa using f1) (tO.2 ⟨(hr x hxm).c0,by have:=(hr x hxm).c1;omega⟩)
  have f1:=tO.1 (lI.1 (by simpa using f1));refine go ?_;intro Ht;refine bG (A:=pt Ht (.cells [.int .i64 x.p])) (fs:=[ah ae (.slice (some ⟨Ht,0,some 0⟩) 1 1) [x.p]]) (lC (b:=Ht) (f:=0) (c:=1) (xs:=[x.p])) (h:=?_);refine aD (DZ (b:=Ht) (x:=x.p)) (next:=λ_ _=>?_);refine go ?_;refine gG (λf2=>?_) (λf2=>?_)
  rotate_left
  ·refine go ?_;refine aj 530 (hv:=rfl) (hp:=?_);refine(nL (by omega) hp λhs hr=>?_).symm;exact uU (by simpa using f2) (tO.2 ⟨(hr x hxm).p0,by have:=(hr x hxm).p1;omega⟩)
  have f2:=tO.1 (lI.1 (by simpa using f2));refine go ?_;intro Hu;refine bG (A:=pt Hu (.cells [.int .i64 x.t])) (fs:=[ah ae (.slice (some ⟨Hu,0,some 0⟩) 1 1) [x.t]]) (lC (b:=Hu) (f:=0) (c:=1) (xs:=[x.t])) (h:=?_);refine aD (DZ (b:=Hu) (x:=x.t)) (next:=λ_ _=>?_);refine go ?_;refine gG (λf3=>?_) (λf3=>?_)
  rotate_left
  ·refine go ?_;refine aj 530 (hv:=rfl) (hp:=?_);refine(nL (by omega) hp λhs hr=>?_).symm;exact uU (by simpa using f3) (tO.2 ⟨(hr x hxm).t0,(hr x hxm).t1⟩)
  have f3:=tO.1 (lI.1 (by simpa using f3));refine go ?_;refine gG (λf4=>?_) (λf4=>?_)
  rotate_left
  ·refine go ?_;refine aj 530 (hv:=rfl) (hp:=?_);refine(nL (by omega) hp λhs hr=>?_).symm;have:=(hr x hxm).le;omega
  refine go ?_;intro AU;refine bG (A:=pt AU (.cells [.int .i64 x.lo,.int .i64 x.hi])) (fs:=[ah ae (.slice (some ⟨AU,0,some 0⟩) 2 2) [x.lo,x.hi]]) (lC (b:=AU) (f:=0) (c:=2) (xs:=[x.lo,x.hi])) (h:=?_);refine aD (DY (xs:=[x.lo,x.hi]) (lo:=0) (hi:=1048576) (by simp)) (next:=λ_ _=>?_);refine go ?_;refine iy rfl (λf5=>?_) (λf5=>?_)
  ·refine go ?_;refine aj 530 (hv:=rfl) (hp:=?_);refine(nL (by omega) hp λhs hr=>?_).symm;exact uU (by simpa using f5) (Sj.2 ⟨⟨(hr x hxm).lo,by have:=(hr x hxm).le;have:=(hr x hxm).hi;omega⟩,by have:=(hr x hxm).lo;have:=(hr x hxm).le;omega,(hr x hxm).hi⟩)
  have f5:=Sj.1 (lI.1 (by simpa using f5));refine go ?_;refine aO (k+1) (by omega) ⟨by omega,λy hy=>?_⟩;rw[dx hx]at hy;rcases gy.1 hy with hy|hy
  ·exact hok y hy
  ·rw[di.1 hy];exact⟨f1.1,by omega,f2.1,by omega,f3.1,f3.2,f5.1.1,by omega,f5.2.2⟩
 have hkl:k=l.length:=by omega
 subst hkl;rw[fK]at hok;refine go ?_;exact aj 0 (hv:=rfl) (hp:=(LV ⟨by omega,hp,hsh,hok⟩).symm)
theorem Ui{α β:Type}[DecidableEq α](a b:α)(v:β):∀m:List (α×β),qK a (upd b v m)=if a=b then some v else qK a m
 |[]=>rfl
 |(k,w)::m=>by
  have hc:∀(x:α) (u:β) (r:List (α×β)),qK a ((x,u)::r)=if a=x then some u else qK a r:=λ_ _ _=>rfl
  unfold upd;by_cases e:b=k
  ·rw[if_pos e,hc,hc];by_cases e2:a=b
   ·rw[if_pos e2,if_pos e2]
   ·rw[if_neg e2,if_neg e2,if_neg (λe3=>e2 (e3.trans e.symm))]
  ·rw[if_neg e,hc,hc,Ui a b v m];by_cases e2:a=k
   ·rw[if_pos e2,if_pos e2,if_neg (λe3=>e (e3.symm.trans e2))]
   ·rw[if_neg e2,if_neg e2]
def wZ(xs:List Int):List (Int×Value):=xs.foldl (λm c=>upd c (.bool true) m) []
theorem Uj(xs:List Int)(c:Int):wZ (xs++[c])=upd c (.bool true) (wZ xs):=by
 unfold wZ;rw[List.foldl_append];rfl
theorem afi(c:Int)(n:Nat):∀xs:List Int,xs.length=n->qK c (wZ xs)=if c∈xs then some (.bool true)else none:=by
 induction n with
 |zero=>
  intro xs h;rw[sD.1 h];rfl
 |succ n ih=>
  intro xs h;obtain⟨ys,p,rfl⟩:∃ys p,xs=ys++[p]:=⟨xs.dropLast,xs.getLast (by intro e;rw[e]at h;cases h),(List.dropLast_concat_getLast _).symm⟩
  rw[Uj,Ui,ih ys (by simpa using h)];by_cases e:c=p
  ·subst e;simp
  ·simp[e]
theorem afj(c:Int)(xs:List Int):ym false (.bool false) c (wZ xs)=.bool (decide (c∈xs)):=by
 unfold ym;rw[afi c _ xs rfl];by_cases e:c∈xs
 ·rw[if_pos e,eH e];rfl
 ·rw[if_neg e,gz e];rfl
abbrev tY(n:Int):Value:=.int .i64 n
theorem MP:uQ Tryz.prog 3 tY:=abl (by kernel_rfl)
theorem Uk{vl:Value}{l:List aG}{p:Int}(hl:l.length<=1000000):bD Tryz.prog (.func 31) [vl,.int .i64 p] [] [] [ah cO vl l] (λv:Value=>v) (λ_=>[]) (λv=>[ah ae v (ints (aL l p))]) (λ_=>True):=by
 refine aX _ (bN 31) λB w0=>?_;refine go ?_;refine Ah tY (λbm=>?_);refine go ?_;refine nE ae ?_;refine bE (λy:Nat×Value=>l.length - y.1) (λy=>[(11,.int .i64 (y.1:Int)),(4,y.2)]) (λy=>[ap ae y.2 (ints (fq l p y.1)),jV tY bm (wZ (jr l p y.1))]) (λ_=>[]) (λy=>y.1<=l.length) (0,.slice none 0 0) (bF _) (hk:=by repeat (first|exact aM.nil|(apply aM.cons;(focus (repeat (first|exact ai.here|apply ai.there)))))) (body:=?_);rintro⟨k,v⟩ hk;dsimp only at hk⊢;have hcl:=LY l p k;have hil:=tN (fq l p k);refine go ?_;refine aC rfl (λh1=>?_) (λh1=>?_)
 ·refine go ?_;refine bJ cO (k:=k) (next:=λbx ox x _ hx=>?_);have hF:=Si (p:=p) hx;have hgd:l.getD k dR=x:=by rw[nY,hx];rfl
  have hm:=LZ l p k;have hc:=LW l p k;refine go ?_;intro b7;refine go ?_;refine gG (λg1=>?_) (λg1=>?_)
  ·have hf:jH l p k=false:=by rw[hF,g1];rfl
   rw[hf]at hm hc;rw[show fq l p k=fq l p (k+1)from hc.symm,show jr l p k=jr l p (k+1)from hm.symm];refine go ?_;exact aO (k+1,v) (by show l.length - (k+1)<l.length - k;omega) (by show k+1<=_;omega)
  refine go ?_;refine gG (λg2=>?_) (λg2=>?_)
  ·have hf:jH l p k=false:=by rw[hF,g1,gz g2];rfl
   rw[hf]at hm hc;rw[show fq l p k=fq l p (k+1)from hc.symm,show jr l p k=jr l p (k+1)from hm.symm];refine go ?_;exact aO (k+1,v) (by show l.length - (k+1)<l.length - k;omega) (by show k+1<=_;omega)
  refine go ?_;refine K3 (aS:=tY) (b:=bm) (aN:=wZ (jr l p k)) MP x.c ?_;rw[afj];refine go ?_;refine KG rfl (λg3=>?_) (λg3=>?_)
  ·have hf:jH l p k=true:=by rw[hF,g1,eH g2,gz g3];rfl
   rw[hf,hgd]at hm;rw[hf]at hc;refine go ?_;refine Ai (aS:=tY) (b:=bm) (v:=.bool true) (aN:=wZ (jr l p k)) MP x.c ?_;rw[<- Uj,show jr l p k++[x.c]=jr l p (k+1)from hm.symm];refine go ?_;intro b36;refine go ?_;refine nH (xs:=ints (fq l p k)) ae (k:Int) () (by omega) (next:=λad=>?_);rw[<- L6,show fq l p k++[k]=fq l p (k+1)from hc.symm];refine go ?_;exact aO (k+1,.slice ad ((ints (fq l p k)).length+1) ((ints (fq l p k)).length+1)) (by show l.length - (k+1)<l.length - k;omega) (by show k+1<=_;omega)
  ·have hf:jH l p k=false:=by rw[hF,g1,eH g2,eH g3];rfl
   rw[hf]at hm hc;rw[show fq l p k=fq l p (k+1)from hc.symm,show jr l p k=jr l p (k+1)from hm.symm];refine go ?_;exact aO (k+1,v) (by show l.length - (k+1)<l.length - k;omega) (by show k+1<=_;omega)
 have hkl:k=l.length:=by omega
 subst hkl;refine go ?_;rw[show fq l p l.length=aL l p from rfl];refine bG (A:=ap ae v (ints (aL l p))) (fs:=[ah ae v (ints (aL l p))]) pX (h:=?_);exact aj v (hv:=rfl) (hp:=trivial)
