/-
  Sheets and results: ranking.Check, counted.
-/
import Derived.Test.YtbdaaopebgcnaaaGreatDoorLibDM
set_option linter.all false
set_option maxRecDepth 10000
set_option maxHeartbeats 4000000
namespace Go.Proofs.YtbdaaopebgcnaaaGreatDoor
open Go.Ideal Rk
def bR:Enc aA:=⟨6,Unit,λx _=>[.int .i64 x.c,.int .i64 x.p,.int .i64 x.t,.int .i64 x.lo,.int .i64 x.hi,.bool x.r],λ_ _=>[],λ_ _=>rfl⟩
abbrev kY(s:aJ)(v1 v2 v3 v4:Value):List Value:=[.int .i64 s.c,.int .i64 s.p,v1,v2,v3,v4]
theorem acU{b3 b4:Nat}{lo hi x:Int}:vP Tryz.prog (.func 82) [] [ptr' b3,ptr' b4] (.int .i64 x) [bU b3 0 [.int .i64 lo],bU b4 0 [.int .i64 hi]] (decide (x<lo\/hi<x)):=by
 refine aV _ (bB 82) λB w0=>?_;refine go ?_;refine gG (λh1=>?_) (λh1=>?_)
 ·refine go ?_;refine aj () (hv:=?_) (hp:=trivial);rw[show decide (x<lo\/hi<x)=decide (hi<x)from xW.2 ⟨λh=>h.elim (λh=>absurd h h1) id,.inr⟩];rfl
 refine go ?_;refine aj () (hv:=?_) (hp:=trivial);rw[fK (.inl h1)];rfl
theorem Ca{lo hi:Int}{va:Value}{xs:List Int}(hl:xs.length<9223372036854775808):ik Tryz.prog 64 [.int .i64 lo,.int .i64 hi,va] [ae az va xs] (.bool (tY xs lo hi)):=by
 refine aV _ (bB 64) λB w0=>?_;refine go ?_;intro b3 b4;refine cu (fT (b:=b3)) (h:=?_);refine cu (fT (b:=b4)) (h:=?_);refine go ?_;refine aG (Kg (xs:=xs) (p:=λx=>decide (x<lo\/hi<x)) hl (λx _=>acU (b3:=b3) (b4:=b4))) (next:=λ_ _=>?_);refine go ?_;exact aj () (hv:=rfl) (hp:=trivial)
theorem Cb{lo hi x:Int}{b:Nat}:ik Tryz.prog 64 [.int .i64 lo,.int .i64 hi,.slice (some ⟨b,0,some 0⟩) 1 1] [ae az (.slice (some ⟨b,0,some 0⟩) 1 1) [x]] (.bool (tY [x] lo hi)):=Ca (by simp)
theorem Rj{s:aJ}{v1 v2 v3 v4 vl:Value}{l:List aA}(hb1:s.lv.length<9223372036854775808)(hb2:s.cl.length<9223372036854775808)(hb3:s.pz.length<9223372036854775808)(hx1:cellsOf v1=some [v1])(hx2:cellsOf v2=some [v2])(hx3:cellsOf v3=some [v3])(hx4:cellsOf v4=some [v4]):
 aT Tryz.prog (.func 38) [.agg ⟨kY s v1 v2 v3 v4⟩,vl] [] [] [mX 0 nQ,ae az v1 s.lv,ae az v2 s.cl,ae iw v3 s.pg,ae az v4 s.pz,ae bR vl l] (λy:Int=>.int .i64 y) (λ_=>[]) (λ_=>[]) (λy=>y=eZ s l):=by
 refine aV _ (bB 38) λB w0=>?_;refine go ?_;intro b2;refine go ?_;refine aM rfl (λh1=>?_) (λh1=>?_)
 ·refine go ?_;exact aj 2 (hv:=rfl) (hp:=(P6 (by omega)).symm)
 refine go ?_;refine aG (Rh (ws:=s.pg)) (next:=λy hy=>?_);refine go ?_;refine aM rfl (λh2=>?_) (λh2=>?_)
 ·refine go ?_;refine aj y (hv:=rfl) (hp:=?_);have hno:¬fw s.pg:=λh=>h2 (hy.1 h);rw[P7 (by omega) hno];exact hy.2 hno
 have hp:fw s.pg:=Classical.byContradiction λh=>by have:=hy.2 h;omega
 refine go ?_;intro b20;refine cu (A:=pt b20 (.cells [.int .i64 s.c])) (fs:=[ae az (.slice (some ⟨b20,0,some 0⟩) 1 1) [s.c]]) (rW (b:=b20) (f:=0) (c:=1) (xs:=[s.c])) (h:=?_);refine aG (Cb (b:=b20) (x:=s.c)) (next:=λ_ _=>?_);refine go ?_;refine gG (λg1=>?_) (λg1=>?_)
 ·refine go ?_;refine aj 530 (hv:=rfl) (hp:=?_);refine(mZ (by omega) hp λhs hr=>?_).symm;exact tZ g1 (sD.2 ⟨hs.c1,hs.c8⟩)
 refine go ?_;intro FQ;refine cu (A:=pt FQ (.cells [.int .i64 s.p])) (fs:=[ae az (.slice (some ⟨FQ,0,some 0⟩) 1 1) [s.p]]) (rW (b:=FQ) (f:=0) (c:=1) (xs:=[s.p])) (h:=?_);refine aG (Cb (b:=FQ) (x:=s.p)) (next:=λ_ _=>?_);refine go ?_;refine gG (λg2=>?_) (λg2=>?_)
 ·refine go ?_;refine aj 530 (hv:=rfl) (hp:=?_);refine(mZ (by omega) hp λhs hr=>?_).symm;exact tZ g2 (sD.2 ⟨hs.p1,hs.p8⟩)
 have g1:=sD.1 (kU.1 g1);have g2:=sD.1 (kU.1 g2);refine go ?_;refine gG (λg3=>?_) (λg3=>?_)
 ·refine go ?_;refine aj 530 (hv:=rfl) (hp:=?_);refine(mZ (by omega) hp λhs hr=>?_).symm;exact g3 hs.lv
 refine go ?_;refine gG (λg4=>?_) (λg4=>?_)
 ·refine go ?_;refine aj 530 (hv:=rfl) (hp:=?_);refine(mZ (by omega) hp λhs hr=>?_).symm;exact g4 hs.cl
 refine go ?_;refine gG (λg5=>?_) (λg5=>?_)
 rotate_left
 ·refine go ?_;refine aj 530 (hv:=rfl) (hp:=?_);refine(mZ (by omega) hp λhs hr=>?_).symm;have:=hs.pz;omega
 refine go ?_;refine aG (Ca (xs:=s.lv) (lo:=0) (hi:=9) hb1) (next:=λ_ _=>?_);refine go ?_;refine gG (λg6=>?_) (λg6=>?_)
 rotate_left
 ·refine go ?_;refine aj 530 (hv:=rfl) (hp:=?_);refine(mZ (by omega) hp λhs hr=>?_).symm;exact tZ (by simpa using g6) hs.JD
 refine go ?_;refine aG (Ca (xs:=s.cl) (lo:=0) (hi:=512) hb2) (next:=λ_ _=>?_);refine go ?_;refine gG (λg7=>?_) (λg7=>?_)
 rotate_left
 ·refine go ?_;refine aj 530 (hv:=rfl) (hp:=?_);refine(mZ (by omega) hp λhs hr=>?_).symm;exact tZ (by simpa using g7) hs.JE
 refine go ?_;refine aG (Ca (xs:=s.pz) (lo:=0) (hi:=1048576) hb3) (next:=λ_ _=>?_);refine go ?_;refine jO rfl (λg8=>?_) (λg8=>?_)
 ·refine go ?_;refine aj 530 (hv:=rfl) (hp:=?_);refine(mZ (by omega) hp λhs hr=>?_).symm;exact tZ (by simpa using g8) hs.JF
 have hsh:pX s:=⟨g1.1,g1.2,g2.1,g2.2,g3,g4,by omega,kU.1 (by simpa using g6),kU.1 (by simpa using g7),kU.1 (by simpa using g8)⟩
 refine go ?_;refine dQ (λk=>l.length - k) (λk:Nat=>[(72,.int .i64 (k:Int))]) (λ_=>[]) (λ_=>[]) (λk=>k<=l.length/\∀x∈l.take k,iq s x) 0 ⟨dY _,by simp⟩ (body:=?_);rintro k ⟨hk,hok⟩;refine go ?_;refine aM rfl (λh3=>?_) (λh3=>?_)
 ·refine go ?_;refine eX bR (k:=k) (next:=λbx ox x _ hx=>?_);have hxm:=dA hx;refine go ?_;intro b8;refine go ?_;intro FT;refine cu (A:=pt FT (.cells [.int .i64 x.c])) (fs:=[ae az (.slice (some ⟨FT,0,some 0⟩) 1 1) [x.c]]) (rW (b:=FT) (f:=0) (c:=1) (xs:=[x.c])) (h:=?_);refine aG (Cb (b:=FT) (x:=x.c)) (next:=λ_ _=>?_);refine go ?_;refine gG (λf1=>?_) (λf1=>?_)
  rotate_left
  ·refine go ?_;refine aj 530 (hv:=rfl) (hp:=?_);refine(mZ (by omega) hp λhs hr=>?_).symm;exact tZ (by simpa using f1) (sD.2 ⟨(hr x hxm).c0,by have:=(hr x hxm).c1;omega⟩)
  have f1:=sD.1 (kU.1 (by simpa using f1));refine go ?_;intro FU;refine cu (A:=pt FU (.cells [.int .i64 x.p])) (fs:=[ae az (.slice (some ⟨FU,0,some 0⟩) 1 1) [x.p]]) (rW (b:=FU) (f:=0) (c:=1) (xs:=[x.p])) (h:=?_);refine aG (Cb (b:=FU) (x:=x.p)) (next:=λ_ _=>?_);refine go ?_;refine gG (λf2=>?_) (λf2=>?_)
  rotate_left
  ·refine go ?_;refine aj 530 (hv:=rfl) (hp:=?_);refine(mZ (by omega) hp λhs hr=>?_).symm;exact tZ (by simpa using f2) (sD.2 ⟨(hr x hxm).p0,by have:=(hr x hxm).p1;omega⟩)
  have f2:=sD.1 (kU.1 (by simpa using f2));refine go ?_;intro FV;refine cu (A:=pt FV (.cells [.int .i64 x.t])) (fs:=[ae az (.slice (some ⟨FV,0,some 0⟩) 1 1) [x.t]]) (rW (b:=FV) (f:=0) (c:=1) (xs:=[x.t])) (h:=?_);refine aG (Cb (b:=FV) (x:=x.t)) (next:=λ_ _=>?_);refine go ?_;refine gG (λf3=>?_) (λf3=>?_)
  rotate_left
  ·refine go ?_;refine aj 530 (hv:=rfl) (hp:=?_);refine(mZ (by omega) hp λhs hr=>?_).symm;exact tZ (by simpa using f3) (sD.2 ⟨(hr x hxm).t0,(hr x hxm).t1⟩)
  have f3:=sD.1 (kU.1 (by simpa using f3));refine go ?_;refine gG (λf4=>?_) (λf4=>?_)
  rotate_left
  ·refine go ?_;refine aj 530 (hv:=rfl) (hp:=?_);refine(mZ (by omega) hp λhs hr=>?_).symm;have:=(hr x hxm).le;omega
  refine go ?_;intro Kv;refine cu (A:=pt Kv (.cells [.int .i64 x.lo,.int .i64 x.hi])) (fs:=[ae az (.slice (some ⟨Kv,0,some 0⟩) 2 2) [x.lo,x.hi]]) (rW (b:=Kv) (f:=0) (c:=2) (xs:=[x.lo,x.hi])) (h:=?_);refine aG (Ca (xs:=[x.lo,x.hi]) (lo:=0) (hi:=1048576) (by simp)) (next:=λ_ _=>?_);refine go ?_;refine jO rfl (λf5=>?_) (λf5=>?_)
  ·refine go ?_;refine aj 530 (hv:=rfl) (hp:=?_);refine(mZ (by omega) hp λhs hr=>?_).symm;exact tZ (by simpa using f5) (Qf.2 ⟨⟨(hr x hxm).lo,by have:=(hr x hxm).le;have:=(hr x hxm).hi;omega⟩,by have:=(hr x hxm).lo;have:=(hr x hxm).le;omega,(hr x hxm).hi⟩)
  have f5:=Qf.1 (kU.1 (by simpa using f5));refine go ?_;refine aY (k+1) (by omega) ⟨by omega,λy hy=>?_⟩;rw[fG hx]at hy;rcases fI.1 hy with hy|hy
  ·exact hok y hy
  ·rw[cB.1 hy];exact⟨f1.1,by omega,f2.1,by omega,f3.1,f3.2,f5.1.1,by omega,f5.2.2⟩
 have hkl:k=l.length:=by omega
 subst hkl;rw[iB]at hok;refine go ?_;exact aj 0 (hv:=rfl) (hp:=(JG ⟨by omega,hp,hsh,hok⟩).symm)
theorem Rl{α β:Type}[DecidableEq α](a b:α)(v:β):∀m:List (α×β),r9 a (upd b v m)=if a=b then some v else r9 a m
 |[]=>rfl
 |(k,w)::m=>by
  have hc:∀(x:α) (u:β) (r:List (α×β)),r9 a ((x,u)::r)=if a=x then some u else r9 a r:=λ_ _ _=>rfl
  unfold upd;by_cases e:b=k
  ·rw[if_pos e,hc,hc];by_cases e2:a=b
   ·rw[if_pos e2,if_pos e2]
   ·rw[if_neg e2,if_neg e2,if_neg (λe3=>e2 (e3.trans e.symm))]
  ·rw[if_neg e,hc,hc,Rl a b v m];by_cases e2:a=k
   ·rw[if_pos e2,if_pos e2,if_neg (λe3=>e (e3.symm.trans e2))]
   ·rw[if_neg e2,if_neg e2]
def vT(xs:List Int):List (Int×Value):=xs.foldl (λm c=>upd c (.bool true) m) []
theorem Rm(xs:List Int)(c:Int):vT (xs++[c])=upd c (.bool true) (vT xs):=by
 unfold vT;rw[List.foldl_append];rfl
theorem acV(c:Int)(n:Nat):∀xs:List Int,xs.length=n->r9 c (vT xs)=if c∈xs then some (.bool true)else none:=by
 induction n with
 |zero=>
  intro xs h;rw[qc.1 h];rfl
 |succ n ih=>
  intro xs h;obtain⟨ys,p,rfl⟩:∃ys p,xs=ys++[p]:=⟨xs.dropLast,xs.getLast (by intro e;rw[e]at h;cases h),(List.dropLast_concat_getLast _).symm⟩
  rw[Rm,Rl,ih ys (by simpa using h)];by_cases e:c=p
  ·subst e;simp
  ·simp[e]
theorem acW(c:Int)(xs:List Int):EC false (.bool false) c (vT xs)=.bool (decide (c∈xs)):=by
 unfold EC;rw[acV c _ xs rfl];by_cases e:c∈xs
 ·rw[if_pos e,fK e];rfl
 ·rw[if_neg e,gq e];rfl
abbrev Cc(n:Int):Value:=.int .i64 n
theorem Rn:vD Tryz.prog 3 Cc:=Y3 (by kernel_rfl)
theorem acX{vl:Value}{l:List aA}{p:Int}(hl:l.length<=1000000):aT Tryz.prog (.func 46) [vl,.int .i64 p] [] [] [ae bR vl l] (λv:Value=>v) (λ_=>[]) (λv=>[ae az v (ints (cz l p))]) (λ_=>True):=by
 refine aV _ (bB 46) λB w0=>?_;refine go ?_;refine EB Cc (λbm=>?_);refine go ?_;refine wW az ?_;refine dQ (λy:Nat×Value=>l.length - y.1) (λy=>[(11,.int .i64 (y.1:Int)),(4,y.2)]) (λy=>[ap az y.2 (ints (jd l p y.1)),jR Cc bm (vT (je l p y.1))]) (λ_=>[]) (λy=>y.1<=l.length) (0,.slice none 0 0) (dY _) (hk:=by repeat (first|exact aL.nil|(apply aL.cons;(focus (repeat (first|exact ah.here|apply ah.there)))))) (body:=?_);rintro⟨k,v⟩ hk;dsimp only at hk⊢;have hcl:=P9 l p k;have hil:=xy (jd l p k);refine go ?_;refine aM rfl (λh1=>?_) (λh1=>?_)
 ·refine go ?_;refine eX bR (k:=k) (next:=λbx ox x _ hx=>?_);have hF:=Qd (p:=p) hx;have hgd:l.getD k dR=x:=by rw[oh,hx];rfl
  have hm:=JJ l p k;have hc:=P8 l p k;refine go ?_;intro b7;refine go ?_;refine gG (λg1=>?_) (λg1=>?_)
  ·have hf:kR l p k=false:=by rw[hF,g1];rfl
   rw[hf]at hm hc;rw[show jd l p k=jd l p (k+1)from hc.symm,show je l p k=je l p (k+1)from hm.symm];refine go ?_;exact aY (k+1,v) (by show l.length - (k+1)<l.length - k;omega) (by show k+1<=_;omega)
  refine go ?_;refine gG (λg2=>?_) (λg2=>?_)
  ·have hf:kR l p k=false:=by rw[hF,g1,gq g2];rfl
   rw[hf]at hm hc;rw[show jd l p k=jd l p (k+1)from hc.symm,show je l p k=je l p (k+1)from hm.symm];refine go ?_;exact aY (k+1,v) (by show l.length - (k+1)<l.length - k;omega) (by show k+1<=_;omega)
  refine go ?_;refine Y6 (aN:=Cc) (b:=bm) (aF:=vT (je l p k)) Rn x.c ?_;rw[acW];refine go ?_;refine NT rfl (λg3=>?_) (λg3=>?_)
  ·have hf:kR l p k=true:=by rw[hF,g1,fK g2,gq g3];rfl
   rw[hf,hgd]at hm;rw[hf]at hc;refine go ?_;refine ED (aN:=Cc) (b:=bm) (v:=.bool true) (aF:=vT (je l p k)) Rn x.c ?_;rw[<- Rm,show je l p k++[x.c]=je l p (k+1)from hm.symm];refine go ?_;intro b36;refine go ?_;refine qN (xs:=ints (jd l p k)) az (k:Int) () (by omega) (next:=λad=>?_);rw[<- Qe,show jd l p k++[k]=jd l p (k+1)from hc.symm];refine go ?_;exact aY (k+1,.slice ad ((ints (jd l p k)).length+1) ((ints (jd l p k)).length+1)) (by show l.length - (k+1)<l.length - k;omega) (by show k+1<=_;omega)
  ·have hf:kR l p k=false:=by rw[hF,g1,fK g2,fK g3];rfl
   rw[hf]at hm hc;rw[show jd l p k=jd l p (k+1)from hc.symm,show je l p k=je l p (k+1)from hm.symm];refine go ?_;exact aY (k+1,v) (by show l.length - (k+1)<l.length - k;omega) (by show k+1<=_;omega)
 have hkl:k=l.length:=by omega
 subst hkl;refine go ?_;rw[show jd l p l.length=cz l p from rfl];refine cu (A:=ap az v (ints (cz l p))) (fs:=[ae az v (ints (cz l p))]) wV (h:=?_);exact aj v (hv:=rfl) (hp:=trivial)
