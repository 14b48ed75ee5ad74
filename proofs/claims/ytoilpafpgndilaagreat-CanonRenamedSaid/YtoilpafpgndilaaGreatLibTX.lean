/-
  Part LibTX.
-/
import Derived.Test.YtoilpafpgndilaaGreatLibSX
import Derived.Test.YtoilpafpgndilaaGreatLibEX
set_option linter.all false
set_option maxRecDepth 10000
set_option maxHeartbeats 4000000
namespace Go.Proofs.YtoilpafpgndilaaGreat
open Go.Ideal Kd
theorem O4{s w h:Int}{holes:List Int}{vh:Value}(hw64:kD w)(afC:kD h)(hl:holes.length<4611686018427387904):
 bA Tryz.prog (.func 134) [.int .i64 s,.int .i64 w,.int .i64 h,vh] [] [] [ai ae vh holes] (mkV s w h holes) (λ_=>[]) (pM s w h holes) (λy=>y.ok=true↔oH s w h holes):=by
 refine aM _ (aP 134) λB w0=>?_;refine go ?_;intro b8;refine go ?_;by_cases hsh:s=1\/s=2
 rotate_left
 ·rw[dK (show s≠1 from λe=>hsh (.inl e))];refine go ?_;rw[dK (show s≠2 from λe=>hsh (.inr e))];refine go ?_;refine ah ⟨false,.nilFunc,.nilFunc⟩ (hv:=rfl) (hp:=⟨(λe=>by cases e),λe=>?_⟩)
  exfalso
  have e:=wz.2 e;obtain⟨q1,q2,q3,q4,q5,q6⟩:=e;exact hsh q1
 rcases hsh with rfl|rfl;all_goals
  refine go ?_;refine gG (λa1=>?_) (λa1=>?_)
  rotate_left
  ·refine go ?_;refine ah ⟨false,.nilFunc,.nilFunc⟩ (hv:=rfl) (hp:=⟨(λe=>by cases e),λe=>?_⟩)
   exfalso
   have e:=wz.2 e;obtain⟨q1,q2,q3,q4,q5,q6⟩:=e;omega
  refine go ?_;refine gG (λa2=>?_) (λa2=>?_)
  rotate_left
  ·refine go ?_;refine ah ⟨false,.nilFunc,.nilFunc⟩ (hv:=rfl) (hp:=⟨(λe=>by cases e),λe=>?_⟩)
   exfalso
   have e:=wz.2 e;obtain⟨q1,q2,q3,q4,q5,q6⟩:=e;omega
  refine go ?_;refine gG (λa3=>?_) (λa3=>?_)
  rotate_left
  ·refine go ?_;refine ah ⟨false,.nilFunc,.nilFunc⟩ (hv:=rfl) (hp:=⟨(λe=>by cases e),λe=>?_⟩)
   exfalso
   have e:=wz.2 e;obtain⟨q1,q2,q3,q4,q5,q6⟩:=e;omega
  refine go ?_;refine aA rfl (λa4=>?_) (λa4=>?_)
  ·refine go ?_;refine ah ⟨false,.nilFunc,.nilFunc⟩ (hv:=rfl) (hp:=⟨(λe=>by cases e),λe=>?_⟩)
   exfalso
   have e:=wz.2 e;obtain⟨q1,q2,q3,q4,q5,q6⟩:=e;omega
  have hwh:=xQ (w:=w) (h:=h) ⟨by omega,by omega⟩ ⟨by omega,by omega⟩;refine go ?_;refine aU (λk=>holes.length - k) (λk:Nat=>[(10,.int .i64 (k:Int))]) (λ_=>[]) (λ_=>[]) (λk=>k<=holes.length/\(holes.take k).Pairwise (·<·)/\∀x∈holes.take k,0<=x/\x<w*h) 0 ⟨bR _,by simp,by simp⟩ (body:=?_);rintro k ⟨hk,l6,hmem⟩;refine go ?_;refine aA rfl (λa6=>?_) (λa6=>?_)
  ·refine go ?_;intro _ _ x hx;have hxm:=aZ hx;have htk:holes.take (k+1)=holes.take k++[x]:=by rw[nP,hx];rfl
   have hstep:0<=x->x<w*h->(∀a∈holes.take k,a<x)->k+1<=holes.length/\(holes.take (k+1)).Pairwise (·<·)/\∀z∈holes.take (k+1),0<=z/\z<w*h:=λq1 q2 q3=>by
    refine⟨by omega,?_,?_⟩
    ·rw[htk,Kq];exact⟨l6,by simp,λa ha b hb=>by rw[bM.1 hb];exact q3 a ha⟩
    ·rw[htk];intro z hz;rcases dX.1 hz with hz|hz
     ·exact hmem z hz
     ·rw[bM.1 hz];exact⟨q1,q2⟩
   refine go ?_;refine gG (λb1=>?_) (λb1=>?_)
   rotate_left
   ·refine go ?_;refine ah ⟨false,.nilFunc,.nilFunc⟩ (hv:=rfl) (hp:=⟨(λe=>by cases e),λe=>?_⟩)
    exfalso
    have e:=wz.2 e;obtain⟨q1,q2,q3,q4,q5,q6⟩:=e;have:=q5 x hxm;omega
   refine go ?_;intro _ _ x' hx';cases hx.symm.trans hx';refine go ?_;refine gG (λb2=>?_) (λb2=>?_)
   rotate_left
   ·refine go ?_;refine ah ⟨false,.nilFunc,.nilFunc⟩ (hv:=rfl) (hp:=⟨(λe=>by cases e),λe=>?_⟩)
    exfalso
    have e:=wz.2 e;obtain⟨q1,q2,q3,q4,q5,q6⟩:=e;have:=q5 x hxm;omega
   refine go ?_;refine gG (λb3=>?_) (λb3=>?_)
   ·refine go ?_;refine aN (k+1) (by omega) (hstep (by omega) (by omega) λa ha=>?_);rw[show k=0 by omega,DK]at ha;cases ha
   refine go ?_;intro _ _ x' hx' _ _ z hz;cases hx.symm.trans hx';obtain⟨j,rfl⟩:∃j,k=j+1:=⟨k - 1,by omega⟩
   rw[show(((j+1:Nat):Int) - 1).toNat=j by omega]at hz;have hzj:holes.take (j+1)=holes.take j++[z]:=by rw[nP,hz];rfl
   refine go ?_;refine aA rfl (λb4=>?_) (λb4=>?_)
   ·refine go ?_;refine ah ⟨false,.nilFunc,.nilFunc⟩ (hv:=rfl) (hp:=⟨(λe=>by cases e),λe=>?_⟩)
    exfalso
    have e:=wz.2 e;obtain⟨q1,q2,q3,q4,q5,q6⟩:=e;obtain⟨d1,d2⟩:=bq.1 hz;obtain⟨d3,d4⟩:=bq.1 hx;have:=wT.1 q4 j (j+1) d1 d3 (by omega);rw[d2,d4]at this;omega
   refine go ?_;refine aN (j+1+1) (by omega) (hstep (by omega) (by omega) λa ha=>?_);have:=VJ l6 ha;rw[hzj,VI]at this;omega
  have hkl:k=holes.length:=by omega
  subst hkl;rw[bU]at l6 hmem;clear a6 hk;obtain⟨m,hm⟩:=jA (show 0<=w*h by omega);have FI:mX w h holes=gI m holes:=by
   unfold mX;rw[hm];rfl
  have hmm:∀x∈holes,0<=x/\x<(m:Int):=λx hx=>by rw[<- hm];exact hmem x hx
  refine go ?_;intro b11;refine go ?_;refine gH ae ?_;refine gH ae ?_;refine aU (λy:Nat×Value×Value=>m - y.1) (λy=>[(12,.int .i64 (y.1:Int))]) (λy=>[pt b11 (.cells [.int .i64 _,.int .i64 w,.int .i64 h,y.2.1,y.2.2]),ap ae y.2.1 (dP y.1 λi=>decide (i∈holes)),ap ae y.2.2 (gI y.1 holes)]) (λ_=>[]) (λy=>y.1<=m) (0,.slice none 0 0,.slice none 0 0) (bR _) (hk:=by repeat (first|exact aI.nil|(apply aI.cons;(focus (repeat (first|exact az.here|apply az.there)))))) (body:=?_);rintro⟨k,v1,v2⟩ hk;dsimp only at hk⊢;have hcl:=CW k holes;have hsl:=Ba k λi=>decide (i∈holes);refine go ?_;rw[hm];refine go ?_;refine aA rfl (λa9=>?_) (λa9=>?_)
  ·refine go ?_;refine ay (JZ (xs:=holes) (z:=(k:Int)) (by omega)) (next:=λ_ _=>?_);refine go ?_;refine aA rfl (λhin=>?_) (λhin=>?_)
   ·have e1:gI (k+1) holes=gI k holes:=by rw[Jd,if_pos hin,gU]
    have e2:dP (k+1) (λi=>decide (i∈holes))=dP k (λi=>decide (i∈holes))++[(k:Int)]:=by rw[A9,if_pos (dK hin)]
    refine go ?_;intro b91;refine go ?_;refine fB ae (xs:=dP k λi=>decide (i∈holes)) (k:Int) () (by omega) λad=>?_;rw[<- e1,<- e2];refine go ?_;exact aN (k+1,.slice ad ((dP k λi=>decide (i∈holes)).length+1) ((dP k λi=>decide (i∈holes)).length+1),v2) (by show m - (k+1)<m - k;omega) (by show k+1<=m;omega)
   ·have e1:gI (k+1) holes=gI k holes++[(k:Int)]:=by rw[Jd,if_neg hin]
    have e2:dP (k+1) (λi=>decide (i∈holes))=dP k (λi=>decide (i∈holes)):=by rw[A9,if_neg (by simp[hin]),gU]
    refine go ?_;intro b91;refine go ?_;refine fB ae (xs:=gI k holes) (k:Int) () (by omega) λad=>?_;rw[<- e1,<- e2];refine go ?_;exact aN (k+1,v1,.slice ad ((gI k holes).length+1) ((gI k holes).length+1)) (by show m - (k+1)<m - k;omega) (by show k+1<=m;omega)
  have hkm:k=m:=by omega
  subst hkm;rw[UJ l6 hmm];refine pO (E:=ae) (v:=v2) (xs:=gI k holes) λa2 hv2=>?_;subst hv2;refine go ?_;refine aA rfl (λa7=>?_) (λa7=>?_)
  ·refine go ?_;refine ah ⟨false,.nilFunc,.nilFunc⟩ (hv:=rfl) (hp:=⟨(λe=>by cases e),λe=>?_⟩)
   exfalso
   have e:=wz.2 e;obtain⟨q1,q2,q3,q4,q5,q6⟩:=e;rw[FI]at q6;exact q6 (jy.1 (by omega))
  refine go ?_;refine bn (gz (E:=ae) (v:=v1) (xs:=holes)) (h:=?_);refine bn (gz (E:=ae) (v:=.slice a2 (gI k holes).length (gI k holes).length) (xs:=gI k holes)) (h:=?_);refine go ?_;refine ah ⟨true,v1,.slice a2 (gI k holes).length (gI k holes).length⟩ (hv:=rfl) (hp:=⟨λ_=>wz.1 ⟨by first|exact .inl rfl|exact .inr rfl,⟨by omega,by omega⟩,⟨by omega,by omega⟩,l6,hmem,by rw[FI];exact λe=>a7 (by rw[e];rfl)⟩,λ_=>rfl⟩) (hF:=?_);show Sub [ai ae _ holes,ai ae _ (mX w h holes)] _;rw[FI];exact .cons (by simp) (.cons (by simp) .nil)
theorem Wu{g:bz}{vh vc:Value}(hS:qP g):
 bA Tryz.prog (.func 201) [.agg ⟨iO g vh vc⟩] [] [] (jq g vh vc) (λe:Int=>.int .i64 e) (λ_=>[]) (λ_=>[]) (λe=>e=0↔fE g):=by
 refine aM _ (aP 201) λB w0=>?_;refine go ?_;intro b1;refine go ?_;refine ay (O4 (s:=g.shape) (w:=g.w) (h:=g.h) (holes:=g.holes) (vh:=vh) hS.w hS.h hS.holes) (next:=λy hy=>?_);obtain⟨ok,v1,v2⟩:=y;cases ok with
 |false=>
  have hno:¬oH g.shape g.w g.h g.holes:=λh=>by have:=hy.2 h;cases this
  dsimp only[mkV,pM,cond,List.nil_append];refine go ?_;intro b3;refine go ?_;exact ah 130 (hv:=rfl) (hp:=⟨(λh=>by cases h),λh=>absurd h.make hno⟩)
 |true=>
  have hmk:=hy.1 rfl;dsimp only[mkV,pM,cond,jq,wH,List.cons_append,List.nil_append];refine go ?_;intro b3;refine go ?_;refine ay (zF (xs:=mX g.w g.h g.holes) (ys:=g.cells) (by
   have:=CW (g.w*g.h).toNat g.holes;have:=xQ hmk.wi hmk.he;unfold mX;omega)) (next:=λ_ _=>?_)
  refine go ?_;refine fq rfl (λh1=>?_) (λh1=>?_)
  ·refine go ?_;exact ah 130 (hv:=rfl) (hp:=⟨(λh=>by cases h),λh=>absurd h.cells.symm h1⟩)
  ·refine go ?_;exact ah 0 (hv:=rfl) (hp:=⟨λ_=>⟨hmk,h1.symm⟩,λ_=>rfl⟩)
theorem O5{α:Type}{xs:List α}{k:Nat}(h:xs.length<=k):xs.take k=xs:=ry h
abbrev sF(g:bz)(a:Nat):Int->Bool:=λb=>xU g.shape (gZ g (a:Int)) (gZ g b)
theorem Wv{g:bz}{vh vc:Value}(hS:qP g):
 bA Tryz.prog (.func 135) [.agg ⟨iO g vh vc⟩] [] [] (jq g vh vc) wI (λ_=>[]) (λy=>[jr (y.e=0) (ai (ak ae) y.v (bJ g))]) (λy=>y.e=0↔fE g):=by
 refine aM _ (aP 135) λB w0=>?_;refine go ?_;intro b1;refine bn (eX (b:=b1)) (h:=?_);refine go ?_;refine ay (Wu (g:=g) (vh:=vh) (vc:=vc) hS) (next:=λe he=>?_);refine go ?_;refine aA rfl (λh1=>?_) (λh1=>?_)
 ·refine go ?_;refine jE (c:=(130:Int)=0) (f:=ai (ak ae) (.slice none 0 0) (bJ g)) (by omega) ?_;exact ah ⟨.slice none 0 0,130⟩ (hv:=rfl) (hp:=⟨(λh=>by cases h),λh=>absurd (he.2 h) h1⟩)
 have hg:=he.1 (ic.1 h1);clear he h1;have hgl:=hg.len;have hnl:=wm g;refine go ?_;refine gH (ak ae) ?_;refine aU (λy:Nat×Value=>g.cells.length - y.1) (λy=>[(5,.int .i64 (y.1:Int)),(4,y.2)]) (λy=>[ap (ak ae) y.2 ((bJ g).take y.1)]) (λ_=>[]) (λy=>y.1<=g.cells.length) (0,.slice none 0 0) (bR _) (hk:=by repeat (first|exact aI.nil|(apply aI.cons;(focus (repeat (first|exact az.here|apply az.there)))))) (body:=?_);rintro⟨i,v4⟩ hi;dsimp only at hi⊢;have hil:((bJ g).take i).length=i:=by rw[gT];omega
 refine go ?_;refine aA rfl (λh2=>?_) (λh2=>?_)
 ·have hn:=UK hg (show i<g.cells.length by omega);refine go ?_;refine gH ae ?_;refine aU (λy:Nat×Value=>g.cells.length - y.1) (λy=>[(7,.int .i64 (y.1:Int)),(6,y.2)]) (λy=>[ap ae y.2 (dP y.1 (sF g i))]) (λ_=>[]) (λy=>y.1<=g.cells.length) (0,.slice none 0 0) (bR _) (hk:=by repeat (first|exact aI.nil|(apply aI.cons;(focus (repeat (first|exact az.here|apply az.there)))))) (body:=?_);rintro⟨j,v6⟩ hj;dsimp only at hj⊢;have hsl:=Ba j (sF g i);refine go ?_;refine aA rfl (λh3=>?_) (λh3=>?_)
  ·refine go ?_;refine ay (ahG (g:=g) (vh:=vh) (vc:=vc) (a:=i) (b:=j) hg (by omega) (by omega)) (next:=λ_ _=>?_);have hss:=A9 j (sF g i);refine go ?_;refine kw rfl (λh4=>?_) (λh4=>?_)
   ·rw[if_pos h4]at hss;refine go ?_;intro O6;refine go ?_;refine fB ae (xs:=dP j (sF g i)) (j:Int) () (by omega) λad=>?_;rw[<- hss];refine go ?_;exact aN (j+1,.slice ad ((dP j (sF g i)).length+1) ((dP j (sF g i)).length+1)) (by show g.cells.length - (j+1)<g.cells.length - j;omega) (by show j+1<=_;omega)
   ·rw[if_neg (by show¬xU g.shape (gZ g (i:Int)) (gZ g (j:Int))=true;rw[h4];simp),gU]at hss;rw[<- hss];refine go ?_;exact aN (j+1,v6) (by show g.cells.length - (j+1)<g.cells.length - j;omega) (by show j+1<=_;omega)
  have iR:j=g.cells.length:=by omega
  subst iR;refine pO (E:=ae) (v:=v6) (xs:=dP g.cells.length (sF g i)) λa6 e6=>?_;subst e6;refine bn (gz (E:=ae) (v:=.slice a6 (dP g.cells.length (sF g i)).length (dP g.cells.length (sF g i)).length) (xs:=dP g.cells.length (sF g i))) (h:=?_);refine go ?_;intro b35;refine go ?_;refine fB (xs:=(bJ g).take i) (ak ae) (dP g.cells.length (sF g i)) (.slice a6 (dP g.cells.length (sF g i)).length (dP g.cells.length (sF g i)).length) (by omega) (next:=λad=>?_);rw[<- bZ hn];refine go ?_;exact aN (i+1,.slice ad (((bJ g).take i).length+1) (((bJ g).take i).length+1)) (by show g.cells.length - (i+1)<g.cells.length - i;omega) (by show i+1<=_;omega)
 have hie:i=g.cells.length:=by omega
 subst hie;rw[O5 (by omega)];refine bn (gz (E:=ak ae) (v:=v4) (xs:=bJ g)) (h:=?_);refine go ?_;refine jP (c:=(0:Int)=0) (f:=ai (ak ae) v4 (bJ g)) (by simp) ?_;exact ah ⟨v4,0⟩ (hv:=rfl) (hp:=⟨λ_=>hg,λ_=>rfl⟩)
theorem ahK{g:bz}(hg:fE g){k:Nat}(hk:k<g.cells.length):(-8<(gZ g (k:Int)).1/\(gZ g (k:Int)).1<16)/\0<=(gZ g (k:Int)).2/\(gZ g (k:Int)).2<16:=by
 obtain⟨hc,hr⟩:=zG hg hk;have hv:=J3 hr;rcases hg.make.sh with hs|hs
 ·rw[Du hk hs];dsimp only;omega
 ·rw[FY hk hs];dsimp only;omega
theorem ahL{g:bz}(hg:fE g){k:Nat}(hk:k<g.cells.length)(f:Int): -16<=oh g.shape f (gZ g (k:Int))/\oh g.shape f (gZ g (k:Int))<=32:=by
 obtain⟨h1,h2⟩:=ahK hg hk;unfold oh;split
 ·omega
 split
 ·omega
 split<;>omega
abbrev ul(g:bz)(f n:Int):Int->Bool:=λb=>decide (oh g.shape f (gZ g b)=n)
abbrev yu(g:bz)(f:Int)(k:Nat):List (List Int):=zm (λn=>dP g.cells.length (ul g f n)) (-16) k
theorem ahM{g:bz}(hg:fE g)(f:Int):yu g f 49=jd g λs=>(oh g.shape f s,true):=by
 rw[UO (lo:= -16) (k:=49) (λs=>(oh g.shape f s,true)) (λp hp _=>by
  obtain⟨h1,h2⟩:=Fx.1 hp;have h3:=ahL hg (k:=p.1.toNat) (by omega) f;rw[show((p.1.toNat:Nat):Int)=p.1 by omega,<- h2]at h3;dsimp only;omega)]
 unfold yu;congr 1;funext n
 rw[UM];rfl
theorem ahN(L:Int->List Int)(lo:Int)(k:Nat):(zm L lo k).length<=k:=by
 unfold zm;refine pQ (PR _ _) ?_;rw[bY];unfold fG;simp
theorem O7{g:bz}{vh vc:Value}{f:Int}(hg:fE g):
 bA Tryz.prog (.func 203) [.agg ⟨iO g vh vc⟩,.int .i64 f] [] [] (jq g vh vc) (λv:Value=>v) (λv=>[ap (ak ae) v (jd g λs=>(oh g.shape f s,true))]) (λ_=>[]) (λ_=>True):=by
 have hgl:=hg.len;refine aM _ (aP 203) λB w0=>?_;refine go ?_;intro b1;refine bn (eX (b:=b1)) (h:=?_);refine go ?_;refine gH (ak ae) ?_;refine aU (λy:Nat×Value=>49 - y.1) (λy=>[(6,.int .i64 (-16+(y.1:Int))),(5,y.2)]) (λy=>[ap (ak ae) y.2 (yu g f y.1)]) (λ_=>[]) (λy=>y.1<=49) (0,.slice none 0 0) (by omega) (hk:=by repeat (first|exact aI.nil|(apply aI.cons;(focus (repeat (first|exact az.here|apply az.there)))))) (body:=?_);rintro⟨i,v5⟩ hi;dsimp only at hi⊢;have hil:(yu g f i).length<=i:=ahN (λn=>dP g.cells.length (ul g f n)) (-16) i;have hls:yu g f (i+1)=yu g f i++if dP g.cells.length (ul g f (-16+(i:Int)))=[]then[]else[dP g.cells.length (ul g f (-16+(i:Int)))]:=UN (λn=>dP g.cells.length (ul g f n)) (-16) i
 have hin: -16+(i:Int)+1= -16+((i+1:Nat):Int):=by omega
 refine go ?_;refine aA rfl (λh2=>?_) (λh2=>?_)
 ·refine go ?_;refine gH ae ?_;refine aU (λy:Nat×Value=>g.cells.length - y.1) (λy=>[(8,.int .i64 (y.1:Int)),(7,y.2)]) (λy=>[ap ae y.2 (dP y.1 (ul g f (-16+(i:Int))))]) (λ_=>[]) (λy=>y.1<=g.cells.length) (0,.slice none 0 0) (bR _) (hk:=by repeat (first|exact aI.nil|(apply aI.cons;(focus (repeat (first|exact az.here|apply az.there)))))) (body:=?_);rintro⟨j,v7⟩ hj;dsimp only at hj⊢;have hsl:=Ba j (ul g f (-16+(i:Int)));refine go ?_;refine aA rfl (λh3=>?_) (λh3=>?_)
  ·refine go ?_;refine ay (ahH (g:=g) (vh:=vh) (vc:=vc) (f:=f) (a:=j) hg (by omega)) (next:=λ_ _=>?_);have hss:=A9 j (ul g f (-16+(i:Int)));refine go ?_;refine aA rfl (λh4=>?_) (λh4=>?_)
   ·rw[if_pos (dK h4)]at hss;refine go ?_;intro O6;refine go ?_;refine fB ae (xs:=dP j (ul g f (-16+(i:Int)))) (j:Int) () (by omega) λad=>?_;rw[<- hss];refine go ?_;exact aN (j+1,.slice ad ((dP j (ul g f (-16+(i:Int)))).length+1) ((dP j (ul g f (-16+(i:Int)))).length+1)) (by show g.cells.length - (j+1)<g.cells.length - j;omega) (by show j+1<=_;omega)
   ·rw[if_neg (by show¬decide (oh g.shape f (gZ g (j:Int))= -16+(i:Int))=true;rw[aR h4];simp),gU]at hss;rw[<- hss];refine go ?_;exact aN (j+1,v7) (by show g.cells.length - (j+1)<g.cells.length - j;omega) (by show j+1<=_;omega)
  have iR:j=g.cells.length:=by omega
  subst iR;generalize hL:dP g.cells.length (ul g f (-16+(i:Int)))=L at hls hsl⊢;refine pO (E:=ae) (v:=v7) (xs:=L) λa7 e7=>?_;subst e7;refine go ?_;refine aA rfl (λh5=>?_) (λh5=>?_)
  ·rw[if_neg (λe=>by rw[e]at h5;simp at h5)]at hls;refine bn (gz (E:=ae) (v:=.slice a7 L.length L.length) (xs:=L)) (h:=?_);refine go ?_;intro b35;refine go ?_;refine fB (xs:=yu g f i) (ak ae) L (.slice a7 L.length L.length) (by omega) (next:=λad=>?_);rw[<- hls];refine go ?_;rw[hin];exact aN (i+1,.slice ad ((yu g f i).length+1) ((yu g f i).length+1)) (by show 49 - (i+1)<49 - i;omega) (by show i+1<=_;omega)
  ·rw[if_pos (jy.1 (by omega)),gU]at hls;rw[<- hls];refine go ?_;rw[hin];exact aN (i+1,v5) (by show 49 - (i+1)<49 - i;omega) (by show i+1<=_;omega)
 have hie:i=49:=by omega
 subst hie;rw[ahM hg f];refine go ?_;exact ah v5 (hv:=rfl) (hp:=trivial)
abbrev ny(g:bz)(k:Nat):Int->Bool:=λb=>cond (Nat.beq k 0) (decide ((gZ g b).1=(gZ g b).2)) (decide ((gZ g b).1+(gZ g b).2=g.w - 1))
def sG(g:bz)(k:Nat):List Int:=dP g.cells.length (ny g k)
def qW(l:List Int):List (List Int):=if l=[]then[]else[l]
theorem ahO{g:bz}(hs:g.shape=1)(hw:g.w=g.h):lY g=jO (qW (sG g 0)) (qW (sG g 1)):=by
 unfold lY;rw[if_neg (by omega),if_pos hw,Jt (λs=>decide (s.1=s.2)),Jt (λs=>decide (s.1+s.2=g.w - 1))];rfl
def mJ(g:bz)(k:Nat):List (List Int):=if k=0 then[]else if k=1 then qW (sG g 0)else jO (qW (sG g 0)) (qW (sG g 1))
theorem ahP(l:List Int):jO [] (qW l)=qW l:=by
 unfold qW;split
 ·rfl
 ·show uf [] l=[l]
  unfold uf;rw[if_neg (by simp)];rfl
theorem ahQ(g:bz){k:Nat}(hk:k<2):mJ g (k+1)=jO (mJ g k) (qW (sG g k)):=by
 rcases(show k=0\/k=1 by omega)with rfl|rfl
 ·exact(ahP _).symm
 ·rfl
theorem Ww(O:List (List Int)){l:List Int}(hl:l≠[]):jO O (qW l)=if O.head? =some l then O else O++[l]:=by
 unfold qW;rw[if_neg hl];rfl
theorem ahR{g:bz}{vh vc:Value}(hg:fE g)(hs:g.shape=1):
 bA Tryz.prog (.func 204) [.agg ⟨iO g vh vc⟩] [] [] (jq g vh vc) (λv:Value=>v) (λv=>[ap (ak ae) v (lY g)]) (λ_=>[]) (λ_=>True):=by
 have hgl:=hg.len;have FJ:=hg.make.wi;refine aM _ (aP 204) λB w0=>?_;refine go ?_;intro b1;refine bn (eX (b:=b1)) (h:=?_);refine go ?_;refine gH (ak ae) ?_;refine aU (λy:Nat×Value=>2 - y.1) (λy=>[(4,.int .i64 (y.1:Int)),(3,y.2)]) (λy=>[ap (ak ae) y.2 (mJ g y.1)]) (λ_=>[]) (λy=>y.1<=2/\(y.1=0\/g.w=g.h)) (0,.slice none 0 0) ⟨by omega,.inl rfl⟩ (hk:=by repeat (first|exact aI.nil|(apply aI.cons;(focus (repeat (first|exact az.here|apply az.there)))))) (body:=?_);rintro⟨k,v3⟩ ⟨hk,O8⟩;dsimp only at hk O8⊢;have J4:∀l∈mJ g k,l.length<=256:=λl hl=>by
  have h1:∀n,(sG g n).length<=256:=λn=>by have:=Ba g.cells.length (ny g n);unfold sG;omega
  have h2:∀n,∀l∈qW (sG g n),l.length<=256:=λn l hl=>by
   unfold qW at hl;split at hl
   ·cases hl
   ·rw[bM.1 hl];exact h1 n
  unfold mJ at hl;split at hl
  ·cases hl
  split at hl
  ·exact h2 0 l hl
  ·rcases Uz hl with hl|hl
   ·exact h2 0 l hl
   ·exact h2 1 l hl
 have hol:(mJ g k).length<=2:=by
  unfold mJ jO qW;split
  ·simp
  split
  ·split<;>simp
  ·split<;>split<;>simp[uf]<;>split<;>simp
 refine go ?_;refine gG (λhk2=>?_) (λhk2=>?_)
 ·have e:k=2:=by omega
  subst e;have hw:g.w=g.h:=O8.resolve_left (by omega);rw[show mJ g 2=lY g from(ahO hs hw).symm];refine go ?_;exact ah v3 (hv:=rfl) (hp:=trivial)
 refine go ?_;refine aA rfl (λhw=>?_) (λhw=>?_)
 rotate_left
 ·have e:k=0:=O8.resolve_right hw;subst e;have e:lY g=mJ g 0:=by unfold lY;rw[if_neg (by omega),if_neg hw];rfl
  rw[e];refine go ?_;exact ah v3 (hv:=rfl) (hp:=trivial)
 have hds:=ahQ g (show k<2 by omega);rcases(show k=0\/k=1 by omega)with rfl|rfl
 ·refine go ?_;refine gH ae ?_;refine aU (λy:Nat×Value=>g.cells.length - y.1) (λy=>[(6,.int .i64 (y.1:Int)),(5,y.2)]) (λy=>[ap ae y.2 (dP y.1 (ny g 0))]) (λ_=>[]) (λy=>y.1<=g.cells.length) (0,.slice none 0 0) (bR _) (hk:=by repeat (first|exact aI.nil|(apply aI.cons;(focus (repeat (first|exact az.here|apply az.there)))))) (body:=?_);rintro⟨j,v5⟩ hj;dsimp only at hj⊢;have hsl:=Ba j (ny g 0);refine go ?_;refine aA rfl (λh3=>?_) (λh3=>?_)
  ·have yx:=Du (k:=j) (by omega) hs;obtain⟨hc,hr⟩:=zG hg (k:=j) (by omega);have hss:=A9 j (ny g 0);refine go ?_;refine ay (Dt (g:=g) (vh:=vh) (vc:=vc) (k:=j) hg (by omega)) (next:=λ_ _=>?_);refine go ?_;refine ay (BA (g:=g) (vh:=vh) (vc:=vc) (k:=j) hg (by omega)) (next:=λ_ _=>?_);generalize(g.cells[j]).tmod g.w=x at hc yx⊢;generalize(g.cells[j]).tdiv g.w=y at hr yx⊢;refine go ?_;refine gG (λh4=>?_) (λh4=>?_)
   rotate_left
   ·have hp:ny g 0 (j:Int)=true:=by show decide _=true;rw[yx];exact dK (by dsimp only;omega)
    rw[if_pos hp]at hss;refine go ?_;intro O6;refine go ?_;refine fB ae (xs:=dP j (ny g 0)) (j:Int) () (by omega) λad=>?_;rw[<- hss];refine go ?_;exact aN (j+1,.slice ad ((dP j (ny g 0)).length+1) ((dP j (ny g 0)).length+1)) (by show g.cells.length - (j+1)<g.cells.length - j;omega) (by show j+1<=_;omega)
   ·have hp:¬ny g 0 (j:Int)=true:=by show¬decide _=true;rw[yx];intro h;have:=iI h;dsimp only at this;omega
    rw[if_neg hp,gU]at hss;rw[<- hss];refine go ?_;exact aN (j+1,v5) (by show g.cells.length - (j+1)<g.cells.length - j;omega) (by show j+1<=_;omega)
  have iR:j=g.cells.length:=by omega
  subst iR;have hL:dP g.cells.length (ny g 0)=sG g 0:=rfl;rw[hL]at hsl⊢;generalize sG g 0=L at hsl hds⊢;refine pO (E:=ae) (v:=v5) (xs:=L) λa5 e5=>?_;subst e5;refine bn (gz (E:=ae) (v:=.slice a5 L.length L.length) (xs:=L)) (h:=?_);generalize mJ g 0=O at hds hol J4⊢;refine pO (E:=ak ae) (v:=v3) (xs:=O) λa3 e3=>?_;subst e3;refine go ?_;refine gG (λh5=>?_) (λh5=>?_)
  ·have e0:L=[]:=jy.1 (by omega);have e1:mJ g (0+1)=O:=by rw[hds,e0];rfl
   rw[<- e1];refine go ?_;exact aN (0+1,.slice a3 (mJ g (0+1)).length (mJ g (0+1)).length) (by show 2 - (0+1)<2 - 0;omega) ⟨by show 0+1<=2;omega,.inr hw⟩
  rw[Ww O (λe=>by rw[e]at h5;simp at h5)]at hds;refine go ?_;refine gG (λh6=>?_) (λh6=>?_)
  ·obtain⟨o,O2,rfl⟩:∃o O2,O=o::O2:=by
    cases O with
    |nil=>simp at h6
    |cons o O2=>exact⟨o,O2,rfl⟩
   refine go ?_;refine I6 ae (v:=.slice a3 (o::O2).length (o::O2).length) (xss:=o::O2) 0 o rfl (next:=λ_ _ u=>?_);refine go ?_;have ho:=J4 o (cB ..);rw[List.head?_cons]at hds;refine ay (zF (xs:=o) (ys:=L) (by omega)) (next:=λ_ _=>?_);refine go ?_;refine fq rfl (λh7=>?_) (λh7=>?_)
   ·rw[if_neg (λe=>h7 (Option.some.inj e))]at hds;refine go ?_;intro O9;refine go ?_;refine fB (xs:=o::O2) (ak ae) L (.slice a5 L.length L.length) (by omega) (next:=λr9=>?_);rw[<- hds];refine go ?_;exact aN (0+1,.slice r9 ((o::O2).length+1) ((o::O2).length+1)) (by show 2 - (0+1)<2 - 0;omega) ⟨by show 0+1<=2;omega,.inr hw⟩
   ·rw[if_pos (congrArg some h7)]at hds;rw[<- hds];refine go ?_;exact aN (0+1,.slice a3 (mJ g (0+1)).length (mJ g (0+1)).length) (by show 2 - (0+1)<2 - 0;omega) ⟨by show 0+1<=2;omega,.inr hw⟩
  have e0:O=[]:=jy.1 (by omega);subst e0;rw[if_neg (by simp)]at hds;refine go ?_;intro O9;refine go ?_;refine fB (xs:=([]:List (List Int))) (ak ae) L (.slice a5 L.length L.length) (by simp) (next:=λad=>?_);rw[<- hds];refine go ?_;exact aN (0+1,.slice ad (([]:List (List Int)).length+1) (([]:List (List Int)).length+1)) (by show 2 - (0+1)<2 - 0;omega) ⟨by show 0+1<=2;omega,.inr hw⟩
 ·refine go ?_;refine gH ae ?_;refine aU (λy:Nat×Value=>g.cells.length - y.1) (λy=>[(6,.int .i64 (y.1:Int)),(5,y.2)]) (λy=>[ap ae y.2 (dP y.1 (ny g 1))]) (λ_=>[]) (λy=>y.1<=g.cells.length) (0,.slice none 0 0) (bR _) (hk:=by repeat (first|exact aI.nil|(apply aI.cons;(focus (repeat (first|exact az.here|apply az.there)))))) (body:=?_);rintro⟨j,v5⟩ hj;dsimp only at hj⊢;have hsl:=Ba j (ny g 1);refine go ?_;refine aA rfl (λh3=>?_) (λh3=>?_)
  ·have yx:=Du (k:=j) (by omega) hs;obtain⟨hc,hr⟩:=zG hg (k:=j) (by omega);have hss:=A9 j (ny g 1);refine go ?_;refine ay (Dt (g:=g) (vh:=vh) (vc:=vc) (k:=j) hg (by omega)) (next:=λ_ _=>?_);refine go ?_;refine ay (BA (g:=g) (vh:=vh) (vc:=vc) (k:=j) hg (by omega)) (next:=λ_ _=>?_);generalize(g.cells[j]).tmod g.w=x at hc yx⊢;generalize(g.cells[j]).tdiv g.w=y at hr yx⊢;refine go ?_;refine aA rfl (λh4=>?_) (λh4=>?_)
   ·have hp:ny g 1 (j:Int)=true:=by show decide _=true;rw[yx];exact dK (by dsimp only;omega)
    rw[if_pos hp]at hss;refine go ?_;intro O6;refine go ?_;refine fB ae (xs:=dP j (ny g 1)) (j:Int) () (by omega) λad=>?_;rw[<- hss];refine go ?_;exact aN (j+1,.slice ad ((dP j (ny g 1)).length+1) ((dP j (ny g 1)).length+1)) (by show g.cells.length - (j+1)<g.cells.length - j;omega) (by show j+1<=_;omega)
   ·have hp:¬ny g 1 (j:Int)=true:=by show¬decide _=true;rw[yx];intro h;have:=iI h;dsimp only at this;omega
    rw[if_neg hp,gU]at hss;rw[<- hss];refine go ?_;exact aN (j+1,v5) (by show g.cells.length - (j+1)<g.cells.length - j;omega) (by show j+1<=_;omega)
  have iR:j=g.cells.length:=by omega
  subst iR;have hL:dP g.cells.length (ny g 1)=sG g 1:=rfl;rw[hL]at hsl⊢;generalize sG g 1=L at hsl hds⊢;refine pO (E:=ae) (v:=v5) (xs:=L) λa5 e5=>?_;subst e5;refine bn (gz (E:=ae) (v:=.slice a5 L.length L.length) (xs:=L)) (h:=?_);generalize mJ g 1=O at hds hol J4⊢;refine pO (E:=ak ae) (v:=v3) (xs:=O) λa3 e3=>?_;subst e3;refine go ?_;refine gG (λh5=>?_) (λh5=>?_)
  ·have e0:L=[]:=jy.1 (by omega);have e1:mJ g (1+1)=O:=by rw[hds,e0];rfl
   rw[<- e1];refine go ?_;exact aN (1+1,.slice a3 (mJ g (1+1)).length (mJ g (1+1)).length) (by show 2 - (1+1)<2 - 1;omega) ⟨by show 1+1<=2;omega,.inr hw⟩
  rw[Ww O (λe=>by rw[e]at h5;simp at h5)]at hds;refine go ?_;refine gG (λh6=>?_) (λh6=>?_)
  ·obtain⟨o,O2,rfl⟩:∃o O2,O=o::O2:=by
    cases O with
    |nil=>simp at h6
    |cons o O2=>exact⟨o,O2,rfl⟩
   refine go ?_;refine I6 ae (v:=.slice a3 (o::O2).length (o::O2).length) (xss:=o::O2) 0 o rfl (next:=λ_ _ u=>?_);refine go ?_;have ho:=J4 o (cB ..);rw[List.head?_cons]at hds;refine ay (zF (xs:=o) (ys:=L) (by omega)) (next:=λ_ _=>?_);refine go ?_;refine fq rfl (λh7=>?_) (λh7=>?_)
   ·rw[if_neg (λe=>h7 (Option.some.inj e))]at hds;refine go ?_;intro O9;refine go ?_;refine fB (xs:=o::O2) (ak ae) L (.slice a5 L.length L.length) (by omega) (next:=λr9=>?_);rw[<- hds];refine go ?_;exact aN (1+1,.slice r9 ((o::O2).length+1) ((o::O2).length+1)) (by show 2 - (1+1)<2 - 1;omega) ⟨by show 1+1<=2;omega,.inr hw⟩
   ·rw[if_pos (congrArg some h7)]at hds;rw[<- hds];refine go ?_;exact aN (1+1,.slice a3 (mJ g (1+1)).length (mJ g (1+1)).length) (by show 2 - (1+1)<2 - 1;omega) ⟨by show 1+1<=2;omega,.inr hw⟩
  have e0:O=[]:=jy.1 (by omega);subst e0;rw[if_neg (by simp)]at hds;refine go ?_;intro O9;refine go ?_;refine fB (xs:=([]:List (List Int))) (ak ae) L (.slice a5 L.length L.length) (by simp) (next:=λad=>?_);rw[<- hds];refine go ?_;exact aN (1+1,.slice ad (([]:List (List Int)).length+1) (([]:List (List Int)).length+1)) (by show 2 - (1+1)<2 - 1;omega) ⟨by show 1+1<=2;omega,.inr hw⟩
theorem ahS{g:bz}{vh vc:Value}{p:Int}(hg:fE g):bA Tryz.prog (.func 205) [.agg ⟨iO g vh vc⟩,.int .i64 p] [] [] (jq g vh vc) (λy:Nat×Bool=>.tuple ⟨[.int .i64 (y.1:Int),.bool y.2]⟩) (λ_=>[]) (λ_=>[]) (λy=>(y.2=true↔p∈g.cells)/\(y.2=true->ww p g.cells=y.1)):=by
 have hgl:=hg.len;have l6:g.cells.Pairwise (·<·):=by rw[hg.cells];exact Je _ _
 refine aM _ (aP 205) λB w0=>?_;refine go ?_;intro b1;refine bn (eX (b:=b1)) (h:=?_);refine go ?_;refine aU (λk=>g.cells.length - k) (λk:Nat=>[(6,.int .i64 (k:Int))]) (λ_=>[]) (λ_=>[]) (λk=>k<=g.cells.length/\p∉g.cells.take k) 0 ⟨by omega,by simp⟩ (body:=?_);rintro k ⟨hk,hno⟩;refine go ?_;refine aA rfl (λh1=>?_) (λh1=>?_)
 ·refine go ?_;intro _ _ x hx;refine go ?_;refine aA rfl (λh2=>?_) (λh2=>?_)
  ·refine go ?_;subst h2;exact ah (k,true) (hv:=rfl) (hp:=⟨⟨λ_=>aZ hx,λ_=>rfl⟩,λ_=>Jk l6 hx⟩)
  ·refine go ?_;refine aN (k+1) (by omega) ⟨by omega,?_⟩;rw[bZ hx,dX,not_or];exact⟨hno,by simp;exact λe=>h2 e.symm⟩
 have:k=g.cells.length:=by omega
 subst this;rw[bU]at hno;refine go ?_;exact ah (0,false) (hv:=rfl) (hp:=⟨⟨(λh=>by cases h),λh=>absurd h hno⟩,(λh=>by cases h)⟩)
theorem Wx{g:bz}{vh vc vr:Value}{rs:List (List Int)}(hS:qP g)(hrl:rs.length<9223372036854775808)(hrs:∀ps∈rs,ps.length<9223372036854775808):
 bA Tryz.prog (.func 137) [.agg ⟨iO g vh vc⟩,vr] [] [] (ai (ak ae) vr rs::jq g vh vc) wI (λ_=>[]) (λy=>JO g rs y) (λy=>y.e=0↔fE g/\CZ g rs):=by
 refine aM _ (aP 137) λB w0=>?_;refine aS (E:=ak ae) (v:=vr) (xs:=rs) (by simp) λar cr er=>?_;subst er;refine go ?_;intro b2;refine bn (eX (b:=b2)) (h:=?_);refine go ?_;refine ay (Wu (g:=g) hS) (next:=λe he=>?_);refine go ?_;refine gG (λh1=>?_) (λh1=>?_)
 rotate_left
 ·refine go ?_;refine jE (c:=(130:Int)=0) (f:=ai (ak ae) (.slice none 0 0) (dW g rs)) (by omega) ?_;exact ah ⟨.slice none 0 0,130⟩ (hv:=rfl) (hp:=⟨(λh=>by cases h),λh=>absurd (he.2 h.1) h1⟩)
 have hg:=he.1 (by omega);have hgl:=hg.len;refine go ?_;refine aA rfl (λh2=>?_) (λh2=>?_)
 ·refine go ?_;refine jE (c:=(130:Int)=0) (f:=ai (ak ae) (.slice none 0 0) (dW g rs)) (by omega) ?_;exact ah ⟨.slice none 0 0,130⟩ (hv:=rfl) (hp:=⟨(λh=>by cases h),λh=>by exfalso;have:=h.2.len;omega⟩)
 refine go ?_;refine gH (ak ae) ?_;refine aU (λy:Nat×Value=>rs.length - y.1) (λy=>[(7,.int .i64 (y.1:Int)),(6,y.2)]) (λy=>[ap (ak ae) y.2 (dW g (rs.take y.1))]) (λ_=>[]) (λy=>y.1<=rs.length/\∀ps∈rs.take y.1,zk g ps) (0,.slice none 0 0) ⟨bR _,λps h=>by cases h⟩ (hk:=by repeat (first|exact aI.nil|(apply aI.cons;(focus (repeat (first|exact az.here|apply az.there)))))) (body:=?_);rintro⟨k,v6⟩ ⟨hk,hall⟩;dsimp only at hk hall⊢;have hkl:(dW g (rs.take k)).length=k:=by unfold dW;rw[bY,gT];omega
 refine go ?_;refine aA rfl (λh3=>?_) (λh3=>?_)
 ·obtain⟨ps,hps⟩:∃ps,rs[k]? =some ps:=⟨rs[k]'(by omega),bP _⟩
  have hpm:=aZ hps;have hpl:=hrs ps hpm;have htk:=bZ hps;refine go ?_;refine gH ae ?_;refine aU (λy:Nat×Value=>ps.length - y.1) (λy=>[(9,.int .i64 (y.1:Int)),(8,y.2)]) (λy=>[ap ae y.2 (eZ g (ps.take y.1))]) (λ_=>[]) (λy=>y.1<=ps.length/\(∀p∈ps.take y.1,p∈g.cells)/\(eZ g (ps.take y.1)).Nodup) (0,.slice none 0 0) ⟨bR _,(λp h=>by cases h),yE⟩ (hk:=by repeat (first|exact aI.nil|(apply aI.cons;(focus (repeat (first|exact az.here|apply az.there)))))) (body:=?_);rintro⟨j,v8⟩ ⟨hj,hmem,hnd⟩;dsimp only at hj hmem hnd⊢;have hjl:(eZ g (ps.take j)).length=j:=by unfold eZ;rw[bY,gT];omega
  have hj2:j<=256:=by have:=Jl hmem hnd;rw[gT]at this;omega
  refine go ?_;refine bi (ak ae) (xs:=rs) (next:=λ_ _ ps' (vp:Value) Pb=>?_);cases hps.symm.trans Pb;refine go ?_;refine aA rfl (λh4=>?_) (λh4=>?_)
  ·refine go ?_;refine bi (ak ae) (xs:=rs) (next:=λ_ _ ps' (vp:Value) Pb=>?_);cases hps.symm.trans Pb;refine go ?_;intro _ _ x hx;have htx:=bZ hx;refine go ?_;refine ay (ahS (g:=g) (vh:=vh) (vc:=vc) (p:=x) hg) (next:=λy hy=>?_);obtain⟨c,ok⟩:=y;obtain⟨hy1,hy2⟩:=hy;dsimp only at hy1 hy2⊢;cases ok with
   |false=>
    refine go ?_;refine jE (c:=(130:Int)=0) (f:=ai (ak ae) (.slice none 0 0) (dW g rs)) (by omega) ?_;exact ah ⟨.slice none 0 0,130⟩ (hv:=rfl) (hp:=⟨(λh=>by cases h),λh=>by
     have:=hy1.2 ((h.2.all ps hpm).mem x (aZ hx));cases this⟩)
   |true=>
    have hxm:=hy1.1 rfl;have hpos:=hy2 rfl;have hr1:eZ g (ps.take (j+1))=eZ g (ps.take j)++[(c:Int)]:=by unfold eZ;rw[htx,fP,sQ,hpos]
    refine go ?_;refine ay (ahD (vl:=v8) (xs:=eZ g (ps.take j)) (z:=(c:Int)) (by omega)) (next:=λ_ _=>?_);refine go ?_;refine aA rfl (λh5=>?_) (λh5=>?_)
    ·refine go ?_;refine jE (c:=(130:Int)=0) (f:=ai (ak ae) (.slice none 0 0) (dW g rs)) (by omega) ?_;exact ah ⟨.slice none 0 0,130⟩ (hv:=rfl) (hp:=⟨(λh=>by cases h),λh=>by
      exfalso
      have h6:(eZ g ps).Nodup:=(h.2.all ps hpm).nd;have h7:(eZ g (ps.take (j+1))).Nodup:=by
       refine h6.sublist ?_;unfold eZ;exact(PX _ _).map _
      rw[hr1,iT]at h7;exact h7.2.2 _ h5 _ (bM.2 rfl) rfl⟩)
    ·refine go ?_;intro b53;refine go ?_;refine fB (xs:=eZ g (ps.take j)) ae (c:Int) () (by omega) (next:=λad=>?_);rw[<- hr1];refine go ?_;refine aN (j+1,.slice ad ((eZ g (ps.take j)).length+1) ((eZ g (ps.take j)).length+1)) (by show ps.length - (j+1)<ps.length - j;omega) ⟨by show j+1<=_;omega,?_,?_⟩
     ·show∀p∈ps.take (j+1),p∈g.cells;rw[htx];intro p hp;rcases dX.1 hp with hp|hp
      ·exact hmem p hp
      ·rw[bM.1 hp];exact hxm
     ·show(eZ g (ps.take (j+1))).Nodup;rw[hr1,iT];exact⟨hnd,by simp,λa ha b hb e=>h5 (by rw[bM.1 hb]at e;rw[<- e];exact ha)⟩
  have iR:j=ps.length:=by omega
  subst iR;rw[bU]at hmem hnd⊢;have hrl2:(eZ g ps).length=ps.length:=by unfold eZ;rw[bY]
  refine pO (E:=ae) (v:=v8) (xs:=eZ g ps) λa8 e8=>?_;subst e8;refine go ?_;refine aA rfl (λh5=>?_) (λh5=>?_)
  ·refine go ?_;refine jE (c:=(130:Int)=0) (f:=ai (ak ae) (.slice none 0 0) (dW g rs)) (by omega) ?_;exact ah ⟨.slice none 0 0,130⟩ (hv:=rfl) (hp:=⟨(λh=>by cases h),λh=>by
    exfalso
    exact(h.2.all ps hpm).ne (jy.1 (by omega))⟩)
  have hR:zk g ps:=⟨λe=>h5 (by rw[hrl2,e];rfl),hmem,hnd⟩
  have hrr:dW g (rs.take (k+1))=dW g (rs.take k)++[eZ g ps]:=by unfold dW;rw[htk,fP,sQ]
  refine bn (gz (E:=ae) (v:=.slice a8 (eZ g ps).length (eZ g ps).length) (xs:=eZ g ps)) (h:=?_);refine go ?_;intro b61;refine go ?_;refine fB (xs:=dW g (rs.take k)) (ak ae) (eZ g ps) (.slice a8 (eZ g ps).length (eZ g ps).length) (by omega) (next:=λad=>?_);rw[<- hrr];refine go ?_;refine aN (k+1,.slice ad ((dW g (rs.take k)).length+1) ((dW g (rs.take k)).length+1)) (by show rs.length - (k+1)<rs.length - k;omega) ⟨by show k+1<=_;omega,?_⟩;show∀qs∈rs.take (k+1),zk g qs;rw[htk];intro qs hq;rcases dX.1 hq with hq|hq
  ·exact hall qs hq
  ·rw[bM.1 hq];exact hR
 have hke:k=rs.length:=by omega
 subst hke;rw[bU]at hall⊢;refine bn (gz (E:=ak ae) (v:=v6) (xs:=dW g rs)) (h:=?_);refine go ?_;refine jP (c:=(0:Int)=0) (f:=ai (ak ae) v6 (dW g rs)) (by simp) ?_;exact ah ⟨v6,0⟩ (hv:=rfl) (hp:=⟨λ_=>⟨hg,by omega,hall⟩,λ_=>rfl⟩)
theorem ahT(g:bz):(λs:Int×Int=>(oh g.shape 1 s,true))=λs=>(s.2,true):=by funext s;rfl
theorem ahU(g:bz):(λs:Int×Int=>(oh g.shape 2 s,true))=λs=>(s.1,true):=by funext s;unfold oh;simp
theorem ahV{g:bz}(h:g.shape=2):(λs:Int×Int=>(oh g.shape 3 s,true))=λs=>(s.1+s.2,true):=by funext s;unfold oh;simp[h]
theorem ahW{g:bz}{vh vc:Value}{k:Int}(hS:qP g):
 bA Tryz.prog (.func 136) [.agg ⟨iO g vh vc⟩,.int .i64 k] [] [] (jq g vh vc) wI (λ_=>[]) (λy=>JM g k y) (λy=>y.e=0↔fE g/\0<=k/\k<=7):=by
 refine aM _ (aP 136) λB w0=>?_;refine go ?_;intro b2;refine bn (eX (b:=b2)) (h:=?_);refine go ?_;refine ay (Wv (g:=g) (vh:=vh) (vc:=vc) hS) (next:=λy hy=>?_);obtain⟨vn,e⟩:=y;dsimp only at hy⊢;refine go ?_;refine aA rfl (λh1=>?_) (λh1=>?_)
 ·refine go ?_;refine jE (c:=e=0) (f:=ai (ak ae) (.slice none 0 0) (dM g k)) h1 ?_;exact ah ⟨.slice none 0 0,e⟩ (hv:=rfl) (hp:=⟨(λh=>absurd h h1),λh=>absurd (hy.2 h.1) h1⟩)
 have he:e=0:=ic.1 h1;subst he;have hg:=hy.1 rfl;clear hy h1;have hgl:=hg.len;have hnl:=wm g;have hnm:=Nq (g:=g);refine eF (ai (ak ae) vn (bJ g)) (λw hw=>hw (jr ((0:Int)=0) (ai (ak ae) vn (bJ g))) (by simp) rfl) ?_;refine aS (E:=ak ae) (v:=vn) (xs:=bJ g) (by simp) λan cn en=>?_;subst en;refine go ?_;refine gG (λh2=>?_) (λh2=>?_)
 rotate_left
 ·refine go ?_;refine jE (c:=(1:Int)=0) (f:=ai (ak ae) (.slice none 0 0) (dM g k)) (by omega) ?_;exact ah ⟨.slice none 0 0,1⟩ (hv:=rfl) (hp:=⟨(λh=>by cases h),λh=>by exfalso;have:=h.2;omega⟩)
 refine go ?_;refine aA rfl (λh3=>?_) (λh3=>?_)
 ·refine go ?_;refine jE (c:=(1:Int)=0) (f:=ai (ak ae) (.slice none 0 0) (dM g k)) (by omega) ?_;exact ah ⟨.slice none 0 0,1⟩ (hv:=rfl) (hp:=⟨(λh=>by cases h),λh=>by exfalso;have:=h.2;omega⟩)
 rcases(show k=0\/k=1\/k=2\/k=3\/k=4\/k=5\/k=6\/k=7 by omega)with rfl|rfl|rfl|rfl|rfl|rfl|rfl|rfl;all_goals clear h2 h3
 ·have hf:dM g 0=kW g.cells.length:=by simp[dM]
  refine go ?_;refine gH ae ?_;refine gH (ak ae) ?_;refine aU (λy:Nat×Value×Value=>g.cells.length - y.1) (λy=>[(10,.int .i64 (y.1:Int)),(9,y.2.1),(8,y.2.2)]) (λy=>[ap ae y.2.1 (upTo' y.1),ap (ak ae) y.2.2 (kW y.1)]) (λ_=>[]) (λy=>y.1<=g.cells.length) (0,.slice none 0 0,.slice none 0 0) (bR _) (hk:=by repeat (first|exact aI.nil|(apply aI.cons;(focus (repeat (first|exact az.here|apply az.there)))))) (body:=?_);rintro⟨i,v9,v8⟩ hi;dsimp only at hi⊢;have hil:=lZ i;have Wy:=Jj i;refine go ?_;refine aA rfl (λh2=>?_) (λh2=>?_)
  ·refine go ?_;intro zx;refine go ?_;refine fB (xs:=upTo' i) ae (i:Int) () (by omega) (next:=λad=>?_);rw[<- wo];refine go ?_;intro yj b38;refine bn (A:=pt yj (.cells [.int .i64 (i:Int)])) (fs:=[ai ae (.slice (some ⟨yj,0,some 0⟩) 1 1) [(i:Int)]]) (uR (b:=yj) (f:=0) (c:=1) (xs:=[(i:Int)])) (h:=?_);refine go ?_;refine fB (xs:=kW i) (ak ae) [(i:Int)] (.slice (some ⟨yj,0,some 0⟩) 1 1) (by omega) (next:=λr9=>?_);rw[<- Uq];refine go ?_;exact aN (i+1,.slice ad ((upTo' i).length+1) ((upTo' i).length+1),.slice r9 ((kW i).length+1) ((kW i).length+1)) (by show g.cells.length - (i+1)<g.cells.length - i;omega) (by show i+1<=_;omega)
  have hie:i=g.cells.length:=by omega
  subst hie;refine go ?_;refine bn (gz (E:=ak ae) (v:=v8) (xs:=kW g.cells.length)) (h:=?_);refine go ?_;refine jP (c:=(0:Int)=0) (f:=ai (ak ae) v8 (dM g 0)) (by rw[hf];simp) ?_;exact ah ⟨v8,0⟩ (hv:=rfl) (hp:=⟨λ_=>⟨hg,by omega,by omega⟩,λ_=>rfl⟩)
 ·have hf:dM g 1=jd g (λs=>(s.2,true)):=by simp[dM]
  refine go ?_;refine gH ae ?_;refine aU (λy:Nat×Value=>g.cells.length - y.1) (λy=>[(10,.int .i64 (y.1:Int)),(9,y.2)]) (λy=>[ap ae y.2 (upTo' y.1)]) (λ_=>[]) (λy=>y.1<=g.cells.length) (0,.slice none 0 0) (bR _) (hk:=by repeat (first|exact aI.nil|(apply aI.cons;(focus (repeat (first|exact az.here|apply az.there)))))) (body:=?_);rintro⟨i,v9⟩ hi;dsimp only at hi⊢;have hil:=lZ i;refine go ?_;refine aA rfl (λh2=>?_) (λh2=>?_)
  ·refine go ?_;intro zx;refine go ?_;refine fB (xs:=upTo' i) ae (i:Int) () (by omega) (next:=λad=>?_);rw[<- wo];refine go ?_;exact aN (i+1,.slice ad ((upTo' i).length+1) ((upTo' i).length+1)) (by show g.cells.length - (i+1)<g.cells.length - i;omega) (by show i+1<=_;omega)
  have hie:i=g.cells.length:=by omega
  subst hie;refine go ?_;refine ay (O7 (g:=g) (vh:=vh) (vc:=vc) (f:=1) hg) (next:=λv8 _=>?_);rw[ahT];refine go ?_;refine bn (gz (E:=ak ae) (v:=v8) (xs:=jd g (λs=>(s.2,true)))) (h:=?_);refine go ?_;refine jP (c:=(0:Int)=0) (f:=ai (ak ae) v8 (dM g 1)) (by rw[hf];simp) ?_;exact ah ⟨v8,0⟩ (hv:=rfl) (hp:=⟨λ_=>⟨hg,by omega,by omega⟩,λ_=>rfl⟩)
 ·have hf:dM g 2=jd g (λs=>(s.1,true)):=by simp[dM]
  refine go ?_;refine gH ae ?_;refine aU (λy:Nat×Value=>g.cells.length - y.1) (λy=>[(10,.int .i64 (y.1:Int)),(9,y.2)]) (λy=>[ap ae y.2 (upTo' y.1)]) (λ_=>[]) (λy=>y.1<=g.cells.length) (0,.slice none 0 0) (bR _) (hk:=by repeat (first|exact aI.nil|(apply aI.cons;(focus (repeat (first|exact az.here|apply az.there)))))) (body:=?_);rintro⟨i,v9⟩ hi;dsimp only at hi⊢;have hil:=lZ i;refine go ?_;refine aA rfl (λh2=>?_) (λh2=>?_)
  ·refine go ?_;intro zx;refine go ?_;refine fB (xs:=upTo' i) ae (i:Int) () (by omega) (next:=λad=>?_);rw[<- wo];refine go ?_;exact aN (i+1,.slice ad ((upTo' i).length+1) ((upTo' i).length+1)) (by show g.cells.length - (i+1)<g.cells.length - i;omega) (by show i+1<=_;omega)
  have hie:i=g.cells.length:=by omega
  subst hie;refine go ?_;refine ay (O7 (g:=g) (vh:=vh) (vc:=vc) (f:=2) hg) (next:=λv8 _=>?_);rw[ahU];refine go ?_;refine bn (gz (E:=ak ae) (v:=v8) (xs:=jd g (λs=>(s.1,true)))) (h:=?_);refine go ?_;refine jP (c:=(0:Int)=0) (f:=ai (ak ae) v8 (dM g 2)) (by rw[hf];simp) ?_;exact ah ⟨v8,0⟩ (hv:=rfl) (hp:=⟨λ_=>⟨hg,by omega,by omega⟩,λ_=>rfl⟩)
 ·have hf:dM g 3=lY g:=by simp[dM]
  refine go ?_;refine gH ae ?_;refine aU (λy:Nat×Value=>g.cells.length - y.1) (λy=>[(10,.int .i64 (y.1:Int)),(9,y.2)]) (λy=>[ap ae y.2 (upTo' y.1)]) (λ_=>[]) (λy=>y.1<=g.cells.length) (0,.slice none 0 0) (bR _) (hk:=by repeat (first|exact aI.nil|(apply aI.cons;(focus (repeat (first|exact az.here|apply az.there)))))) (body:=?_);rintro⟨i,v9⟩ hi;dsimp only at hi⊢;have hil:=lZ i;refine go ?_;refine aA rfl (λh2=>?_) (λh2=>?_)
  ·refine go ?_;intro zx;refine go ?_;refine fB (xs:=upTo' i) ae (i:Int) () (by omega) (next:=λad=>?_);rw[<- wo];refine go ?_;exact aN (i+1,.slice ad ((upTo' i).length+1) ((upTo' i).length+1)) (by show g.cells.length - (i+1)<g.cells.length - i;omega) (by show i+1<=_;omega)
  have hie:i=g.cells.length:=by omega
  subst hie;refine go ?_;refine aA rfl (λh4=>?_) (λh4=>?_)
  ·refine go ?_;refine ay (ahR (g:=g) (vh:=vh) (vc:=vc) hg h4) (next:=λv8 _=>?_);refine go ?_;refine bn (gz (E:=ak ae) (v:=v8) (xs:=lY g)) (h:=?_);refine go ?_;refine jP (c:=(0:Int)=0) (f:=ai (ak ae) v8 (dM g 3)) (by rw[hf];simp) ?_;exact ah ⟨v8,0⟩ (hv:=rfl) (hp:=⟨λ_=>⟨hg,by omega,by omega⟩,λ_=>rfl⟩)
  ·have h5:g.shape=2:=hg.make.sh.resolve_left h4;have hd:lY g=jd g (λs=>(s.1+s.2,true)):=by unfold lY;rw[if_pos h5]
   refine go ?_;refine ay (O7 (g:=g) (vh:=vh) (vc:=vc) (f:=3) hg) (next:=λv8 _=>?_);rw[ahV h5,<- hd];refine go ?_;refine bn (gz (E:=ak ae) (v:=v8) (xs:=lY g)) (h:=?_);refine go ?_;refine jP (c:=(0:Int)=0) (f:=ai (ak ae) v8 (dM g 3)) (by rw[hf];simp) ?_;exact ah ⟨v8,0⟩ (hv:=rfl) (hp:=⟨λ_=>⟨hg,by omega,by omega⟩,λ_=>rfl⟩)
 ·have hf:dM g 4=bJ g:=by simp[dM]
  refine go ?_;refine gH ae ?_;refine aU (λy:Nat×Value=>g.cells.length - y.1) (λy=>[(10,.int .i64 (y.1:Int)),(9,y.2)]) (λy=>[ap ae y.2 (upTo' y.1)]) (λ_=>[]) (λy=>y.1<=g.cells.length) (0,.slice none 0 0) (bR _) (hk:=by repeat (first|exact aI.nil|(apply aI.cons;(focus (repeat (first|exact az.here|apply az.there)))))) (body:=?_);rintro⟨i,v9⟩ hi;dsimp only at hi⊢;have hil:=lZ i;refine go ?_;refine aA rfl (λh2=>?_) (λh2=>?_)
  ·refine go ?_;intro zx;refine go ?_;refine fB (xs:=upTo' i) ae (i:Int) () (by omega) (next:=λad=>?_);rw[<- wo];refine go ?_;exact aN (i+1,.slice ad ((upTo' i).length+1) ((upTo' i).length+1)) (by show g.cells.length - (i+1)<g.cells.length - i;omega) (by show i+1<=_;omega)
  have hie:i=g.cells.length:=by omega
  subst hie;refine go ?_;refine jP (c:=(0:Int)=0) (f:=ai (ak ae) (.slice an (bJ g).length cn) (dM g 4)) (by rw[hf];simp) ?_;exact ah ⟨.slice an (bJ g).length cn,0⟩ (hv:=rfl) (hp:=⟨λ_=>⟨hg,by omega,by omega⟩,λ_=>rfl⟩)
 ·have hf:dM g 5=l5 (bJ g):=by simp[dM]
  refine go ?_;refine gH ae ?_;refine gH (ak ae) ?_;refine aU (λy:Nat×Value×Value=>g.cells.length - y.1) (λy=>[(10,.int .i64 (y.1:Int)),(9,y.2.1),(8,y.2.2)]) (λy=>[ap ae y.2.1 (upTo' y.1),ap (ak ae) y.2.2 (l5 ((bJ g).take y.1))]) (λ_=>[]) (λy=>y.1<=g.cells.length) (0,.slice none 0 0,.slice none 0 0) (bR _) (hk:=by repeat (first|exact aI.nil|(apply aI.cons;(focus (repeat (first|exact az.here|apply az.there)))))) (body:=?_);rintro⟨i,v9,v8⟩ hi;dsimp only at hi⊢;have hil:=lZ i;have Wy:(l5 ((bJ g).take i)).length=i:=by rw[Nk,gT];omega
  refine go ?_;refine aA rfl (λh2=>?_) (λh2=>?_)
  ·obtain⟨ln,hln⟩:∃ln,(bJ g)[i]? =some ln:=⟨(bJ g)[i]'(by omega),bP _⟩
   have hll:=hnm ln (aZ hln);have hfs:=Ur hln;rw[aex hg hln]at hfs;refine go ?_;intro zx;refine go ?_;refine fB (xs:=upTo' i) ae (i:Int) () (by omega) (next:=λad=>?_);rw[<- wo];refine go ?_;refine gH ae ?_;refine aU (λy:Nat×Value=>g.cells.length - y.1) (λy=>[(12,.int .i64 (y.1:Int)),(11,y.2)]) (λy=>[ap ae y.2 (dP y.1 λb=>decide (b=(i:Int))||decide (b∈ln))]) (λ_=>[]) (λy=>y.1<=g.cells.length) (0,.slice none 0 0) (bR _) (hk:=by repeat (first|exact aI.nil|(apply aI.cons;(focus (repeat (first|exact az.here|apply az.there)))))) (body:=?_);rintro⟨j,v11⟩ hj;dsimp only at hj⊢;have hsl:=Ba j λb=>decide (b=(i:Int))||decide (b∈ln);refine go ?_;refine aA rfl (λh3=>?_) (λh3=>?_)
   ·have hss:=A9 j λb=>decide (b=(i:Int))||decide (b∈ln);refine go ?_;refine gG (λh4=>?_) (λh4=>?_)
    ·refine go ?_;refine bi (ak ae) (xs:=bJ g) (next:=λ_ _ Pd (vl:Value) hl=>?_);cases hln.symm.trans hl;refine go ?_;refine ay (JZ (xs:=ln) (z:=(j:Int)) (by omega)) (next:=λ_ _=>?_);refine go ?_;refine aA rfl (λh5=>?_) (λh5=>?_)
     ·rw[if_pos (by simp[h5])]at hss;refine go ?_;intro zH;refine go ?_;refine fB (xs:=dP j λb=>decide (b=(i:Int))||decide (b∈ln)) ae (j:Int) () (by omega) (next:=λad=>?_);rw[<- hss];refine go ?_;exact aN (j+1,.slice ad ((dP j λb=>decide (b=(i:Int))||decide (b∈ln)).length+1) ((dP j λb=>decide (b=(i:Int))||decide (b∈ln)).length+1)) (by show g.cells.length - (j+1)<g.cells.length - j;omega) (by show j+1<=_;omega)
     ·rw[if_neg (by simp only[vG,wP,not_or];exact⟨h4,h5⟩),gU]at hss;rw[<- hss];refine go ?_;exact aN (j+1,v11) (by show g.cells.length - (j+1)<g.cells.length - j;omega) (by show j+1<=_;omega)
    ·rw[if_pos (by simp[h4])]at hss;refine go ?_;intro zH;refine go ?_;refine fB (xs:=dP j λb=>decide (b=(i:Int))||decide (b∈ln)) ae (j:Int) () (by omega) (next:=λad=>?_);rw[<- hss];refine go ?_;exact aN (j+1,.slice ad ((dP j λb=>decide (b=(i:Int))||decide (b∈ln)).length+1) ((dP j λb=>decide (b=(i:Int))||decide (b∈ln)).length+1)) (by show g.cells.length - (j+1)<g.cells.length - j;omega) (by show j+1<=_;omega)
   have iR:j=g.cells.length:=by omega
   subst iR;generalize(dP g.cells.length λb=>decide (b=(i:Int))||decide (b∈ln))=zs at hfs⊢;refine pO (E:=ae) (v:=v11) (xs:=zs) λWz e11=>?_;subst e11;refine bn (gz (E:=ae) (v:=.slice Wz zs.length zs.length) (xs:=zs)) (h:=?_);refine go ?_;intro b73;refine go ?_;refine fB (xs:=l5 ((bJ g).take i)) (ak ae) zs (.slice Wz zs.length zs.length) (by omega) (next:=λr9=>?_);rw[<- hfs];refine go ?_;exact aN (i+1,.slice ad ((upTo' i).length+1) ((upTo' i).length+1),.slice r9 ((l5 ((bJ g).take i)).length+1) ((l5 ((bJ g).take i)).length+1)) (by show g.cells.length - (i+1)<g.cells.length - i;omega) (by show i+1<=_;omega)
  have hie:i=g.cells.length:=by omega
  subst hie;rw[O5 (by omega)];refine go ?_;refine bn (gz (E:=ak ae) (v:=v8) (xs:=l5 (bJ g))) (h:=?_);refine go ?_;refine jP (c:=(0:Int)=0) (f:=ai (ak ae) v8 (dM g 5)) (by rw[hf];simp) ?_;exact ah ⟨v8,0⟩ (hv:=rfl) (hp:=⟨λ_=>⟨hg,by omega,by omega⟩,λ_=>rfl⟩)
 ·have hf:dM g 6=ik (bJ g):=by simp[dM]
  have h6:=Np hnm;refine go ?_;refine gH ae ?_;refine gH (ak ae) ?_;refine aU (λy:Nat×Value×Value=>g.cells.length - y.1) (λy=>[(10,.int .i64 (y.1:Int)),(9,y.2.1),(8,y.2.2)]) (λy=>[ap ae y.2.1 (upTo' y.1),ap (ak ae) y.2.2 (ik ((bJ g).take y.1))]) (λ_=>[]) (λy=>y.1<=g.cells.length) (0,.slice none 0 0,.slice none 0 0) (bR _) (hk:=by repeat (first|exact aI.nil|(apply aI.cons;(focus (repeat (first|exact az.here|apply az.there)))))) (body:=?_);rintro⟨i,v9,v8⟩ hi;dsimp only at hi⊢;have hil:=lZ i;have Wy:=h6 i (by omega);refine go ?_;refine aA rfl (λh2=>?_) (λh2=>?_)
  ·obtain⟨ln,hln⟩:∃ln,(bJ g)[i]? =some ln:=⟨(bJ g)[i]'(by omega),bP _⟩
   have hll:=hnm ln (aZ hln);have hfs:=Nn hln;refine go ?_;intro zx;refine go ?_;refine fB (xs:=upTo' i) ae (i:Int) () (by omega) (next:=λad=>?_);rw[<- wo];refine go ?_;refine aU (λy:Nat×Value=>ln.length - y.1) (λy=>[(13,.int .i64 (y.1:Int)),(8,y.2)]) (λy=>[ap (ak ae) y.2 (ik ((bJ g).take i)++jh i (ln.take y.1))]) (λ_=>[]) (λy=>y.1<=ln.length) (0,v8) (bR _) (hk:=by rw[show ik ((bJ g).take i)++jh i (ln.take 0)=ik ((bJ g).take i)from gU _];repeat (first|exact aI.nil|(apply aI.cons;(focus (repeat (first|exact az.here|apply az.there)))))) (body:=?_);rintro⟨j,v5⟩ hj;dsimp only at hj⊢;have hpl:=Nl i (ln.take j);rw[gT]at hpl;have hal:(ik ((bJ g).take i)++jh i (ln.take j)).length<=2000:=by rw[iH];omega
   refine go ?_;refine bi (ak ae) (xs:=bJ g) (next:=λ_ _ Pd (vl:Value) hl=>?_);cases hln.symm.trans hl;refine go ?_;refine aA rfl (λh3=>?_) (λh3=>?_)
   ·refine go ?_;refine bi (ak ae) (xs:=bJ g) (next:=λ_ _ Pd (vl:Value) hl=>?_);cases hln.symm.trans hl;refine go ?_;intro _ _ x hx;have hps:=Us (i:=i) hx;refine go ?_;refine aA rfl (λh4=>?_) (λh4=>?_)
    ·have Bl:ik ((bJ g).take i)++jh i (ln.take (j+1))=(ik ((bJ g).take i)++jh i (ln.take j))++[[(i:Int),x]]:=by rw[hps,if_pos (by omega),List.append_assoc]
     refine go ?_;refine bi (ak ae) (xs:=bJ g) (next:=λ_ _ Pd (vl:Value) hl=>?_);cases hln.symm.trans hl;refine go ?_;intro _ _ x' hx';cases hx.symm.trans hx';refine go ?_;intro ym b98;refine bn (A:=pt ym (.cells [.int .i64 (i:Int),.int .i64 x])) (fs:=[ai ae (.slice (some ⟨ym,0,some 0⟩) 2 2) [(i:Int),x]]) (uR (b:=ym) (f:=0) (c:=2) (xs:=[(i:Int),x])) (h:=?_);refine go ?_;refine fB (xs:=ik ((bJ g).take i)++jh i (ln.take j)) (ak ae) [(i:Int),x] (.slice (some ⟨ym,0,some 0⟩) 2 2) (by omega) (next:=λr9=>?_);rw[<- Bl];refine go ?_;exact aN (j+1,.slice r9 ((ik ((bJ g).take i)++jh i (ln.take j)).length+1) ((ik ((bJ g).take i)++jh i (ln.take j)).length+1)) (by show ln.length - (j+1)<ln.length - j;omega) (by show j+1<=_;omega)
    ·have Bl:ik ((bJ g).take i)++jh i (ln.take (j+1))=ik ((bJ g).take i)++jh i (ln.take j):=by rw[hps,if_neg (by omega),gU]
     rw[<- Bl];refine go ?_;exact aN (j+1,v5) (by show ln.length - (j+1)<ln.length - j;omega) (by show j+1<=_;omega)
   have iR:j=ln.length:=by omega
   subst iR;rw[bU,<- hfs];refine go ?_;exact aN (i+1,.slice ad ((upTo' i).length+1) ((upTo' i).length+1),v5) (by show g.cells.length - (i+1)<g.cells.length - i;omega) (by show i+1<=_;omega)
  have hie:i=g.cells.length:=by omega
  subst hie;rw[O5 (by omega)];refine go ?_;refine bn (gz (E:=ak ae) (v:=v8) (xs:=ik (bJ g))) (h:=?_);refine go ?_;refine jP (c:=(0:Int)=0) (f:=ai (ak ae) v8 (dM g 6)) (by rw[hf];simp) ?_;exact ah ⟨v8,0⟩ (hv:=rfl) (hp:=⟨λ_=>⟨hg,by omega,by omega⟩,λ_=>rfl⟩)
 ·have hf:dM g 7=[upTo' g.cells.length]:=by simp[dM]
  refine go ?_;refine gH ae ?_;refine aU (λy:Nat×Value=>g.cells.length - y.1) (λy=>[(10,.int .i64 (y.1:Int)),(9,y.2)]) (λy=>[ap ae y.2 (upTo' y.1)]) (λ_=>[]) (λy=>y.1<=g.cells.length) (0,.slice none 0 0) (bR _) (hk:=by repeat (first|exact aI.nil|(apply aI.cons;(focus (repeat (first|exact az.here|apply az.there)))))) (body:=?_);rintro⟨i,v9⟩ hi;dsimp only at hi⊢;have hil:=lZ i;refine go ?_;refine aA rfl (λh2=>?_) (λh2=>?_)
  ·refine go ?_;intro zx;refine go ?_;refine fB (xs:=upTo' i) ae (i:Int) () (by omega) (next:=λad=>?_);rw[<- wo];refine go ?_;exact aN (i+1,.slice ad ((upTo' i).length+1) ((upTo' i).length+1)) (by show g.cells.length - (i+1)<g.cells.length - i;omega) (by show i+1<=_;omega)
  have hie:i=g.cells.length:=by omega
  subst hie;refine bn (gz (E:=ae) (v:=v9) (xs:=upTo' g.cells.length)) (h:=?_);refine aS (E:=ae) (v:=v9) (xs:=upTo' g.cells.length) (by simp) λa4 c4 e4=>?_;subst e4;refine go ?_;intro J5;refine bn (eX (b:=J5)) (h:=?_);refine eF (ai (ak ae) (Bj J5 1) [upTo' g.cells.length]) (λw hw=>ML (v:=.slice a4 (upTo' g.cells.length).length c4) (hw _ (by simp)) (hw _ (by simp))) ?_;refine go ?_;refine jP (c:=(0:Int)=0) (f:=ai (ak ae) (Bj J5 1) (dM g 7)) (by rw[hf];simp) ?_;exact ah ⟨Bj J5 1,0⟩ (hv:=rfl) (hp:=⟨λ_=>⟨hg,by omega,by omega⟩,λ_=>rfl⟩)
