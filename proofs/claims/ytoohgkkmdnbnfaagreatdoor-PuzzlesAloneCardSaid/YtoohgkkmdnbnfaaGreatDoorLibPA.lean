/-
  The reference's grids: made, checked; neighbors.
-/
import Derived.Test.YtoohgkkmdnbnfaaGreatDoorLibOA
import Derived.Test.YtoohgkkmdnbnfaaGreatDoorLibEA
set_option linter.all false
set_option maxRecDepth 10000
set_option maxHeartbeats 4000000
namespace Go.Proofs.YtoohgkkmdnbnfaaGreatDoor
open Go.Ideal Kd
theorem NR{s w h:Int}{holes:List Int}{vh:Value}(hw64:jU w)(aej:jU h)(hl:holes.length<4611686018427387904):
 bi Tryz.prog (.func 91) [.int .i64 s,.int .i64 w,.int .i64 h,vh] [] [] [ah aa vh holes] (mkV s w h holes) (λ_=>[]) (oG s w h holes) (λy=>y.ok=true↔nT s w h holes):=by
 refine aK _ (aP 91) λB w0=>?_;refine go ?_;intro b8;refine go ?_;by_cases hsh:s=1\/s=2
 rotate_left
 ·rw[dZ (show s≠1 from λe=>hsh (.inl e))];refine go ?_;rw[dZ (show s≠2 from λe=>hsh (.inr e))];refine go ?_;refine ae ⟨false,.nilFunc,.nilFunc⟩ (hv:=rfl) (hp:=⟨(λe=>by cases e),λe=>?_⟩)
  exfalso
  have e:=uO.2 e;obtain⟨q1,q2,q3,q4,q5,q6⟩:=e;exact hsh q1
 rcases hsh with rfl|rfl;all_goals
  refine go ?_;first|with_reducible refine aN (λa1=>?_) (λa1=>?_)|with_reducible refine aM (λa1=>?_) (λa1=>?_)|with_reducible refine aL (λa1=>?_) (λa1=>?_)
  rotate_left
  ·refine go ?_;refine ae ⟨false,.nilFunc,.nilFunc⟩ (hv:=rfl) (hp:=⟨(λe=>by cases e),λe=>?_⟩)
   exfalso
   have e:=uO.2 e;obtain⟨q1,q2,q3,q4,q5,q6⟩:=e;omega
  refine go ?_;first|with_reducible refine aN (λa2=>?_) (λa2=>?_)|with_reducible refine aM (λa2=>?_) (λa2=>?_)|with_reducible refine aL (λa2=>?_) (λa2=>?_)
  rotate_left
  ·refine go ?_;refine ae ⟨false,.nilFunc,.nilFunc⟩ (hv:=rfl) (hp:=⟨(λe=>by cases e),λe=>?_⟩)
   exfalso
   have e:=uO.2 e;obtain⟨q1,q2,q3,q4,q5,q6⟩:=e;omega
  refine go ?_;first|with_reducible refine aN (λa3=>?_) (λa3=>?_)|with_reducible refine aM (λa3=>?_) (λa3=>?_)|with_reducible refine aL (λa3=>?_) (λa3=>?_)
  rotate_left
  ·refine go ?_;refine ae ⟨false,.nilFunc,.nilFunc⟩ (hv:=rfl) (hp:=⟨(λe=>by cases e),λe=>?_⟩)
   exfalso
   have e:=uO.2 e;obtain⟨q1,q2,q3,q4,q5,q6⟩:=e;omega
  refine go ?_;refine aA rfl (λa4=>?_) (λa4=>?_)
  ·refine go ?_;refine ae ⟨false,.nilFunc,.nilFunc⟩ (hv:=rfl) (hp:=⟨(λe=>by cases e),λe=>?_⟩)
   exfalso
   have e:=uO.2 e;obtain⟨q1,q2,q3,q4,q5,q6⟩:=e;omega
  have hwh:=wy (w:=w) (h:=h) ⟨by omega,by omega⟩ ⟨by omega,by omega⟩;refine go ?_;refine aZ (λk=>holes.length - k) (λk:Nat=>[(10,.int .i64 (k:Int))]) (λ_=>[]) (λ_=>[]) (λk=>k<=holes.length/\(holes.take k).Pairwise (·<·)/\∀x∈holes.take k,0<=x/\x<w*h) 0 ⟨cz _,by simp,by simp⟩ (body:=?_);rintro k ⟨hk,mo,hmem⟩;refine go ?_;refine aA rfl (λa6=>?_) (λa6=>?_)
  ·refine go ?_;intro _ _ x hx;have hxm:=bG hx;have htk:holes.take (k+1)=holes.take k++[x]:=by rw[mM,hx];rfl
   have hstep:0<=x->x<w*h->(∀a∈holes.take k,a<x)->k+1<=holes.length/\(holes.take (k+1)).Pairwise (·<·)/\∀z∈holes.take (k+1),0<=z/\z<w*h:=λq1 q2 q3=>by
    refine⟨by omega,?_,?_⟩
    ·rw[htk,Gp];exact⟨mo,by simp,λa ha b hb=>by rw[bH.1 hb];exact q3 a ha⟩
    ·rw[htk];intro z hz;rcases dV.1 hz with hz|hz
     ·exact hmem z hz
     ·rw[bH.1 hz];exact⟨q1,q2⟩
   refine go ?_;first|with_reducible refine aN (λb1=>?_) (λb1=>?_)|with_reducible refine aM (λb1=>?_) (λb1=>?_)|with_reducible refine aL (λb1=>?_) (λb1=>?_)
   rotate_left
   ·refine go ?_;refine ae ⟨false,.nilFunc,.nilFunc⟩ (hv:=rfl) (hp:=⟨(λe=>by cases e),λe=>?_⟩)
    exfalso
    have e:=uO.2 e;obtain⟨q1,q2,q3,q4,q5,q6⟩:=e;have:=q5 x hxm;omega
   refine go ?_;intro _ _ x' hx';cases hx.symm.trans hx';refine go ?_;first|with_reducible refine aN (λb2=>?_) (λb2=>?_)|with_reducible refine aM (λb2=>?_) (λb2=>?_)|with_reducible refine aL (λb2=>?_) (λb2=>?_)
   rotate_left
   ·refine go ?_;refine ae ⟨false,.nilFunc,.nilFunc⟩ (hv:=rfl) (hp:=⟨(λe=>by cases e),λe=>?_⟩)
    exfalso
    have e:=uO.2 e;obtain⟨q1,q2,q3,q4,q5,q6⟩:=e;have:=q5 x hxm;omega
   refine go ?_;first|with_reducible refine aN (λb3=>?_) (λb3=>?_)|with_reducible refine aM (λb3=>?_) (λb3=>?_)|with_reducible refine aL (λb3=>?_) (λb3=>?_)
   ·refine go ?_;refine aQ (k+1) (by omega) (hstep (by omega) (by omega) λa ha=>?_);rw[show k=0 by omega,List.take_zero]at ha;cases ha
   refine go ?_;intro _ _ x' hx' _ _ z hz;cases hx.symm.trans hx';obtain⟨j,rfl⟩:∃j,k=j+1:=⟨k - 1,by omega⟩
   rw[show(((j+1:Nat):Int) - 1).toNat=j by omega]at hz;have hzj:holes.take (j+1)=holes.take j++[z]:=by rw[mM,hz];rfl
   refine go ?_;refine aA rfl (λb4=>?_) (λb4=>?_)
   ·refine go ?_;refine ae ⟨false,.nilFunc,.nilFunc⟩ (hv:=rfl) (hp:=⟨(λe=>by cases e),λe=>?_⟩)
    exfalso
    have e:=uO.2 e;obtain⟨q1,q2,q3,q4,q5,q6⟩:=e;obtain⟨d1,d2⟩:=bO.1 hz;obtain⟨d3,d4⟩:=bO.1 hx;have:=AY.1 q4 j (j+1) d1 d3 (by omega);rw[d2,d4]at this;omega
   refine go ?_;refine aQ (j+1+1) (by omega) (hstep (by omega) (by omega) λa ha=>?_);have:=UB mo ha;rw[hzj,UA]at this;omega
  have hkl:k=holes.length:=by omega
  subst hkl;rw[bK]at mo hmem;clear a6 hk;obtain⟨m,hm⟩:=sG (show 0<=w*h by omega);have FI:mi w h holes=gJ m holes:=by
   unfold mi;rw[hm];rfl
  have hmm:∀x∈holes,0<=x/\x<(m:Int):=λx hx=>by rw[<- hm];exact hmem x hx
  refine go ?_;intro b11;refine go ?_;refine gI aa ?_;refine gI aa ?_;refine aZ (λy:Nat×Value×Value=>m - y.1) (λy=>[(12,.int .i64 (y.1:Int))]) (λy=>[pt b11 (.cells [.int .i64 _,.int .i64 w,.int .i64 h,y.2.1,y.2.2]),ap aa y.2.1 (dR y.1 λi=>decide (i∈holes)),ap aa y.2.2 (gJ y.1 holes)]) (λ_=>[]) (λy=>y.1<=m) (0,.slice none 0 0,.slice none 0 0) (cz _) (hk:=by repeat (first|exact aI.nil|(apply aI.cons;(focus (repeat (first|exact ay.here|apply ay.there)))))) (body:=?_);rintro⟨k,v1,v2⟩ hk;dsimp only at hk⊢;have hcl:=Ch k holes;have hsl:=Ae k λi=>decide (i∈holes);refine go ?_;rw[hm];refine go ?_;refine aA rfl (λa9=>?_) (λa9=>?_)
  ·refine go ?_;refine ax (Ji (xs:=holes) (z:=(k:Int)) (by omega)) (next:=λ_ _=>?_);refine go ?_;refine aA rfl (λhin=>?_) (λhin=>?_)
   ·have e1:gJ (k+1) holes=gJ k holes:=by rw[Iu,if_pos hin,gy]
    have e2:dR (k+1) (λi=>decide (i∈holes))=dR k (λi=>decide (i∈holes))++[(k:Int)]:=by rw[Ad,if_pos (dZ hin)]
    refine go ?_;intro b91;refine go ?_;refine fC aa (xs:=dR k λi=>decide (i∈holes)) (k:Int) () (by omega) λad=>?_;rw[<- e1,<- e2];refine go ?_;exact aQ (k+1,.slice ad ((dR k λi=>decide (i∈holes)).length+1) ((dR k λi=>decide (i∈holes)).length+1),v2) (by show m - (k+1)<m - k;omega) (by show k+1<=m;omega)
   ·have e1:gJ (k+1) holes=gJ k holes++[(k:Int)]:=by rw[Iu,if_neg hin]
    have e2:dR (k+1) (λi=>decide (i∈holes))=dR k (λi=>decide (i∈holes)):=by rw[Ad,if_neg (by simp[hin]),gy]
    refine go ?_;intro b91;refine go ?_;refine fC aa (xs:=gJ k holes) (k:Int) () (by omega) λad=>?_;rw[<- e1,<- e2];refine go ?_;exact aQ (k+1,v1,.slice ad ((gJ k holes).length+1) ((gJ k holes).length+1)) (by show m - (k+1)<m - k;omega) (by show k+1<=m;omega)
  have hkm:k=m:=by omega
  subst hkm;rw[TT mo hmm];refine o9 (E:=aa) (v:=v2) (xs:=gJ k holes) λa2 hv2=>?_;subst hv2;refine go ?_;refine aA rfl (λa7=>?_) (λa7=>?_)
  ·refine go ?_;refine ae ⟨false,.nilFunc,.nilFunc⟩ (hv:=rfl) (hp:=⟨(λe=>by cases e),λe=>?_⟩)
   exfalso
   have e:=uO.2 e;obtain⟨q1,q2,q3,q4,q5,q6⟩:=e;rw[FI]at q6;exact q6 (ji.1 (by omega))
  refine go ?_;refine bD (gH (E:=aa) (v:=v1) (xs:=holes)) (h:=?_);refine bD (gH (E:=aa) (v:=.slice a2 (gJ k holes).length (gJ k holes).length) (xs:=gJ k holes)) (h:=?_);refine go ?_;refine ae ⟨true,v1,.slice a2 (gJ k holes).length (gJ k holes).length⟩ (hv:=rfl) (hp:=⟨λ_=>uO.1 ⟨by first|exact .inl rfl|exact .inr rfl,⟨by omega,by omega⟩,⟨by omega,by omega⟩,mo,hmem,by rw[FI];exact λe=>a7 (by rw[e];rfl)⟩,λ_=>rfl⟩) (hF:=?_);show Sub [ah aa _ holes,ah aa _ (mi w h holes)] _;rw[FI];exact .cons (by simp) (.cons (by simp) .nil)
theorem Vg{g:bA}{vh vc:Value}(hS:qd g):
 bi Tryz.prog (.func 132) [.agg ⟨iM g vh vc⟩] [] [] (jy g vh vc) (λe:Int=>.int .i64 e) (λ_=>[]) (λ_=>[]) (λe=>e=0↔fq g):=by
 refine aK _ (aP 132) λB w0=>?_;refine go ?_;intro b1;refine go ?_;refine ax (NR (s:=g.shape) (w:=g.w) (h:=g.h) (holes:=g.holes) (vh:=vh) hS.w hS.h hS.holes) (next:=λy hy=>?_);obtain⟨ok,v1,v2⟩:=y;cases ok with
 |false=>
  have hno:¬nT g.shape g.w g.h g.holes:=λh=>by have:=hy.2 h;cases this
  dsimp only[mkV,oG,cond,List.nil_append];refine go ?_;intro b3;refine go ?_;exact ae 130 (hv:=rfl) (hp:=⟨(λh=>by cases h),λh=>absurd h.make hno⟩)
 |true=>
  have hmk:=hy.1 rfl;dsimp only[mkV,oG,cond,jy,uS,List.cons_append,List.nil_append];refine go ?_;intro b3;refine go ?_;refine ax (CB (xs:=mi g.w g.h g.holes) (ys:=g.cells) (by
   have:=Ch (g.w*g.h).toNat g.holes;have:=wy hmk.wi hmk.he;unfold mi;omega)) (next:=λ_ _=>?_)
  refine go ?_;refine eU rfl (λh1=>?_) (λh1=>?_)
  ·refine go ?_;exact ae 130 (hv:=rfl) (hp:=⟨(λh=>by cases h),λh=>absurd h.cells.symm h1⟩)
  ·refine go ?_;exact ae 0 (hv:=rfl) (hp:=⟨λ_=>⟨hmk,h1.symm⟩,λ_=>rfl⟩)
theorem NS{α:Type}{xs:List α}{k:Nat}(h:xs.length<=k):xs.take k=xs:=sH h
abbrev qV(g:bA)(a:Nat):Int->Bool:=λb=>wH g.shape (iL g (a:Int)) (iL g b)
theorem Vh{g:bA}{vh vc:Value}(hS:qd g):
 bi Tryz.prog (.func 92) [.agg ⟨iM g vh vc⟩] [] [] (jy g vh vc) uT (λ_=>[]) (λy=>[mF (y.e=0) (ah (aj aa) y.v (bI g))]) (λy=>y.e=0↔fq g):=by
 refine aK _ (aP 92) λB w0=>?_;refine go ?_;intro b1;refine bD (eO (b:=b1)) (h:=?_);refine go ?_;refine ax (Vg (g:=g) (vh:=vh) (vc:=vc) hS) (next:=λe he=>?_);refine go ?_;refine aA rfl (λh1=>?_) (λh1=>?_)
 ·refine go ?_;refine lU (c:=(130:Int)=0) (f:=ah (aj aa) (.slice none 0 0) (bI g)) (by omega) ?_;exact ae ⟨.slice none 0 0,130⟩ (hv:=rfl) (hp:=⟨(λh=>by cases h),λh=>absurd (he.2 h) h1⟩)
 have hg:=he.1 (iO.1 h1);clear he h1;have hgl:=hg.len;have hnl:=wC g;refine go ?_;refine gI (aj aa) ?_;refine aZ (λy:Nat×Value=>g.cells.length - y.1) (λy=>[(5,.int .i64 (y.1:Int)),(4,y.2)]) (λy=>[ap (aj aa) y.2 ((bI g).take y.1)]) (λ_=>[]) (λy=>y.1<=g.cells.length) (0,.slice none 0 0) (cz _) (hk:=by repeat (first|exact aI.nil|(apply aI.cons;(focus (repeat (first|exact ay.here|apply ay.there)))))) (body:=?_);rintro⟨i,v4⟩ hi;dsimp only at hi⊢;have hil:((bI g).take i).length=i:=by rw[gM];omega
 refine go ?_;refine aA rfl (λh2=>?_) (λh2=>?_)
 ·have hn:=TU hg (show i<g.cells.length by omega);refine go ?_;refine gI aa ?_;refine aZ (λy:Nat×Value=>g.cells.length - y.1) (λy=>[(7,.int .i64 (y.1:Int)),(6,y.2)]) (λy=>[ap aa y.2 (dR y.1 (qV g i))]) (λ_=>[]) (λy=>y.1<=g.cells.length) (0,.slice none 0 0) (cz _) (hk:=by repeat (first|exact aI.nil|(apply aI.cons;(focus (repeat (first|exact ay.here|apply ay.there)))))) (body:=?_);rintro⟨j,v6⟩ hj;dsimp only at hj⊢;have hsl:=Ae j (qV g i);refine go ?_;refine aA rfl (λh3=>?_) (λh3=>?_)
  ·refine go ?_;refine ax (agz (g:=g) (vh:=vh) (vc:=vc) (a:=i) (b:=j) hg (by omega) (by omega)) (next:=λ_ _=>?_);have hss:=Ad j (qV g i);refine go ?_;refine j6 rfl (λh4=>?_) (λh4=>?_)
   ·rw[if_pos h4]at hss;refine go ?_;intro NT;refine go ?_;refine fC aa (xs:=dR j (qV g i)) (j:Int) () (by omega) λad=>?_;rw[<- hss];refine go ?_;exact aQ (j+1,.slice ad ((dR j (qV g i)).length+1) ((dR j (qV g i)).length+1)) (by show g.cells.length - (j+1)<g.cells.length - j;omega) (by show j+1<=_;omega)
   ·rw[if_neg (by show¬wH g.shape (iL g (i:Int)) (iL g (j:Int))=true;rw[h4];simp),gy]at hss;rw[<- hss];refine go ?_;exact aQ (j+1,v6) (by show g.cells.length - (j+1)<g.cells.length - j;omega) (by show j+1<=_;omega)
  have jO:j=g.cells.length:=by omega
  subst jO;refine o9 (E:=aa) (v:=v6) (xs:=dR g.cells.length (qV g i)) λa6 e6=>?_;subst e6;refine bD (gH (E:=aa) (v:=.slice a6 (dR g.cells.length (qV g i)).length (dR g.cells.length (qV g i)).length) (xs:=dR g.cells.length (qV g i))) (h:=?_);refine go ?_;intro b35;refine go ?_;refine fC (xs:=(bI g).take i) (aj aa) (dR g.cells.length (qV g i)) (.slice a6 (dR g.cells.length (qV g i)).length (dR g.cells.length (qV g i)).length) (by omega) (next:=λad=>?_);rw[<- bY hn];refine go ?_;exact aQ (i+1,.slice ad (((bI g).take i).length+1) (((bI g).take i).length+1)) (by show g.cells.length - (i+1)<g.cells.length - i;omega) (by show i+1<=_;omega)
 have hie:i=g.cells.length:=by omega
 subst hie;rw[NS (by omega)];refine bD (gH (E:=aj aa) (v:=v4) (xs:=bI g)) (h:=?_);refine go ?_;refine kX (c:=(0:Int)=0) (f:=ah (aj aa) v4 (bI g)) (by simp) ?_;exact ae ⟨v4,0⟩ (hv:=rfl) (hp:=⟨λ_=>hg,λ_=>rfl⟩)
theorem agD{g:bA}(hg:fq g){k:Nat}(hk:k<g.cells.length):(-8<(iL g (k:Int)).1/\(iL g (k:Int)).1<16)/\0<=(iL g (k:Int)).2/\(iL g (k:Int)).2<16:=by
 obtain⟨hc,hr⟩:=yP hg hk;have hv:=Jk hr;rcases hg.make.sh with hs|hs
 ·rw[CF hk hs];dsimp only;omega
 ·rw[F3 hk hs];dsimp only;omega
theorem agE{g:bA}(hg:fq g){k:Nat}(hk:k<g.cells.length)(f:Int): -16<=nJ g.shape f (iL g (k:Int))/\nJ g.shape f (iL g (k:Int))<=32:=by
 obtain⟨h1,h2⟩:=agD hg hk;unfold nJ;split
 ·omega
 split
 ·omega
 split<;>omega
abbrev sw(g:bA)(f n:Int):Int->Bool:=λb=>decide (nJ g.shape f (iL g b)=n)
abbrev wR(g:bA)(f:Int)(k:Nat):List (List Int):=yF (λn=>dR g.cells.length (sw g f n)) (-16) k
theorem agF{g:bA}(hg:fq g)(f:Int):wR g f 49=iJ g λs=>(nJ g.shape f s,true):=by
 rw[TY (lo:= -16) (k:=49) (λs=>(nJ g.shape f s,true)) (λp hp _=>by
  obtain⟨h1,h2⟩:=FC.1 hp;have h3:=agE hg (k:=p.1.toNat) (by omega) f;rw[show((p.1.toNat:Nat):Int)=p.1 by omega,<- h2]at h3;dsimp only;omega)]
 unfold wR;congr 1;funext n
 rw[TV];rfl
theorem agG(L:Int->List Int)(lo:Int)(k:Nat):(yF L lo k).length<=k:=by
 unfold yF;refine lF (AV _ _) ?_;rw[bR];unfold uP;simp
theorem NU{g:bA}{vh vc:Value}{f:Int}(hg:fq g):
 bi Tryz.prog (.func 134) [.agg ⟨iM g vh vc⟩,.int .i64 f] [] [] (jy g vh vc) (λv:Value=>v) (λv=>[ap (aj aa) v (iJ g λs=>(nJ g.shape f s,true))]) (λ_=>[]) (λ_=>True):=by
 have hgl:=hg.len;refine aK _ (aP 134) λB w0=>?_;refine go ?_;intro b1;refine bD (eO (b:=b1)) (h:=?_);refine go ?_;refine gI (aj aa) ?_;refine aZ (λy:Nat×Value=>49 - y.1) (λy=>[(6,.int .i64 (-16+(y.1:Int))),(5,y.2)]) (λy=>[ap (aj aa) y.2 (wR g f y.1)]) (λ_=>[]) (λy=>y.1<=49) (0,.slice none 0 0) (by omega) (hk:=by repeat (first|exact aI.nil|(apply aI.cons;(focus (repeat (first|exact ay.here|apply ay.there)))))) (body:=?_);rintro⟨i,v5⟩ hi;dsimp only at hi⊢;have hil:(wR g f i).length<=i:=agG (λn=>dR g.cells.length (sw g f n)) (-16) i;have hls:wR g f (i+1)=wR g f i++if dR g.cells.length (sw g f (-16+(i:Int)))=[]then[]else[dR g.cells.length (sw g f (-16+(i:Int)))]:=TW (λn=>dR g.cells.length (sw g f n)) (-16) i
 have hin: -16+(i:Int)+1= -16+((i+1:Nat):Int):=by omega
 refine go ?_;refine aA rfl (λh2=>?_) (λh2=>?_)
 ·refine go ?_;refine gI aa ?_;refine aZ (λy:Nat×Value=>g.cells.length - y.1) (λy=>[(8,.int .i64 (y.1:Int)),(7,y.2)]) (λy=>[ap aa y.2 (dR y.1 (sw g f (-16+(i:Int))))]) (λ_=>[]) (λy=>y.1<=g.cells.length) (0,.slice none 0 0) (cz _) (hk:=by repeat (first|exact aI.nil|(apply aI.cons;(focus (repeat (first|exact ay.here|apply ay.there)))))) (body:=?_);rintro⟨j,v7⟩ hj;dsimp only at hj⊢;have hsl:=Ae j (sw g f (-16+(i:Int)));refine go ?_;refine aA rfl (λh3=>?_) (λh3=>?_)
  ·refine go ?_;refine ax (agA (g:=g) (vh:=vh) (vc:=vc) (f:=f) (a:=j) hg (by omega)) (next:=λ_ _=>?_);have hss:=Ad j (sw g f (-16+(i:Int)));refine go ?_;refine aA rfl (λh4=>?_) (λh4=>?_)
   ·rw[if_pos (dZ h4)]at hss;refine go ?_;intro NT;refine go ?_;refine fC aa (xs:=dR j (sw g f (-16+(i:Int)))) (j:Int) () (by omega) λad=>?_;rw[<- hss];refine go ?_;exact aQ (j+1,.slice ad ((dR j (sw g f (-16+(i:Int)))).length+1) ((dR j (sw g f (-16+(i:Int)))).length+1)) (by show g.cells.length - (j+1)<g.cells.length - j;omega) (by show j+1<=_;omega)
   ·rw[if_neg (by show¬decide (nJ g.shape f (iL g (j:Int))= -16+(i:Int))=true;rw[aT h4];simp),gy]at hss;rw[<- hss];refine go ?_;exact aQ (j+1,v7) (by show g.cells.length - (j+1)<g.cells.length - j;omega) (by show j+1<=_;omega)
  have jO:j=g.cells.length:=by omega
  subst jO;generalize hL:dR g.cells.length (sw g f (-16+(i:Int)))=L at hls hsl⊢;refine o9 (E:=aa) (v:=v7) (xs:=L) λa7 e7=>?_;subst e7;refine go ?_;refine aA rfl (λh5=>?_) (λh5=>?_)
  ·rw[if_neg (λe=>by rw[e]at h5;simp at h5)]at hls;refine bD (gH (E:=aa) (v:=.slice a7 L.length L.length) (xs:=L)) (h:=?_);refine go ?_;intro b35;refine go ?_;refine fC (xs:=wR g f i) (aj aa) L (.slice a7 L.length L.length) (by omega) (next:=λad=>?_);rw[<- hls];refine go ?_;rw[hin];exact aQ (i+1,.slice ad ((wR g f i).length+1) ((wR g f i).length+1)) (by show 49 - (i+1)<49 - i;omega) (by show i+1<=_;omega)
  ·rw[if_pos (ji.1 (by omega)),gy]at hls;rw[<- hls];refine go ?_;rw[hin];exact aQ (i+1,v5) (by show 49 - (i+1)<49 - i;omega) (by show i+1<=_;omega)
 have hie:i=49:=by omega
 subst hie;rw[agF hg f];refine go ?_;exact ae v5 (hv:=rfl) (hp:=trivial)
abbrev mH(g:bA)(k:Nat):Int->Bool:=λb=>cond (Nat.beq k 0) (decide ((iL g b).1=(iL g b).2)) (decide ((iL g b).1+(iL g b).2=g.w - 1))
def qW(g:bA)(k:Nat):List Int:=dR g.cells.length (mH g k)
def qi(l:List Int):List (List Int):=if l=[]then[]else[l]
theorem agH{g:bA}(hs:g.shape=1)(hw:g.w=g.h):kU g=lN (qi (qW g 0)) (qi (qW g 1)):=by
 unfold kU;rw[if_neg (by omega),if_pos hw,TZ (λs=>decide (s.1=s.2)),TZ (λs=>decide (s.1+s.2=g.w - 1))];rfl
def lW(g:bA)(k:Nat):List (List Int):=if k=0 then[]else if k=1 then qi (qW g 0)else lN (qi (qW g 0)) (qi (qW g 1))
theorem agI(l:List Int):lN [] (qi l)=qi l:=by
 unfold qi;split
 ·rfl
 ·show wE [] l=[l]
  unfold wE;rw[if_neg (by simp)];rfl
theorem agJ(g:bA){k:Nat}(hk:k<2):lW g (k+1)=lN (lW g k) (qi (qW g k)):=by
 rcases(show k=0\/k=1 by omega)with rfl|rfl
 ·exact(agI _).symm
 ·rfl
theorem Vi(O:List (List Int)){l:List Int}(hl:l≠[]):lN O (qi l)=if O.head? =some l then O else O++[l]:=by
 unfold qi;rw[if_neg hl];rfl
theorem agK{g:bA}{vh vc:Value}(hg:fq g)(hs:g.shape=1):
 bi Tryz.prog (.func 135) [.agg ⟨iM g vh vc⟩] [] [] (jy g vh vc) (λv:Value=>v) (λv=>[ap (aj aa) v (kU g)]) (λ_=>[]) (λ_=>True):=by
 have hgl:=hg.len;have FJ:=hg.make.wi;refine aK _ (aP 135) λB w0=>?_;refine go ?_;intro b1;refine bD (eO (b:=b1)) (h:=?_);refine go ?_;refine gI (aj aa) ?_;refine aZ (λy:Nat×Value=>2 - y.1) (λy=>[(4,.int .i64 (y.1:Int)),(3,y.2)]) (λy=>[ap (aj aa) y.2 (lW g y.1)]) (λ_=>[]) (λy=>y.1<=2/\(y.1=0\/g.w=g.h)) (0,.slice none 0 0) ⟨by omega,.inl rfl⟩ (hk:=by repeat (first|exact aI.nil|(apply aI.cons;(focus (repeat (first|exact ay.here|apply ay.there)))))) (body:=?_);rintro⟨k,v3⟩ ⟨hk,NV⟩;dsimp only at hk NV⊢;have Jl:∀l∈lW g k,l.length<=256:=λl hl=>by
  have h1:∀n,(qW g n).length<=256:=λn=>by have:=Ae g.cells.length (mH g n);unfold qW;omega
  have h2:∀n,∀l∈qi (qW g n),l.length<=256:=λn l hl=>by
   unfold qi at hl;split at hl
   ·cases hl
   ·rw[bH.1 hl];exact h1 n
  unfold lW at hl;split at hl
  ·cases hl
  split at hl
  ·exact h2 0 l hl
  ·rcases MH hl with hl|hl
   ·exact h2 0 l hl
   ·exact h2 1 l hl
 have hol:(lW g k).length<=2:=by
  unfold lW lN qi;split
  ·simp
  split
  ·split<;>simp
  ·split<;>split<;>simp[wE]<;>split<;>simp
 refine go ?_;first|with_reducible refine aN (λhk2=>?_) (λhk2=>?_)|with_reducible refine aM (λhk2=>?_) (λhk2=>?_)|with_reducible refine aL (λhk2=>?_) (λhk2=>?_)
 ·have e:k=2:=by omega
  subst e;have hw:g.w=g.h:=NV.resolve_left (by omega);rw[show lW g 2=kU g from(agH hs hw).symm];refine go ?_;exact ae v3 (hv:=rfl) (hp:=trivial)
 refine go ?_;refine aA rfl (λhw=>?_) (λhw=>?_)
 rotate_left
 ·have e:k=0:=NV.resolve_right hw;subst e;have e:kU g=lW g 0:=by unfold kU;rw[if_neg (by omega),if_neg hw];rfl
  rw[e];refine go ?_;exact ae v3 (hv:=rfl) (hp:=trivial)
 have hds:=agJ g (show k<2 by omega);rcases(show k=0\/k=1 by omega)with rfl|rfl
 ·refine go ?_;refine gI aa ?_;refine aZ (λy:Nat×Value=>g.cells.length - y.1) (λy=>[(6,.int .i64 (y.1:Int)),(5,y.2)]) (λy=>[ap aa y.2 (dR y.1 (mH g 0))]) (λ_=>[]) (λy=>y.1<=g.cells.length) (0,.slice none 0 0) (cz _) (hk:=by repeat (first|exact aI.nil|(apply aI.cons;(focus (repeat (first|exact ay.here|apply ay.there)))))) (body:=?_);rintro⟨j,v5⟩ hj;dsimp only at hj⊢;have hsl:=Ae j (mH g 0);refine go ?_;refine aA rfl (λh3=>?_) (λh3=>?_)
  ·have wS:=CF (k:=j) (by omega) hs;obtain⟨hc,hr⟩:=yP hg (k:=j) (by omega);have hss:=Ad j (mH g 0);refine go ?_;refine ax (CE (g:=g) (vh:=vh) (vc:=vc) (k:=j) hg (by omega)) (next:=λ_ _=>?_);refine go ?_;refine ax (Av (g:=g) (vh:=vh) (vc:=vc) (k:=j) hg (by omega)) (next:=λ_ _=>?_);generalize(g.cells[j]).tmod g.w=x at hc wS⊢;generalize(g.cells[j]).tdiv g.w=y at hr wS⊢;refine go ?_;first|with_reducible refine aN (λh4=>?_) (λh4=>?_)|with_reducible refine aM (λh4=>?_) (λh4=>?_)|with_reducible refine aL (λh4=>?_) (λh4=>?_)
   rotate_left
   ·have hp:mH g 0 (j:Int)=true:=by show decide _=true;rw[wS];exact dZ (by dsimp only;omega)
    rw[if_pos hp]at hss;refine go ?_;intro NT;refine go ?_;refine fC aa (xs:=dR j (mH g 0)) (j:Int) () (by omega) λad=>?_;rw[<- hss];refine go ?_;exact aQ (j+1,.slice ad ((dR j (mH g 0)).length+1) ((dR j (mH g 0)).length+1)) (by show g.cells.length - (j+1)<g.cells.length - j;omega) (by show j+1<=_;omega)
   ·have hp:¬mH g 0 (j:Int)=true:=by show¬decide _=true;rw[wS];intro h;have:=gY h;dsimp only at this;omega
    rw[if_neg hp,gy]at hss;rw[<- hss];refine go ?_;exact aQ (j+1,v5) (by show g.cells.length - (j+1)<g.cells.length - j;omega) (by show j+1<=_;omega)
  have jO:j=g.cells.length:=by omega
  subst jO;have hL:dR g.cells.length (mH g 0)=qW g 0:=rfl;rw[hL]at hsl⊢;generalize qW g 0=L at hsl hds⊢;refine o9 (E:=aa) (v:=v5) (xs:=L) λa5 e5=>?_;subst e5;refine bD (gH (E:=aa) (v:=.slice a5 L.length L.length) (xs:=L)) (h:=?_);generalize lW g 0=O at hds hol Jl⊢;refine o9 (E:=aj aa) (v:=v3) (xs:=O) λa3 e3=>?_;subst e3;refine go ?_;first|with_reducible refine aN (λh5=>?_) (λh5=>?_)|with_reducible refine aM (λh5=>?_) (λh5=>?_)|with_reducible refine aL (λh5=>?_) (λh5=>?_)
  ·have e0:L=[]:=ji.1 (by omega);have e1:lW g (0+1)=O:=by rw[hds,e0];rfl
   rw[<- e1];refine go ?_;exact aQ (0+1,.slice a3 (lW g (0+1)).length (lW g (0+1)).length) (by show 2 - (0+1)<2 - 0;omega) ⟨by show 0+1<=2;omega,.inr hw⟩
  rw[Vi O (λe=>by rw[e]at h5;simp at h5)]at hds;refine go ?_;first|with_reducible refine aN (λh6=>?_) (λh6=>?_)|with_reducible refine aM (λh6=>?_) (λh6=>?_)|with_reducible refine aL (λh6=>?_) (λh6=>?_)
  ·obtain⟨o,O2,rfl⟩:∃o O2,O=o::O2:=by
    cases O with
    |nil=>simp at h6
    |cons o O2=>exact⟨o,O2,rfl⟩
   refine go ?_;refine Ij aa (v:=.slice a3 (o::O2).length (o::O2).length) (xss:=o::O2) 0 o rfl (next:=λ_ _ u=>?_);refine go ?_;have ho:=Jl o (cZ ..);rw[List.head?_cons]at hds;refine ax (CB (xs:=o) (ys:=L) (by omega)) (next:=λ_ _=>?_);refine go ?_;refine eU rfl (λh7=>?_) (λh7=>?_)
   ·rw[if_neg (λe=>h7 (Option.some.inj e))]at hds;refine go ?_;intro NW;refine go ?_;refine fC (xs:=o::O2) (aj aa) L (.slice a5 L.length L.length) (by omega) (next:=λqO=>?_);rw[<- hds];refine go ?_;exact aQ (0+1,.slice qO ((o::O2).length+1) ((o::O2).length+1)) (by show 2 - (0+1)<2 - 0;omega) ⟨by show 0+1<=2;omega,.inr hw⟩
   ·rw[if_pos (congrArg some h7)]at hds;rw[<- hds];refine go ?_;exact aQ (0+1,.slice a3 (lW g (0+1)).length (lW g (0+1)).length) (by show 2 - (0+1)<2 - 0;omega) ⟨by show 0+1<=2;omega,.inr hw⟩
  have e0:O=[]:=ji.1 (by omega);subst e0;rw[if_neg (by simp)]at hds;refine go ?_;intro NW;refine go ?_;refine fC (xs:=([]:List (List Int))) (aj aa) L (.slice a5 L.length L.length) (by simp) (next:=λad=>?_);rw[<- hds];refine go ?_;exact aQ (0+1,.slice ad (([]:List (List Int)).length+1) (([]:List (List Int)).length+1)) (by show 2 - (0+1)<2 - 0;omega) ⟨by show 0+1<=2;omega,.inr hw⟩
 ·refine go ?_;refine gI aa ?_;refine aZ (λy:Nat×Value=>g.cells.length - y.1) (λy=>[(6,.int .i64 (y.1:Int)),(5,y.2)]) (λy=>[ap aa y.2 (dR y.1 (mH g 1))]) (λ_=>[]) (λy=>y.1<=g.cells.length) (0,.slice none 0 0) (cz _) (hk:=by repeat (first|exact aI.nil|(apply aI.cons;(focus (repeat (first|exact ay.here|apply ay.there)))))) (body:=?_);rintro⟨j,v5⟩ hj;dsimp only at hj⊢;have hsl:=Ae j (mH g 1);refine go ?_;refine aA rfl (λh3=>?_) (λh3=>?_)
  ·have wS:=CF (k:=j) (by omega) hs;obtain⟨hc,hr⟩:=yP hg (k:=j) (by omega);have hss:=Ad j (mH g 1);refine go ?_;refine ax (CE (g:=g) (vh:=vh) (vc:=vc) (k:=j) hg (by omega)) (next:=λ_ _=>?_);refine go ?_;refine ax (Av (g:=g) (vh:=vh) (vc:=vc) (k:=j) hg (by omega)) (next:=λ_ _=>?_);generalize(g.cells[j]).tmod g.w=x at hc wS⊢;generalize(g.cells[j]).tdiv g.w=y at hr wS⊢;refine go ?_;refine aA rfl (λh4=>?_) (λh4=>?_)
   ·have hp:mH g 1 (j:Int)=true:=by show decide _=true;rw[wS];exact dZ (by dsimp only;omega)
    rw[if_pos hp]at hss;refine go ?_;intro NT;refine go ?_;refine fC aa (xs:=dR j (mH g 1)) (j:Int) () (by omega) λad=>?_;rw[<- hss];refine go ?_;exact aQ (j+1,.slice ad ((dR j (mH g 1)).length+1) ((dR j (mH g 1)).length+1)) (by show g.cells.length - (j+1)<g.cells.length - j;omega) (by show j+1<=_;omega)
   ·have hp:¬mH g 1 (j:Int)=true:=by show¬decide _=true;rw[wS];intro h;have:=gY h;dsimp only at this;omega
    rw[if_neg hp,gy]at hss;rw[<- hss];refine go ?_;exact aQ (j+1,v5) (by show g.cells.length - (j+1)<g.cells.length - j;omega) (by show j+1<=_;omega)
  have jO:j=g.cells.length:=by omega
  subst jO;have hL:dR g.cells.length (mH g 1)=qW g 1:=rfl;rw[hL]at hsl⊢;generalize qW g 1=L at hsl hds⊢;refine o9 (E:=aa) (v:=v5) (xs:=L) λa5 e5=>?_;subst e5;refine bD (gH (E:=aa) (v:=.slice a5 L.length L.length) (xs:=L)) (h:=?_);generalize lW g 1=O at hds hol Jl⊢;refine o9 (E:=aj aa) (v:=v3) (xs:=O) λa3 e3=>?_;subst e3;refine go ?_;first|with_reducible refine aN (λh5=>?_) (λh5=>?_)|with_reducible refine aM (λh5=>?_) (λh5=>?_)|with_reducible refine aL (λh5=>?_) (λh5=>?_)
  ·have e0:L=[]:=ji.1 (by omega);have e1:lW g (1+1)=O:=by rw[hds,e0];rfl
   rw[<- e1];refine go ?_;exact aQ (1+1,.slice a3 (lW g (1+1)).length (lW g (1+1)).length) (by show 2 - (1+1)<2 - 1;omega) ⟨by show 1+1<=2;omega,.inr hw⟩
  rw[Vi O (λe=>by rw[e]at h5;simp at h5)]at hds;refine go ?_;first|with_reducible refine aN (λh6=>?_) (λh6=>?_)|with_reducible refine aM (λh6=>?_) (λh6=>?_)|with_reducible refine aL (λh6=>?_) (λh6=>?_)
  ·obtain⟨o,O2,rfl⟩:∃o O2,O=o::O2:=by
    cases O with
    |nil=>simp at h6
    |cons o O2=>exact⟨o,O2,rfl⟩
   refine go ?_;refine Ij aa (v:=.slice a3 (o::O2).length (o::O2).length) (xss:=o::O2) 0 o rfl (next:=λ_ _ u=>?_);refine go ?_;have ho:=Jl o (cZ ..);rw[List.head?_cons]at hds;refine ax (CB (xs:=o) (ys:=L) (by omega)) (next:=λ_ _=>?_);refine go ?_;refine eU rfl (λh7=>?_) (λh7=>?_)
   ·rw[if_neg (λe=>h7 (Option.some.inj e))]at hds;refine go ?_;intro NW;refine go ?_;refine fC (xs:=o::O2) (aj aa) L (.slice a5 L.length L.length) (by omega) (next:=λqO=>?_);rw[<- hds];refine go ?_;exact aQ (1+1,.slice qO ((o::O2).length+1) ((o::O2).length+1)) (by show 2 - (1+1)<2 - 1;omega) ⟨by show 1+1<=2;omega,.inr hw⟩
   ·rw[if_pos (congrArg some h7)]at hds;rw[<- hds];refine go ?_;exact aQ (1+1,.slice a3 (lW g (1+1)).length (lW g (1+1)).length) (by show 2 - (1+1)<2 - 1;omega) ⟨by show 1+1<=2;omega,.inr hw⟩
  have e0:O=[]:=ji.1 (by omega);subst e0;rw[if_neg (by simp)]at hds;refine go ?_;intro NW;refine go ?_;refine fC (xs:=([]:List (List Int))) (aj aa) L (.slice a5 L.length L.length) (by simp) (next:=λad=>?_);rw[<- hds];refine go ?_;exact aQ (1+1,.slice ad (([]:List (List Int)).length+1) (([]:List (List Int)).length+1)) (by show 2 - (1+1)<2 - 1;omega) ⟨by show 1+1<=2;omega,.inr hw⟩
theorem agL{g:bA}{vh vc:Value}{p:Int}(hg:fq g):bi Tryz.prog (.func 136) [.agg ⟨iM g vh vc⟩,.int .i64 p] [] [] (jy g vh vc) (λy:Nat×Bool=>.tuple ⟨[.int .i64 (y.1:Int),.bool y.2]⟩) (λ_=>[]) (λ_=>[]) (λy=>(y.2=true↔p∈g.cells)/\(y.2=true->wF p g.cells=y.1)):=by
 have hgl:=hg.len;have mo:g.cells.Pairwise (·<·):=by rw[hg.cells];exact Mv _ _
 refine aK _ (aP 136) λB w0=>?_;refine go ?_;intro b1;refine bD (eO (b:=b1)) (h:=?_);refine go ?_;refine aZ (λk=>g.cells.length - k) (λk:Nat=>[(6,.int .i64 (k:Int))]) (λ_=>[]) (λ_=>[]) (λk=>k<=g.cells.length/\p∉g.cells.take k) 0 ⟨by omega,by simp⟩ (body:=?_);rintro k ⟨hk,hno⟩;refine go ?_;refine aA rfl (λh1=>?_) (λh1=>?_)
 ·refine go ?_;intro _ _ x hx;refine go ?_;refine aA rfl (λh2=>?_) (λh2=>?_)
  ·refine go ?_;subst h2;exact ae (k,true) (hv:=rfl) (hp:=⟨⟨λ_=>bG hx,λ_=>rfl⟩,λ_=>ME mo hx⟩)
  ·refine go ?_;refine aQ (k+1) (by omega) ⟨by omega,?_⟩;rw[bY hx,dV,not_or];exact⟨hno,by simp;exact λe=>h2 e.symm⟩
 have:k=g.cells.length:=by omega
 subst this;rw[bK]at hno;refine go ?_;exact ae (0,false) (hv:=rfl) (hp:=⟨⟨(λh=>by cases h),λh=>absurd h hno⟩,(λh=>by cases h)⟩)
theorem Vj{g:bA}{vh vc vr:Value}{rs:List (List Int)}(hS:qd g)(hrl:rs.length<9223372036854775808)(hrs:∀ps∈rs,ps.length<9223372036854775808):
 bi Tryz.prog (.func 94) [.agg ⟨iM g vh vc⟩,vr] [] [] (ah (aj aa) vr rs::jy g vh vc) uT (λ_=>[]) (λy=>Jc g rs y) (λy=>y.e=0↔fq g/\wG g rs):=by
 refine aK _ (aP 94) λB w0=>?_;refine aS (E:=aj aa) (v:=vr) (xs:=rs) (by simp) λar cr er=>?_;subst er;refine go ?_;intro b2;refine bD (eO (b:=b2)) (h:=?_);refine go ?_;refine ax (Vg (g:=g) hS) (next:=λe he=>?_);refine go ?_;first|with_reducible refine aN (λh1=>?_) (λh1=>?_)|with_reducible refine aM (λh1=>?_) (λh1=>?_)|with_reducible refine aL (λh1=>?_) (λh1=>?_)
 rotate_left
 ·refine go ?_;refine lU (c:=(130:Int)=0) (f:=ah (aj aa) (.slice none 0 0) (dU g rs)) (by omega) ?_;exact ae ⟨.slice none 0 0,130⟩ (hv:=rfl) (hp:=⟨(λh=>by cases h),λh=>absurd (he.2 h.1) h1⟩)
 have hg:=he.1 (by omega);have hgl:=hg.len;refine go ?_;refine aA rfl (λh2=>?_) (λh2=>?_)
 ·refine go ?_;refine lU (c:=(130:Int)=0) (f:=ah (aj aa) (.slice none 0 0) (dU g rs)) (by omega) ?_;exact ae ⟨.slice none 0 0,130⟩ (hv:=rfl) (hp:=⟨(λh=>by cases h),λh=>by exfalso;have:=h.2.len;omega⟩)
 refine go ?_;refine gI (aj aa) ?_;refine aZ (λy:Nat×Value=>rs.length - y.1) (λy=>[(7,.int .i64 (y.1:Int)),(6,y.2)]) (λy=>[ap (aj aa) y.2 (dU g (rs.take y.1))]) (λ_=>[]) (λy=>y.1<=rs.length/\∀ps∈rs.take y.1,yA g ps) (0,.slice none 0 0) ⟨cz _,λps h=>by cases h⟩ (hk:=by repeat (first|exact aI.nil|(apply aI.cons;(focus (repeat (first|exact ay.here|apply ay.there)))))) (body:=?_);rintro⟨k,v6⟩ ⟨hk,hall⟩;dsimp only at hk hall⊢;have hkl:(dU g (rs.take k)).length=k:=by unfold dU;rw[bR,gM];omega
 refine go ?_;refine aA rfl (λh3=>?_) (λh3=>?_)
 ·obtain⟨ps,hps⟩:∃ps,rs[k]? =some ps:=⟨rs[k]'(by omega),cB _⟩
  have hpm:=bG hps;have hpl:=hrs ps hpm;have htk:=bY hps;refine go ?_;refine gI aa ?_;refine aZ (λy:Nat×Value=>ps.length - y.1) (λy=>[(9,.int .i64 (y.1:Int)),(8,y.2)]) (λy=>[ap aa y.2 (eY g (ps.take y.1))]) (λ_=>[]) (λy=>y.1<=ps.length/\(∀p∈ps.take y.1,p∈g.cells)/\(eY g (ps.take y.1)).Nodup) (0,.slice none 0 0) ⟨cz _,(λp h=>by cases h),ul⟩ (hk:=by repeat (first|exact aI.nil|(apply aI.cons;(focus (repeat (first|exact ay.here|apply ay.there)))))) (body:=?_);rintro⟨j,v8⟩ ⟨hj,hmem,hnd⟩;dsimp only at hj hmem hnd⊢;have hjl:(eY g (ps.take j)).length=j:=by unfold eY;rw[bR,gM];omega
  have hj2:j<=256:=by have:=IC hmem hnd;rw[gM]at this;omega
  refine go ?_;refine bz (aj aa) (xs:=rs) (next:=λ_ _ ps' (vp:Value) NY=>?_);cases hps.symm.trans NY;refine go ?_;refine aA rfl (λh4=>?_) (λh4=>?_)
  ·refine go ?_;refine bz (aj aa) (xs:=rs) (next:=λ_ _ ps' (vp:Value) NY=>?_);cases hps.symm.trans NY;refine go ?_;intro _ _ x hx;have htx:=bY hx;refine go ?_;refine ax (agL (g:=g) (vh:=vh) (vc:=vc) (p:=x) hg) (next:=λy hy=>?_);obtain⟨c,ok⟩:=y;obtain⟨hy1,hy2⟩:=hy;dsimp only at hy1 hy2⊢;cases ok with
   |false=>
    refine go ?_;refine lU (c:=(130:Int)=0) (f:=ah (aj aa) (.slice none 0 0) (dU g rs)) (by omega) ?_;exact ae ⟨.slice none 0 0,130⟩ (hv:=rfl) (hp:=⟨(λh=>by cases h),λh=>by
     have:=hy1.2 ((h.2.all ps hpm).mem x (bG hx));cases this⟩)
   |true=>
    have hxm:=hy1.1 rfl;have hpos:=hy2 rfl;have hr1:eY g (ps.take (j+1))=eY g (ps.take j)++[(c:Int)]:=by unfold eY;rw[htx,dW,oK,hpos]
    refine go ?_;refine ax (agw (vl:=v8) (xs:=eY g (ps.take j)) (z:=(c:Int)) (by omega)) (next:=λ_ _=>?_);refine go ?_;refine aA rfl (λh5=>?_) (λh5=>?_)
    ·refine go ?_;refine lU (c:=(130:Int)=0) (f:=ah (aj aa) (.slice none 0 0) (dU g rs)) (by omega) ?_;exact ae ⟨.slice none 0 0,130⟩ (hv:=rfl) (hp:=⟨(λh=>by cases h),λh=>by
      exfalso
      have h6:(eY g ps).Nodup:=(h.2.all ps hpm).nd;have h7:(eY g (ps.take (j+1))).Nodup:=by
       refine h6.sublist ?_;unfold eY;exact(OC _ _).map _
      rw[hr1,iN]at h7;exact h7.2.2 _ h5 _ (bH.2 rfl) rfl⟩)
    ·refine go ?_;intro b53;refine go ?_;refine fC (xs:=eY g (ps.take j)) aa (c:Int) () (by omega) (next:=λad=>?_);rw[<- hr1];refine go ?_;refine aQ (j+1,.slice ad ((eY g (ps.take j)).length+1) ((eY g (ps.take j)).length+1)) (by show ps.length - (j+1)<ps.length - j;omega) ⟨by show j+1<=_;omega,?_,?_⟩
     ·show∀p∈ps.take (j+1),p∈g.cells;rw[htx];intro p hp;rcases dV.1 hp with hp|hp
      ·exact hmem p hp
      ·rw[bH.1 hp];exact hxm
     ·show(eY g (ps.take (j+1))).Nodup;rw[hr1,iN];exact⟨hnd,by simp,λa ha b hb e=>h5 (by rw[bH.1 hb]at e;rw[<- e];exact ha)⟩
  have jO:j=ps.length:=by omega
  subst jO;rw[bK]at hmem hnd⊢;have hrl2:(eY g ps).length=ps.length:=by unfold eY;rw[bR]
  refine o9 (E:=aa) (v:=v8) (xs:=eY g ps) λa8 e8=>?_;subst e8;refine go ?_;refine aA rfl (λh5=>?_) (λh5=>?_)
  ·refine go ?_;refine lU (c:=(130:Int)=0) (f:=ah (aj aa) (.slice none 0 0) (dU g rs)) (by omega) ?_;exact ae ⟨.slice none 0 0,130⟩ (hv:=rfl) (hp:=⟨(λh=>by cases h),λh=>by
    exfalso
    exact(h.2.all ps hpm).ne (ji.1 (by omega))⟩)
  have hR:yA g ps:=⟨λe=>h5 (by rw[hrl2,e];rfl),hmem,hnd⟩
  have hrr:dU g (rs.take (k+1))=dU g (rs.take k)++[eY g ps]:=by unfold dU;rw[htk,dW,oK]
  refine bD (gH (E:=aa) (v:=.slice a8 (eY g ps).length (eY g ps).length) (xs:=eY g ps)) (h:=?_);refine go ?_;intro b61;refine go ?_;refine fC (xs:=dU g (rs.take k)) (aj aa) (eY g ps) (.slice a8 (eY g ps).length (eY g ps).length) (by omega) (next:=λad=>?_);rw[<- hrr];refine go ?_;refine aQ (k+1,.slice ad ((dU g (rs.take k)).length+1) ((dU g (rs.take k)).length+1)) (by show rs.length - (k+1)<rs.length - k;omega) ⟨by show k+1<=_;omega,?_⟩;show∀qs∈rs.take (k+1),yA g qs;rw[htk];intro qs hq;rcases dV.1 hq with hq|hq
  ·exact hall qs hq
  ·rw[bH.1 hq];exact hR
 have hke:k=rs.length:=by omega
 subst hke;rw[bK]at hall⊢;refine bD (gH (E:=aj aa) (v:=v6) (xs:=dU g rs)) (h:=?_);refine go ?_;refine kX (c:=(0:Int)=0) (f:=ah (aj aa) v6 (dU g rs)) (by simp) ?_;exact ae ⟨v6,0⟩ (hv:=rfl) (hp:=⟨λ_=>⟨hg,by omega,hall⟩,λ_=>rfl⟩)
theorem agM(g:bA):(λs:Int×Int=>(nJ g.shape 1 s,true))=λs=>(s.2,true):=by funext s;rfl
theorem agN(g:bA):(λs:Int×Int=>(nJ g.shape 2 s,true))=λs=>(s.1,true):=by funext s;unfold nJ;simp
theorem agO{g:bA}(h:g.shape=2):(λs:Int×Int=>(nJ g.shape 3 s,true))=λs=>(s.1+s.2,true):=by funext s;unfold nJ;simp[h]
theorem agP{g:bA}{vh vc:Value}{k:Int}(hS:qd g):
 bi Tryz.prog (.func 93) [.agg ⟨iM g vh vc⟩,.int .i64 k] [] [] (jy g vh vc) uT (λ_=>[]) (λy=>Ja g k y) (λy=>y.e=0↔fq g/\0<=k/\k<=7):=by
 refine aK _ (aP 93) λB w0=>?_;refine go ?_;intro b2;refine bD (eO (b:=b2)) (h:=?_);refine go ?_;refine ax (Vh (g:=g) (vh:=vh) (vc:=vc) hS) (next:=λy hy=>?_);obtain⟨vn,e⟩:=y;dsimp only at hy⊢;refine go ?_;refine aA rfl (λh1=>?_) (λh1=>?_)
 ·refine go ?_;refine lU (c:=e=0) (f:=ah (aj aa) (.slice none 0 0) (dA g k)) h1 ?_;exact ae ⟨.slice none 0 0,e⟩ (hv:=rfl) (hp:=⟨(λh=>absurd h h1),λh=>absurd (hy.2 h.1) h1⟩)
 have he:e=0:=iO.1 h1;subst he;have hg:=hy.1 rfl;clear hy h1;have hgl:=hg.len;have hnl:=wC g;have hnm:=Fu (g:=g);refine eX (ah (aj aa) vn (bI g)) (λw hw=>hw (mF ((0:Int)=0) (ah (aj aa) vn (bI g))) (by simp) rfl) ?_;refine aS (E:=aj aa) (v:=vn) (xs:=bI g) (by simp) λan cn en=>?_;subst en;refine go ?_;first|with_reducible refine aN (λh2=>?_) (λh2=>?_)|with_reducible refine aM (λh2=>?_) (λh2=>?_)|with_reducible refine aL (λh2=>?_) (λh2=>?_)
 rotate_left
 ·refine go ?_;refine lU (c:=(1:Int)=0) (f:=ah (aj aa) (.slice none 0 0) (dA g k)) (by omega) ?_;exact ae ⟨.slice none 0 0,1⟩ (hv:=rfl) (hp:=⟨(λh=>by cases h),λh=>by exfalso;have:=h.2;omega⟩)
 refine go ?_;refine aA rfl (λh3=>?_) (λh3=>?_)
 ·refine go ?_;refine lU (c:=(1:Int)=0) (f:=ah (aj aa) (.slice none 0 0) (dA g k)) (by omega) ?_;exact ae ⟨.slice none 0 0,1⟩ (hv:=rfl) (hp:=⟨(λh=>by cases h),λh=>by exfalso;have:=h.2;omega⟩)
 rcases(show k=0\/k=1\/k=2\/k=3\/k=4\/k=5\/k=6\/k=7 by omega)with rfl|rfl|rfl|rfl|rfl|rfl|rfl|rfl;all_goals clear h2 h3
 ·have hf:dA g 0=kE g.cells.length:=by simp[dA]
  refine go ?_;refine gI aa ?_;refine gI (aj aa) ?_;refine aZ (λy:Nat×Value×Value=>g.cells.length - y.1) (λy=>[(10,.int .i64 (y.1:Int)),(9,y.2.1),(8,y.2.2)]) (λy=>[ap aa y.2.1 (upTo' y.1),ap (aj aa) y.2.2 (kE y.1)]) (λ_=>[]) (λy=>y.1<=g.cells.length) (0,.slice none 0 0,.slice none 0 0) (cz _) (hk:=by repeat (first|exact aI.nil|(apply aI.cons;(focus (repeat (first|exact ay.here|apply ay.there)))))) (body:=?_);rintro⟨i,v9,v8⟩ hi;dsimp only at hi⊢;have hil:=r9 i;have Vk:=Tk i;refine go ?_;refine aA rfl (λh2=>?_) (λh2=>?_)
  ·refine go ?_;intro yI;refine go ?_;refine fC (xs:=upTo' i) aa (i:Int) () (by omega) (next:=λad=>?_);rw[<- uM];refine go ?_;intro wM b38;refine bD (A:=pt wM (.cells [.int .i64 (i:Int)])) (fs:=[ah aa (.slice (some ⟨wM,0,some 0⟩) 1 1) [(i:Int)]]) (Ej (b:=wM) (f:=0) (c:=1) (xs:=[(i:Int)])) (h:=?_);refine go ?_;refine fC (xs:=kE i) (aj aa) [(i:Int)] (.slice (some ⟨wM,0,some 0⟩) 1 1) (by omega) (next:=λqO=>?_);rw[<- Tj];refine go ?_;exact aQ (i+1,.slice ad ((upTo' i).length+1) ((upTo' i).length+1),.slice qO ((kE i).length+1) ((kE i).length+1)) (by show g.cells.length - (i+1)<g.cells.length - i;omega) (by show i+1<=_;omega)
  have hie:i=g.cells.length:=by omega
  subst hie;refine go ?_;refine bD (gH (E:=aj aa) (v:=v8) (xs:=kE g.cells.length)) (h:=?_);refine go ?_;refine kX (c:=(0:Int)=0) (f:=ah (aj aa) v8 (dA g 0)) (by rw[hf];simp) ?_;exact ae ⟨v8,0⟩ (hv:=rfl) (hp:=⟨λ_=>⟨hg,by omega,by omega⟩,λ_=>rfl⟩)
 ·have hf:dA g 1=iJ g (λs=>(s.2,true)):=by simp[dA]
  refine go ?_;refine gI aa ?_;refine aZ (λy:Nat×Value=>g.cells.length - y.1) (λy=>[(10,.int .i64 (y.1:Int)),(9,y.2)]) (λy=>[ap aa y.2 (upTo' y.1)]) (λ_=>[]) (λy=>y.1<=g.cells.length) (0,.slice none 0 0) (cz _) (hk:=by repeat (first|exact aI.nil|(apply aI.cons;(focus (repeat (first|exact ay.here|apply ay.there)))))) (body:=?_);rintro⟨i,v9⟩ hi;dsimp only at hi⊢;have hil:=r9 i;refine go ?_;refine aA rfl (λh2=>?_) (λh2=>?_)
  ·refine go ?_;intro yI;refine go ?_;refine fC (xs:=upTo' i) aa (i:Int) () (by omega) (next:=λad=>?_);rw[<- uM];refine go ?_;exact aQ (i+1,.slice ad ((upTo' i).length+1) ((upTo' i).length+1)) (by show g.cells.length - (i+1)<g.cells.length - i;omega) (by show i+1<=_;omega)
  have hie:i=g.cells.length:=by omega
  subst hie;refine go ?_;refine ax (NU (g:=g) (vh:=vh) (vc:=vc) (f:=1) hg) (next:=λv8 _=>?_);rw[agM];refine go ?_;refine bD (gH (E:=aj aa) (v:=v8) (xs:=iJ g (λs=>(s.2,true)))) (h:=?_);refine go ?_;refine kX (c:=(0:Int)=0) (f:=ah (aj aa) v8 (dA g 1)) (by rw[hf];simp) ?_;exact ae ⟨v8,0⟩ (hv:=rfl) (hp:=⟨λ_=>⟨hg,by omega,by omega⟩,λ_=>rfl⟩)
 ·have hf:dA g 2=iJ g (λs=>(s.1,true)):=by simp[dA]
  refine go ?_;refine gI aa ?_;refine aZ (λy:Nat×Value=>g.cells.length - y.1) (λy=>[(10,.int .i64 (y.1:Int)),(9,y.2)]) (λy=>[ap aa y.2 (upTo' y.1)]) (λ_=>[]) (λy=>y.1<=g.cells.length) (0,.slice none 0 0) (cz _) (hk:=by repeat (first|exact aI.nil|(apply aI.cons;(focus (repeat (first|exact ay.here|apply ay.there)))))) (body:=?_);rintro⟨i,v9⟩ hi;dsimp only at hi⊢;have hil:=r9 i;refine go ?_;refine aA rfl (λh2=>?_) (λh2=>?_)
  ·refine go ?_;intro yI;refine go ?_;refine fC (xs:=upTo' i) aa (i:Int) () (by omega) (next:=λad=>?_);rw[<- uM];refine go ?_;exact aQ (i+1,.slice ad ((upTo' i).length+1) ((upTo' i).length+1)) (by show g.cells.length - (i+1)<g.cells.length - i;omega) (by show i+1<=_;omega)
  have hie:i=g.cells.length:=by omega
  subst hie;refine go ?_;refine ax (NU (g:=g) (vh:=vh) (vc:=vc) (f:=2) hg) (next:=λv8 _=>?_);rw[agN];refine go ?_;refine bD (gH (E:=aj aa) (v:=v8) (xs:=iJ g (λs=>(s.1,true)))) (h:=?_);refine go ?_;refine kX (c:=(0:Int)=0) (f:=ah (aj aa) v8 (dA g 2)) (by rw[hf];simp) ?_;exact ae ⟨v8,0⟩ (hv:=rfl) (hp:=⟨λ_=>⟨hg,by omega,by omega⟩,λ_=>rfl⟩)
 ·have hf:dA g 3=kU g:=by simp[dA]
  refine go ?_;refine gI aa ?_;refine aZ (λy:Nat×Value=>g.cells.length - y.1) (λy=>[(10,.int .i64 (y.1:Int)),(9,y.2)]) (λy=>[ap aa y.2 (upTo' y.1)]) (λ_=>[]) (λy=>y.1<=g.cells.length) (0,.slice none 0 0) (cz _) (hk:=by repeat (first|exact aI.nil|(apply aI.cons;(focus (repeat (first|exact ay.here|apply ay.there)))))) (body:=?_);rintro⟨i,v9⟩ hi;dsimp only at hi⊢;have hil:=r9 i;refine go ?_;refine aA rfl (λh2=>?_) (λh2=>?_)
  ·refine go ?_;intro yI;refine go ?_;refine fC (xs:=upTo' i) aa (i:Int) () (by omega) (next:=λad=>?_);rw[<- uM];refine go ?_;exact aQ (i+1,.slice ad ((upTo' i).length+1) ((upTo' i).length+1)) (by show g.cells.length - (i+1)<g.cells.length - i;omega) (by show i+1<=_;omega)
  have hie:i=g.cells.length:=by omega
  subst hie;refine go ?_;refine aA rfl (λh4=>?_) (λh4=>?_)
  ·refine go ?_;refine ax (agK (g:=g) (vh:=vh) (vc:=vc) hg h4) (next:=λv8 _=>?_);refine go ?_;refine bD (gH (E:=aj aa) (v:=v8) (xs:=kU g)) (h:=?_);refine go ?_;refine kX (c:=(0:Int)=0) (f:=ah (aj aa) v8 (dA g 3)) (by rw[hf];simp) ?_;exact ae ⟨v8,0⟩ (hv:=rfl) (hp:=⟨λ_=>⟨hg,by omega,by omega⟩,λ_=>rfl⟩)
  ·have h5:g.shape=2:=hg.make.sh.resolve_left h4;have hd:kU g=iJ g (λs=>(s.1+s.2,true)):=by unfold kU;rw[if_pos h5]
   refine go ?_;refine ax (NU (g:=g) (vh:=vh) (vc:=vc) (f:=3) hg) (next:=λv8 _=>?_);rw[agO h5,<- hd];refine go ?_;refine bD (gH (E:=aj aa) (v:=v8) (xs:=kU g)) (h:=?_);refine go ?_;refine kX (c:=(0:Int)=0) (f:=ah (aj aa) v8 (dA g 3)) (by rw[hf];simp) ?_;exact ae ⟨v8,0⟩ (hv:=rfl) (hp:=⟨λ_=>⟨hg,by omega,by omega⟩,λ_=>rfl⟩)
 ·have hf:dA g 4=bI g:=by simp[dA]
  refine go ?_;refine gI aa ?_;refine aZ (λy:Nat×Value=>g.cells.length - y.1) (λy=>[(10,.int .i64 (y.1:Int)),(9,y.2)]) (λy=>[ap aa y.2 (upTo' y.1)]) (λ_=>[]) (λy=>y.1<=g.cells.length) (0,.slice none 0 0) (cz _) (hk:=by repeat (first|exact aI.nil|(apply aI.cons;(focus (repeat (first|exact ay.here|apply ay.there)))))) (body:=?_);rintro⟨i,v9⟩ hi;dsimp only at hi⊢;have hil:=r9 i;refine go ?_;refine aA rfl (λh2=>?_) (λh2=>?_)
  ·refine go ?_;intro yI;refine go ?_;refine fC (xs:=upTo' i) aa (i:Int) () (by omega) (next:=λad=>?_);rw[<- uM];refine go ?_;exact aQ (i+1,.slice ad ((upTo' i).length+1) ((upTo' i).length+1)) (by show g.cells.length - (i+1)<g.cells.length - i;omega) (by show i+1<=_;omega)
  have hie:i=g.cells.length:=by omega
  subst hie;refine go ?_;refine kX (c:=(0:Int)=0) (f:=ah (aj aa) (.slice an (bI g).length cn) (dA g 4)) (by rw[hf];simp) ?_;exact ae ⟨.slice an (bI g).length cn,0⟩ (hv:=rfl) (hp:=⟨λ_=>⟨hg,by omega,by omega⟩,λ_=>rfl⟩)
 ·have hf:dA g 5=kF (bI g):=by simp[dA]
  refine go ?_;refine gI aa ?_;refine gI (aj aa) ?_;refine aZ (λy:Nat×Value×Value=>g.cells.length - y.1) (λy=>[(10,.int .i64 (y.1:Int)),(9,y.2.1),(8,y.2.2)]) (λy=>[ap aa y.2.1 (upTo' y.1),ap (aj aa) y.2.2 (kF ((bI g).take y.1))]) (λ_=>[]) (λy=>y.1<=g.cells.length) (0,.slice none 0 0,.slice none 0 0) (cz _) (hk:=by repeat (first|exact aI.nil|(apply aI.cons;(focus (repeat (first|exact ay.here|apply ay.there)))))) (body:=?_);rintro⟨i,v9,v8⟩ hi;dsimp only at hi⊢;have hil:=r9 i;have Vk:(kF ((bI g).take i)).length=i:=by rw[Tn,gM];omega
  refine go ?_;refine aA rfl (λh2=>?_) (λh2=>?_)
  ·obtain⟨ln,hln⟩:∃ln,(bI g)[i]? =some ln:=⟨(bI g)[i]'(by omega),cB _⟩
   have hll:=hnm ln (bG hln);have hfs:=Tm hln;rw[adG hg hln]at hfs;refine go ?_;intro yI;refine go ?_;refine fC (xs:=upTo' i) aa (i:Int) () (by omega) (next:=λad=>?_);rw[<- uM];refine go ?_;refine gI aa ?_;refine aZ (λy:Nat×Value=>g.cells.length - y.1) (λy=>[(12,.int .i64 (y.1:Int)),(11,y.2)]) (λy=>[ap aa y.2 (dR y.1 λb=>decide (b=(i:Int))||decide (b∈ln))]) (λ_=>[]) (λy=>y.1<=g.cells.length) (0,.slice none 0 0) (cz _) (hk:=by repeat (first|exact aI.nil|(apply aI.cons;(focus (repeat (first|exact ay.here|apply ay.there)))))) (body:=?_);rintro⟨j,v11⟩ hj;dsimp only at hj⊢;have hsl:=Ae j λb=>decide (b=(i:Int))||decide (b∈ln);refine go ?_;refine aA rfl (λh3=>?_) (λh3=>?_)
   ·have hss:=Ad j λb=>decide (b=(i:Int))||decide (b∈ln);refine go ?_;first|with_reducible refine aN (λh4=>?_) (λh4=>?_)|with_reducible refine aM (λh4=>?_) (λh4=>?_)|with_reducible refine aL (λh4=>?_) (λh4=>?_)
    ·refine go ?_;refine bz (aj aa) (xs:=bI g) (next:=λ_ _ NZ (vl:Value) hl=>?_);cases hln.symm.trans hl;refine go ?_;refine ax (Ji (xs:=ln) (z:=(j:Int)) (by omega)) (next:=λ_ _=>?_);refine go ?_;refine aA rfl (λh5=>?_) (λh5=>?_)
     ·rw[if_pos (by simp[h5])]at hss;refine go ?_;intro b69;refine go ?_;refine fC (xs:=dR j λb=>decide (b=(i:Int))||decide (b∈ln)) aa (j:Int) () (by omega) (next:=λad=>?_);rw[<- hss];refine go ?_;exact aQ (j+1,.slice ad ((dR j λb=>decide (b=(i:Int))||decide (b∈ln)).length+1) ((dR j λb=>decide (b=(i:Int))||decide (b∈ln)).length+1)) (by show g.cells.length - (j+1)<g.cells.length - j;omega) (by show j+1<=_;omega)
     ·rw[if_neg (by simp only[uW,wW,not_or];exact⟨h4,h5⟩),gy]at hss;rw[<- hss];refine go ?_;exact aQ (j+1,v11) (by show g.cells.length - (j+1)<g.cells.length - j;omega) (by show j+1<=_;omega)
    ·rw[if_pos (by simp[h4])]at hss;refine go ?_;intro b69;refine go ?_;refine fC (xs:=dR j λb=>decide (b=(i:Int))||decide (b∈ln)) aa (j:Int) () (by omega) (next:=λad=>?_);rw[<- hss];refine go ?_;exact aQ (j+1,.slice ad ((dR j λb=>decide (b=(i:Int))||decide (b∈ln)).length+1) ((dR j λb=>decide (b=(i:Int))||decide (b∈ln)).length+1)) (by show g.cells.length - (j+1)<g.cells.length - j;omega) (by show j+1<=_;omega)
   have jO:j=g.cells.length:=by omega
   subst jO;generalize(dR g.cells.length λb=>decide (b=(i:Int))||decide (b∈ln))=zs at hfs⊢;refine o9 (E:=aa) (v:=v11) (xs:=zs) λVl e11=>?_;subst e11;refine bD (gH (E:=aa) (v:=.slice Vl zs.length zs.length) (xs:=zs)) (h:=?_);refine go ?_;intro b73;refine go ?_;refine fC (xs:=kF ((bI g).take i)) (aj aa) zs (.slice Vl zs.length zs.length) (by omega) (next:=λqO=>?_);rw[<- hfs];refine go ?_;exact aQ (i+1,.slice ad ((upTo' i).length+1) ((upTo' i).length+1),.slice qO ((kF ((bI g).take i)).length+1) ((kF ((bI g).take i)).length+1)) (by show g.cells.length - (i+1)<g.cells.length - i;omega) (by show i+1<=_;omega)
  have hie:i=g.cells.length:=by omega
  subst hie;rw[NS (by omega)];refine go ?_;refine bD (gH (E:=aj aa) (v:=v8) (xs:=kF (bI g))) (h:=?_);refine go ?_;refine kX (c:=(0:Int)=0) (f:=ah (aj aa) v8 (dA g 5)) (by rw[hf];simp) ?_;exact ae ⟨v8,0⟩ (hv:=rfl) (hp:=⟨λ_=>⟨hg,by omega,by omega⟩,λ_=>rfl⟩)
 ·have hf:dA g 6=ic (bI g):=by simp[dA]
  have h6:=Fs hnm;refine go ?_;refine gI aa ?_;refine gI (aj aa) ?_;refine aZ (λy:Nat×Value×Value=>g.cells.length - y.1) (λy=>[(10,.int .i64 (y.1:Int)),(9,y.2.1),(8,y.2.2)]) (λy=>[ap aa y.2.1 (upTo' y.1),ap (aj aa) y.2.2 (ic ((bI g).take y.1))]) (λ_=>[]) (λy=>y.1<=g.cells.length) (0,.slice none 0 0,.slice none 0 0) (cz _) (hk:=by repeat (first|exact aI.nil|(apply aI.cons;(focus (repeat (first|exact ay.here|apply ay.there)))))) (body:=?_);rintro⟨i,v9,v8⟩ hi;dsimp only at hi⊢;have hil:=r9 i;have Vk:=h6 i (by omega);refine go ?_;refine aA rfl (λh2=>?_) (λh2=>?_)
  ·obtain⟨ln,hln⟩:∃ln,(bI g)[i]? =some ln:=⟨(bI g)[i]'(by omega),cB _⟩
   have hll:=hnm ln (bG hln);have hfs:=MC hln;refine go ?_;intro yI;refine go ?_;refine fC (xs:=upTo' i) aa (i:Int) () (by omega) (next:=λad=>?_);rw[<- uM];refine go ?_;refine aZ (λy:Nat×Value=>ln.length - y.1) (λy=>[(13,.int .i64 (y.1:Int)),(8,y.2)]) (λy=>[ap (aj aa) y.2 (ic ((bI g).take i)++jF i (ln.take y.1))]) (λ_=>[]) (λy=>y.1<=ln.length) (0,v8) (cz _) (hk:=by rw[show ic ((bI g).take i)++jF i (ln.take 0)=ic ((bI g).take i)from gy _];repeat (first|exact aI.nil|(apply aI.cons;(focus (repeat (first|exact ay.here|apply ay.there)))))) (body:=?_);rintro⟨j,v5⟩ hj;dsimp only at hj⊢;have hpl:=MB i (ln.take j);rw[gM]at hpl;have hal:(ic ((bI g).take i)++jF i (ln.take j)).length<=2000:=by rw[fA];omega
   refine go ?_;refine bz (aj aa) (xs:=bI g) (next:=λ_ _ NZ (vl:Value) hl=>?_);cases hln.symm.trans hl;refine go ?_;refine aA rfl (λh3=>?_) (λh3=>?_)
   ·refine go ?_;refine bz (aj aa) (xs:=bI g) (next:=λ_ _ NZ (vl:Value) hl=>?_);cases hln.symm.trans hl;refine go ?_;intro _ _ x hx;have hps:=Tp (i:=i) hx;refine go ?_;refine aA rfl (λh4=>?_) (λh4=>?_)
    ·have Aj:ic ((bI g).take i)++jF i (ln.take (j+1))=(ic ((bI g).take i)++jF i (ln.take j))++[[(i:Int),x]]:=by rw[hps,if_pos (by omega),fE]
     refine go ?_;refine bz (aj aa) (xs:=bI g) (next:=λ_ _ NZ (vl:Value) hl=>?_);cases hln.symm.trans hl;refine go ?_;intro _ _ x' hx';cases hx.symm.trans hx';refine go ?_;intro wN Nu;refine bD (A:=pt wN (.cells [.int .i64 (i:Int),.int .i64 x])) (fs:=[ah aa (.slice (some ⟨wN,0,some 0⟩) 2 2) [(i:Int),x]]) (Ej (b:=wN) (f:=0) (c:=2) (xs:=[(i:Int),x])) (h:=?_);refine go ?_;refine fC (xs:=ic ((bI g).take i)++jF i (ln.take j)) (aj aa) [(i:Int),x] (.slice (some ⟨wN,0,some 0⟩) 2 2) (by omega) (next:=λqO=>?_);rw[<- Aj];refine go ?_;exact aQ (j+1,.slice qO ((ic ((bI g).take i)++jF i (ln.take j)).length+1) ((ic ((bI g).take i)++jF i (ln.take j)).length+1)) (by show ln.length - (j+1)<ln.length - j;omega) (by show j+1<=_;omega)
    ·have Aj:ic ((bI g).take i)++jF i (ln.take (j+1))=ic ((bI g).take i)++jF i (ln.take j):=by rw[hps,if_neg (by omega),gy]
     rw[<- Aj];refine go ?_;exact aQ (j+1,v5) (by show ln.length - (j+1)<ln.length - j;omega) (by show j+1<=_;omega)
   have jO:j=ln.length:=by omega
   subst jO;rw[bK,<- hfs];refine go ?_;exact aQ (i+1,.slice ad ((upTo' i).length+1) ((upTo' i).length+1),v5) (by show g.cells.length - (i+1)<g.cells.length - i;omega) (by show i+1<=_;omega)
  have hie:i=g.cells.length:=by omega
  subst hie;rw[NS (by omega)];refine go ?_;refine bD (gH (E:=aj aa) (v:=v8) (xs:=ic (bI g))) (h:=?_);refine go ?_;refine kX (c:=(0:Int)=0) (f:=ah (aj aa) v8 (dA g 6)) (by rw[hf];simp) ?_;exact ae ⟨v8,0⟩ (hv:=rfl) (hp:=⟨λ_=>⟨hg,by omega,by omega⟩,λ_=>rfl⟩)
 ·have hf:dA g 7=[upTo' g.cells.length]:=by simp[dA]
  refine go ?_;refine gI aa ?_;refine aZ (λy:Nat×Value=>g.cells.length - y.1) (λy=>[(10,.int .i64 (y.1:Int)),(9,y.2)]) (λy=>[ap aa y.2 (upTo' y.1)]) (λ_=>[]) (λy=>y.1<=g.cells.length) (0,.slice none 0 0) (cz _) (hk:=by repeat (first|exact aI.nil|(apply aI.cons;(focus (repeat (first|exact ay.here|apply ay.there)))))) (body:=?_);rintro⟨i,v9⟩ hi;dsimp only at hi⊢;have hil:=r9 i;refine go ?_;refine aA rfl (λh2=>?_) (λh2=>?_)
  ·refine go ?_;intro yI;refine go ?_;refine fC (xs:=upTo' i) aa (i:Int) () (by omega) (next:=λad=>?_);rw[<- uM];refine go ?_;exact aQ (i+1,.slice ad ((upTo' i).length+1) ((upTo' i).length+1)) (by show g.cells.length - (i+1)<g.cells.length - i;omega) (by show i+1<=_;omega)
  have hie:i=g.cells.length:=by omega
  subst hie;refine bD (gH (E:=aa) (v:=v9) (xs:=upTo' g.cells.length)) (h:=?_);refine aS (E:=aa) (v:=v9) (xs:=upTo' g.cells.length) (by simp) λa4 c4 e4=>?_;subst e4;refine go ?_;intro Jm;refine bD (eO (b:=Jm)) (h:=?_);refine eX (ah (aj aa) (Ai Jm 1) [upTo' g.cells.length]) (λw hw=>Rb (v:=.slice a4 (upTo' g.cells.length).length c4) (hw _ (by simp)) (hw _ (by simp))) ?_;refine go ?_;refine kX (c:=(0:Int)=0) (f:=ah (aj aa) (Ai Jm 1) (dA g 7)) (by rw[hf];simp) ?_;exact ae ⟨Ai Jm 1,0⟩ (hv:=rfl) (hp:=⟨λ_=>⟨hg,by omega,by omega⟩,λ_=>rfl⟩)
