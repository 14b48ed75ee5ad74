/-
  The reference's grids: made, checked; neighbors.
-/
import Derived.Test.YtoohgkkmdnbnfaaGreatDoorLibOF
import Derived.Test.YtoohgkkmdnbnfaaGreatDoorLibEF
set_option linter.all false
set_option maxRecDepth 10000
set_option maxHeartbeats 4000000
namespace Go.Proofs.YtoohgkkmdnbnfaaGreatDoor
open Go.Ideal Kd
theorem Nc{s w h:Int}{holes:List Int}{vh:Value}(hw64:jU w)(adq:jU h)(hl:holes.length<4611686018427387904):
 bz Tryz.prog (.func 91) [.int .i64 s,.int .i64 w,.int .i64 h,vh] [] [] [ah aa vh holes] (mkV s w h holes) (λ_=>[]) (nX s w h holes) (λy=>y.ok=true↔nG s w h holes):=by
 refine aK _ (aP 91) λB w0=>?_;refine go ?_;intro b8;refine go ?_;by_cases hsh:s=1\/s=2
 rotate_left
 ·rw[dZ (show s≠1 from λe=>hsh (.inl e))];refine go ?_;rw[dZ (show s≠2 from λe=>hsh (.inr e))];refine go ?_;refine ae ⟨false,.nilFunc,.nilFunc⟩ (hv:=rfl) (hp:=⟨(λe=>by cases e),λe=>?_⟩)
  exfalso
  have e:=uC.2 e;obtain⟨q1,q2,q3,q4,q5,q6⟩:=e;exact hsh q1
 rcases hsh with rfl|rfl;all_goals
  refine go ?_;first|with_reducible refine aL (λa1=>?_) (λa1=>?_)|with_reducible refine aO (λa1=>?_) (λa1=>?_)|with_reducible refine aM (λa1=>?_) (λa1=>?_)
  rotate_left
  ·refine go ?_;refine ae ⟨false,.nilFunc,.nilFunc⟩ (hv:=rfl) (hp:=⟨(λe=>by cases e),λe=>?_⟩)
   exfalso
   have e:=uC.2 e;obtain⟨q1,q2,q3,q4,q5,q6⟩:=e;omega
  refine go ?_;first|with_reducible refine aL (λa2=>?_) (λa2=>?_)|with_reducible refine aO (λa2=>?_) (λa2=>?_)|with_reducible refine aM (λa2=>?_) (λa2=>?_)
  rotate_left
  ·refine go ?_;refine ae ⟨false,.nilFunc,.nilFunc⟩ (hv:=rfl) (hp:=⟨(λe=>by cases e),λe=>?_⟩)
   exfalso
   have e:=uC.2 e;obtain⟨q1,q2,q3,q4,q5,q6⟩:=e;omega
  refine go ?_;first|with_reducible refine aL (λa3=>?_) (λa3=>?_)|with_reducible refine aO (λa3=>?_) (λa3=>?_)|with_reducible refine aM (λa3=>?_) (λa3=>?_)
  rotate_left
  ·refine go ?_;refine ae ⟨false,.nilFunc,.nilFunc⟩ (hv:=rfl) (hp:=⟨(λe=>by cases e),λe=>?_⟩)
   exfalso
   have e:=uC.2 e;obtain⟨q1,q2,q3,q4,q5,q6⟩:=e;omega
  refine go ?_;refine az rfl (λa4=>?_) (λa4=>?_)
  ·refine go ?_;refine ae ⟨false,.nilFunc,.nilFunc⟩ (hv:=rfl) (hp:=⟨(λe=>by cases e),λe=>?_⟩)
   exfalso
   have e:=uC.2 e;obtain⟨q1,q2,q3,q4,q5,q6⟩:=e;omega
  have hwh:=vS (w:=w) (h:=h) ⟨by omega,by omega⟩ ⟨by omega,by omega⟩;refine go ?_;refine bi (λk=>holes.length - k) (λk:Nat=>[(10,.int .i64 (k:Int))]) (λ_=>[]) (λ_=>[]) (λk=>k<=holes.length/\(holes.take k).Pairwise (·<·)/\∀x∈holes.take k,0<=x/\x<w*h) 0 ⟨cB _,by simp,by simp⟩ (body:=?_);rintro k ⟨hk,lV,hmem⟩;refine go ?_;refine az rfl (λa6=>?_) (λa6=>?_)
  ·refine go ?_;intro _ _ x hx;have hxm:=bI hx;have htk:holes.take (k+1)=holes.take k++[x]:=by rw[l9,hx];rfl
   have hstep:0<=x->x<w*h->(∀a∈holes.take k,a<x)->k+1<=holes.length/\(holes.take (k+1)).Pairwise (·<·)/\∀z∈holes.take (k+1),0<=z/\z<w*h:=λq1 q2 q3=>by
    refine⟨by omega,?_,?_⟩
    ·rw[htk,Jg];exact⟨lV,by simp,λa ha b hb=>by rw[bH.1 hb];exact q3 a ha⟩
    ·rw[htk];intro z hz;rcases dX.1 hz with hz|hz
     ·exact hmem z hz
     ·rw[bH.1 hz];exact⟨q1,q2⟩
   refine go ?_;first|with_reducible refine aL (λb1=>?_) (λb1=>?_)|with_reducible refine aO (λb1=>?_) (λb1=>?_)|with_reducible refine aM (λb1=>?_) (λb1=>?_)
   rotate_left
   ·refine go ?_;refine ae ⟨false,.nilFunc,.nilFunc⟩ (hv:=rfl) (hp:=⟨(λe=>by cases e),λe=>?_⟩)
    exfalso
    have e:=uC.2 e;obtain⟨q1,q2,q3,q4,q5,q6⟩:=e;have:=q5 x hxm;omega
   refine go ?_;intro _ _ x' hx';cases hx.symm.trans hx';refine go ?_;first|with_reducible refine aL (λb2=>?_) (λb2=>?_)|with_reducible refine aO (λb2=>?_) (λb2=>?_)|with_reducible refine aM (λb2=>?_) (λb2=>?_)
   rotate_left
   ·refine go ?_;refine ae ⟨false,.nilFunc,.nilFunc⟩ (hv:=rfl) (hp:=⟨(λe=>by cases e),λe=>?_⟩)
    exfalso
    have e:=uC.2 e;obtain⟨q1,q2,q3,q4,q5,q6⟩:=e;have:=q5 x hxm;omega
   refine go ?_;first|with_reducible refine aL (λb3=>?_) (λb3=>?_)|with_reducible refine aO (λb3=>?_) (λb3=>?_)|with_reducible refine aM (λb3=>?_) (λb3=>?_)
   ·refine go ?_;refine aQ (k+1) (by omega) (hstep (by omega) (by omega) λa ha=>?_);rw[show k=0 by omega,List.take_zero]at ha;cases ha
   refine go ?_;intro _ _ x' hx' _ _ z hz;cases hx.symm.trans hx';obtain⟨j,rfl⟩:∃j,k=j+1:=⟨k - 1,by omega⟩
   rw[show(((j+1:Nat):Int) - 1).toNat=j by omega]at hz;have hzj:holes.take (j+1)=holes.take j++[z]:=by rw[l9,hz];rfl
   refine go ?_;refine az rfl (λb4=>?_) (λb4=>?_)
   ·refine go ?_;refine ae ⟨false,.nilFunc,.nilFunc⟩ (hv:=rfl) (hp:=⟨(λe=>by cases e),λe=>?_⟩)
    exfalso
    have e:=uC.2 e;obtain⟨q1,q2,q3,q4,q5,q6⟩:=e;obtain⟨d1,d2⟩:=bN.1 hz;obtain⟨d3,d4⟩:=bN.1 hx;have:=yJ.1 q4 j (j+1) d1 d3 (by omega);rw[d2,d4]at this;omega
   refine go ?_;refine aQ (j+1+1) (by omega) (hstep (by omega) (by omega) λa ha=>?_);have:=TI lV ha;rw[hzj,TH]at this;omega
  have hkl:k=holes.length:=by omega
  subst hkl;rw[bK]at lV hmem;clear a6 hk;obtain⟨m,hm⟩:=tO (show 0<=w*h by omega);have En:lU w h holes=gB m holes:=by
   unfold lU;rw[hm];rfl
  have hmm:∀x∈holes,0<=x/\x<(m:Int):=λx hx=>by rw[<- hm];exact hmem x hx
  refine go ?_;intro b11;refine go ?_;refine gz aa ?_;refine gz aa ?_;refine bi (λy:Nat×Value×Value=>m - y.1) (λy=>[(12,.int .i64 (y.1:Int))]) (λy=>[pt b11 (.cells [.int .i64 _,.int .i64 w,.int .i64 h,y.2.1,y.2.2]),ap aa y.2.1 (dQ y.1 λi=>decide (i∈holes)),ap aa y.2.2 (gB y.1 holes)]) (λ_=>[]) (λy=>y.1<=m) (0,.slice none 0 0,.slice none 0 0) (cB _) (hk:=by repeat (first|exact aH.nil|(apply aH.cons;(focus (repeat (first|exact ay.here|apply ay.there)))))) (body:=?_);rintro⟨k,v1,v2⟩ hk;dsimp only at hk⊢;have hcl:=BC k holes;have hsl:=zG k λi=>decide (i∈holes);refine go ?_;rw[hm];refine go ?_;refine az rfl (λa9=>?_) (λa9=>?_)
  ·refine go ?_;refine ax (II (xs:=holes) (z:=(k:Int)) (by omega)) (next:=λ_ _=>?_);refine go ?_;refine az rfl (λhin=>?_) (λhin=>?_)
   ·have e1:gB (k+1) holes=gB k holes:=by rw[Ht,if_pos hin,gK]
    have e2:dQ (k+1) (λi=>decide (i∈holes))=dQ k (λi=>decide (i∈holes))++[(k:Int)]:=by rw[zF,if_pos (dZ hin)]
    refine go ?_;intro b91;refine go ?_;refine eY aa (xs:=dQ k λi=>decide (i∈holes)) (k:Int) () (by omega) λad=>?_;rw[<- e1,<- e2];refine go ?_;exact aQ (k+1,.slice ad ((dQ k λi=>decide (i∈holes)).length+1) ((dQ k λi=>decide (i∈holes)).length+1),v2) (by show m - (k+1)<m - k;omega) (by show k+1<=m;omega)
   ·have e1:gB (k+1) holes=gB k holes++[(k:Int)]:=by rw[Ht,if_neg hin]
    have e2:dQ (k+1) (λi=>decide (i∈holes))=dQ k (λi=>decide (i∈holes)):=by rw[zF,if_neg (by simp[hin]),gK]
    refine go ?_;intro b91;refine go ?_;refine eY aa (xs:=gB k holes) (k:Int) () (by omega) λad=>?_;rw[<- e1,<- e2];refine go ?_;exact aQ (k+1,v1,.slice ad ((gB k holes).length+1) ((gB k holes).length+1)) (by show m - (k+1)<m - k;omega) (by show k+1<=m;omega)
  have hkm:k=m:=by omega
  subst hkm;rw[SS lV hmm];refine oL (E:=aa) (v:=v2) (xs:=gB k holes) λa2 hv2=>?_;subst hv2;refine go ?_;refine az rfl (λa7=>?_) (λa7=>?_)
  ·refine go ?_;refine ae ⟨false,.nilFunc,.nilFunc⟩ (hv:=rfl) (hp:=⟨(λe=>by cases e),λe=>?_⟩)
   exfalso
   have e:=uC.2 e;obtain⟨q1,q2,q3,q4,q5,q6⟩:=e;rw[En]at q6;exact q6 (jI.1 (by omega))
  refine go ?_;refine bC (gy (E:=aa) (v:=v1) (xs:=holes)) (h:=?_);refine bC (gy (E:=aa) (v:=.slice a2 (gB k holes).length (gB k holes).length) (xs:=gB k holes)) (h:=?_);refine go ?_;refine ae ⟨true,v1,.slice a2 (gB k holes).length (gB k holes).length⟩ (hv:=rfl) (hp:=⟨λ_=>uC.1 ⟨by first|exact .inl rfl|exact .inr rfl,⟨by omega,by omega⟩,⟨by omega,by omega⟩,lV,hmem,by rw[En];exact λe=>a7 (by rw[e];rfl)⟩,λ_=>rfl⟩) (hF:=?_);show Sub [ah aa _ holes,ah aa _ (lU w h holes)] _;rw[En];exact .cons (by simp) (.cons (by simp) .nil)
theorem Us{g:bq}{vh vc:Value}(hS:pK g):
 bz Tryz.prog (.func 132) [.agg ⟨iI g vh vc⟩] [] [] (je g vh vc) (λe:Int=>.int .i64 e) (λ_=>[]) (λ_=>[]) (λe=>e=0↔eP g):=by
 refine aK _ (aP 132) λB w0=>?_;refine go ?_;intro b1;refine go ?_;refine ax (Nc (s:=g.shape) (w:=g.w) (h:=g.h) (holes:=g.holes) (vh:=vh) hS.w hS.h hS.holes) (next:=λy hy=>?_);obtain⟨ok,v1,v2⟩:=y;cases ok with
 |false=>
  have hno:¬nG g.shape g.w g.h g.holes:=λh=>by have:=hy.2 h;cases this
  dsimp only[mkV,nX,cond,List.nil_append];refine go ?_;intro b3;refine go ?_;exact ae 130 (hv:=rfl) (hp:=⟨(λh=>by cases h),λh=>absurd h.make hno⟩)
 |true=>
  have hmk:=hy.1 rfl;dsimp only[mkV,nX,cond,je,uG,List.cons_append,List.nil_append];refine go ?_;intro b3;refine go ?_;refine ax (BX (xs:=lU g.w g.h g.holes) (ys:=g.cells) (by
   have:=BC (g.w*g.h).toNat g.holes;have:=vS hmk.wi hmk.he;unfold lU;omega)) (next:=λ_ _=>?_)
  refine go ?_;refine eO rfl (λh1=>?_) (λh1=>?_)
  ·refine go ?_;exact ae 130 (hv:=rfl) (hp:=⟨(λh=>by cases h),λh=>absurd h.cells.symm h1⟩)
  ·refine go ?_;exact ae 0 (hv:=rfl) (hp:=⟨λ_=>⟨hmk,h1.symm⟩,λ_=>rfl⟩)
theorem Nf{α:Type}{xs:List α}{k:Nat}(h:xs.length<=k):xs.take k=xs:=uO h
abbrev qD(g:bq)(a:Nat):Int->Bool:=λb=>wh g.shape (iH g (a:Int)) (iH g b)
theorem Ut{g:bq}{vh vc:Value}(hS:pK g):
 bz Tryz.prog (.func 92) [.agg ⟨iI g vh vc⟩] [] [] (je g vh vc) uH (λ_=>[]) (λy=>[l5 (y.e=0) (ah (aj aa) y.v (bG g))]) (λy=>y.e=0↔eP g):=by
 refine aK _ (aP 92) λB w0=>?_;refine go ?_;intro b1;refine bC (eH (b:=b1)) (h:=?_);refine go ?_;refine ax (Us (g:=g) (vh:=vh) (vc:=vc) hS) (next:=λe he=>?_);refine go ?_;refine az rfl (λh1=>?_) (λh1=>?_)
 ·refine go ?_;refine lD (c:=(130:Int)=0) (f:=ah (aj aa) (.slice none 0 0) (bG g)) (by omega) ?_;exact ae ⟨.slice none 0 0,130⟩ (hv:=rfl) (hp:=⟨(λh=>by cases h),λh=>absurd (he.2 h) h1⟩)
 have hg:=he.1 (iK.1 h1);clear he h1;have hgl:=hg.len;have hnl:=vV g;refine go ?_;refine gz (aj aa) ?_;refine bi (λy:Nat×Value=>g.cells.length - y.1) (λy=>[(5,.int .i64 (y.1:Int)),(4,y.2)]) (λy=>[ap (aj aa) y.2 ((bG g).take y.1)]) (λ_=>[]) (λy=>y.1<=g.cells.length) (0,.slice none 0 0) (cB _) (hk:=by repeat (first|exact aH.nil|(apply aH.cons;(focus (repeat (first|exact ay.here|apply ay.there)))))) (body:=?_);rintro⟨i,v4⟩ hi;dsimp only at hi⊢;have hil:((bG g).take i).length=i:=by rw[iy];omega
 refine go ?_;refine az rfl (λh2=>?_) (λh2=>?_)
 ·have hn:=SV hg (show i<g.cells.length by omega);refine go ?_;refine gz aa ?_;refine bi (λy:Nat×Value=>g.cells.length - y.1) (λy=>[(7,.int .i64 (y.1:Int)),(6,y.2)]) (λy=>[ap aa y.2 (dQ y.1 (qD g i))]) (λ_=>[]) (λy=>y.1<=g.cells.length) (0,.slice none 0 0) (cB _) (hk:=by repeat (first|exact aH.nil|(apply aH.cons;(focus (repeat (first|exact ay.here|apply ay.there)))))) (body:=?_);rintro⟨j,v6⟩ hj;dsimp only at hj⊢;have hsl:=zG j (qD g i);refine go ?_;refine az rfl (λh3=>?_) (λh3=>?_)
  ·refine go ?_;refine ax (afx (g:=g) (vh:=vh) (vc:=vc) (a:=i) (b:=j) hg (by omega) (by omega)) (next:=λ_ _=>?_);have hss:=zF j (qD g i);refine go ?_;refine jT rfl (λh4=>?_) (λh4=>?_)
   ·rw[if_pos h4]at hss;refine go ?_;intro Ng;refine go ?_;refine eY aa (xs:=dQ j (qD g i)) (j:Int) () (by omega) λad=>?_;rw[<- hss];refine go ?_;exact aQ (j+1,.slice ad ((dQ j (qD g i)).length+1) ((dQ j (qD g i)).length+1)) (by show g.cells.length - (j+1)<g.cells.length - j;omega) (by show j+1<=_;omega)
   ·rw[if_neg (by show¬wh g.shape (iH g (i:Int)) (iH g (j:Int))=true;rw[h4];simp),gK]at hss;rw[<- hss];refine go ?_;exact aQ (j+1,v6) (by show g.cells.length - (j+1)<g.cells.length - j;omega) (by show j+1<=_;omega)
  have jr:j=g.cells.length:=by omega
  subst jr;refine oL (E:=aa) (v:=v6) (xs:=dQ g.cells.length (qD g i)) λa6 e6=>?_;subst e6;refine bC (gy (E:=aa) (v:=.slice a6 (dQ g.cells.length (qD g i)).length (dQ g.cells.length (qD g i)).length) (xs:=dQ g.cells.length (qD g i))) (h:=?_);refine go ?_;intro b35;refine go ?_;refine eY (xs:=(bG g).take i) (aj aa) (dQ g.cells.length (qD g i)) (.slice a6 (dQ g.cells.length (qD g i)).length (dQ g.cells.length (qD g i)).length) (by omega) (next:=λad=>?_);rw[<- bX hn];refine go ?_;exact aQ (i+1,.slice ad (((bG g).take i).length+1) (((bG g).take i).length+1)) (by show g.cells.length - (i+1)<g.cells.length - i;omega) (by show i+1<=_;omega)
 have hie:i=g.cells.length:=by omega
 subst hie;rw[Nf (by omega)];refine bC (gy (E:=aj aa) (v:=v4) (xs:=bG g)) (h:=?_);refine go ?_;refine kJ (c:=(0:Int)=0) (f:=ah (aj aa) v4 (bG g)) (by simp) ?_;exact ae ⟨v4,0⟩ (hv:=rfl) (hp:=⟨λ_=>hg,λ_=>rfl⟩)
theorem afB{g:bq}(hg:eP g){k:Nat}(hk:k<g.cells.length):(-8<(iH g (k:Int)).1/\(iH g (k:Int)).1<16)/\0<=(iH g (k:Int)).2/\(iH g (k:Int)).2<16:=by
 obtain⟨hc,hr⟩:=yz hg hk;have hv:=IK hr;rcases hg.make.sh with hs|hs
 ·rw[Ca hk hs];dsimp only;omega
 ·rw[EJ hk hs];dsimp only;omega
theorem afC{g:bq}(hg:eP g){k:Nat}(hk:k<g.cells.length)(f:Int): -16<=mY g.shape f (iH g (k:Int))/\mY g.shape f (iH g (k:Int))<=32:=by
 obtain⟨h1,h2⟩:=afB hg hk;unfold mY;split
 ·omega
 split
 ·omega
 split<;>omega
abbrev rP(g:bq)(f n:Int):Int->Bool:=λb=>decide (mY g.shape f (iH g b)=n)
abbrev wE(g:bq)(f:Int)(k:Nat):List (List Int):=xY (λn=>dQ g.cells.length (rP g f n)) (-16) k
theorem afD{g:bq}(hg:eP g)(f:Int):wE g f 49=iG g λs=>(mY g.shape f s,true):=by
 rw[S9 (lo:= -16) (k:=49) (λs=>(mY g.shape f s,true)) (λp hp _=>by
  obtain⟨h1,h2⟩:=Eh.1 hp;have h3:=afC hg (k:=p.1.toNat) (by omega) f;rw[show((p.1.toNat:Nat):Int)=p.1 by omega,<- h2]at h3;dsimp only;omega)]
 unfold wE;congr 1;funext n
 rw[SX];rfl
theorem afE(L:Int->List Int)(lo:Int)(k:Nat):(xY L lo k).length<=k:=by
 unfold xY;refine kU (Ah _ _) ?_;rw[bU];unfold uD;simp
theorem Nh{g:bq}{vh vc:Value}{f:Int}(hg:eP g):
 bz Tryz.prog (.func 134) [.agg ⟨iI g vh vc⟩,.int .i64 f] [] [] (je g vh vc) (λv:Value=>v) (λv=>[ap (aj aa) v (iG g λs=>(mY g.shape f s,true))]) (λ_=>[]) (λ_=>True):=by
 have hgl:=hg.len;refine aK _ (aP 134) λB w0=>?_;refine go ?_;intro b1;refine bC (eH (b:=b1)) (h:=?_);refine go ?_;refine gz (aj aa) ?_;refine bi (λy:Nat×Value=>49 - y.1) (λy=>[(6,.int .i64 (-16+(y.1:Int))),(5,y.2)]) (λy=>[ap (aj aa) y.2 (wE g f y.1)]) (λ_=>[]) (λy=>y.1<=49) (0,.slice none 0 0) (by omega) (hk:=by repeat (first|exact aH.nil|(apply aH.cons;(focus (repeat (first|exact ay.here|apply ay.there)))))) (body:=?_);rintro⟨i,v5⟩ hi;dsimp only at hi⊢;have hil:(wE g f i).length<=i:=afE (λn=>dQ g.cells.length (rP g f n)) (-16) i;have hls:wE g f (i+1)=wE g f i++if dQ g.cells.length (rP g f (-16+(i:Int)))=[]then[]else[dQ g.cells.length (rP g f (-16+(i:Int)))]:=SY (λn=>dQ g.cells.length (rP g f n)) (-16) i
 have hin: -16+(i:Int)+1= -16+((i+1:Nat):Int):=by omega
 refine go ?_;refine az rfl (λh2=>?_) (λh2=>?_)
 ·refine go ?_;refine gz aa ?_;refine bi (λy:Nat×Value=>g.cells.length - y.1) (λy=>[(8,.int .i64 (y.1:Int)),(7,y.2)]) (λy=>[ap aa y.2 (dQ y.1 (rP g f (-16+(i:Int))))]) (λ_=>[]) (λy=>y.1<=g.cells.length) (0,.slice none 0 0) (cB _) (hk:=by repeat (first|exact aH.nil|(apply aH.cons;(focus (repeat (first|exact ay.here|apply ay.there)))))) (body:=?_);rintro⟨j,v7⟩ hj;dsimp only at hj⊢;have hsl:=zG j (rP g f (-16+(i:Int)));refine go ?_;refine az rfl (λh3=>?_) (λh3=>?_)
  ·refine go ?_;refine ax (afy (g:=g) (vh:=vh) (vc:=vc) (f:=f) (a:=j) hg (by omega)) (next:=λ_ _=>?_);have hss:=zF j (rP g f (-16+(i:Int)));refine go ?_;refine az rfl (λh4=>?_) (λh4=>?_)
   ·rw[if_pos (dZ h4)]at hss;refine go ?_;intro Ng;refine go ?_;refine eY aa (xs:=dQ j (rP g f (-16+(i:Int)))) (j:Int) () (by omega) λad=>?_;rw[<- hss];refine go ?_;exact aQ (j+1,.slice ad ((dQ j (rP g f (-16+(i:Int)))).length+1) ((dQ j (rP g f (-16+(i:Int)))).length+1)) (by show g.cells.length - (j+1)<g.cells.length - j;omega) (by show j+1<=_;omega)
   ·rw[if_neg (by show¬decide (mY g.shape f (iH g (j:Int))= -16+(i:Int))=true;rw[aT h4];simp),gK]at hss;rw[<- hss];refine go ?_;exact aQ (j+1,v7) (by show g.cells.length - (j+1)<g.cells.length - j;omega) (by show j+1<=_;omega)
  have jr:j=g.cells.length:=by omega
  subst jr;generalize hL:dQ g.cells.length (rP g f (-16+(i:Int)))=L at hls hsl⊢;refine oL (E:=aa) (v:=v7) (xs:=L) λa7 e7=>?_;subst e7;refine go ?_;refine az rfl (λh5=>?_) (λh5=>?_)
  ·rw[if_neg (λe=>by rw[e]at h5;simp at h5)]at hls;refine bC (gy (E:=aa) (v:=.slice a7 L.length L.length) (xs:=L)) (h:=?_);refine go ?_;intro b35;refine go ?_;refine eY (xs:=wE g f i) (aj aa) L (.slice a7 L.length L.length) (by omega) (next:=λad=>?_);rw[<- hls];refine go ?_;rw[hin];exact aQ (i+1,.slice ad ((wE g f i).length+1) ((wE g f i).length+1)) (by show 49 - (i+1)<49 - i;omega) (by show i+1<=_;omega)
  ·rw[if_pos (jI.1 (by omega)),gK]at hls;rw[<- hls];refine go ?_;rw[hin];exact aQ (i+1,v5) (by show 49 - (i+1)<49 - i;omega) (by show i+1<=_;omega)
 have hie:i=49:=by omega
 subst hie;rw[afD hg f];refine go ?_;exact ae v5 (hv:=rfl) (hp:=trivial)
abbrev l7(g:bq)(k:Nat):Int->Bool:=λb=>cond (Nat.beq k 0) (decide ((iH g b).1=(iH g b).2)) (decide ((iH g b).1+(iH g b).2=g.w - 1))
def qE(g:bq)(k:Nat):List Int:=dQ g.cells.length (l7 g k)
def pQ(l:List Int):List (List Int):=if l=[]then[]else[l]
theorem afF{g:bq}(hs:g.shape=1)(hw:g.w=g.h):kH g=lm (pQ (qE g 0)) (pQ (qE g 1)):=by
 unfold kH;rw[if_neg (by omega),if_pos hw,Ta (λs=>decide (s.1=s.2)),Ta (λs=>decide (s.1+s.2=g.w - 1))];rfl
def lG(g:bq)(k:Nat):List (List Int):=if k=0 then[]else if k=1 then pQ (qE g 0)else lm (pQ (qE g 0)) (pQ (qE g 1))
theorem afG(l:List Int):lm [] (pQ l)=pQ l:=by
 unfold pQ;split
 ·rfl
 ·show vX [] l=[l]
  unfold vX;rw[if_neg (by simp)];rfl
theorem afH(g:bq){k:Nat}(hk:k<2):lG g (k+1)=lm (lG g k) (pQ (qE g k)):=by
 rcases(show k=0\/k=1 by omega)with rfl|rfl
 ·exact(afG _).symm
 ·rfl
theorem Uu(O:List (List Int)){l:List Int}(hl:l≠[]):lm O (pQ l)=if O.head? =some l then O else O++[l]:=by
 unfold pQ;rw[if_neg hl];rfl
theorem afI{g:bq}{vh vc:Value}(hg:eP g)(hs:g.shape=1):
 bz Tryz.prog (.func 135) [.agg ⟨iI g vh vc⟩] [] [] (je g vh vc) (λv:Value=>v) (λv=>[ap (aj aa) v (kH g)]) (λ_=>[]) (λ_=>True):=by
 have hgl:=hg.len;have Eo:=hg.make.wi;refine aK _ (aP 135) λB w0=>?_;refine go ?_;intro b1;refine bC (eH (b:=b1)) (h:=?_);refine go ?_;refine gz (aj aa) ?_;refine bi (λy:Nat×Value=>2 - y.1) (λy=>[(4,.int .i64 (y.1:Int)),(3,y.2)]) (λy=>[ap (aj aa) y.2 (lG g y.1)]) (λ_=>[]) (λy=>y.1<=2/\(y.1=0\/g.w=g.h)) (0,.slice none 0 0) ⟨by omega,.inl rfl⟩ (hk:=by repeat (first|exact aH.nil|(apply aH.cons;(focus (repeat (first|exact ay.here|apply ay.there)))))) (body:=?_);rintro⟨k,v3⟩ ⟨hk,Ni⟩;dsimp only at hk Ni⊢;have IL:∀l∈lG g k,l.length<=256:=λl hl=>by
  have h1:∀n,(qE g n).length<=256:=λn=>by have:=zG g.cells.length (l7 g n);unfold qE;omega
  have h2:∀n,∀l∈pQ (qE g n),l.length<=256:=λn l hl=>by
   unfold pQ at hl;split at hl
   ·cases hl
   ·rw[bH.1 hl];exact h1 n
  unfold lG at hl;split at hl
  ·cases hl
  split at hl
  ·exact h2 0 l hl
  ·rcases LY hl with hl|hl
   ·exact h2 0 l hl
   ·exact h2 1 l hl
 have hol:(lG g k).length<=2:=by
  unfold lG lm pQ;split
  ·simp
  split
  ·split<;>simp
  ·split<;>split<;>simp[vX]<;>split<;>simp
 refine go ?_;first|with_reducible refine aL (λhk2=>?_) (λhk2=>?_)|with_reducible refine aO (λhk2=>?_) (λhk2=>?_)|with_reducible refine aM (λhk2=>?_) (λhk2=>?_)
 ·have e:k=2:=by omega
  subst e;have hw:g.w=g.h:=Ni.resolve_left (by omega);rw[show lG g 2=kH g from(afF hs hw).symm];refine go ?_;exact ae v3 (hv:=rfl) (hp:=trivial)
 refine go ?_;refine az rfl (λhw=>?_) (λhw=>?_)
 rotate_left
 ·have e:k=0:=Ni.resolve_right hw;subst e;have e:kH g=lG g 0:=by unfold kH;rw[if_neg (by omega),if_neg hw];rfl
  rw[e];refine go ?_;exact ae v3 (hv:=rfl) (hp:=trivial)
 have hds:=afH g (show k<2 by omega);rcases(show k=0\/k=1 by omega)with rfl|rfl
 ·refine go ?_;refine gz aa ?_;refine bi (λy:Nat×Value=>g.cells.length - y.1) (λy=>[(6,.int .i64 (y.1:Int)),(5,y.2)]) (λy=>[ap aa y.2 (dQ y.1 (l7 g 0))]) (λ_=>[]) (λy=>y.1<=g.cells.length) (0,.slice none 0 0) (cB _) (hk:=by repeat (first|exact aH.nil|(apply aH.cons;(focus (repeat (first|exact ay.here|apply ay.there)))))) (body:=?_);rintro⟨j,v5⟩ hj;dsimp only at hj⊢;have hsl:=zG j (l7 g 0);refine go ?_;refine az rfl (λh3=>?_) (λh3=>?_)
  ·have wF:=Ca (k:=j) (by omega) hs;obtain⟨hc,hr⟩:=yz hg (k:=j) (by omega);have hss:=zF j (l7 g 0);refine go ?_;refine ax (BZ (g:=g) (vh:=vh) (vc:=vc) (k:=j) hg (by omega)) (next:=λ_ _=>?_);refine go ?_;refine ax (zT (g:=g) (vh:=vh) (vc:=vc) (k:=j) hg (by omega)) (next:=λ_ _=>?_);generalize(g.cells[j]).tmod g.w=x at hc wF⊢;generalize(g.cells[j]).tdiv g.w=y at hr wF⊢;refine go ?_;first|with_reducible refine aL (λh4=>?_) (λh4=>?_)|with_reducible refine aO (λh4=>?_) (λh4=>?_)|with_reducible refine aM (λh4=>?_) (λh4=>?_)
   rotate_left
   ·have hp:l7 g 0 (j:Int)=true:=by show decide _=true;rw[wF];exact dZ (by dsimp only;omega)
    rw[if_pos hp]at hss;refine go ?_;intro Ng;refine go ?_;refine eY aa (xs:=dQ j (l7 g 0)) (j:Int) () (by omega) λad=>?_;rw[<- hss];refine go ?_;exact aQ (j+1,.slice ad ((dQ j (l7 g 0)).length+1) ((dQ j (l7 g 0)).length+1)) (by show g.cells.length - (j+1)<g.cells.length - j;omega) (by show j+1<=_;omega)
   ·have hp:¬l7 g 0 (j:Int)=true:=by show¬decide _=true;rw[wF];intro h;have:=gQ h;dsimp only at this;omega
    rw[if_neg hp,gK]at hss;rw[<- hss];refine go ?_;exact aQ (j+1,v5) (by show g.cells.length - (j+1)<g.cells.length - j;omega) (by show j+1<=_;omega)
  have jr:j=g.cells.length:=by omega
  subst jr;have hL:dQ g.cells.length (l7 g 0)=qE g 0:=rfl;rw[hL]at hsl⊢;generalize qE g 0=L at hsl hds⊢;refine oL (E:=aa) (v:=v5) (xs:=L) λa5 e5=>?_;subst e5;refine bC (gy (E:=aa) (v:=.slice a5 L.length L.length) (xs:=L)) (h:=?_);generalize lG g 0=O at hds hol IL⊢;refine oL (E:=aj aa) (v:=v3) (xs:=O) λa3 e3=>?_;subst e3;refine go ?_;first|with_reducible refine aL (λh5=>?_) (λh5=>?_)|with_reducible refine aO (λh5=>?_) (λh5=>?_)|with_reducible refine aM (λh5=>?_) (λh5=>?_)
  ·have e0:L=[]:=jI.1 (by omega);have e1:lG g (0+1)=O:=by rw[hds,e0];rfl
   rw[<- e1];refine go ?_;exact aQ (0+1,.slice a3 (lG g (0+1)).length (lG g (0+1)).length) (by show 2 - (0+1)<2 - 0;omega) ⟨by show 0+1<=2;omega,.inr hw⟩
  rw[Uu O (λe=>by rw[e]at h5;simp at h5)]at hds;refine go ?_;first|with_reducible refine aL (λh6=>?_) (λh6=>?_)|with_reducible refine aO (λh6=>?_) (λh6=>?_)|with_reducible refine aM (λh6=>?_) (λh6=>?_)
  ·obtain⟨o,O2,rfl⟩:∃o O2,O=o::O2:=by
    cases O with
    |nil=>simp at h6
    |cons o O2=>exact⟨o,O2,rfl⟩
   refine go ?_;refine G9 aa (v:=.slice a3 (o::O2).length (o::O2).length) (xss:=o::O2) 0 o rfl (next:=λ_ _ u=>?_);refine go ?_;have ho:=IL o (dL ..);rw[List.head?_cons]at hds;refine ax (BX (xs:=o) (ys:=L) (by omega)) (next:=λ_ _=>?_);refine go ?_;refine eO rfl (λh7=>?_) (λh7=>?_)
   ·rw[if_neg (λe=>h7 (Option.some.inj e))]at hds;refine go ?_;intro Nj;refine go ?_;refine eY (xs:=o::O2) (aj aa) L (.slice a5 L.length L.length) (by omega) (next:=λqz=>?_);rw[<- hds];refine go ?_;exact aQ (0+1,.slice qz ((o::O2).length+1) ((o::O2).length+1)) (by show 2 - (0+1)<2 - 0;omega) ⟨by show 0+1<=2;omega,.inr hw⟩
   ·rw[if_pos (congrArg some h7)]at hds;rw[<- hds];refine go ?_;exact aQ (0+1,.slice a3 (lG g (0+1)).length (lG g (0+1)).length) (by show 2 - (0+1)<2 - 0;omega) ⟨by show 0+1<=2;omega,.inr hw⟩
  have e0:O=[]:=jI.1 (by omega);subst e0;rw[if_neg (by simp)]at hds;refine go ?_;intro Nj;refine go ?_;refine eY (xs:=([]:List (List Int))) (aj aa) L (.slice a5 L.length L.length) (by simp) (next:=λad=>?_);rw[<- hds];refine go ?_;exact aQ (0+1,.slice ad (([]:List (List Int)).length+1) (([]:List (List Int)).length+1)) (by show 2 - (0+1)<2 - 0;omega) ⟨by show 0+1<=2;omega,.inr hw⟩
 ·refine go ?_;refine gz aa ?_;refine bi (λy:Nat×Value=>g.cells.length - y.1) (λy=>[(6,.int .i64 (y.1:Int)),(5,y.2)]) (λy=>[ap aa y.2 (dQ y.1 (l7 g 1))]) (λ_=>[]) (λy=>y.1<=g.cells.length) (0,.slice none 0 0) (cB _) (hk:=by repeat (first|exact aH.nil|(apply aH.cons;(focus (repeat (first|exact ay.here|apply ay.there)))))) (body:=?_);rintro⟨j,v5⟩ hj;dsimp only at hj⊢;have hsl:=zG j (l7 g 1);refine go ?_;refine az rfl (λh3=>?_) (λh3=>?_)
  ·have wF:=Ca (k:=j) (by omega) hs;obtain⟨hc,hr⟩:=yz hg (k:=j) (by omega);have hss:=zF j (l7 g 1);refine go ?_;refine ax (BZ (g:=g) (vh:=vh) (vc:=vc) (k:=j) hg (by omega)) (next:=λ_ _=>?_);refine go ?_;refine ax (zT (g:=g) (vh:=vh) (vc:=vc) (k:=j) hg (by omega)) (next:=λ_ _=>?_);generalize(g.cells[j]).tmod g.w=x at hc wF⊢;generalize(g.cells[j]).tdiv g.w=y at hr wF⊢;refine go ?_;refine az rfl (λh4=>?_) (λh4=>?_)
   ·have hp:l7 g 1 (j:Int)=true:=by show decide _=true;rw[wF];exact dZ (by dsimp only;omega)
    rw[if_pos hp]at hss;refine go ?_;intro Ng;refine go ?_;refine eY aa (xs:=dQ j (l7 g 1)) (j:Int) () (by omega) λad=>?_;rw[<- hss];refine go ?_;exact aQ (j+1,.slice ad ((dQ j (l7 g 1)).length+1) ((dQ j (l7 g 1)).length+1)) (by show g.cells.length - (j+1)<g.cells.length - j;omega) (by show j+1<=_;omega)
   ·have hp:¬l7 g 1 (j:Int)=true:=by show¬decide _=true;rw[wF];intro h;have:=gQ h;dsimp only at this;omega
    rw[if_neg hp,gK]at hss;rw[<- hss];refine go ?_;exact aQ (j+1,v5) (by show g.cells.length - (j+1)<g.cells.length - j;omega) (by show j+1<=_;omega)
  have jr:j=g.cells.length:=by omega
  subst jr;have hL:dQ g.cells.length (l7 g 1)=qE g 1:=rfl;rw[hL]at hsl⊢;generalize qE g 1=L at hsl hds⊢;refine oL (E:=aa) (v:=v5) (xs:=L) λa5 e5=>?_;subst e5;refine bC (gy (E:=aa) (v:=.slice a5 L.length L.length) (xs:=L)) (h:=?_);generalize lG g 1=O at hds hol IL⊢;refine oL (E:=aj aa) (v:=v3) (xs:=O) λa3 e3=>?_;subst e3;refine go ?_;first|with_reducible refine aL (λh5=>?_) (λh5=>?_)|with_reducible refine aO (λh5=>?_) (λh5=>?_)|with_reducible refine aM (λh5=>?_) (λh5=>?_)
  ·have e0:L=[]:=jI.1 (by omega);have e1:lG g (1+1)=O:=by rw[hds,e0];rfl
   rw[<- e1];refine go ?_;exact aQ (1+1,.slice a3 (lG g (1+1)).length (lG g (1+1)).length) (by show 2 - (1+1)<2 - 1;omega) ⟨by show 1+1<=2;omega,.inr hw⟩
  rw[Uu O (λe=>by rw[e]at h5;simp at h5)]at hds;refine go ?_;first|with_reducible refine aL (λh6=>?_) (λh6=>?_)|with_reducible refine aO (λh6=>?_) (λh6=>?_)|with_reducible refine aM (λh6=>?_) (λh6=>?_)
  ·obtain⟨o,O2,rfl⟩:∃o O2,O=o::O2:=by
    cases O with
    |nil=>simp at h6
    |cons o O2=>exact⟨o,O2,rfl⟩
   refine go ?_;refine G9 aa (v:=.slice a3 (o::O2).length (o::O2).length) (xss:=o::O2) 0 o rfl (next:=λ_ _ u=>?_);refine go ?_;have ho:=IL o (dL ..);rw[List.head?_cons]at hds;refine ax (BX (xs:=o) (ys:=L) (by omega)) (next:=λ_ _=>?_);refine go ?_;refine eO rfl (λh7=>?_) (λh7=>?_)
   ·rw[if_neg (λe=>h7 (Option.some.inj e))]at hds;refine go ?_;intro Nj;refine go ?_;refine eY (xs:=o::O2) (aj aa) L (.slice a5 L.length L.length) (by omega) (next:=λqz=>?_);rw[<- hds];refine go ?_;exact aQ (1+1,.slice qz ((o::O2).length+1) ((o::O2).length+1)) (by show 2 - (1+1)<2 - 1;omega) ⟨by show 1+1<=2;omega,.inr hw⟩
   ·rw[if_pos (congrArg some h7)]at hds;rw[<- hds];refine go ?_;exact aQ (1+1,.slice a3 (lG g (1+1)).length (lG g (1+1)).length) (by show 2 - (1+1)<2 - 1;omega) ⟨by show 1+1<=2;omega,.inr hw⟩
  have e0:O=[]:=jI.1 (by omega);subst e0;rw[if_neg (by simp)]at hds;refine go ?_;intro Nj;refine go ?_;refine eY (xs:=([]:List (List Int))) (aj aa) L (.slice a5 L.length L.length) (by simp) (next:=λad=>?_);rw[<- hds];refine go ?_;exact aQ (1+1,.slice ad (([]:List (List Int)).length+1) (([]:List (List Int)).length+1)) (by show 2 - (1+1)<2 - 1;omega) ⟨by show 1+1<=2;omega,.inr hw⟩
theorem afJ{g:bq}{vh vc:Value}{p:Int}(hg:eP g):bz Tryz.prog (.func 136) [.agg ⟨iI g vh vc⟩,.int .i64 p] [] [] (je g vh vc) (λy:Nat×Bool=>.tuple ⟨[.int .i64 (y.1:Int),.bool y.2]⟩) (λ_=>[]) (λ_=>[]) (λy=>(y.2=true↔p∈g.cells)/\(y.2=true->vY p g.cells=y.1)):=by
 have hgl:=hg.len;have lV:g.cells.Pairwise (·<·):=by rw[hg.cells];exact LK _ _
 refine aK _ (aP 136) λB w0=>?_;refine go ?_;intro b1;refine bC (eH (b:=b1)) (h:=?_);refine go ?_;refine bi (λk=>g.cells.length - k) (λk:Nat=>[(6,.int .i64 (k:Int))]) (λ_=>[]) (λ_=>[]) (λk=>k<=g.cells.length/\p∉g.cells.take k) 0 ⟨by omega,by simp⟩ (body:=?_);rintro k ⟨hk,hno⟩;refine go ?_;refine az rfl (λh1=>?_) (λh1=>?_)
 ·refine go ?_;intro _ _ x hx;refine go ?_;refine az rfl (λh2=>?_) (λh2=>?_)
  ·refine go ?_;subst h2;exact ae (k,true) (hv:=rfl) (hp:=⟨⟨λ_=>bI hx,λ_=>rfl⟩,λ_=>LV lV hx⟩)
  ·refine go ?_;refine aQ (k+1) (by omega) ⟨by omega,?_⟩;rw[bX hx,dX,not_or];exact⟨hno,by simp;exact λe=>h2 e.symm⟩
 have:k=g.cells.length:=by omega
 subst this;rw[bK]at hno;refine go ?_;exact ae (0,false) (hv:=rfl) (hp:=⟨⟨(λh=>by cases h),λh=>absurd h hno⟩,(λh=>by cases h)⟩)
theorem Uv{g:bq}{vh vc vr:Value}{rs:List (List Int)}(hS:pK g)(hrl:rs.length<9223372036854775808)(hrs:∀ps∈rs,ps.length<9223372036854775808):
 bz Tryz.prog (.func 94) [.agg ⟨iI g vh vc⟩,vr] [] [] (ah (aj aa) vr rs::je g vh vc) uH (λ_=>[]) (λy=>IA g rs y) (λy=>y.e=0↔eP g/\vZ g rs):=by
 refine aK _ (aP 94) λB w0=>?_;refine aV (E:=aj aa) (v:=vr) (xs:=rs) (by simp) λar cr er=>?_;subst er;refine go ?_;intro b2;refine bC (eH (b:=b2)) (h:=?_);refine go ?_;refine ax (Us (g:=g) hS) (next:=λe he=>?_);refine go ?_;first|with_reducible refine aL (λh1=>?_) (λh1=>?_)|with_reducible refine aO (λh1=>?_) (λh1=>?_)|with_reducible refine aM (λh1=>?_) (λh1=>?_)
 rotate_left
 ·refine go ?_;refine lD (c:=(130:Int)=0) (f:=ah (aj aa) (.slice none 0 0) (dS g rs)) (by omega) ?_;exact ae ⟨.slice none 0 0,130⟩ (hv:=rfl) (hp:=⟨(λh=>by cases h),λh=>absurd (he.2 h.1) h1⟩)
 have hg:=he.1 (by omega);have hgl:=hg.len;refine go ?_;refine az rfl (λh2=>?_) (λh2=>?_)
 ·refine go ?_;refine lD (c:=(130:Int)=0) (f:=ah (aj aa) (.slice none 0 0) (dS g rs)) (by omega) ?_;exact ae ⟨.slice none 0 0,130⟩ (hv:=rfl) (hp:=⟨(λh=>by cases h),λh=>by exfalso;have:=h.2.len;omega⟩)
 refine go ?_;refine gz (aj aa) ?_;refine bi (λy:Nat×Value=>rs.length - y.1) (λy=>[(7,.int .i64 (y.1:Int)),(6,y.2)]) (λy=>[ap (aj aa) y.2 (dS g (rs.take y.1))]) (λ_=>[]) (λy=>y.1<=rs.length/\∀ps∈rs.take y.1,xS g ps) (0,.slice none 0 0) ⟨cB _,λps h=>by cases h⟩ (hk:=by repeat (first|exact aH.nil|(apply aH.cons;(focus (repeat (first|exact ay.here|apply ay.there)))))) (body:=?_);rintro⟨k,v6⟩ ⟨hk,hall⟩;dsimp only at hk hall⊢;have hkl:(dS g (rs.take k)).length=k:=by unfold dS;rw[bU,iy];omega
 refine go ?_;refine az rfl (λh3=>?_) (λh3=>?_)
 ·obtain⟨ps,hps⟩:∃ps,rs[k]? =some ps:=⟨rs[k]'(by omega),cz _⟩
  have hpm:=bI hps;have hpl:=hrs ps hpm;have htk:=bX hps;refine go ?_;refine gz aa ?_;refine bi (λy:Nat×Value=>ps.length - y.1) (λy=>[(9,.int .i64 (y.1:Int)),(8,y.2)]) (λy=>[ap aa y.2 (eF g (ps.take y.1))]) (λ_=>[]) (λy=>y.1<=ps.length/\(∀p∈ps.take y.1,p∈g.cells)/\(eF g (ps.take y.1)).Nodup) (0,.slice none 0 0) ⟨cB _,(λp h=>by cases h),tT⟩ (hk:=by repeat (first|exact aH.nil|(apply aH.cons;(focus (repeat (first|exact ay.here|apply ay.there)))))) (body:=?_);rintro⟨j,v8⟩ ⟨hj,hmem,hnd⟩;dsimp only at hj hmem hnd⊢;have hjl:(eF g (ps.take j)).length=j:=by unfold eF;rw[bU,iy];omega
  have hj2:j<=256:=by have:=HY hmem hnd;rw[iy]at this;omega
  refine go ?_;refine aZ (aj aa) (xs:=rs) (next:=λ_ _ ps' (vp:Value) Nk=>?_);cases hps.symm.trans Nk;refine go ?_;refine az rfl (λh4=>?_) (λh4=>?_)
  ·refine go ?_;refine aZ (aj aa) (xs:=rs) (next:=λ_ _ ps' (vp:Value) Nk=>?_);cases hps.symm.trans Nk;refine go ?_;intro _ _ x hx;have htx:=bX hx;refine go ?_;refine ax (afJ (g:=g) (vh:=vh) (vc:=vc) (p:=x) hg) (next:=λy hy=>?_);obtain⟨c,ok⟩:=y;obtain⟨hy1,hy2⟩:=hy;dsimp only at hy1 hy2⊢;cases ok with
   |false=>
    refine go ?_;refine lD (c:=(130:Int)=0) (f:=ah (aj aa) (.slice none 0 0) (dS g rs)) (by omega) ?_;exact ae ⟨.slice none 0 0,130⟩ (hv:=rfl) (hp:=⟨(λh=>by cases h),λh=>by
     have:=hy1.2 ((h.2.all ps hpm).mem x (bI hx));cases this⟩)
   |true=>
    have hxm:=hy1.1 rfl;have hpos:=hy2 rfl;have hr1:eF g (ps.take (j+1))=eF g (ps.take j)++[(c:Int)]:=by unfold eF;rw[htx,dY,oh,hpos]
    refine go ?_;refine ax (afu (vl:=v8) (xs:=eF g (ps.take j)) (z:=(c:Int)) (by omega)) (next:=λ_ _=>?_);refine go ?_;refine az rfl (λh5=>?_) (λh5=>?_)
    ·refine go ?_;refine lD (c:=(130:Int)=0) (f:=ah (aj aa) (.slice none 0 0) (dS g rs)) (by omega) ?_;exact ae ⟨.slice none 0 0,130⟩ (hv:=rfl) (hp:=⟨(λh=>by cases h),λh=>by
      exfalso
      have h6:(eF g ps).Nodup:=(h.2.all ps hpm).nd;have h7:(eF g (ps.take (j+1))).Nodup:=by
       refine h6.sublist ?_;unfold eF;exact(NS _ _).map _
      rw[hr1,iJ]at h7;exact h7.2.2 _ h5 _ (bH.2 rfl) rfl⟩)
    ·refine go ?_;intro b53;refine go ?_;refine eY (xs:=eF g (ps.take j)) aa (c:Int) () (by omega) (next:=λad=>?_);rw[<- hr1];refine go ?_;refine aQ (j+1,.slice ad ((eF g (ps.take j)).length+1) ((eF g (ps.take j)).length+1)) (by show ps.length - (j+1)<ps.length - j;omega) ⟨by show j+1<=_;omega,?_,?_⟩
     ·show∀p∈ps.take (j+1),p∈g.cells;rw[htx];intro p hp;rcases dX.1 hp with hp|hp
      ·exact hmem p hp
      ·rw[bH.1 hp];exact hxm
     ·show(eF g (ps.take (j+1))).Nodup;rw[hr1,iJ];exact⟨hnd,by simp,λa ha b hb e=>h5 (by rw[bH.1 hb]at e;rw[<- e];exact ha)⟩
  have jr:j=ps.length:=by omega
  subst jr;rw[bK]at hmem hnd⊢;have hrl2:(eF g ps).length=ps.length:=by unfold eF;rw[bU]
  refine oL (E:=aa) (v:=v8) (xs:=eF g ps) λa8 e8=>?_;subst e8;refine go ?_;refine az rfl (λh5=>?_) (λh5=>?_)
  ·refine go ?_;refine lD (c:=(130:Int)=0) (f:=ah (aj aa) (.slice none 0 0) (dS g rs)) (by omega) ?_;exact ae ⟨.slice none 0 0,130⟩ (hv:=rfl) (hp:=⟨(λh=>by cases h),λh=>by
    exfalso
    exact(h.2.all ps hpm).ne (jI.1 (by omega))⟩)
  have hR:xS g ps:=⟨λe=>h5 (by rw[hrl2,e];rfl),hmem,hnd⟩
  have hrr:dS g (rs.take (k+1))=dS g (rs.take k)++[eF g ps]:=by unfold dS;rw[htk,dY,oh]
  refine bC (gy (E:=aa) (v:=.slice a8 (eF g ps).length (eF g ps).length) (xs:=eF g ps)) (h:=?_);refine go ?_;intro b61;refine go ?_;refine eY (xs:=dS g (rs.take k)) (aj aa) (eF g ps) (.slice a8 (eF g ps).length (eF g ps).length) (by omega) (next:=λad=>?_);rw[<- hrr];refine go ?_;refine aQ (k+1,.slice ad ((dS g (rs.take k)).length+1) ((dS g (rs.take k)).length+1)) (by show rs.length - (k+1)<rs.length - k;omega) ⟨by show k+1<=_;omega,?_⟩;show∀qs∈rs.take (k+1),xS g qs;rw[htk];intro qs hq;rcases dX.1 hq with hq|hq
  ·exact hall qs hq
  ·rw[bH.1 hq];exact hR
 have hke:k=rs.length:=by omega
 subst hke;rw[bK]at hall⊢;refine bC (gy (E:=aj aa) (v:=v6) (xs:=dS g rs)) (h:=?_);refine go ?_;refine kJ (c:=(0:Int)=0) (f:=ah (aj aa) v6 (dS g rs)) (by simp) ?_;exact ae ⟨v6,0⟩ (hv:=rfl) (hp:=⟨λ_=>⟨hg,by omega,hall⟩,λ_=>rfl⟩)
theorem afK(g:bq):(λs:Int×Int=>(mY g.shape 1 s,true))=λs=>(s.2,true):=by funext s;rfl
theorem afL(g:bq):(λs:Int×Int=>(mY g.shape 2 s,true))=λs=>(s.1,true):=by funext s;unfold mY;simp
theorem afM{g:bq}(h:g.shape=2):(λs:Int×Int=>(mY g.shape 3 s,true))=λs=>(s.1+s.2,true):=by funext s;unfold mY;simp[h]
theorem afN{g:bq}{vh vc:Value}{k:Int}(hS:pK g):
 bz Tryz.prog (.func 93) [.agg ⟨iI g vh vc⟩,.int .i64 k] [] [] (je g vh vc) uH (λ_=>[]) (λy=>Iy g k y) (λy=>y.e=0↔eP g/\0<=k/\k<=7):=by
 refine aK _ (aP 93) λB w0=>?_;refine go ?_;intro b2;refine bC (eH (b:=b2)) (h:=?_);refine go ?_;refine ax (Ut (g:=g) (vh:=vh) (vc:=vc) hS) (next:=λy hy=>?_);obtain⟨vn,e⟩:=y;dsimp only at hy⊢;refine go ?_;refine az rfl (λh1=>?_) (λh1=>?_)
 ·refine go ?_;refine lD (c:=e=0) (f:=ah (aj aa) (.slice none 0 0) (dm g k)) h1 ?_;exact ae ⟨.slice none 0 0,e⟩ (hv:=rfl) (hp:=⟨(λh=>absurd h h1),λh=>absurd (hy.2 h.1) h1⟩)
 have he:e=0:=iK.1 h1;subst he;have hg:=hy.1 rfl;clear hy h1;have hgl:=hg.len;have hnl:=vV g;have hnm:=Ec (g:=g);refine fu (ah (aj aa) vn (bG g)) (λw hw=>hw (l5 ((0:Int)=0) (ah (aj aa) vn (bG g))) (by simp) rfl) ?_;refine aV (E:=aj aa) (v:=vn) (xs:=bG g) (by simp) λan cn en=>?_;subst en;refine go ?_;first|with_reducible refine aL (λh2=>?_) (λh2=>?_)|with_reducible refine aO (λh2=>?_) (λh2=>?_)|with_reducible refine aM (λh2=>?_) (λh2=>?_)
 rotate_left
 ·refine go ?_;refine lD (c:=(1:Int)=0) (f:=ah (aj aa) (.slice none 0 0) (dm g k)) (by omega) ?_;exact ae ⟨.slice none 0 0,1⟩ (hv:=rfl) (hp:=⟨(λh=>by cases h),λh=>by exfalso;have:=h.2;omega⟩)
 refine go ?_;refine az rfl (λh3=>?_) (λh3=>?_)
 ·refine go ?_;refine lD (c:=(1:Int)=0) (f:=ah (aj aa) (.slice none 0 0) (dm g k)) (by omega) ?_;exact ae ⟨.slice none 0 0,1⟩ (hv:=rfl) (hp:=⟨(λh=>by cases h),λh=>by exfalso;have:=h.2;omega⟩)
 rcases(show k=0\/k=1\/k=2\/k=3\/k=4\/k=5\/k=6\/k=7 by omega)with rfl|rfl|rfl|rfl|rfl|rfl|rfl|rfl;all_goals clear h2 h3
 ·have hf:dm g 0=j4 g.cells.length:=by simp[dm]
  refine go ?_;refine gz aa ?_;refine gz (aj aa) ?_;refine bi (λy:Nat×Value×Value=>g.cells.length - y.1) (λy=>[(10,.int .i64 (y.1:Int)),(9,y.2.1),(8,y.2.2)]) (λy=>[ap aa y.2.1 (upTo' y.1),ap (aj aa) y.2.2 (j4 y.1)]) (λ_=>[]) (λy=>y.1<=g.cells.length) (0,.slice none 0 0,.slice none 0 0) (cB _) (hk:=by repeat (first|exact aH.nil|(apply aH.cons;(focus (repeat (first|exact ay.here|apply ay.there)))))) (body:=?_);rintro⟨i,v9,v8⟩ hi;dsimp only at hi⊢;have hil:=rG i;have Uw:=Sj i;refine go ?_;refine az rfl (λh2=>?_) (λh2=>?_)
  ·refine go ?_;intro x9;refine go ?_;refine eY (xs:=upTo' i) aa (i:Int) () (by omega) (next:=λad=>?_);rw[<- uA];refine go ?_;intro wz b38;refine bC (A:=pt wz (.cells [.int .i64 (i:Int)])) (fs:=[ah aa (.slice (some ⟨wz,0,some 0⟩) 1 1) [(i:Int)]]) (A8 (b:=wz) (f:=0) (c:=1) (xs:=[(i:Int)])) (h:=?_);refine go ?_;refine eY (xs:=j4 i) (aj aa) [(i:Int)] (.slice (some ⟨wz,0,some 0⟩) 1 1) (by omega) (next:=λqz=>?_);rw[<- Si];refine go ?_;exact aQ (i+1,.slice ad ((upTo' i).length+1) ((upTo' i).length+1),.slice qz ((j4 i).length+1) ((j4 i).length+1)) (by show g.cells.length - (i+1)<g.cells.length - i;omega) (by show i+1<=_;omega)
  have hie:i=g.cells.length:=by omega
  subst hie;refine go ?_;refine bC (gy (E:=aj aa) (v:=v8) (xs:=j4 g.cells.length)) (h:=?_);refine go ?_;refine kJ (c:=(0:Int)=0) (f:=ah (aj aa) v8 (dm g 0)) (by rw[hf];simp) ?_;exact ae ⟨v8,0⟩ (hv:=rfl) (hp:=⟨λ_=>⟨hg,by omega,by omega⟩,λ_=>rfl⟩)
 ·have hf:dm g 1=iG g (λs=>(s.2,true)):=by simp[dm]
  refine go ?_;refine gz aa ?_;refine bi (λy:Nat×Value=>g.cells.length - y.1) (λy=>[(10,.int .i64 (y.1:Int)),(9,y.2)]) (λy=>[ap aa y.2 (upTo' y.1)]) (λ_=>[]) (λy=>y.1<=g.cells.length) (0,.slice none 0 0) (cB _) (hk:=by repeat (first|exact aH.nil|(apply aH.cons;(focus (repeat (first|exact ay.here|apply ay.there)))))) (body:=?_);rintro⟨i,v9⟩ hi;dsimp only at hi⊢;have hil:=rG i;refine go ?_;refine az rfl (λh2=>?_) (λh2=>?_)
  ·refine go ?_;intro x9;refine go ?_;refine eY (xs:=upTo' i) aa (i:Int) () (by omega) (next:=λad=>?_);rw[<- uA];refine go ?_;exact aQ (i+1,.slice ad ((upTo' i).length+1) ((upTo' i).length+1)) (by show g.cells.length - (i+1)<g.cells.length - i;omega) (by show i+1<=_;omega)
  have hie:i=g.cells.length:=by omega
  subst hie;refine go ?_;refine ax (Nh (g:=g) (vh:=vh) (vc:=vc) (f:=1) hg) (next:=λv8 _=>?_);rw[afK];refine go ?_;refine bC (gy (E:=aj aa) (v:=v8) (xs:=iG g (λs=>(s.2,true)))) (h:=?_);refine go ?_;refine kJ (c:=(0:Int)=0) (f:=ah (aj aa) v8 (dm g 1)) (by rw[hf];simp) ?_;exact ae ⟨v8,0⟩ (hv:=rfl) (hp:=⟨λ_=>⟨hg,by omega,by omega⟩,λ_=>rfl⟩)
 ·have hf:dm g 2=iG g (λs=>(s.1,true)):=by simp[dm]
  refine go ?_;refine gz aa ?_;refine bi (λy:Nat×Value=>g.cells.length - y.1) (λy=>[(10,.int .i64 (y.1:Int)),(9,y.2)]) (λy=>[ap aa y.2 (upTo' y.1)]) (λ_=>[]) (λy=>y.1<=g.cells.length) (0,.slice none 0 0) (cB _) (hk:=by repeat (first|exact aH.nil|(apply aH.cons;(focus (repeat (first|exact ay.here|apply ay.there)))))) (body:=?_);rintro⟨i,v9⟩ hi;dsimp only at hi⊢;have hil:=rG i;refine go ?_;refine az rfl (λh2=>?_) (λh2=>?_)
  ·refine go ?_;intro x9;refine go ?_;refine eY (xs:=upTo' i) aa (i:Int) () (by omega) (next:=λad=>?_);rw[<- uA];refine go ?_;exact aQ (i+1,.slice ad ((upTo' i).length+1) ((upTo' i).length+1)) (by show g.cells.length - (i+1)<g.cells.length - i;omega) (by show i+1<=_;omega)
  have hie:i=g.cells.length:=by omega
  subst hie;refine go ?_;refine ax (Nh (g:=g) (vh:=vh) (vc:=vc) (f:=2) hg) (next:=λv8 _=>?_);rw[afL];refine go ?_;refine bC (gy (E:=aj aa) (v:=v8) (xs:=iG g (λs=>(s.1,true)))) (h:=?_);refine go ?_;refine kJ (c:=(0:Int)=0) (f:=ah (aj aa) v8 (dm g 2)) (by rw[hf];simp) ?_;exact ae ⟨v8,0⟩ (hv:=rfl) (hp:=⟨λ_=>⟨hg,by omega,by omega⟩,λ_=>rfl⟩)
 ·have hf:dm g 3=kH g:=by simp[dm]
  refine go ?_;refine gz aa ?_;refine bi (λy:Nat×Value=>g.cells.length - y.1) (λy=>[(10,.int .i64 (y.1:Int)),(9,y.2)]) (λy=>[ap aa y.2 (upTo' y.1)]) (λ_=>[]) (λy=>y.1<=g.cells.length) (0,.slice none 0 0) (cB _) (hk:=by repeat (first|exact aH.nil|(apply aH.cons;(focus (repeat (first|exact ay.here|apply ay.there)))))) (body:=?_);rintro⟨i,v9⟩ hi;dsimp only at hi⊢;have hil:=rG i;refine go ?_;refine az rfl (λh2=>?_) (λh2=>?_)
  ·refine go ?_;intro x9;refine go ?_;refine eY (xs:=upTo' i) aa (i:Int) () (by omega) (next:=λad=>?_);rw[<- uA];refine go ?_;exact aQ (i+1,.slice ad ((upTo' i).length+1) ((upTo' i).length+1)) (by show g.cells.length - (i+1)<g.cells.length - i;omega) (by show i+1<=_;omega)
  have hie:i=g.cells.length:=by omega
  subst hie;refine go ?_;refine az rfl (λh4=>?_) (λh4=>?_)
  ·refine go ?_;refine ax (afI (g:=g) (vh:=vh) (vc:=vc) hg h4) (next:=λv8 _=>?_);refine go ?_;refine bC (gy (E:=aj aa) (v:=v8) (xs:=kH g)) (h:=?_);refine go ?_;refine kJ (c:=(0:Int)=0) (f:=ah (aj aa) v8 (dm g 3)) (by rw[hf];simp) ?_;exact ae ⟨v8,0⟩ (hv:=rfl) (hp:=⟨λ_=>⟨hg,by omega,by omega⟩,λ_=>rfl⟩)
  ·have h5:g.shape=2:=hg.make.sh.resolve_left h4;have hd:kH g=iG g (λs=>(s.1+s.2,true)):=by unfold kH;rw[if_pos h5]
   refine go ?_;refine ax (Nh (g:=g) (vh:=vh) (vc:=vc) (f:=3) hg) (next:=λv8 _=>?_);rw[afM h5,<- hd];refine go ?_;refine bC (gy (E:=aj aa) (v:=v8) (xs:=kH g)) (h:=?_);refine go ?_;refine kJ (c:=(0:Int)=0) (f:=ah (aj aa) v8 (dm g 3)) (by rw[hf];simp) ?_;exact ae ⟨v8,0⟩ (hv:=rfl) (hp:=⟨λ_=>⟨hg,by omega,by omega⟩,λ_=>rfl⟩)
 ·have hf:dm g 4=bG g:=by simp[dm]
  refine go ?_;refine gz aa ?_;refine bi (λy:Nat×Value=>g.cells.length - y.1) (λy=>[(10,.int .i64 (y.1:Int)),(9,y.2)]) (λy=>[ap aa y.2 (upTo' y.1)]) (λ_=>[]) (λy=>y.1<=g.cells.length) (0,.slice none 0 0) (cB _) (hk:=by repeat (first|exact aH.nil|(apply aH.cons;(focus (repeat (first|exact ay.here|apply ay.there)))))) (body:=?_);rintro⟨i,v9⟩ hi;dsimp only at hi⊢;have hil:=rG i;refine go ?_;refine az rfl (λh2=>?_) (λh2=>?_)
  ·refine go ?_;intro x9;refine go ?_;refine eY (xs:=upTo' i) aa (i:Int) () (by omega) (next:=λad=>?_);rw[<- uA];refine go ?_;exact aQ (i+1,.slice ad ((upTo' i).length+1) ((upTo' i).length+1)) (by show g.cells.length - (i+1)<g.cells.length - i;omega) (by show i+1<=_;omega)
  have hie:i=g.cells.length:=by omega
  subst hie;refine go ?_;refine kJ (c:=(0:Int)=0) (f:=ah (aj aa) (.slice an (bG g).length cn) (dm g 4)) (by rw[hf];simp) ?_;exact ae ⟨.slice an (bG g).length cn,0⟩ (hv:=rfl) (hp:=⟨λ_=>⟨hg,by omega,by omega⟩,λ_=>rfl⟩)
 ·have hf:dm g 5=j5 (bG g):=by simp[dm]
  refine go ?_;refine gz aa ?_;refine gz (aj aa) ?_;refine bi (λy:Nat×Value×Value=>g.cells.length - y.1) (λy=>[(10,.int .i64 (y.1:Int)),(9,y.2.1),(8,y.2.2)]) (λy=>[ap aa y.2.1 (upTo' y.1),ap (aj aa) y.2.2 (j5 ((bG g).take y.1))]) (λ_=>[]) (λy=>y.1<=g.cells.length) (0,.slice none 0 0,.slice none 0 0) (cB _) (hk:=by repeat (first|exact aH.nil|(apply aH.cons;(focus (repeat (first|exact ay.here|apply ay.there)))))) (body:=?_);rintro⟨i,v9,v8⟩ hi;dsimp only at hi⊢;have hil:=rG i;have Uw:(j5 ((bG g).take i)).length=i:=by rw[Sl,iy];omega
  refine go ?_;refine az rfl (λh2=>?_) (λh2=>?_)
  ·obtain⟨ln,hln⟩:∃ln,(bG g)[i]? =some ln:=⟨(bG g)[i]'(by omega),cz _⟩
   have hll:=hnm ln (bI hln);have hfs:=Sk hln;rw[acL hg hln]at hfs;refine go ?_;intro x9;refine go ?_;refine eY (xs:=upTo' i) aa (i:Int) () (by omega) (next:=λad=>?_);rw[<- uA];refine go ?_;refine gz aa ?_;refine bi (λy:Nat×Value=>g.cells.length - y.1) (λy=>[(12,.int .i64 (y.1:Int)),(11,y.2)]) (λy=>[ap aa y.2 (dQ y.1 λb=>decide (b=(i:Int))||decide (b∈ln))]) (λ_=>[]) (λy=>y.1<=g.cells.length) (0,.slice none 0 0) (cB _) (hk:=by repeat (first|exact aH.nil|(apply aH.cons;(focus (repeat (first|exact ay.here|apply ay.there)))))) (body:=?_);rintro⟨j,v11⟩ hj;dsimp only at hj⊢;have hsl:=zG j λb=>decide (b=(i:Int))||decide (b∈ln);refine go ?_;refine az rfl (λh3=>?_) (λh3=>?_)
   ·have hss:=zF j λb=>decide (b=(i:Int))||decide (b∈ln);refine go ?_;first|with_reducible refine aL (λh4=>?_) (λh4=>?_)|with_reducible refine aO (λh4=>?_) (λh4=>?_)|with_reducible refine aM (λh4=>?_) (λh4=>?_)
    ·refine go ?_;refine aZ (aj aa) (xs:=bG g) (next:=λ_ _ Nl (vl:Value) hl=>?_);cases hln.symm.trans hl;refine go ?_;refine ax (II (xs:=ln) (z:=(j:Int)) (by omega)) (next:=λ_ _=>?_);refine go ?_;refine az rfl (λh5=>?_) (λh5=>?_)
     ·rw[if_pos (by simp[h5])]at hss;refine go ?_;intro b69;refine go ?_;refine eY (xs:=dQ j λb=>decide (b=(i:Int))||decide (b∈ln)) aa (j:Int) () (by omega) (next:=λad=>?_);rw[<- hss];refine go ?_;exact aQ (j+1,.slice ad ((dQ j λb=>decide (b=(i:Int))||decide (b∈ln)).length+1) ((dQ j λb=>decide (b=(i:Int))||decide (b∈ln)).length+1)) (by show g.cells.length - (j+1)<g.cells.length - j;omega) (by show j+1<=_;omega)
     ·rw[if_neg (by simp only[uK,wJ,not_or];exact⟨h4,h5⟩),gK]at hss;rw[<- hss];refine go ?_;exact aQ (j+1,v11) (by show g.cells.length - (j+1)<g.cells.length - j;omega) (by show j+1<=_;omega)
    ·rw[if_pos (by simp[h4])]at hss;refine go ?_;intro b69;refine go ?_;refine eY (xs:=dQ j λb=>decide (b=(i:Int))||decide (b∈ln)) aa (j:Int) () (by omega) (next:=λad=>?_);rw[<- hss];refine go ?_;exact aQ (j+1,.slice ad ((dQ j λb=>decide (b=(i:Int))||decide (b∈ln)).length+1) ((dQ j λb=>decide (b=(i:Int))||decide (b∈ln)).length+1)) (by show g.cells.length - (j+1)<g.cells.length - j;omega) (by show j+1<=_;omega)
   have jr:j=g.cells.length:=by omega
   subst jr;generalize(dQ g.cells.length λb=>decide (b=(i:Int))||decide (b∈ln))=zs at hfs⊢;refine oL (E:=aa) (v:=v11) (xs:=zs) λUx e11=>?_;subst e11;refine bC (gy (E:=aa) (v:=.slice Ux zs.length zs.length) (xs:=zs)) (h:=?_);refine go ?_;intro b73;refine go ?_;refine eY (xs:=j5 ((bG g).take i)) (aj aa) zs (.slice Ux zs.length zs.length) (by omega) (next:=λqz=>?_);rw[<- hfs];refine go ?_;exact aQ (i+1,.slice ad ((upTo' i).length+1) ((upTo' i).length+1),.slice qz ((j5 ((bG g).take i)).length+1) ((j5 ((bG g).take i)).length+1)) (by show g.cells.length - (i+1)<g.cells.length - i;omega) (by show i+1<=_;omega)
  have hie:i=g.cells.length:=by omega
  subst hie;rw[Nf (by omega)];refine go ?_;refine bC (gy (E:=aj aa) (v:=v8) (xs:=j5 (bG g))) (h:=?_);refine go ?_;refine kJ (c:=(0:Int)=0) (f:=ah (aj aa) v8 (dm g 5)) (by rw[hf];simp) ?_;exact ae ⟨v8,0⟩ (hv:=rfl) (hp:=⟨λ_=>⟨hg,by omega,by omega⟩,λ_=>rfl⟩)
 ·have hf:dm g 6=gU (bG g):=by simp[dm]
  have h6:=Eb hnm;refine go ?_;refine gz aa ?_;refine gz (aj aa) ?_;refine bi (λy:Nat×Value×Value=>g.cells.length - y.1) (λy=>[(10,.int .i64 (y.1:Int)),(9,y.2.1),(8,y.2.2)]) (λy=>[ap aa y.2.1 (upTo' y.1),ap (aj aa) y.2.2 (gU ((bG g).take y.1))]) (λ_=>[]) (λy=>y.1<=g.cells.length) (0,.slice none 0 0,.slice none 0 0) (cB _) (hk:=by repeat (first|exact aH.nil|(apply aH.cons;(focus (repeat (first|exact ay.here|apply ay.there)))))) (body:=?_);rintro⟨i,v9,v8⟩ hi;dsimp only at hi⊢;have hil:=rG i;have Uw:=h6 i (by omega);refine go ?_;refine az rfl (λh2=>?_) (λh2=>?_)
  ·obtain⟨ln,hln⟩:∃ln,(bG g)[i]? =some ln:=⟨(bG g)[i]'(by omega),cz _⟩
   have hll:=hnm ln (bI hln);have hfs:=LU hln;refine go ?_;intro x9;refine go ?_;refine eY (xs:=upTo' i) aa (i:Int) () (by omega) (next:=λad=>?_);rw[<- uA];refine go ?_;refine bi (λy:Nat×Value=>ln.length - y.1) (λy=>[(13,.int .i64 (y.1:Int)),(8,y.2)]) (λy=>[ap (aj aa) y.2 (gU ((bG g).take i)++jm i (ln.take y.1))]) (λ_=>[]) (λy=>y.1<=ln.length) (0,v8) (cB _) (hk:=by rw[show gU ((bG g).take i)++jm i (ln.take 0)=gU ((bG g).take i)from gK _];repeat (first|exact aH.nil|(apply aH.cons;(focus (repeat (first|exact ay.here|apply ay.there)))))) (body:=?_);rintro⟨j,v5⟩ hj;dsimp only at hj⊢;have hpl:=LQ i (ln.take j);rw[iy]at hpl;have hal:(gU ((bG g).take i)++jm i (ln.take j)).length<=2000:=by rw[gD];omega
   refine go ?_;refine aZ (aj aa) (xs:=bG g) (next:=λ_ _ Nl (vl:Value) hl=>?_);cases hln.symm.trans hl;refine go ?_;refine az rfl (λh3=>?_) (λh3=>?_)
   ·refine go ?_;refine aZ (aj aa) (xs:=bG g) (next:=λ_ _ Nl (vl:Value) hl=>?_);cases hln.symm.trans hl;refine go ?_;intro _ _ x hx;have hps:=Sm (i:=i) hx;refine go ?_;refine az rfl (λh4=>?_) (λh4=>?_)
    ·have zM:gU ((bG g).take i)++jm i (ln.take (j+1))=(gU ((bG g).take i)++jm i (ln.take j))++[[(i:Int),x]]:=by rw[hps,if_pos (by omega),fq]
     refine go ?_;refine aZ (aj aa) (xs:=bG g) (next:=λ_ _ Nl (vl:Value) hl=>?_);cases hln.symm.trans hl;refine go ?_;intro _ _ x' hx';cases hx.symm.trans hx';refine go ?_;intro wB MQ;refine bC (A:=pt wB (.cells [.int .i64 (i:Int),.int .i64 x])) (fs:=[ah aa (.slice (some ⟨wB,0,some 0⟩) 2 2) [(i:Int),x]]) (A8 (b:=wB) (f:=0) (c:=2) (xs:=[(i:Int),x])) (h:=?_);refine go ?_;refine eY (xs:=gU ((bG g).take i)++jm i (ln.take j)) (aj aa) [(i:Int),x] (.slice (some ⟨wB,0,some 0⟩) 2 2) (by omega) (next:=λqz=>?_);rw[<- zM];refine go ?_;exact aQ (j+1,.slice qz ((gU ((bG g).take i)++jm i (ln.take j)).length+1) ((gU ((bG g).take i)++jm i (ln.take j)).length+1)) (by show ln.length - (j+1)<ln.length - j;omega) (by show j+1<=_;omega)
    ·have zM:gU ((bG g).take i)++jm i (ln.take (j+1))=gU ((bG g).take i)++jm i (ln.take j):=by rw[hps,if_neg (by omega),gK]
     rw[<- zM];refine go ?_;exact aQ (j+1,v5) (by show ln.length - (j+1)<ln.length - j;omega) (by show j+1<=_;omega)
   have jr:j=ln.length:=by omega
   subst jr;rw[bK,<- hfs];refine go ?_;exact aQ (i+1,.slice ad ((upTo' i).length+1) ((upTo' i).length+1),v5) (by show g.cells.length - (i+1)<g.cells.length - i;omega) (by show i+1<=_;omega)
  have hie:i=g.cells.length:=by omega
  subst hie;rw[Nf (by omega)];refine go ?_;refine bC (gy (E:=aj aa) (v:=v8) (xs:=gU (bG g))) (h:=?_);refine go ?_;refine kJ (c:=(0:Int)=0) (f:=ah (aj aa) v8 (dm g 6)) (by rw[hf];simp) ?_;exact ae ⟨v8,0⟩ (hv:=rfl) (hp:=⟨λ_=>⟨hg,by omega,by omega⟩,λ_=>rfl⟩)
 ·have hf:dm g 7=[upTo' g.cells.length]:=by simp[dm]
  refine go ?_;refine gz aa ?_;refine bi (λy:Nat×Value=>g.cells.length - y.1) (λy=>[(10,.int .i64 (y.1:Int)),(9,y.2)]) (λy=>[ap aa y.2 (upTo' y.1)]) (λ_=>[]) (λy=>y.1<=g.cells.length) (0,.slice none 0 0) (cB _) (hk:=by repeat (first|exact aH.nil|(apply aH.cons;(focus (repeat (first|exact ay.here|apply ay.there)))))) (body:=?_);rintro⟨i,v9⟩ hi;dsimp only at hi⊢;have hil:=rG i;refine go ?_;refine az rfl (λh2=>?_) (λh2=>?_)
  ·refine go ?_;intro x9;refine go ?_;refine eY (xs:=upTo' i) aa (i:Int) () (by omega) (next:=λad=>?_);rw[<- uA];refine go ?_;exact aQ (i+1,.slice ad ((upTo' i).length+1) ((upTo' i).length+1)) (by show g.cells.length - (i+1)<g.cells.length - i;omega) (by show i+1<=_;omega)
  have hie:i=g.cells.length:=by omega
  subst hie;refine bC (gy (E:=aa) (v:=v9) (xs:=upTo' g.cells.length)) (h:=?_);refine aV (E:=aa) (v:=v9) (xs:=upTo' g.cells.length) (by simp) λa4 c4 e4=>?_;subst e4;refine go ?_;intro IM;refine bC (eH (b:=IM)) (h:=?_);refine fu (ah (aj aa) (zK IM 1) [upTo' g.cells.length]) (λw hw=>QF (v:=.slice a4 (upTo' g.cells.length).length c4) (hw _ (by simp)) (hw _ (by simp))) ?_;refine go ?_;refine kJ (c:=(0:Int)=0) (f:=ah (aj aa) (zK IM 1) (dm g 7)) (by rw[hf];simp) ?_;exact ae ⟨zK IM 1,0⟩ (hv:=rfl) (hp:=⟨λ_=>⟨hg,by omega,by omega⟩,λ_=>rfl⟩)
