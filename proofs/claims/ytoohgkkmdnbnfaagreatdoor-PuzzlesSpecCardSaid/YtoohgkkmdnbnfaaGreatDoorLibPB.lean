/-
  The reference's grids: made, checked; neighbors.
-/
import Derived.Test.YtoohgkkmdnbnfaaGreatDoorLibOB
import Derived.Test.YtoohgkkmdnbnfaaGreatDoorLibEB
set_option linter.all false
set_option maxRecDepth 10000
set_option maxHeartbeats 4000000
namespace Go.Proofs.YtoohgkkmdnbnfaaGreatDoor
open Go.Ideal Kd
theorem LY{s w h:Int}{holes:List Int}{vh:Value}(hw64:jK w)(abE:jK h)(hl:holes.length<4611686018427387904):
 aZ Tryz.prog (.func 91) [.int .i64 s,.int .i64 w,.int .i64 h,vh] [] [] [ah ae vh holes] (mkV s w h holes) (λ_=>[]) (nJ s w h holes) (λy=>y.ok=true↔mU s w h holes):=by
 refine aG _ (aM 91) λB w0=>?_;refine go ?_;intro b8;refine go ?_;by_cases hsh:s=1\/s=2
 rotate_left
 ·rw[eB (show s≠1 from λe=>hsh (.inl e))];refine go ?_;rw[eB (show s≠2 from λe=>hsh (.inr e))];refine go ?_;refine aa ⟨false,.nilFunc,.nilFunc⟩ (hv:=rfl) (hp:=⟨(λe=>by cases e),λe=>?_⟩)
  exfalso
  have e:=tL.2 e;obtain⟨q1,q2,q3,q4,q5,q6⟩:=e;exact hsh q1
 rcases hsh with rfl|rfl;all_goals
  refine go ?_;first|with_reducible refine aL (λa1=>?_) (λa1=>?_)|with_reducible refine aK (λa1=>?_) (λa1=>?_)|with_reducible refine aI (λa1=>?_) (λa1=>?_)
  rotate_left
  ·refine go ?_;refine aa ⟨false,.nilFunc,.nilFunc⟩ (hv:=rfl) (hp:=⟨(λe=>by cases e),λe=>?_⟩)
   exfalso
   have e:=tL.2 e;obtain⟨q1,q2,q3,q4,q5,q6⟩:=e;omega
  refine go ?_;first|with_reducible refine aL (λa2=>?_) (λa2=>?_)|with_reducible refine aK (λa2=>?_) (λa2=>?_)|with_reducible refine aI (λa2=>?_) (λa2=>?_)
  rotate_left
  ·refine go ?_;refine aa ⟨false,.nilFunc,.nilFunc⟩ (hv:=rfl) (hp:=⟨(λe=>by cases e),λe=>?_⟩)
   exfalso
   have e:=tL.2 e;obtain⟨q1,q2,q3,q4,q5,q6⟩:=e;omega
  refine go ?_;first|with_reducible refine aL (λa3=>?_) (λa3=>?_)|with_reducible refine aK (λa3=>?_) (λa3=>?_)|with_reducible refine aI (λa3=>?_) (λa3=>?_)
  rotate_left
  ·refine go ?_;refine aa ⟨false,.nilFunc,.nilFunc⟩ (hv:=rfl) (hp:=⟨(λe=>by cases e),λe=>?_⟩)
   exfalso
   have e:=tL.2 e;obtain⟨q1,q2,q3,q4,q5,q6⟩:=e;omega
  refine go ?_;refine az rfl (λa4=>?_) (λa4=>?_)
  ·refine go ?_;refine aa ⟨false,.nilFunc,.nilFunc⟩ (hv:=rfl) (hp:=⟨(λe=>by cases e),λe=>?_⟩)
   exfalso
   have e:=tL.2 e;obtain⟨q1,q2,q3,q4,q5,q6⟩:=e;omega
  have hwh:=uZ (w:=w) (h:=h) ⟨by omega,by omega⟩ ⟨by omega,by omega⟩;refine go ?_;refine aX (λk=>holes.length - k) (λk:Nat=>[(10,.int .i64 (k:Int))]) (λ_=>[]) (λ_=>[]) (λk=>k<=holes.length/\(holes.take k).Pairwise (·<·)/\∀x∈holes.take k,0<=x/\x<w*h) 0 ⟨bX _,by simp,by simp⟩ (body:=?_);rintro k ⟨hk,lu,hmem⟩;refine go ?_;refine az rfl (λa6=>?_) (λa6=>?_)
  ·refine go ?_;intro _ _ x hx;have hxm:=bJ hx;have htk:holes.take (k+1)=holes.take k++[x]:=by rw[lJ,hx];rfl
   have hstep:0<=x->x<w*h->(∀a∈holes.take k,a<x)->k+1<=holes.length/\(holes.take (k+1)).Pairwise (·<·)/\∀z∈holes.take (k+1),0<=z/\z<w*h:=λq1 q2 q3=>by
    refine⟨by omega,?_,?_⟩
    ·rw[htk,Hy];exact⟨lu,by simp,λa ha b hb=>by rw[bG.1 hb];exact q3 a ha⟩
    ·rw[htk];intro z hz;rcases dZ.1 hz with hz|hz
     ·exact hmem z hz
     ·rw[bG.1 hz];exact⟨q1,q2⟩
   refine go ?_;first|with_reducible refine aL (λb1=>?_) (λb1=>?_)|with_reducible refine aK (λb1=>?_) (λb1=>?_)|with_reducible refine aI (λb1=>?_) (λb1=>?_)
   rotate_left
   ·refine go ?_;refine aa ⟨false,.nilFunc,.nilFunc⟩ (hv:=rfl) (hp:=⟨(λe=>by cases e),λe=>?_⟩)
    exfalso
    have e:=tL.2 e;obtain⟨q1,q2,q3,q4,q5,q6⟩:=e;have:=q5 x hxm;omega
   refine go ?_;intro _ _ x' hx';cases hx.symm.trans hx';refine go ?_;first|with_reducible refine aL (λb2=>?_) (λb2=>?_)|with_reducible refine aK (λb2=>?_) (λb2=>?_)|with_reducible refine aI (λb2=>?_) (λb2=>?_)
   rotate_left
   ·refine go ?_;refine aa ⟨false,.nilFunc,.nilFunc⟩ (hv:=rfl) (hp:=⟨(λe=>by cases e),λe=>?_⟩)
    exfalso
    have e:=tL.2 e;obtain⟨q1,q2,q3,q4,q5,q6⟩:=e;have:=q5 x hxm;omega
   refine go ?_;first|with_reducible refine aL (λb3=>?_) (λb3=>?_)|with_reducible refine aK (λb3=>?_) (λb3=>?_)|with_reducible refine aI (λb3=>?_) (λb3=>?_)
   ·refine go ?_;refine aO (k+1) (by omega) (hstep (by omega) (by omega) λa ha=>?_);rw[show k=0 by omega,List.take_zero]at ha;cases ha
   refine go ?_;intro _ _ x' hx' _ _ z hz;cases hx.symm.trans hx';obtain⟨j,rfl⟩:∃j,k=j+1:=⟨k - 1,by omega⟩
   rw[show(((j+1:Nat):Int) - 1).toNat=j by omega]at hz;have hzj:holes.take (j+1)=holes.take j++[z]:=by rw[lJ,hz];rfl
   refine go ?_;refine az rfl (λb4=>?_) (λb4=>?_)
   ·refine go ?_;refine aa ⟨false,.nilFunc,.nilFunc⟩ (hv:=rfl) (hp:=⟨(λe=>by cases e),λe=>?_⟩)
    exfalso
    have e:=tL.2 e;obtain⟨q1,q2,q3,q4,q5,q6⟩:=e;obtain⟨d1,d2⟩:=bT.1 hz;obtain⟨d3,d4⟩:=bT.1 hx;have:=Bq.1 q4 j (j+1) d1 d3 (by omega);rw[d2,d4]at this;omega
   refine go ?_;refine aO (j+1+1) (by omega) (hstep (by omega) (by omega) λa ha=>?_);have:=RX lu ha;rw[hzj,RV]at this;omega
  have hkl:k=holes.length:=by omega
  subst hkl;rw[bK]at lu hmem;clear a6 hk;obtain⟨m,hm⟩:=qy (show 0<=w*h by omega);have D7:lm w h holes=fQ m holes:=by
   unfold lm;rw[hm];rfl
  have hmm:∀x∈holes,0<=x/\x<(m:Int):=λx hx=>by rw[<- hm];exact hmem x hx
  refine go ?_;intro b11;refine go ?_;refine gq ae ?_;refine gq ae ?_;refine aX (λy:Nat×Value×Value=>m - y.1) (λy=>[(12,.int .i64 (y.1:Int))]) (λy=>[pt b11 (.cells [.int .i64 _,.int .i64 w,.int .i64 h,y.2.1,y.2.2]),ap ae y.2.1 (dK y.1 λi=>decide (i∈holes)),ap ae y.2.2 (fQ y.1 holes)]) (λ_=>[]) (λy=>y.1<=m) (0,.slice none 0 0,.slice none 0 0) (bX _) (hk:=by repeat (first|exact aH.nil|(apply aH.cons;(focus (repeat (first|exact ay.here|apply ay.there)))))) (body:=?_);rintro⟨k,v1,v2⟩ hk;dsimp only at hk⊢;have hcl:=AL k holes;have hsl:=yZ k λi=>decide (i∈holes);refine go ?_;rw[hm];refine go ?_;refine az rfl (λa9=>?_) (λa9=>?_)
  ·refine go ?_;refine ak (GR (xs:=holes) (z:=(k:Int)) (by omega)) (next:=λ_ _=>?_);refine go ?_;refine az rfl (λhin=>?_) (λhin=>?_)
   ·have e1:fQ (k+1) holes=fQ k holes:=by rw[Gh,if_pos hin,gD]
    have e2:dK (k+1) (λi=>decide (i∈holes))=dK k (λi=>decide (i∈holes))++[(k:Int)]:=by rw[yY,if_pos (eB hin)]
    refine go ?_;intro b91;refine go ?_;refine fe ae (xs:=dK k λi=>decide (i∈holes)) (k:Int) () (by omega) λad=>?_;rw[<- e1,<- e2];refine go ?_;exact aO (k+1,.slice ad ((dK k λi=>decide (i∈holes)).length+1) ((dK k λi=>decide (i∈holes)).length+1),v2) (by show m - (k+1)<m - k;omega) (by show k+1<=m;omega)
   ·have e1:fQ (k+1) holes=fQ k holes++[(k:Int)]:=by rw[Gh,if_neg hin]
    have e2:dK (k+1) (λi=>decide (i∈holes))=dK k (λi=>decide (i∈holes)):=by rw[yY,if_neg (by simp[hin]),gD]
    refine go ?_;intro b91;refine go ?_;refine fe ae (xs:=fQ k holes) (k:Int) () (by omega) λad=>?_;rw[<- e1,<- e2];refine go ?_;exact aO (k+1,v1,.slice ad ((fQ k holes).length+1) ((fQ k holes).length+1)) (by show m - (k+1)<m - k;omega) (by show k+1<=m;omega)
  have hkm:k=m:=by omega
  subst hkm;rw[Rj lu hmm];refine nX (E:=ae) (v:=v2) (xs:=fQ k holes) λa2 hv2=>?_;subst hv2;refine go ?_;refine az rfl (λa7=>?_) (λa7=>?_)
  ·refine go ?_;refine aa ⟨false,.nilFunc,.nilFunc⟩ (hv:=rfl) (hp:=⟨(λe=>by cases e),λe=>?_⟩)
   exfalso
   have e:=tL.2 e;obtain⟨q1,q2,q3,q4,q5,q6⟩:=e;rw[D7]at q6;exact q6 (jl.1 (by omega))
  refine go ?_;refine bB (gp (E:=ae) (v:=v1) (xs:=holes)) (h:=?_);refine bB (gp (E:=ae) (v:=.slice a2 (fQ k holes).length (fQ k holes).length) (xs:=fQ k holes)) (h:=?_);refine go ?_;refine aa ⟨true,v1,.slice a2 (fQ k holes).length (fQ k holes).length⟩ (hv:=rfl) (hp:=⟨λ_=>tL.1 ⟨by first|exact .inl rfl|exact .inr rfl,⟨by omega,by omega⟩,⟨by omega,by omega⟩,lu,hmem,by rw[D7];exact λe=>a7 (by rw[e];rfl)⟩,λ_=>rfl⟩) (hF:=?_);show Sub [ah ae _ holes,ah ae _ (lm w h holes)] _;rw[D7];exact .cons (by simp) (.cons (by simp) .nil)
theorem SQ{g:bz}{vh vc:Value}(hS:oV g):
 aZ Tryz.prog (.func 132) [.agg ⟨iw g vh vc⟩] [] [] (iV g vh vc) (λe:Int=>.int .i64 e) (λ_=>[]) (λ_=>[]) (λe=>e=0↔fV g):=by
 refine aG _ (aM 132) λB w0=>?_;refine go ?_;intro b1;refine go ?_;refine ak (LY (s:=g.shape) (w:=g.w) (h:=g.h) (holes:=g.holes) (vh:=vh) hS.w hS.h hS.holes) (next:=λy hy=>?_);obtain⟨ok,v1,v2⟩:=y;cases ok with
 |false=>
  have hno:¬mU g.shape g.w g.h g.holes:=λh=>by have:=hy.2 h;cases this
  dsimp only[mkV,nJ,cond,List.nil_append];refine go ?_;intro b3;refine go ?_;exact aa 130 (hv:=rfl) (hp:=⟨(λh=>by cases h),λh=>absurd h.make hno⟩)
 |true=>
  have hmk:=hy.1 rfl;dsimp only[mkV,nJ,cond,iV,tT,List.cons_append,List.nil_append];refine go ?_;intro b3;refine go ?_;refine ak (Bc (xs:=lm g.w g.h g.holes) (ys:=g.cells) (by
   have:=AL (g.w*g.h).toNat g.holes;have:=uZ hmk.wi hmk.he;unfold lm;omega)) (next:=λ_ _=>?_)
  refine go ?_;refine ed rfl (λh1=>?_) (λh1=>?_)
  ·refine go ?_;exact aa 130 (hv:=rfl) (hp:=⟨(λh=>by cases h),λh=>absurd h.cells.symm h1⟩)
  ·refine go ?_;exact aa 0 (hv:=rfl) (hp:=⟨λ_=>⟨hmk,h1.symm⟩,λ_=>rfl⟩)
theorem LZ{α:Type}{xs:List α}{k:Nat}(h:xs.length<=k):xs.take k=xs:=rG h
abbrev qj(g:bz)(a:Nat):Int->Bool:=λb=>vB g.shape (iq g (a:Int)) (iq g b)
theorem SS{g:bz}{vh vc:Value}(hS:oV g):
 aZ Tryz.prog (.func 92) [.agg ⟨iw g vh vc⟩] [] [] (iV g vh vc) tV (λ_=>[]) (λy=>[lG (y.e=0) (ah (aj ae) y.v (bD g))]) (λy=>y.e=0↔fV g):=by
 refine aG _ (aM 92) λB w0=>?_;refine go ?_;intro b1;refine bB (fG (b:=b1)) (h:=?_);refine go ?_;refine ak (SQ (g:=g) (vh:=vh) (vc:=vc) hS) (next:=λe he=>?_);refine go ?_;refine az rfl (λh1=>?_) (λh1=>?_)
 ·refine go ?_;refine kR (c:=(130:Int)=0) (f:=ah (aj ae) (.slice none 0 0) (bD g)) (by omega) ?_;exact aa ⟨.slice none 0 0,130⟩ (hv:=rfl) (hp:=⟨(λh=>by cases h),λh=>absurd (he.2 h) h1⟩)
 have hg:=he.1 (iF.1 h1);clear he h1;have hgl:=hg.len;have hnl:=AP g;refine go ?_;refine gq (aj ae) ?_;refine aX (λy:Nat×Value=>g.cells.length - y.1) (λy=>[(5,.int .i64 (y.1:Int)),(4,y.2)]) (λy=>[ap (aj ae) y.2 ((bD g).take y.1)]) (λ_=>[]) (λy=>y.1<=g.cells.length) (0,.slice none 0 0) (bX _) (hk:=by repeat (first|exact aH.nil|(apply aH.cons;(focus (repeat (first|exact ay.here|apply ay.there)))))) (body:=?_);rintro⟨i,v4⟩ hi;dsimp only at hi⊢;have hil:((bD g).take i).length=i:=by rw[gM];omega
 refine go ?_;refine az rfl (λh2=>?_) (λh2=>?_)
 ·have hn:=Rk hg (show i<g.cells.length by omega);refine go ?_;refine gq ae ?_;refine aX (λy:Nat×Value=>g.cells.length - y.1) (λy=>[(7,.int .i64 (y.1:Int)),(6,y.2)]) (λy=>[ap ae y.2 (dK y.1 (qj g i))]) (λ_=>[]) (λy=>y.1<=g.cells.length) (0,.slice none 0 0) (bX _) (hk:=by repeat (first|exact aH.nil|(apply aH.cons;(focus (repeat (first|exact ay.here|apply ay.there)))))) (body:=?_);rintro⟨j,v6⟩ hj;dsimp only at hj⊢;have hsl:=yZ j (qj g i);refine go ?_;refine az rfl (λh3=>?_) (λh3=>?_)
  ·refine go ?_;refine ak (ad3 (g:=g) (vh:=vh) (vc:=vc) (a:=i) (b:=j) hg (by omega) (by omega)) (next:=λ_ _=>?_);have hss:=yY j (qj g i);refine go ?_;refine jJ rfl (λh4=>?_) (λh4=>?_)
   ·rw[if_pos h4]at hss;refine go ?_;intro L6;refine go ?_;refine fe ae (xs:=dK j (qj g i)) (j:Int) () (by omega) λad=>?_;rw[<- hss];refine go ?_;exact aO (j+1,.slice ad ((dK j (qj g i)).length+1) ((dK j (qj g i)).length+1)) (by show g.cells.length - (j+1)<g.cells.length - j;omega) (by show j+1<=_;omega)
   ·rw[if_neg (by show¬vB g.shape (iq g (i:Int)) (iq g (j:Int))=true;rw[h4];simp),gD]at hss;rw[<- hss];refine go ?_;exact aO (j+1,v6) (by show g.cells.length - (j+1)<g.cells.length - j;omega) (by show j+1<=_;omega)
  have jM:j=g.cells.length:=by omega
  subst jM;refine nX (E:=ae) (v:=v6) (xs:=dK g.cells.length (qj g i)) λa6 e6=>?_;subst e6;refine bB (gp (E:=ae) (v:=.slice a6 (dK g.cells.length (qj g i)).length (dK g.cells.length (qj g i)).length) (xs:=dK g.cells.length (qj g i))) (h:=?_);refine go ?_;intro b35;refine go ?_;refine fe (xs:=(bD g).take i) (aj ae) (dK g.cells.length (qj g i)) (.slice a6 (dK g.cells.length (qj g i)).length (dK g.cells.length (qj g i)).length) (by omega) (next:=λad=>?_);rw[<- bV hn];refine go ?_;exact aO (i+1,.slice ad (((bD g).take i).length+1) (((bD g).take i).length+1)) (by show g.cells.length - (i+1)<g.cells.length - i;omega) (by show i+1<=_;omega)
 have hie:i=g.cells.length:=by omega
 subst hie;rw[LZ (by omega)];refine bB (gp (E:=aj ae) (v:=v4) (xs:=bD g)) (h:=?_);refine go ?_;refine ku (c:=(0:Int)=0) (f:=ah (aj ae) v4 (bD g)) (by simp) ?_;exact aa ⟨v4,0⟩ (hv:=rfl) (hp:=⟨λ_=>hg,λ_=>rfl⟩)
theorem ad7{g:bz}(hg:fV g){k:Nat}(hk:k<g.cells.length):(-8<(iq g (k:Int)).1/\(iq g (k:Int)).1<16)/\0<=(iq g (k:Int)).2/\(iq g (k:Int)).2<16:=by
 obtain⟨hc,hr⟩:=xC hg hk;have hv:=GV hr;rcases hg.make.sh with hs|hs
 ·rw[Be hk hs];dsimp only;omega
 ·rw[Es hk hs];dsimp only;omega
theorem ad8{g:bz}(hg:fV g){k:Nat}(hk:k<g.cells.length)(f:Int): -16<=mE g.shape f (iq g (k:Int))/\mE g.shape f (iq g (k:Int))<=32:=by
 obtain⟨h1,h2⟩:=ad7 hg hk;unfold mE;split
 ·omega
 split
 ·omega
 split<;>omega
abbrev rD(g:bz)(f n:Int):Int->Bool:=λb=>decide (mE g.shape f (iq g b)=n)
abbrev vM(g:bz)(f:Int)(k:Nat):List (List Int):=w9 (λn=>dK g.cells.length (rD g f n)) (-16) k
theorem ad9{g:bz}(hg:fV g)(f:Int):vM g f 49=jk g λs=>(mE g.shape f s,true):=by
 rw[Rn (lo:= -16) (k:=49) (λs=>(mE g.shape f s,true)) (λp hp _=>by
  obtain⟨h1,h2⟩:=DY.1 hp;have h3:=ad8 hg (k:=p.1.toNat) (by omega) f;rw[show((p.1.toNat:Nat):Int)=p.1 by omega,<- h2]at h3;dsimp only;omega)]
 unfold vM;congr 1;funext n
 rw[Rl];rfl
theorem aea(L:Int->List Int)(lo:Int)(k:Nat):(w9 L lo k).length<=k:=by
 unfold w9;refine mX (MC _ _) ?_;rw[di];unfold tN;simp
theorem L8{g:bz}{vh vc:Value}{f:Int}(hg:fV g):
 aZ Tryz.prog (.func 134) [.agg ⟨iw g vh vc⟩,.int .i64 f] [] [] (iV g vh vc) (λv:Value=>v) (λv=>[ap (aj ae) v (jk g λs=>(mE g.shape f s,true))]) (λ_=>[]) (λ_=>True):=by
 have hgl:=hg.len;refine aG _ (aM 134) λB w0=>?_;refine go ?_;intro b1;refine bB (fG (b:=b1)) (h:=?_);refine go ?_;refine gq (aj ae) ?_;refine aX (λy:Nat×Value=>49 - y.1) (λy=>[(6,.int .i64 (-16+(y.1:Int))),(5,y.2)]) (λy=>[ap (aj ae) y.2 (vM g f y.1)]) (λ_=>[]) (λy=>y.1<=49) (0,.slice none 0 0) (by omega) (hk:=by repeat (first|exact aH.nil|(apply aH.cons;(focus (repeat (first|exact ay.here|apply ay.there)))))) (body:=?_);rintro⟨i,v5⟩ hi;dsimp only at hi⊢;have hil:(vM g f i).length<=i:=aea (λn=>dK g.cells.length (rD g f n)) (-16) i;have hls:vM g f (i+1)=vM g f i++if dK g.cells.length (rD g f (-16+(i:Int)))=[]then[]else[dK g.cells.length (rD g f (-16+(i:Int)))]:=Rm (λn=>dK g.cells.length (rD g f n)) (-16) i
 have hin: -16+(i:Int)+1= -16+((i+1:Nat):Int):=by omega
 refine go ?_;refine az rfl (λh2=>?_) (λh2=>?_)
 ·refine go ?_;refine gq ae ?_;refine aX (λy:Nat×Value=>g.cells.length - y.1) (λy=>[(8,.int .i64 (y.1:Int)),(7,y.2)]) (λy=>[ap ae y.2 (dK y.1 (rD g f (-16+(i:Int))))]) (λ_=>[]) (λy=>y.1<=g.cells.length) (0,.slice none 0 0) (bX _) (hk:=by repeat (first|exact aH.nil|(apply aH.cons;(focus (repeat (first|exact ay.here|apply ay.there)))))) (body:=?_);rintro⟨j,v7⟩ hj;dsimp only at hj⊢;have hsl:=yZ j (rD g f (-16+(i:Int)));refine go ?_;refine az rfl (λh3=>?_) (λh3=>?_)
  ·refine go ?_;refine ak (ad4 (g:=g) (vh:=vh) (vc:=vc) (f:=f) (a:=j) hg (by omega)) (next:=λ_ _=>?_);have hss:=yY j (rD g f (-16+(i:Int)));refine go ?_;refine az rfl (λh4=>?_) (λh4=>?_)
   ·rw[if_pos (eB h4)]at hss;refine go ?_;intro L6;refine go ?_;refine fe ae (xs:=dK j (rD g f (-16+(i:Int)))) (j:Int) () (by omega) λad=>?_;rw[<- hss];refine go ?_;exact aO (j+1,.slice ad ((dK j (rD g f (-16+(i:Int)))).length+1) ((dK j (rD g f (-16+(i:Int)))).length+1)) (by show g.cells.length - (j+1)<g.cells.length - j;omega) (by show j+1<=_;omega)
   ·rw[if_neg (by show¬decide (mE g.shape f (iq g (j:Int))= -16+(i:Int))=true;rw[aR h4];simp),gD]at hss;rw[<- hss];refine go ?_;exact aO (j+1,v7) (by show g.cells.length - (j+1)<g.cells.length - j;omega) (by show j+1<=_;omega)
  have jM:j=g.cells.length:=by omega
  subst jM;generalize hL:dK g.cells.length (rD g f (-16+(i:Int)))=L at hls hsl⊢;refine nX (E:=ae) (v:=v7) (xs:=L) λa7 e7=>?_;subst e7;refine go ?_;refine az rfl (λh5=>?_) (λh5=>?_)
  ·rw[if_neg (λe=>by rw[e]at h5;simp at h5)]at hls;refine bB (gp (E:=ae) (v:=.slice a7 L.length L.length) (xs:=L)) (h:=?_);refine go ?_;intro b35;refine go ?_;refine fe (xs:=vM g f i) (aj ae) L (.slice a7 L.length L.length) (by omega) (next:=λad=>?_);rw[<- hls];refine go ?_;rw[hin];exact aO (i+1,.slice ad ((vM g f i).length+1) ((vM g f i).length+1)) (by show 49 - (i+1)<49 - i;omega) (by show i+1<=_;omega)
  ·rw[if_pos (jl.1 (by omega)),gD]at hls;rw[<- hls];refine go ?_;rw[hin];exact aO (i+1,v5) (by show 49 - (i+1)<49 - i;omega) (by show i+1<=_;omega)
 have hie:i=49:=by omega
 subst hie;rw[ad9 hg f];refine go ?_;exact aa v5 (hv:=rfl) (hp:=trivial)
abbrev lI(g:bz)(k:Nat):Int->Bool:=λb=>cond (Nat.beq k 0) (decide ((iq g b).1=(iq g b).2)) (decide ((iq g b).1+(iq g b).2=g.w - 1))
def ql(g:bz)(k:Nat):List Int:=dK g.cells.length (lI g k)
def o8(l:List Int):List (List Int):=if l=[]then[]else[l]
theorem aeb{g:bz}(hs:g.shape=1)(hw:g.w=g.h):lW g=kM (o8 (ql g 0)) (o8 (ql g 1)):=by
 unfold lW;rw[if_neg (by omega),if_pos hw,Ro (λs=>decide (s.1=s.2)),Ro (λs=>decide (s.1+s.2=g.w - 1))];rfl
def kS(g:bz)(k:Nat):List (List Int):=if k=0 then[]else if k=1 then o8 (ql g 0)else kM (o8 (ql g 0)) (o8 (ql g 1))
theorem aec(l:List Int):kM [] (o8 l)=o8 l:=by
 unfold o8;split
 ·rfl
 ·show vo [] l=[l]
  unfold vo;rw[if_neg (by simp)];rfl
theorem aed(g:bz){k:Nat}(hk:k<2):kS g (k+1)=kM (kS g k) (o8 (ql g k)):=by
 rcases(show k=0\/k=1 by omega)with rfl|rfl
 ·exact(aec _).symm
 ·rfl
theorem SV(O:List (List Int)){l:List Int}(hl:l≠[]):kM O (o8 l)=if O.head? =some l then O else O++[l]:=by
 unfold o8;rw[if_neg hl];rfl
theorem aee{g:bz}{vh vc:Value}(hg:fV g)(hs:g.shape=1):
 aZ Tryz.prog (.func 135) [.agg ⟨iw g vh vc⟩] [] [] (iV g vh vc) (λv:Value=>v) (λv=>[ap (aj ae) v (lW g)]) (λ_=>[]) (λ_=>True):=by
 have hgl:=hg.len;have D8:=hg.make.wi;refine aG _ (aM 135) λB w0=>?_;refine go ?_;intro b1;refine bB (fG (b:=b1)) (h:=?_);refine go ?_;refine gq (aj ae) ?_;refine aX (λy:Nat×Value=>2 - y.1) (λy=>[(4,.int .i64 (y.1:Int)),(3,y.2)]) (λy=>[ap (aj ae) y.2 (kS g y.1)]) (λ_=>[]) (λy=>y.1<=2/\(y.1=0\/g.w=g.h)) (0,.slice none 0 0) ⟨by omega,.inl rfl⟩ (hk:=by repeat (first|exact aH.nil|(apply aH.cons;(focus (repeat (first|exact ay.here|apply ay.there)))))) (body:=?_);rintro⟨k,v3⟩ ⟨hk,L9⟩;dsimp only at hk L9⊢;have GX:∀l∈kS g k,l.length<=256:=λl hl=>by
  have h1:∀n,(ql g n).length<=256:=λn=>by have:=yZ g.cells.length (lI g n);unfold ql;omega
  have h2:∀n,∀l∈o8 (ql g n),l.length<=256:=λn l hl=>by
   unfold o8 at hl;split at hl
   ·cases hl
   ·rw[bG.1 hl];exact h1 n
  unfold kS at hl;split at hl
  ·cases hl
  split at hl
  ·exact h2 0 l hl
  ·rcases aax hl with hl|hl
   ·exact h2 0 l hl
   ·exact h2 1 l hl
 have hol:(kS g k).length<=2:=by
  unfold kS kM o8;split
  ·simp
  split
  ·split<;>simp
  ·split<;>split<;>simp[vo]<;>split<;>simp
 refine go ?_;first|with_reducible refine aL (λhk2=>?_) (λhk2=>?_)|with_reducible refine aK (λhk2=>?_) (λhk2=>?_)|with_reducible refine aI (λhk2=>?_) (λhk2=>?_)
 ·have e:k=2:=by omega
  subst e;have hw:g.w=g.h:=L9.resolve_left (by omega);rw[show kS g 2=lW g from(aeb hs hw).symm];refine go ?_;exact aa v3 (hv:=rfl) (hp:=trivial)
 refine go ?_;refine az rfl (λhw=>?_) (λhw=>?_)
 rotate_left
 ·have e:k=0:=L9.resolve_right hw;subst e;have e:lW g=kS g 0:=by unfold lW;rw[if_neg (by omega),if_neg hw];rfl
  rw[e];refine go ?_;exact aa v3 (hv:=rfl) (hp:=trivial)
 have hds:=aed g (show k<2 by omega);rcases(show k=0\/k=1 by omega)with rfl|rfl
 ·refine go ?_;refine gq ae ?_;refine aX (λy:Nat×Value=>g.cells.length - y.1) (λy=>[(6,.int .i64 (y.1:Int)),(5,y.2)]) (λy=>[ap ae y.2 (dK y.1 (lI g 0))]) (λ_=>[]) (λy=>y.1<=g.cells.length) (0,.slice none 0 0) (bX _) (hk:=by repeat (first|exact aH.nil|(apply aH.cons;(focus (repeat (first|exact ay.here|apply ay.there)))))) (body:=?_);rintro⟨j,v5⟩ hj;dsimp only at hj⊢;have hsl:=yZ j (lI g 0);refine go ?_;refine az rfl (λh3=>?_) (λh3=>?_)
  ·have rE:=Be (k:=j) (by omega) hs;obtain⟨hc,hr⟩:=xC hg (k:=j) (by omega);have hss:=yY j (lI g 0);refine go ?_;refine ak (Bd (g:=g) (vh:=vh) (vc:=vc) (k:=j) hg (by omega)) (next:=λ_ _=>?_);refine go ?_;refine ak (zm (g:=g) (vh:=vh) (vc:=vc) (k:=j) hg (by omega)) (next:=λ_ _=>?_);generalize(g.cells[j]).tmod g.w=x at hc rE⊢;generalize(g.cells[j]).tdiv g.w=y at hr rE⊢;refine go ?_;first|with_reducible refine aL (λh4=>?_) (λh4=>?_)|with_reducible refine aK (λh4=>?_) (λh4=>?_)|with_reducible refine aI (λh4=>?_) (λh4=>?_)
   rotate_left
   ·have hp:lI g 0 (j:Int)=true:=by show decide _=true;rw[rE];exact eB (by dsimp only;omega)
    rw[if_pos hp]at hss;refine go ?_;intro L6;refine go ?_;refine fe ae (xs:=dK j (lI g 0)) (j:Int) () (by omega) λad=>?_;rw[<- hss];refine go ?_;exact aO (j+1,.slice ad ((dK j (lI g 0)).length+1) ((dK j (lI g 0)).length+1)) (by show g.cells.length - (j+1)<g.cells.length - j;omega) (by show j+1<=_;omega)
   ·have hp:¬lI g 0 (j:Int)=true:=by show¬decide _=true;rw[rE];intro h;have:=iB h;dsimp only at this;omega
    rw[if_neg hp,gD]at hss;rw[<- hss];refine go ?_;exact aO (j+1,v5) (by show g.cells.length - (j+1)<g.cells.length - j;omega) (by show j+1<=_;omega)
  have jM:j=g.cells.length:=by omega
  subst jM;have hL:dK g.cells.length (lI g 0)=ql g 0:=rfl;rw[hL]at hsl⊢;generalize ql g 0=L at hsl hds⊢;refine nX (E:=ae) (v:=v5) (xs:=L) λa5 e5=>?_;subst e5;refine bB (gp (E:=ae) (v:=.slice a5 L.length L.length) (xs:=L)) (h:=?_);generalize kS g 0=O at hds hol GX⊢;refine nX (E:=aj ae) (v:=v3) (xs:=O) λa3 e3=>?_;subst e3;refine go ?_;first|with_reducible refine aL (λh5=>?_) (λh5=>?_)|with_reducible refine aK (λh5=>?_) (λh5=>?_)|with_reducible refine aI (λh5=>?_) (λh5=>?_)
  ·have e0:L=[]:=jl.1 (by omega);have e1:kS g (0+1)=O:=by rw[hds,e0];rfl
   rw[<- e1];refine go ?_;exact aO (0+1,.slice a3 (kS g (0+1)).length (kS g (0+1)).length) (by show 2 - (0+1)<2 - 0;omega) ⟨by show 0+1<=2;omega,.inr hw⟩
  rw[SV O (λe=>by rw[e]at h5;simp at h5)]at hds;refine go ?_;first|with_reducible refine aL (λh6=>?_) (λh6=>?_)|with_reducible refine aK (λh6=>?_) (λh6=>?_)|with_reducible refine aI (λh6=>?_) (λh6=>?_)
  ·obtain⟨o,O2,rfl⟩:∃o O2,O=o::O2:=by
    cases O with
    |nil=>simp at h6
    |cons o O2=>exact⟨o,O2,rfl⟩
   refine go ?_;refine F7 ae (v:=.slice a3 (o::O2).length (o::O2).length) (xss:=o::O2) 0 o rfl (next:=λ_ _ u=>?_);refine go ?_;have ho:=GX o (dx ..);rw[List.head?_cons]at hds;refine ak (Bc (xs:=o) (ys:=L) (by omega)) (next:=λ_ _=>?_);refine go ?_;refine ed rfl (λh7=>?_) (λh7=>?_)
   ·rw[if_neg (λe=>h7 (Option.some.inj e))]at hds;refine go ?_;intro Ma;refine go ?_;refine fe (xs:=o::O2) (aj ae) L (.slice a5 L.length L.length) (by omega) (next:=λqf=>?_);rw[<- hds];refine go ?_;exact aO (0+1,.slice qf ((o::O2).length+1) ((o::O2).length+1)) (by show 2 - (0+1)<2 - 0;omega) ⟨by show 0+1<=2;omega,.inr hw⟩
   ·rw[if_pos (congrArg some h7)]at hds;rw[<- hds];refine go ?_;exact aO (0+1,.slice a3 (kS g (0+1)).length (kS g (0+1)).length) (by show 2 - (0+1)<2 - 0;omega) ⟨by show 0+1<=2;omega,.inr hw⟩
  have e0:O=[]:=jl.1 (by omega);subst e0;rw[if_neg (by simp)]at hds;refine go ?_;intro Ma;refine go ?_;refine fe (xs:=([]:List (List Int))) (aj ae) L (.slice a5 L.length L.length) (by simp) (next:=λad=>?_);rw[<- hds];refine go ?_;exact aO (0+1,.slice ad (([]:List (List Int)).length+1) (([]:List (List Int)).length+1)) (by show 2 - (0+1)<2 - 0;omega) ⟨by show 0+1<=2;omega,.inr hw⟩
 ·refine go ?_;refine gq ae ?_;refine aX (λy:Nat×Value=>g.cells.length - y.1) (λy=>[(6,.int .i64 (y.1:Int)),(5,y.2)]) (λy=>[ap ae y.2 (dK y.1 (lI g 1))]) (λ_=>[]) (λy=>y.1<=g.cells.length) (0,.slice none 0 0) (bX _) (hk:=by repeat (first|exact aH.nil|(apply aH.cons;(focus (repeat (first|exact ay.here|apply ay.there)))))) (body:=?_);rintro⟨j,v5⟩ hj;dsimp only at hj⊢;have hsl:=yZ j (lI g 1);refine go ?_;refine az rfl (λh3=>?_) (λh3=>?_)
  ·have rE:=Be (k:=j) (by omega) hs;obtain⟨hc,hr⟩:=xC hg (k:=j) (by omega);have hss:=yY j (lI g 1);refine go ?_;refine ak (Bd (g:=g) (vh:=vh) (vc:=vc) (k:=j) hg (by omega)) (next:=λ_ _=>?_);refine go ?_;refine ak (zm (g:=g) (vh:=vh) (vc:=vc) (k:=j) hg (by omega)) (next:=λ_ _=>?_);generalize(g.cells[j]).tmod g.w=x at hc rE⊢;generalize(g.cells[j]).tdiv g.w=y at hr rE⊢;refine go ?_;refine az rfl (λh4=>?_) (λh4=>?_)
   ·have hp:lI g 1 (j:Int)=true:=by show decide _=true;rw[rE];exact eB (by dsimp only;omega)
    rw[if_pos hp]at hss;refine go ?_;intro L6;refine go ?_;refine fe ae (xs:=dK j (lI g 1)) (j:Int) () (by omega) λad=>?_;rw[<- hss];refine go ?_;exact aO (j+1,.slice ad ((dK j (lI g 1)).length+1) ((dK j (lI g 1)).length+1)) (by show g.cells.length - (j+1)<g.cells.length - j;omega) (by show j+1<=_;omega)
   ·have hp:¬lI g 1 (j:Int)=true:=by show¬decide _=true;rw[rE];intro h;have:=iB h;dsimp only at this;omega
    rw[if_neg hp,gD]at hss;rw[<- hss];refine go ?_;exact aO (j+1,v5) (by show g.cells.length - (j+1)<g.cells.length - j;omega) (by show j+1<=_;omega)
  have jM:j=g.cells.length:=by omega
  subst jM;have hL:dK g.cells.length (lI g 1)=ql g 1:=rfl;rw[hL]at hsl⊢;generalize ql g 1=L at hsl hds⊢;refine nX (E:=ae) (v:=v5) (xs:=L) λa5 e5=>?_;subst e5;refine bB (gp (E:=ae) (v:=.slice a5 L.length L.length) (xs:=L)) (h:=?_);generalize kS g 1=O at hds hol GX⊢;refine nX (E:=aj ae) (v:=v3) (xs:=O) λa3 e3=>?_;subst e3;refine go ?_;first|with_reducible refine aL (λh5=>?_) (λh5=>?_)|with_reducible refine aK (λh5=>?_) (λh5=>?_)|with_reducible refine aI (λh5=>?_) (λh5=>?_)
  ·have e0:L=[]:=jl.1 (by omega);have e1:kS g (1+1)=O:=by rw[hds,e0];rfl
   rw[<- e1];refine go ?_;exact aO (1+1,.slice a3 (kS g (1+1)).length (kS g (1+1)).length) (by show 2 - (1+1)<2 - 1;omega) ⟨by show 1+1<=2;omega,.inr hw⟩
  rw[SV O (λe=>by rw[e]at h5;simp at h5)]at hds;refine go ?_;first|with_reducible refine aL (λh6=>?_) (λh6=>?_)|with_reducible refine aK (λh6=>?_) (λh6=>?_)|with_reducible refine aI (λh6=>?_) (λh6=>?_)
  ·obtain⟨o,O2,rfl⟩:∃o O2,O=o::O2:=by
    cases O with
    |nil=>simp at h6
    |cons o O2=>exact⟨o,O2,rfl⟩
   refine go ?_;refine F7 ae (v:=.slice a3 (o::O2).length (o::O2).length) (xss:=o::O2) 0 o rfl (next:=λ_ _ u=>?_);refine go ?_;have ho:=GX o (dx ..);rw[List.head?_cons]at hds;refine ak (Bc (xs:=o) (ys:=L) (by omega)) (next:=λ_ _=>?_);refine go ?_;refine ed rfl (λh7=>?_) (λh7=>?_)
   ·rw[if_neg (λe=>h7 (Option.some.inj e))]at hds;refine go ?_;intro Ma;refine go ?_;refine fe (xs:=o::O2) (aj ae) L (.slice a5 L.length L.length) (by omega) (next:=λqf=>?_);rw[<- hds];refine go ?_;exact aO (1+1,.slice qf ((o::O2).length+1) ((o::O2).length+1)) (by show 2 - (1+1)<2 - 1;omega) ⟨by show 1+1<=2;omega,.inr hw⟩
   ·rw[if_pos (congrArg some h7)]at hds;rw[<- hds];refine go ?_;exact aO (1+1,.slice a3 (kS g (1+1)).length (kS g (1+1)).length) (by show 2 - (1+1)<2 - 1;omega) ⟨by show 1+1<=2;omega,.inr hw⟩
  have e0:O=[]:=jl.1 (by omega);subst e0;rw[if_neg (by simp)]at hds;refine go ?_;intro Ma;refine go ?_;refine fe (xs:=([]:List (List Int))) (aj ae) L (.slice a5 L.length L.length) (by simp) (next:=λad=>?_);rw[<- hds];refine go ?_;exact aO (1+1,.slice ad (([]:List (List Int)).length+1) (([]:List (List Int)).length+1)) (by show 2 - (1+1)<2 - 1;omega) ⟨by show 1+1<=2;omega,.inr hw⟩
theorem aef{g:bz}{vh vc:Value}{p:Int}(hg:fV g):aZ Tryz.prog (.func 136) [.agg ⟨iw g vh vc⟩,.int .i64 p] [] [] (iV g vh vc) (λy:Nat×Bool=>.tuple ⟨[.int .i64 (y.1:Int),.bool y.2]⟩) (λ_=>[]) (λ_=>[]) (λy=>(y.2=true↔p∈g.cells)/\(y.2=true->vz p g.cells=y.1)):=by
 have hgl:=hg.len;have lu:g.cells.Pairwise (·<·):=by rw[hg.cells];exact Ko _ _
 refine aG _ (aM 136) λB w0=>?_;refine go ?_;intro b1;refine bB (fG (b:=b1)) (h:=?_);refine go ?_;refine aX (λk=>g.cells.length - k) (λk:Nat=>[(6,.int .i64 (k:Int))]) (λ_=>[]) (λ_=>[]) (λk=>k<=g.cells.length/\p∉g.cells.take k) 0 ⟨by omega,by simp⟩ (body:=?_);rintro k ⟨hk,hno⟩;refine go ?_;refine az rfl (λh1=>?_) (λh1=>?_)
 ·refine go ?_;intro _ _ x hx;refine go ?_;refine az rfl (λh2=>?_) (λh2=>?_)
  ·refine go ?_;subst h2;exact aa (k,true) (hv:=rfl) (hp:=⟨⟨λ_=>bJ hx,λ_=>rfl⟩,λ_=>KA lu hx⟩)
  ·refine go ?_;refine aO (k+1) (by omega) ⟨by omega,?_⟩;rw[bV hx,dZ,not_or];exact⟨hno,by simp;exact λe=>h2 e.symm⟩
 have:k=g.cells.length:=by omega
 subst this;rw[bK]at hno;refine go ?_;exact aa (0,false) (hv:=rfl) (hp:=⟨⟨(λh=>by cases h),λh=>absurd h hno⟩,(λh=>by cases h)⟩)
theorem SX{g:bz}{vh vc vr:Value}{rs:List (List Int)}(hS:oV g)(hrl:rs.length<9223372036854775808)(hrs:∀ps∈rs,ps.length<9223372036854775808):
 aZ Tryz.prog (.func 94) [.agg ⟨iw g vh vc⟩,vr] [] [] (ah (aj ae) vr rs::iV g vh vc) tV (λ_=>[]) (λy=>GI g rs y) (λy=>y.e=0↔fV g/\KC g rs):=by
 refine aG _ (aM 94) λB w0=>?_;refine aT (E:=aj ae) (v:=vr) (xs:=rs) (by simp) λar cr er=>?_;subst er;refine go ?_;intro b2;refine bB (fG (b:=b2)) (h:=?_);refine go ?_;refine ak (SQ (g:=g) hS) (next:=λe he=>?_);refine go ?_;first|with_reducible refine aL (λh1=>?_) (λh1=>?_)|with_reducible refine aK (λh1=>?_) (λh1=>?_)|with_reducible refine aI (λh1=>?_) (λh1=>?_)
 rotate_left
 ·refine go ?_;refine kR (c:=(130:Int)=0) (f:=ah (aj ae) (.slice none 0 0) (dP g rs)) (by omega) ?_;exact aa ⟨.slice none 0 0,130⟩ (hv:=rfl) (hp:=⟨(λh=>by cases h),λh=>absurd (he.2 h.1) h1⟩)
 have hg:=he.1 (by omega);have hgl:=hg.len;refine go ?_;refine az rfl (λh2=>?_) (λh2=>?_)
 ·refine go ?_;refine kR (c:=(130:Int)=0) (f:=ah (aj ae) (.slice none 0 0) (dP g rs)) (by omega) ?_;exact aa ⟨.slice none 0 0,130⟩ (hv:=rfl) (hp:=⟨(λh=>by cases h),λh=>by exfalso;have:=h.2.len;omega⟩)
 refine go ?_;refine gq (aj ae) ?_;refine aX (λy:Nat×Value=>rs.length - y.1) (λy=>[(7,.int .i64 (y.1:Int)),(6,y.2)]) (λy=>[ap (aj ae) y.2 (dP g (rs.take y.1))]) (λ_=>[]) (λy=>y.1<=rs.length/\∀ps∈rs.take y.1,wY g ps) (0,.slice none 0 0) ⟨bX _,λps h=>by cases h⟩ (hk:=by repeat (first|exact aH.nil|(apply aH.cons;(focus (repeat (first|exact ay.here|apply ay.there)))))) (body:=?_);rintro⟨k,v6⟩ ⟨hk,hall⟩;dsimp only at hk hall⊢;have hkl:(dP g (rs.take k)).length=k:=by unfold dP;rw[di,gM];omega
 refine go ?_;refine az rfl (λh3=>?_) (λh3=>?_)
 ·obtain⟨ps,hps⟩:∃ps,rs[k]? =some ps:=⟨rs[k]'(by omega),cK _⟩
  have hpm:=bJ hps;have hpl:=hrs ps hpm;have htk:=bV hps;refine go ?_;refine gq ae ?_;refine aX (λy:Nat×Value=>ps.length - y.1) (λy=>[(9,.int .i64 (y.1:Int)),(8,y.2)]) (λy=>[ap ae y.2 (eF g (ps.take y.1))]) (λ_=>[]) (λy=>y.1<=ps.length/\(∀p∈ps.take y.1,p∈g.cells)/\(eF g (ps.take y.1)).Nodup) (0,.slice none 0 0) ⟨bX _,(λp h=>by cases h),um⟩ (hk:=by repeat (first|exact aH.nil|(apply aH.cons;(focus (repeat (first|exact ay.here|apply ay.there)))))) (body:=?_);rintro⟨j,v8⟩ ⟨hj,hmem,hnd⟩;dsimp only at hj hmem hnd⊢;have hjl:(eF g (ps.take j)).length=j:=by unfold eF;rw[di,gM];omega
  have hj2:j<=256:=by have:=KD hmem hnd;rw[gM]at this;omega
  refine go ?_;refine aY (aj ae) (xs:=rs) (next:=λ_ _ ps' (vp:Value) Mc=>?_);cases hps.symm.trans Mc;refine go ?_;refine az rfl (λh4=>?_) (λh4=>?_)
  ·refine go ?_;refine aY (aj ae) (xs:=rs) (next:=λ_ _ ps' (vp:Value) Mc=>?_);cases hps.symm.trans Mc;refine go ?_;intro _ _ x hx;have htx:=bV hx;refine go ?_;refine ak (aef (g:=g) (vh:=vh) (vc:=vc) (p:=x) hg) (next:=λy hy=>?_);obtain⟨c,ok⟩:=y;obtain⟨hy1,hy2⟩:=hy;dsimp only at hy1 hy2⊢;cases ok with
   |false=>
    refine go ?_;refine kR (c:=(130:Int)=0) (f:=ah (aj ae) (.slice none 0 0) (dP g rs)) (by omega) ?_;exact aa ⟨.slice none 0 0,130⟩ (hv:=rfl) (hp:=⟨(λh=>by cases h),λh=>by
     have:=hy1.2 ((h.2.all ps hpm).mem x (bJ hx));cases this⟩)
   |true=>
    have hxm:=hy1.1 rfl;have hpos:=hy2 rfl;have hr1:eF g (ps.take (j+1))=eF g (ps.take j)++[(c:Int)]:=by unfold eF;rw[htx,eX,sS,hpos]
    refine go ?_;refine ak (adY (vl:=v8) (xs:=eF g (ps.take j)) (z:=(c:Int)) (by omega)) (next:=λ_ _=>?_);refine go ?_;refine az rfl (λh5=>?_) (λh5=>?_)
    ·refine go ?_;refine kR (c:=(130:Int)=0) (f:=ah (aj ae) (.slice none 0 0) (dP g rs)) (by omega) ?_;exact aa ⟨.slice none 0 0,130⟩ (hv:=rfl) (hp:=⟨(λh=>by cases h),λh=>by
      exfalso
      have h6:(eF g ps).Nodup:=(h.2.all ps hpm).nd;have h7:(eF g (ps.take (j+1))).Nodup:=by
       refine h6.sublist ?_;unfold eF;exact(MG _ _).map _
      rw[hr1,iA]at h7;exact h7.2.2 _ h5 _ (bG.2 rfl) rfl⟩)
    ·refine go ?_;intro b53;refine go ?_;refine fe (xs:=eF g (ps.take j)) ae (c:Int) () (by omega) (next:=λad=>?_);rw[<- hr1];refine go ?_;refine aO (j+1,.slice ad ((eF g (ps.take j)).length+1) ((eF g (ps.take j)).length+1)) (by show ps.length - (j+1)<ps.length - j;omega) ⟨by show j+1<=_;omega,?_,?_⟩
     ·show∀p∈ps.take (j+1),p∈g.cells;rw[htx];intro p hp;rcases dZ.1 hp with hp|hp
      ·exact hmem p hp
      ·rw[bG.1 hp];exact hxm
     ·show(eF g (ps.take (j+1))).Nodup;rw[hr1,iA];exact⟨hnd,by simp,λa ha b hb e=>h5 (by rw[bG.1 hb]at e;rw[<- e];exact ha)⟩
  have jM:j=ps.length:=by omega
  subst jM;rw[bK]at hmem hnd⊢;have hrl2:(eF g ps).length=ps.length:=by unfold eF;rw[di]
  refine nX (E:=ae) (v:=v8) (xs:=eF g ps) λa8 e8=>?_;subst e8;refine go ?_;refine az rfl (λh5=>?_) (λh5=>?_)
  ·refine go ?_;refine kR (c:=(130:Int)=0) (f:=ah (aj ae) (.slice none 0 0) (dP g rs)) (by omega) ?_;exact aa ⟨.slice none 0 0,130⟩ (hv:=rfl) (hp:=⟨(λh=>by cases h),λh=>by
    exfalso
    exact(h.2.all ps hpm).ne (jl.1 (by omega))⟩)
  have hR:wY g ps:=⟨λe=>h5 (by rw[hrl2,e];rfl),hmem,hnd⟩
  have hrr:dP g (rs.take (k+1))=dP g (rs.take k)++[eF g ps]:=by unfold dP;rw[htk,eX,sS]
  refine bB (gp (E:=ae) (v:=.slice a8 (eF g ps).length (eF g ps).length) (xs:=eF g ps)) (h:=?_);refine go ?_;intro b61;refine go ?_;refine fe (xs:=dP g (rs.take k)) (aj ae) (eF g ps) (.slice a8 (eF g ps).length (eF g ps).length) (by omega) (next:=λad=>?_);rw[<- hrr];refine go ?_;refine aO (k+1,.slice ad ((dP g (rs.take k)).length+1) ((dP g (rs.take k)).length+1)) (by show rs.length - (k+1)<rs.length - k;omega) ⟨by show k+1<=_;omega,?_⟩;show∀qs∈rs.take (k+1),wY g qs;rw[htk];intro qs hq;rcases dZ.1 hq with hq|hq
  ·exact hall qs hq
  ·rw[bG.1 hq];exact hR
 have hke:k=rs.length:=by omega
 subst hke;rw[bK]at hall⊢;refine bB (gp (E:=aj ae) (v:=v6) (xs:=dP g rs)) (h:=?_);refine go ?_;refine ku (c:=(0:Int)=0) (f:=ah (aj ae) v6 (dP g rs)) (by simp) ?_;exact aa ⟨v6,0⟩ (hv:=rfl) (hp:=⟨λ_=>⟨hg,by omega,hall⟩,λ_=>rfl⟩)
theorem aeg(g:bz):(λs:Int×Int=>(mE g.shape 1 s,true))=λs=>(s.2,true):=by funext s;rfl
theorem aeh(g:bz):(λs:Int×Int=>(mE g.shape 2 s,true))=λs=>(s.1,true):=by funext s;unfold mE;simp
theorem aei{g:bz}(h:g.shape=2):(λs:Int×Int=>(mE g.shape 3 s,true))=λs=>(s.1+s.2,true):=by funext s;unfold mE;simp[h]
theorem aej{g:bz}{vh vc:Value}{k:Int}(hS:oV g):
 aZ Tryz.prog (.func 93) [.agg ⟨iw g vh vc⟩,.int .i64 k] [] [] (iV g vh vc) tV (λ_=>[]) (λy=>GG g k y) (λy=>y.e=0↔fV g/\0<=k/\k<=7):=by
 refine aG _ (aM 93) λB w0=>?_;refine go ?_;intro b2;refine bB (fG (b:=b2)) (h:=?_);refine go ?_;refine ak (SS (g:=g) (vh:=vh) (vc:=vc) hS) (next:=λy hy=>?_);obtain⟨vn,e⟩:=y;dsimp only at hy⊢;refine go ?_;refine az rfl (λh1=>?_) (λh1=>?_)
 ·refine go ?_;refine kR (c:=e=0) (f:=ah (aj ae) (.slice none 0 0) (dM g k)) h1 ?_;exact aa ⟨.slice none 0 0,e⟩ (hv:=rfl) (hp:=⟨(λh=>absurd h h1),λh=>absurd (hy.2 h.1) h1⟩)
 have he:e=0:=iF.1 h1;subst he;have hg:=hy.1 rfl;clear hy h1;have hgl:=hg.len;have hnl:=AP g;have hnm:=Q0 (g:=g);refine eO (ah (aj ae) vn (bD g)) (λw hw=>hw (lG ((0:Int)=0) (ah (aj ae) vn (bD g))) (by simp) rfl) ?_;refine aT (E:=aj ae) (v:=vn) (xs:=bD g) (by simp) λan cn en=>?_;subst en;refine go ?_;first|with_reducible refine aL (λh2=>?_) (λh2=>?_)|with_reducible refine aK (λh2=>?_) (λh2=>?_)|with_reducible refine aI (λh2=>?_) (λh2=>?_)
 rotate_left
 ·refine go ?_;refine kR (c:=(1:Int)=0) (f:=ah (aj ae) (.slice none 0 0) (dM g k)) (by omega) ?_;exact aa ⟨.slice none 0 0,1⟩ (hv:=rfl) (hp:=⟨(λh=>by cases h),λh=>by exfalso;have:=h.2;omega⟩)
 refine go ?_;refine az rfl (λh3=>?_) (λh3=>?_)
 ·refine go ?_;refine kR (c:=(1:Int)=0) (f:=ah (aj ae) (.slice none 0 0) (dM g k)) (by omega) ?_;exact aa ⟨.slice none 0 0,1⟩ (hv:=rfl) (hp:=⟨(λh=>by cases h),λh=>by exfalso;have:=h.2;omega⟩)
 rcases(show k=0\/k=1\/k=2\/k=3\/k=4\/k=5\/k=6\/k=7 by omega)with rfl|rfl|rfl|rfl|rfl|rfl|rfl|rfl;all_goals clear h2 h3
 ·have hf:dM g 0=mo g.cells.length:=by simp[dM]
  refine go ?_;refine gq ae ?_;refine gq (aj ae) ?_;refine aX (λy:Nat×Value×Value=>g.cells.length - y.1) (λy=>[(10,.int .i64 (y.1:Int)),(9,y.2.1),(8,y.2.2)]) (λy=>[ap ae y.2.1 (upTo' y.1),ap (aj ae) y.2.2 (mo y.1)]) (λ_=>[]) (λy=>y.1<=g.cells.length) (0,.slice none 0 0,.slice none 0 0) (bX _) (hk:=by repeat (first|exact aH.nil|(apply aH.cons;(focus (repeat (first|exact ay.here|apply ay.there)))))) (body:=?_);rintro⟨i,v9,v8⟩ hi;dsimp only at hi⊢;have hil:=sG i;have SY:=QW i;refine go ?_;refine az rfl (λh2=>?_) (λh2=>?_)
  ·refine go ?_;intro xm;refine go ?_;refine fe (xs:=upTo' i) ae (i:Int) () (by omega) (next:=λad=>?_);rw[<- tK];refine go ?_;intro vH b38;refine bB (A:=pt vH (.cells [.int .i64 (i:Int)])) (fs:=[ah ae (.slice (some ⟨vH,0,some 0⟩) 1 1) [(i:Int)]]) (yF (b:=vH) (f:=0) (c:=1) (xs:=[(i:Int)])) (h:=?_);refine go ?_;refine fe (xs:=mo i) (aj ae) [(i:Int)] (.slice (some ⟨vH,0,some 0⟩) 1 1) (by omega) (next:=λqf=>?_);rw[<- QV];refine go ?_;exact aO (i+1,.slice ad ((upTo' i).length+1) ((upTo' i).length+1),.slice qf ((mo i).length+1) ((mo i).length+1)) (by show g.cells.length - (i+1)<g.cells.length - i;omega) (by show i+1<=_;omega)
  have hie:i=g.cells.length:=by omega
  subst hie;refine go ?_;refine bB (gp (E:=aj ae) (v:=v8) (xs:=mo g.cells.length)) (h:=?_);refine go ?_;refine ku (c:=(0:Int)=0) (f:=ah (aj ae) v8 (dM g 0)) (by rw[hf];simp) ?_;exact aa ⟨v8,0⟩ (hv:=rfl) (hp:=⟨λ_=>⟨hg,by omega,by omega⟩,λ_=>rfl⟩)
 ·have hf:dM g 1=jk g (λs=>(s.2,true)):=by simp[dM]
  refine go ?_;refine gq ae ?_;refine aX (λy:Nat×Value=>g.cells.length - y.1) (λy=>[(10,.int .i64 (y.1:Int)),(9,y.2)]) (λy=>[ap ae y.2 (upTo' y.1)]) (λ_=>[]) (λy=>y.1<=g.cells.length) (0,.slice none 0 0) (bX _) (hk:=by repeat (first|exact aH.nil|(apply aH.cons;(focus (repeat (first|exact ay.here|apply ay.there)))))) (body:=?_);rintro⟨i,v9⟩ hi;dsimp only at hi⊢;have hil:=sG i;refine go ?_;refine az rfl (λh2=>?_) (λh2=>?_)
  ·refine go ?_;intro xm;refine go ?_;refine fe (xs:=upTo' i) ae (i:Int) () (by omega) (next:=λad=>?_);rw[<- tK];refine go ?_;exact aO (i+1,.slice ad ((upTo' i).length+1) ((upTo' i).length+1)) (by show g.cells.length - (i+1)<g.cells.length - i;omega) (by show i+1<=_;omega)
  have hie:i=g.cells.length:=by omega
  subst hie;refine go ?_;refine ak (L8 (g:=g) (vh:=vh) (vc:=vc) (f:=1) hg) (next:=λv8 _=>?_);rw[aeg];refine go ?_;refine bB (gp (E:=aj ae) (v:=v8) (xs:=jk g (λs=>(s.2,true)))) (h:=?_);refine go ?_;refine ku (c:=(0:Int)=0) (f:=ah (aj ae) v8 (dM g 1)) (by rw[hf];simp) ?_;exact aa ⟨v8,0⟩ (hv:=rfl) (hp:=⟨λ_=>⟨hg,by omega,by omega⟩,λ_=>rfl⟩)
 ·have hf:dM g 2=jk g (λs=>(s.1,true)):=by simp[dM]
  refine go ?_;refine gq ae ?_;refine aX (λy:Nat×Value=>g.cells.length - y.1) (λy=>[(10,.int .i64 (y.1:Int)),(9,y.2)]) (λy=>[ap ae y.2 (upTo' y.1)]) (λ_=>[]) (λy=>y.1<=g.cells.length) (0,.slice none 0 0) (bX _) (hk:=by repeat (first|exact aH.nil|(apply aH.cons;(focus (repeat (first|exact ay.here|apply ay.there)))))) (body:=?_);rintro⟨i,v9⟩ hi;dsimp only at hi⊢;have hil:=sG i;refine go ?_;refine az rfl (λh2=>?_) (λh2=>?_)
  ·refine go ?_;intro xm;refine go ?_;refine fe (xs:=upTo' i) ae (i:Int) () (by omega) (next:=λad=>?_);rw[<- tK];refine go ?_;exact aO (i+1,.slice ad ((upTo' i).length+1) ((upTo' i).length+1)) (by show g.cells.length - (i+1)<g.cells.length - i;omega) (by show i+1<=_;omega)
  have hie:i=g.cells.length:=by omega
  subst hie;refine go ?_;refine ak (L8 (g:=g) (vh:=vh) (vc:=vc) (f:=2) hg) (next:=λv8 _=>?_);rw[aeh];refine go ?_;refine bB (gp (E:=aj ae) (v:=v8) (xs:=jk g (λs=>(s.1,true)))) (h:=?_);refine go ?_;refine ku (c:=(0:Int)=0) (f:=ah (aj ae) v8 (dM g 2)) (by rw[hf];simp) ?_;exact aa ⟨v8,0⟩ (hv:=rfl) (hp:=⟨λ_=>⟨hg,by omega,by omega⟩,λ_=>rfl⟩)
 ·have hf:dM g 3=lW g:=by simp[dM]
  refine go ?_;refine gq ae ?_;refine aX (λy:Nat×Value=>g.cells.length - y.1) (λy=>[(10,.int .i64 (y.1:Int)),(9,y.2)]) (λy=>[ap ae y.2 (upTo' y.1)]) (λ_=>[]) (λy=>y.1<=g.cells.length) (0,.slice none 0 0) (bX _) (hk:=by repeat (first|exact aH.nil|(apply aH.cons;(focus (repeat (first|exact ay.here|apply ay.there)))))) (body:=?_);rintro⟨i,v9⟩ hi;dsimp only at hi⊢;have hil:=sG i;refine go ?_;refine az rfl (λh2=>?_) (λh2=>?_)
  ·refine go ?_;intro xm;refine go ?_;refine fe (xs:=upTo' i) ae (i:Int) () (by omega) (next:=λad=>?_);rw[<- tK];refine go ?_;exact aO (i+1,.slice ad ((upTo' i).length+1) ((upTo' i).length+1)) (by show g.cells.length - (i+1)<g.cells.length - i;omega) (by show i+1<=_;omega)
  have hie:i=g.cells.length:=by omega
  subst hie;refine go ?_;refine az rfl (λh4=>?_) (λh4=>?_)
  ·refine go ?_;refine ak (aee (g:=g) (vh:=vh) (vc:=vc) hg h4) (next:=λv8 _=>?_);refine go ?_;refine bB (gp (E:=aj ae) (v:=v8) (xs:=lW g)) (h:=?_);refine go ?_;refine ku (c:=(0:Int)=0) (f:=ah (aj ae) v8 (dM g 3)) (by rw[hf];simp) ?_;exact aa ⟨v8,0⟩ (hv:=rfl) (hp:=⟨λ_=>⟨hg,by omega,by omega⟩,λ_=>rfl⟩)
  ·have h5:g.shape=2:=hg.make.sh.resolve_left h4;have hd:lW g=jk g (λs=>(s.1+s.2,true)):=by unfold lW;rw[if_pos h5]
   refine go ?_;refine ak (L8 (g:=g) (vh:=vh) (vc:=vc) (f:=3) hg) (next:=λv8 _=>?_);rw[aei h5,<- hd];refine go ?_;refine bB (gp (E:=aj ae) (v:=v8) (xs:=lW g)) (h:=?_);refine go ?_;refine ku (c:=(0:Int)=0) (f:=ah (aj ae) v8 (dM g 3)) (by rw[hf];simp) ?_;exact aa ⟨v8,0⟩ (hv:=rfl) (hp:=⟨λ_=>⟨hg,by omega,by omega⟩,λ_=>rfl⟩)
 ·have hf:dM g 4=bD g:=by simp[dM]
  refine go ?_;refine gq ae ?_;refine aX (λy:Nat×Value=>g.cells.length - y.1) (λy=>[(10,.int .i64 (y.1:Int)),(9,y.2)]) (λy=>[ap ae y.2 (upTo' y.1)]) (λ_=>[]) (λy=>y.1<=g.cells.length) (0,.slice none 0 0) (bX _) (hk:=by repeat (first|exact aH.nil|(apply aH.cons;(focus (repeat (first|exact ay.here|apply ay.there)))))) (body:=?_);rintro⟨i,v9⟩ hi;dsimp only at hi⊢;have hil:=sG i;refine go ?_;refine az rfl (λh2=>?_) (λh2=>?_)
  ·refine go ?_;intro xm;refine go ?_;refine fe (xs:=upTo' i) ae (i:Int) () (by omega) (next:=λad=>?_);rw[<- tK];refine go ?_;exact aO (i+1,.slice ad ((upTo' i).length+1) ((upTo' i).length+1)) (by show g.cells.length - (i+1)<g.cells.length - i;omega) (by show i+1<=_;omega)
  have hie:i=g.cells.length:=by omega
  subst hie;refine go ?_;refine ku (c:=(0:Int)=0) (f:=ah (aj ae) (.slice an (bD g).length cn) (dM g 4)) (by rw[hf];simp) ?_;exact aa ⟨.slice an (bD g).length cn,0⟩ (hv:=rfl) (hp:=⟨λ_=>⟨hg,by omega,by omega⟩,λ_=>rfl⟩)
 ·have hf:dM g 5=lq (bD g):=by simp[dM]
  refine go ?_;refine gq ae ?_;refine gq (aj ae) ?_;refine aX (λy:Nat×Value×Value=>g.cells.length - y.1) (λy=>[(10,.int .i64 (y.1:Int)),(9,y.2.1),(8,y.2.2)]) (λy=>[ap ae y.2.1 (upTo' y.1),ap (aj ae) y.2.2 (lq ((bD g).take y.1))]) (λ_=>[]) (λy=>y.1<=g.cells.length) (0,.slice none 0 0,.slice none 0 0) (bX _) (hk:=by repeat (first|exact aH.nil|(apply aH.cons;(focus (repeat (first|exact ay.here|apply ay.there)))))) (body:=?_);rintro⟨i,v9,v8⟩ hi;dsimp only at hi⊢;have hil:=sG i;have SY:(lq ((bD g).take i)).length=i:=by rw[QY,gM];omega
  refine go ?_;refine az rfl (λh2=>?_) (λh2=>?_)
  ·obtain⟨ln,hln⟩:∃ln,(bD g)[i]? =some ln:=⟨(bD g)[i]'(by omega),cK _⟩
   have hll:=hnm ln (bJ hln);have hfs:=QX hln;rw[aaX hg hln]at hfs;refine go ?_;intro xm;refine go ?_;refine fe (xs:=upTo' i) ae (i:Int) () (by omega) (next:=λad=>?_);rw[<- tK];refine go ?_;refine gq ae ?_;refine aX (λy:Nat×Value=>g.cells.length - y.1) (λy=>[(12,.int .i64 (y.1:Int)),(11,y.2)]) (λy=>[ap ae y.2 (dK y.1 λb=>decide (b=(i:Int))||decide (b∈ln))]) (λ_=>[]) (λy=>y.1<=g.cells.length) (0,.slice none 0 0) (bX _) (hk:=by repeat (first|exact aH.nil|(apply aH.cons;(focus (repeat (first|exact ay.here|apply ay.there)))))) (body:=?_);rintro⟨j,v11⟩ hj;dsimp only at hj⊢;have hsl:=yZ j λb=>decide (b=(i:Int))||decide (b∈ln);refine go ?_;refine az rfl (λh3=>?_) (λh3=>?_)
   ·have hss:=yY j λb=>decide (b=(i:Int))||decide (b∈ln);refine go ?_;first|with_reducible refine aL (λh4=>?_) (λh4=>?_)|with_reducible refine aK (λh4=>?_) (λh4=>?_)|with_reducible refine aI (λh4=>?_) (λh4=>?_)
    ·refine go ?_;refine aY (aj ae) (xs:=bD g) (next:=λ_ _ Md (vl:Value) hl=>?_);cases hln.symm.trans hl;refine go ?_;refine ak (GR (xs:=ln) (z:=(j:Int)) (by omega)) (next:=λ_ _=>?_);refine go ?_;refine az rfl (λh5=>?_) (λh5=>?_)
     ·rw[if_pos (by simp[h5])]at hss;refine go ?_;intro b69;refine go ?_;refine fe (xs:=dK j λb=>decide (b=(i:Int))||decide (b∈ln)) ae (j:Int) () (by omega) (next:=λad=>?_);rw[<- hss];refine go ?_;exact aO (j+1,.slice ad ((dK j λb=>decide (b=(i:Int))||decide (b∈ln)).length+1) ((dK j λb=>decide (b=(i:Int))||decide (b∈ln)).length+1)) (by show g.cells.length - (j+1)<g.cells.length - j;omega) (by show j+1<=_;omega)
     ·rw[if_neg (by simp only[ug,vQ,not_or];exact⟨h4,h5⟩),gD]at hss;rw[<- hss];refine go ?_;exact aO (j+1,v11) (by show g.cells.length - (j+1)<g.cells.length - j;omega) (by show j+1<=_;omega)
    ·rw[if_pos (by simp[h4])]at hss;refine go ?_;intro b69;refine go ?_;refine fe (xs:=dK j λb=>decide (b=(i:Int))||decide (b∈ln)) ae (j:Int) () (by omega) (next:=λad=>?_);rw[<- hss];refine go ?_;exact aO (j+1,.slice ad ((dK j λb=>decide (b=(i:Int))||decide (b∈ln)).length+1) ((dK j λb=>decide (b=(i:Int))||decide (b∈ln)).length+1)) (by show g.cells.length - (j+1)<g.cells.length - j;omega) (by show j+1<=_;omega)
   have jM:j=g.cells.length:=by omega
   subst jM;generalize(dK g.cells.length λb=>decide (b=(i:Int))||decide (b∈ln))=zs at hfs⊢;refine nX (E:=ae) (v:=v11) (xs:=zs) λS9 e11=>?_;subst e11;refine bB (gp (E:=ae) (v:=.slice S9 zs.length zs.length) (xs:=zs)) (h:=?_);refine go ?_;intro b73;refine go ?_;refine fe (xs:=lq ((bD g).take i)) (aj ae) zs (.slice S9 zs.length zs.length) (by omega) (next:=λqf=>?_);rw[<- hfs];refine go ?_;exact aO (i+1,.slice ad ((upTo' i).length+1) ((upTo' i).length+1),.slice qf ((lq ((bD g).take i)).length+1) ((lq ((bD g).take i)).length+1)) (by show g.cells.length - (i+1)<g.cells.length - i;omega) (by show i+1<=_;omega)
  have hie:i=g.cells.length:=by omega
  subst hie;rw[LZ (by omega)];refine go ?_;refine bB (gp (E:=aj ae) (v:=v8) (xs:=lq (bD g))) (h:=?_);refine go ?_;refine ku (c:=(0:Int)=0) (f:=ah (aj ae) v8 (dM g 5)) (by rw[hf];simp) ?_;exact aa ⟨v8,0⟩ (hv:=rfl) (hp:=⟨λ_=>⟨hg,by omega,by omega⟩,λ_=>rfl⟩)
 ·have hf:dM g 6=iD (bD g):=by simp[dM]
  have h6:=Kz hnm;refine go ?_;refine gq ae ?_;refine gq (aj ae) ?_;refine aX (λy:Nat×Value×Value=>g.cells.length - y.1) (λy=>[(10,.int .i64 (y.1:Int)),(9,y.2.1),(8,y.2.2)]) (λy=>[ap ae y.2.1 (upTo' y.1),ap (aj ae) y.2.2 (iD ((bD g).take y.1))]) (λ_=>[]) (λy=>y.1<=g.cells.length) (0,.slice none 0 0,.slice none 0 0) (bX _) (hk:=by repeat (first|exact aH.nil|(apply aH.cons;(focus (repeat (first|exact ay.here|apply ay.there)))))) (body:=?_);rintro⟨i,v9,v8⟩ hi;dsimp only at hi⊢;have hil:=sG i;have SY:=h6 i (by omega);refine go ?_;refine az rfl (λh2=>?_) (λh2=>?_)
  ·obtain⟨ln,hln⟩:∃ln,(bD g)[i]? =some ln:=⟨(bD g)[i]'(by omega),cK _⟩
   have hll:=hnm ln (bJ hln);have hfs:=Ky hln;refine go ?_;intro xm;refine go ?_;refine fe (xs:=upTo' i) ae (i:Int) () (by omega) (next:=λad=>?_);rw[<- tK];refine go ?_;refine aX (λy:Nat×Value=>ln.length - y.1) (λy=>[(13,.int .i64 (y.1:Int)),(8,y.2)]) (λy=>[ap (aj ae) y.2 (iD ((bD g).take i)++jv i (ln.take y.1))]) (λ_=>[]) (λy=>y.1<=ln.length) (0,v8) (bX _) (hk:=by rw[show iD ((bD g).take i)++jv i (ln.take 0)=iD ((bD g).take i)from gD _];repeat (first|exact aH.nil|(apply aH.cons;(focus (repeat (first|exact ay.here|apply ay.there)))))) (body:=?_);rintro⟨j,v5⟩ hj;dsimp only at hj⊢;have hpl:=Kw i (ln.take j);rw[gM]at hpl;have hal:(iD ((bD g).take i)++jv i (ln.take j)).length<=2000:=by rw[gB];omega
   refine go ?_;refine aY (aj ae) (xs:=bD g) (next:=λ_ _ Md (vl:Value) hl=>?_);cases hln.symm.trans hl;refine go ?_;refine az rfl (λh3=>?_) (λh3=>?_)
   ·refine go ?_;refine aY (aj ae) (xs:=bD g) (next:=λ_ _ Md (vl:Value) hl=>?_);cases hln.symm.trans hl;refine go ?_;intro _ _ x hx;have hps:=QZ (i:=i) hx;refine go ?_;refine az rfl (λh4=>?_) (λh4=>?_)
    ·have za:iD ((bD g).take i)++jv i (ln.take (j+1))=(iD ((bD g).take i)++jv i (ln.take j))++[[(i:Int),x]]:=by rw[hps,if_pos (by omega),fE]
     refine go ?_;refine aY (aj ae) (xs:=bD g) (next:=λ_ _ Md (vl:Value) hl=>?_);cases hln.symm.trans hl;refine go ?_;intro _ _ x' hx';cases hx.symm.trans hx';refine go ?_;intro vI b98;refine bB (A:=pt vI (.cells [.int .i64 (i:Int),.int .i64 x])) (fs:=[ah ae (.slice (some ⟨vI,0,some 0⟩) 2 2) [(i:Int),x]]) (yF (b:=vI) (f:=0) (c:=2) (xs:=[(i:Int),x])) (h:=?_);refine go ?_;refine fe (xs:=iD ((bD g).take i)++jv i (ln.take j)) (aj ae) [(i:Int),x] (.slice (some ⟨vI,0,some 0⟩) 2 2) (by omega) (next:=λqf=>?_);rw[<- za];refine go ?_;exact aO (j+1,.slice qf ((iD ((bD g).take i)++jv i (ln.take j)).length+1) ((iD ((bD g).take i)++jv i (ln.take j)).length+1)) (by show ln.length - (j+1)<ln.length - j;omega) (by show j+1<=_;omega)
    ·have za:iD ((bD g).take i)++jv i (ln.take (j+1))=iD ((bD g).take i)++jv i (ln.take j):=by rw[hps,if_neg (by omega),gD]
     rw[<- za];refine go ?_;exact aO (j+1,v5) (by show ln.length - (j+1)<ln.length - j;omega) (by show j+1<=_;omega)
   have jM:j=ln.length:=by omega
   subst jM;rw[bK,<- hfs];refine go ?_;exact aO (i+1,.slice ad ((upTo' i).length+1) ((upTo' i).length+1),v5) (by show g.cells.length - (i+1)<g.cells.length - i;omega) (by show i+1<=_;omega)
  have hie:i=g.cells.length:=by omega
  subst hie;rw[LZ (by omega)];refine go ?_;refine bB (gp (E:=aj ae) (v:=v8) (xs:=iD (bD g))) (h:=?_);refine go ?_;refine ku (c:=(0:Int)=0) (f:=ah (aj ae) v8 (dM g 6)) (by rw[hf];simp) ?_;exact aa ⟨v8,0⟩ (hv:=rfl) (hp:=⟨λ_=>⟨hg,by omega,by omega⟩,λ_=>rfl⟩)
 ·have hf:dM g 7=[upTo' g.cells.length]:=by simp[dM]
  refine go ?_;refine gq ae ?_;refine aX (λy:Nat×Value=>g.cells.length - y.1) (λy=>[(10,.int .i64 (y.1:Int)),(9,y.2)]) (λy=>[ap ae y.2 (upTo' y.1)]) (λ_=>[]) (λy=>y.1<=g.cells.length) (0,.slice none 0 0) (bX _) (hk:=by repeat (first|exact aH.nil|(apply aH.cons;(focus (repeat (first|exact ay.here|apply ay.there)))))) (body:=?_);rintro⟨i,v9⟩ hi;dsimp only at hi⊢;have hil:=sG i;refine go ?_;refine az rfl (λh2=>?_) (λh2=>?_)
  ·refine go ?_;intro xm;refine go ?_;refine fe (xs:=upTo' i) ae (i:Int) () (by omega) (next:=λad=>?_);rw[<- tK];refine go ?_;exact aO (i+1,.slice ad ((upTo' i).length+1) ((upTo' i).length+1)) (by show g.cells.length - (i+1)<g.cells.length - i;omega) (by show i+1<=_;omega)
  have hie:i=g.cells.length:=by omega
  subst hie;refine bB (gp (E:=ae) (v:=v9) (xs:=upTo' g.cells.length)) (h:=?_);refine aT (E:=ae) (v:=v9) (xs:=upTo' g.cells.length) (by simp) λa4 c4 e4=>?_;subst e4;refine go ?_;intro GY;refine bB (fG (b:=GY)) (h:=?_);refine eO (ah (aj ae) (y9 GY 1) [upTo' g.cells.length]) (λw hw=>Pj (v:=.slice a4 (upTo' g.cells.length).length c4) (hw _ (by simp)) (hw _ (by simp))) ?_;refine go ?_;refine ku (c:=(0:Int)=0) (f:=ah (aj ae) (y9 GY 1) (dM g 7)) (by rw[hf];simp) ?_;exact aa ⟨y9 GY 1,0⟩ (hv:=rfl) (hp:=⟨λ_=>⟨hg,by omega,by omega⟩,λ_=>rfl⟩)
