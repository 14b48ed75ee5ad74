/-
  Part LibOR.
-/
import Derived.Test.YtpkieeggilkagaaGreatLibNR
import Derived.Test.YtpkieeggilkagaaGreatLibFR
set_option linter.all false
set_option maxRecDepth 10000
set_option maxHeartbeats 4000000
namespace Go.Proofs.YtpkieeggilkagaaGreat
open Go.Ideal Kd
theorem OX{s w h:Int}{holes:List Int}{vh:Value}(hw64:kD w)(afw:kD h)(hl:holes.length<4611686018427387904):
 aV Tryz.prog (.func 125) [.int .i64 s,.int .i64 w,.int .i64 h,vh] [] [] [ah aa vh holes] (mkV s w h holes) (λ_=>[]) (pG s w h holes) (λy=>y.ok=true↔oM s w h holes):=by
 refine aC _ (aF 125) λB w0=>?_;refine go ?_;intro b8;refine go ?_;by_cases hsh:s=1\/s=2
 rotate_left
 ·rw[dQ (show s≠1 from λe=>hsh (.inl e))];refine go ?_;rw[dQ (show s≠2 from λe=>hsh (.inr e))];refine go ?_;refine ae ⟨false,.nilFunc,.nilFunc⟩ (hv:=rfl) (hp:=⟨(λe=>by cases e),λe=>?_⟩)
  exfalso
  have e:=vU.2 e;obtain⟨q1,q2,q3,q4,q5,q6⟩:=e;exact hsh q1
 rcases hsh with rfl|rfl;all_goals
  refine go ?_;refine gG (λa1=>?_) (λa1=>?_)
  rotate_left
  ·refine go ?_;refine ae ⟨false,.nilFunc,.nilFunc⟩ (hv:=rfl) (hp:=⟨(λe=>by cases e),λe=>?_⟩)
   exfalso
   have e:=vU.2 e;obtain⟨q1,q2,q3,q4,q5,q6⟩:=e;omega
  refine go ?_;refine gG (λa2=>?_) (λa2=>?_)
  rotate_left
  ·refine go ?_;refine ae ⟨false,.nilFunc,.nilFunc⟩ (hv:=rfl) (hp:=⟨(λe=>by cases e),λe=>?_⟩)
   exfalso
   have e:=vU.2 e;obtain⟨q1,q2,q3,q4,q5,q6⟩:=e;omega
  refine go ?_;refine gG (λa3=>?_) (λa3=>?_)
  rotate_left
  ·refine go ?_;refine ae ⟨false,.nilFunc,.nilFunc⟩ (hv:=rfl) (hp:=⟨(λe=>by cases e),λe=>?_⟩)
   exfalso
   have e:=vU.2 e;obtain⟨q1,q2,q3,q4,q5,q6⟩:=e;omega
  refine go ?_;refine ay rfl (λa4=>?_) (λa4=>?_)
  ·refine go ?_;refine ae ⟨false,.nilFunc,.nilFunc⟩ (hv:=rfl) (hp:=⟨(λe=>by cases e),λe=>?_⟩)
   exfalso
   have e:=vU.2 e;obtain⟨q1,q2,q3,q4,q5,q6⟩:=e;omega
  have hwh:=xE (w:=w) (h:=h) ⟨by omega,by omega⟩ ⟨by omega,by omega⟩;refine go ?_;refine aR (λk=>holes.length - k) (λk:Nat=>[(10,.int .i64 (k:Int))]) (λ_=>[]) (λ_=>[]) (λk=>k<=holes.length/\(holes.take k).Pairwise (·<·)/\∀x∈holes.take k,0<=x/\x<w*h) 0 ⟨bJ _,by simp,by simp⟩ (body:=?_);rintro k ⟨hk,mX,hmem⟩;refine go ?_;refine ay rfl (λa6=>?_) (λa6=>?_)
  ·refine go ?_;intro _ _ x hx;have hxm:=aP hx;have htk:holes.take (k+1)=holes.take k++[x]:=by rw[nS,hx];rfl
   have hstep:0<=x->x<w*h->(∀a∈holes.take k,a<x)->k+1<=holes.length/\(holes.take (k+1)).Pairwise (·<·)/\∀z∈holes.take (k+1),0<=z/\z<w*h:=λq1 q2 q3=>by
    refine⟨by omega,?_,?_⟩
    ·rw[htk,DN];exact⟨mX,by simp,λa ha b hb=>by rw[bM.1 hb];exact q3 a ha⟩
    ·rw[htk];intro z hz;rcases dB.1 hz with hz|hz
     ·exact hmem z hz
     ·rw[bM.1 hz];exact⟨q1,q2⟩
   refine go ?_;refine gG (λb1=>?_) (λb1=>?_)
   rotate_left
   ·refine go ?_;refine ae ⟨false,.nilFunc,.nilFunc⟩ (hv:=rfl) (hp:=⟨(λe=>by cases e),λe=>?_⟩)
    exfalso
    have e:=vU.2 e;obtain⟨q1,q2,q3,q4,q5,q6⟩:=e;have:=q5 x hxm;omega
   refine go ?_;intro _ _ x' hx';cases hx.symm.trans hx';refine go ?_;refine gG (λb2=>?_) (λb2=>?_)
   rotate_left
   ·refine go ?_;refine ae ⟨false,.nilFunc,.nilFunc⟩ (hv:=rfl) (hp:=⟨(λe=>by cases e),λe=>?_⟩)
    exfalso
    have e:=vU.2 e;obtain⟨q1,q2,q3,q4,q5,q6⟩:=e;have:=q5 x hxm;omega
   refine go ?_;refine gG (λb3=>?_) (λb3=>?_)
   ·refine go ?_;refine aD (k+1) (by omega) (hstep (by omega) (by omega) λa ha=>?_);rw[show k=0 by omega,List.take_zero]at ha;cases ha
   refine go ?_;intro _ _ x' hx' _ _ z hz;cases hx.symm.trans hx';obtain⟨j,rfl⟩:∃j,k=j+1:=⟨k - 1,by omega⟩
   rw[show(((j+1:Nat):Int) - 1).toNat=j by omega]at hz;have hzj:holes.take (j+1)=holes.take j++[z]:=by rw[nS,hz];rfl
   refine go ?_;refine ay rfl (λb4=>?_) (λb4=>?_)
   ·refine go ?_;refine ae ⟨false,.nilFunc,.nilFunc⟩ (hv:=rfl) (hp:=⟨(λe=>by cases e),λe=>?_⟩)
    exfalso
    have e:=vU.2 e;obtain⟨q1,q2,q3,q4,q5,q6⟩:=e;obtain⟨d1,d2⟩:=bK.1 hz;obtain⟨d3,d4⟩:=bK.1 hx;have:=zH.1 q4 j (j+1) d1 d3 (by omega);rw[d2,d4]at this;omega
   refine go ?_;refine aD (j+1+1) (by omega) (hstep (by omega) (by omega) λa ha=>?_);have:=VC mX ha;rw[hzj,VB]at this;omega
  have hkl:k=holes.length:=by omega
  subst hkl;rw[bC]at mX hmem;clear a6 hk;obtain⟨m,hm⟩:=dZ (show 0<=w*h by omega);have FO:mU w h holes=gJ m holes:=by
   unfold mU;rw[hm];rfl
  have hmm:∀x∈holes,0<=x/\x<(m:Int):=λx hx=>by rw[<- hm];exact hmem x hx
  refine go ?_;intro b11;refine go ?_;refine fJ aa ?_;refine fJ aa ?_;refine aR (λy:Nat×Value×Value=>m - y.1) (λy=>[(12,.int .i64 (y.1:Int))]) (λy=>[pt b11 (.cells [.int .i64 _,.int .i64 w,.int .i64 h,y.2.1,y.2.2]),ap aa y.2.1 (dU y.1 λi=>decide (i∈holes)),ap aa y.2.2 (gJ y.1 holes)]) (λ_=>[]) (λy=>y.1<=m) (0,.slice none 0 0,.slice none 0 0) (bJ _) (hk:=by repeat (first|exact aJ.nil|(apply aJ.cons;(focus (repeat (first|exact aA.here|apply aA.there)))))) (body:=?_);rintro⟨k,v1,v2⟩ hk;dsimp only at hk⊢;have hcl:=CS k holes;have hsl:=AO k λi=>decide (i∈holes);refine go ?_;rw[hm];refine go ?_;refine ay rfl (λa9=>?_) (λa9=>?_)
  ·refine go ?_;refine aj (JV (xs:=holes) (z:=(k:Int)) (by omega)) (next:=λ_ _=>?_);refine go ?_;refine ay rfl (λhin=>?_) (λhin=>?_)
   ·have e1:gJ (k+1) holes=gJ k holes:=by rw[Jf,if_pos hin,gV]
    have e2:dU (k+1) (λi=>decide (i∈holes))=dU k (λi=>decide (i∈holes))++[(k:Int)]:=by rw[AL,if_pos (dQ hin)]
    refine go ?_;intro b91;refine go ?_;refine eG aa (xs:=dU k λi=>decide (i∈holes)) (k:Int) () (by omega) λad=>?_;rw[<- e1,<- e2];refine go ?_;exact aD (k+1,.slice ad ((dU k λi=>decide (i∈holes)).length+1) ((dU k λi=>decide (i∈holes)).length+1),v2) (by show m - (k+1)<m - k;omega) (by show k+1<=m;omega)
   ·have e1:gJ (k+1) holes=gJ k holes++[(k:Int)]:=by rw[Jf,if_neg hin]
    have e2:dU (k+1) (λi=>decide (i∈holes))=dU k (λi=>decide (i∈holes)):=by rw[AL,if_neg (by simp[hin]),gV]
    refine go ?_;intro b91;refine go ?_;refine eG aa (xs:=gJ k holes) (k:Int) () (by omega) λad=>?_;rw[<- e1,<- e2];refine go ?_;exact aD (k+1,v1,.slice ad ((gJ k holes).length+1) ((gJ k holes).length+1)) (by show m - (k+1)<m - k;omega) (by show k+1<=m;omega)
  have hkm:k=m:=by omega
  subst hkm;rw[Uy mX hmm];refine qi (E:=aa) (v:=v2) (xs:=gJ k holes) λa2 hv2=>?_;subst hv2;refine go ?_;refine ay rfl (λa7=>?_) (λa7=>?_)
  ·refine go ?_;refine ae ⟨false,.nilFunc,.nilFunc⟩ (hv:=rfl) (hp:=⟨(λe=>by cases e),λe=>?_⟩)
   exfalso
   have e:=vU.2 e;obtain⟨q1,q2,q3,q4,q5,q6⟩:=e;rw[FO]at q6;exact q6 (jQ.1 (by omega))
  refine go ?_;refine aW (fG (E:=aa) (v:=v1) (xs:=holes)) (h:=?_);refine aW (fG (E:=aa) (v:=.slice a2 (gJ k holes).length (gJ k holes).length) (xs:=gJ k holes)) (h:=?_);refine go ?_;refine ae ⟨true,v1,.slice a2 (gJ k holes).length (gJ k holes).length⟩ (hv:=rfl) (hp:=⟨λ_=>vU.1 ⟨by first|exact .inl rfl|exact .inr rfl,⟨by omega,by omega⟩,⟨by omega,by omega⟩,mX,hmem,by rw[FO];exact λe=>a7 (by rw[e];rfl)⟩,λ_=>rfl⟩) (hF:=?_);show Sub [ah aa _ holes,ah aa _ (mU w h holes)] _;rw[FO];exact .cons (by simp) (.cons (by simp) .nil)
theorem V7{g:bD}{vh vc:Value}(hS:qM g):
 aV Tryz.prog (.func 172) [.agg ⟨iW g vh vc⟩] [] [] (jD g vh vc) (λe:Int=>.int .i64 e) (λ_=>[]) (λ_=>[]) (λe=>e=0↔fH g):=by
 refine aC _ (aF 172) λB w0=>?_;refine go ?_;intro b1;refine go ?_;refine aj (OX (s:=g.shape) (w:=g.w) (h:=g.h) (holes:=g.holes) (vh:=vh) hS.w hS.h hS.holes) (next:=λy hy=>?_);obtain⟨ok,v1,v2⟩:=y;cases ok with
 |false=>
  have hno:¬oM g.shape g.w g.h g.holes:=λh=>by have:=hy.2 h;cases this
  dsimp only[mkV,pG,cond,List.nil_append];refine go ?_;intro b3;refine go ?_;exact ae 130 (hv:=rfl) (hp:=⟨(λh=>by cases h),λh=>absurd h.make hno⟩)
 |true=>
  have hmk:=hy.1 rfl;dsimp only[mkV,pG,cond,jD,wm,List.cons_append,List.nil_append];refine go ?_;intro b3;refine go ?_;refine aj (Dp (xs:=mU g.w g.h g.holes) (ys:=g.cells) (by
   have:=CS (g.w*g.h).toNat g.holes;have:=xE hmk.wi hmk.he;unfold mU;omega)) (next:=λ_ _=>?_)
  refine go ?_;refine eX rfl (λh1=>?_) (λh1=>?_)
  ·refine go ?_;exact ae 130 (hv:=rfl) (hp:=⟨(λh=>by cases h),λh=>absurd h.cells.symm h1⟩)
  ·refine go ?_;exact ae 0 (hv:=rfl) (hp:=⟨λ_=>⟨hmk,h1.symm⟩,λ_=>rfl⟩)
theorem OY{α:Type}{xs:List α}{k:Nat}(h:xs.length<=k):xs.take k=xs:=wB h
abbrev rY(g:bD)(a:Nat):Int->Bool:=λb=>xO g.shape (iT g (a:Int)) (iT g b)
theorem V8{g:bD}{vh vc:Value}(hS:qM g):
 aV Tryz.prog (.func 126) [.agg ⟨iW g vh vc⟩] [] [] (jD g vh vc) tT (λ_=>[]) (λy=>[kX (y.e=0) (ah (ax aa) y.v (bO g))]) (λy=>y.e=0↔fH g):=by
 refine aC _ (aF 126) λB w0=>?_;refine go ?_;intro b1;refine aW (eB (b:=b1)) (h:=?_);refine go ?_;refine aj (V7 (g:=g) (vh:=vh) (vc:=vc) hS) (next:=λe he=>?_);refine go ?_;refine ay rfl (λh1=>?_) (λh1=>?_)
 ·refine go ?_;refine kY (c:=(130:Int)=0) (f:=ah (ax aa) (.slice none 0 0) (bO g)) (by omega) ?_;exact ae ⟨.slice none 0 0,130⟩ (hv:=rfl) (hp:=⟨(λh=>by cases h),λh=>absurd (he.2 h) h1⟩)
 have hg:=he.1 (gM.1 h1);clear he h1;have hgl:=hg.len;have hnl:=vP g;refine go ?_;refine fJ (ax aa) ?_;refine aR (λy:Nat×Value=>g.cells.length - y.1) (λy=>[(5,.int .i64 (y.1:Int)),(4,y.2)]) (λy=>[ap (ax aa) y.2 ((bO g).take y.1)]) (λ_=>[]) (λy=>y.1<=g.cells.length) (0,.slice none 0 0) (bJ _) (hk:=by repeat (first|exact aJ.nil|(apply aJ.cons;(focus (repeat (first|exact aA.here|apply aA.there)))))) (body:=?_);rintro⟨i,v4⟩ hi;dsimp only at hi⊢;have hil:((bO g).take i).length=i:=by rw[gL];omega
 refine go ?_;refine ay rfl (λh2=>?_) (λh2=>?_)
 ·have hn:=Uz hg (show i<g.cells.length by omega);refine go ?_;refine fJ aa ?_;refine aR (λy:Nat×Value=>g.cells.length - y.1) (λy=>[(7,.int .i64 (y.1:Int)),(6,y.2)]) (λy=>[ap aa y.2 (dU y.1 (rY g i))]) (λ_=>[]) (λy=>y.1<=g.cells.length) (0,.slice none 0 0) (bJ _) (hk:=by repeat (first|exact aJ.nil|(apply aJ.cons;(focus (repeat (first|exact aA.here|apply aA.there)))))) (body:=?_);rintro⟨j,v6⟩ hj;dsimp only at hj⊢;have hsl:=AO j (rY g i);refine go ?_;refine ay rfl (λh3=>?_) (λh3=>?_)
  ·refine go ?_;refine aj (ahq (g:=g) (vh:=vh) (vc:=vc) (a:=i) (b:=j) hg (by omega) (by omega)) (next:=λ_ _=>?_);have hss:=AL j (rY g i);refine go ?_;refine iZ rfl (λh4=>?_) (λh4=>?_)
   ·rw[if_pos h4]at hss;refine go ?_;intro JE;refine go ?_;refine eG aa (xs:=dU j (rY g i)) (j:Int) () (by omega) λad=>?_;rw[<- hss];refine go ?_;exact aD (j+1,.slice ad ((dU j (rY g i)).length+1) ((dU j (rY g i)).length+1)) (by show g.cells.length - (j+1)<g.cells.length - j;omega) (by show j+1<=_;omega)
   ·rw[if_neg (by show¬xO g.shape (iT g (i:Int)) (iT g (j:Int))=true;rw[h4];simp),gV]at hss;rw[<- hss];refine go ?_;exact aD (j+1,v6) (by show g.cells.length - (j+1)<g.cells.length - j;omega) (by show j+1<=_;omega)
  have fK:j=g.cells.length:=by omega
  subst fK;refine qi (E:=aa) (v:=v6) (xs:=dU g.cells.length (rY g i)) λa6 e6=>?_;subst e6;refine aW (fG (E:=aa) (v:=.slice a6 (dU g.cells.length (rY g i)).length (dU g.cells.length (rY g i)).length) (xs:=dU g.cells.length (rY g i))) (h:=?_);refine go ?_;intro b35;refine go ?_;refine eG (xs:=(bO g).take i) (ax aa) (dU g.cells.length (rY g i)) (.slice a6 (dU g.cells.length (rY g i)).length (dU g.cells.length (rY g i)).length) (by omega) (next:=λad=>?_);rw[<- bS hn];refine go ?_;exact aD (i+1,.slice ad (((bO g).take i).length+1) (((bO g).take i).length+1)) (by show g.cells.length - (i+1)<g.cells.length - i;omega) (by show i+1<=_;omega)
 have hie:i=g.cells.length:=by omega
 subst hie;rw[OY (by omega)];refine aW (fG (E:=ax aa) (v:=v4) (xs:=bO g)) (h:=?_);refine go ?_;refine kJ (c:=(0:Int)=0) (f:=ah (ax aa) v4 (bO g)) (by simp) ?_;exact ae ⟨v4,0⟩ (hv:=rfl) (hp:=⟨λ_=>hg,λ_=>rfl⟩)
theorem ahu{g:bD}(hg:fH g){k:Nat}(hk:k<g.cells.length):(-8<(iT g (k:Int)).1/\(iT g (k:Int)).1<16)/\0<=(iT g (k:Int)).2/\(iT g (k:Int)).2<16:=by
 obtain⟨hc,hr⟩:=zy hg hk;have hv:=JX hr;rcases hg.make.sh with hs|hs
 ·rw[Dr hk hs];dsimp only;omega
 ·rw[F9 hk hs];dsimp only;omega
theorem ahv{g:bD}(hg:fH g){k:Nat}(hk:k<g.cells.length)(f:Int): -16<=oC g.shape f (iT g (k:Int))/\oC g.shape f (iT g (k:Int))<=32:=by
 obtain⟨h1,h2⟩:=ahu hg hk;unfold oC;split
 ·omega
 split
 ·omega
 split<;>omega
abbrev tX(g:bD)(f n:Int):Int->Bool:=λb=>decide (oC g.shape f (iT g b)=n)
abbrev xZ(g:bD)(f:Int)(k:Nat):List (List Int):=zg (λn=>dU g.cells.length (tX g f n)) (-16) k
theorem ahw{g:bD}(hg:fH g)(f:Int):xZ g f 49=jg g λs=>(oC g.shape f s,true):=by
 rw[UC (lo:= -16) (k:=49) (λs=>(oC g.shape f s,true)) (λp hp _=>by
  obtain⟨h1,h2⟩:=Fy.1 hp;have h3:=ahv hg (k:=p.1.toNat) (by omega) f;rw[show((p.1.toNat:Nat):Int)=p.1 by omega,<- h2]at h3;dsimp only;omega)]
 unfold xZ;congr 1;funext n
 rw[UA];rfl
theorem ahx(L:Int->List Int)(lo:Int)(k:Nat):(zg L lo k).length<=k:=by
 unfold zg;refine oU (DK _ _) ?_;rw[dV];unfold vV;simp
theorem OZ{g:bD}{vh vc:Value}{f:Int}(hg:fH g):
 aV Tryz.prog (.func 174) [.agg ⟨iW g vh vc⟩,.int .i64 f] [] [] (jD g vh vc) (λv:Value=>v) (λv=>[ap (ax aa) v (jg g λs=>(oC g.shape f s,true))]) (λ_=>[]) (λ_=>True):=by
 have hgl:=hg.len;refine aC _ (aF 174) λB w0=>?_;refine go ?_;intro b1;refine aW (eB (b:=b1)) (h:=?_);refine go ?_;refine fJ (ax aa) ?_;refine aR (λy:Nat×Value=>49 - y.1) (λy=>[(6,.int .i64 (-16+(y.1:Int))),(5,y.2)]) (λy=>[ap (ax aa) y.2 (xZ g f y.1)]) (λ_=>[]) (λy=>y.1<=49) (0,.slice none 0 0) (by omega) (hk:=by repeat (first|exact aJ.nil|(apply aJ.cons;(focus (repeat (first|exact aA.here|apply aA.there)))))) (body:=?_);rintro⟨i,v5⟩ hi;dsimp only at hi⊢;have hil:(xZ g f i).length<=i:=ahx (λn=>dU g.cells.length (tX g f n)) (-16) i;have hls:xZ g f (i+1)=xZ g f i++if dU g.cells.length (tX g f (-16+(i:Int)))=[]then[]else[dU g.cells.length (tX g f (-16+(i:Int)))]:=UB (λn=>dU g.cells.length (tX g f n)) (-16) i
 have hin: -16+(i:Int)+1= -16+((i+1:Nat):Int):=by omega
 refine go ?_;refine ay rfl (λh2=>?_) (λh2=>?_)
 ·refine go ?_;refine fJ aa ?_;refine aR (λy:Nat×Value=>g.cells.length - y.1) (λy=>[(8,.int .i64 (y.1:Int)),(7,y.2)]) (λy=>[ap aa y.2 (dU y.1 (tX g f (-16+(i:Int))))]) (λ_=>[]) (λy=>y.1<=g.cells.length) (0,.slice none 0 0) (bJ _) (hk:=by repeat (first|exact aJ.nil|(apply aJ.cons;(focus (repeat (first|exact aA.here|apply aA.there)))))) (body:=?_);rintro⟨j,v7⟩ hj;dsimp only at hj⊢;have hsl:=AO j (tX g f (-16+(i:Int)));refine go ?_;refine ay rfl (λh3=>?_) (λh3=>?_)
  ·refine go ?_;refine aj (ahr (g:=g) (vh:=vh) (vc:=vc) (f:=f) (a:=j) hg (by omega)) (next:=λ_ _=>?_);have hss:=AL j (tX g f (-16+(i:Int)));refine go ?_;refine ay rfl (λh4=>?_) (λh4=>?_)
   ·rw[if_pos (dQ h4)]at hss;refine go ?_;intro JE;refine go ?_;refine eG aa (xs:=dU j (tX g f (-16+(i:Int)))) (j:Int) () (by omega) λad=>?_;rw[<- hss];refine go ?_;exact aD (j+1,.slice ad ((dU j (tX g f (-16+(i:Int)))).length+1) ((dU j (tX g f (-16+(i:Int)))).length+1)) (by show g.cells.length - (j+1)<g.cells.length - j;omega) (by show j+1<=_;omega)
   ·rw[if_neg (by show¬decide (oC g.shape f (iT g (j:Int))= -16+(i:Int))=true;rw[aS h4];simp),gV]at hss;rw[<- hss];refine go ?_;exact aD (j+1,v7) (by show g.cells.length - (j+1)<g.cells.length - j;omega) (by show j+1<=_;omega)
  have fK:j=g.cells.length:=by omega
  subst fK;generalize hL:dU g.cells.length (tX g f (-16+(i:Int)))=L at hls hsl⊢;refine qi (E:=aa) (v:=v7) (xs:=L) λa7 e7=>?_;subst e7;refine go ?_;refine ay rfl (λh5=>?_) (λh5=>?_)
  ·rw[if_neg (λe=>by rw[e]at h5;simp at h5)]at hls;refine aW (fG (E:=aa) (v:=.slice a7 L.length L.length) (xs:=L)) (h:=?_);refine go ?_;intro b35;refine go ?_;refine eG (xs:=xZ g f i) (ax aa) L (.slice a7 L.length L.length) (by omega) (next:=λad=>?_);rw[<- hls];refine go ?_;rw[hin];exact aD (i+1,.slice ad ((xZ g f i).length+1) ((xZ g f i).length+1)) (by show 49 - (i+1)<49 - i;omega) (by show i+1<=_;omega)
  ·rw[if_pos (jQ.1 (by omega)),gV]at hls;rw[<- hls];refine go ?_;rw[hin];exact aD (i+1,v5) (by show 49 - (i+1)<49 - i;omega) (by show i+1<=_;omega)
 have hie:i=49:=by omega
 subst hie;rw[ahw hg f];refine go ?_;exact ae v5 (hv:=rfl) (hp:=trivial)
abbrev ny(g:bD)(k:Nat):Int->Bool:=λb=>cond (Nat.beq k 0) (decide ((iT g b).1=(iT g b).2)) (decide ((iT g b).1+(iT g b).2=g.w - 1))
def rZ(g:bD)(k:Nat):List Int:=dU g.cells.length (ny g k)
def qP(l:List Int):List (List Int):=if l=[]then[]else[l]
theorem ahy{g:bD}(hs:g.shape=1)(hw:g.w=g.h):lZ g=mo (qP (rZ g 0)) (qP (rZ g 1)):=by
 unfold lZ;rw[if_neg (by omega),if_pos hw,UD (λs=>decide (s.1=s.2)),UD (λs=>decide (s.1+s.2=g.w - 1))];rfl
def mH(g:bD)(k:Nat):List (List Int):=if k=0 then[]else if k=1 then qP (rZ g 0)else mo (qP (rZ g 0)) (qP (rZ g 1))
theorem ahz(l:List Int):mo [] (qP l)=qP l:=by
 unfold qP;split
 ·rfl
 ·show xJ [] l=[l]
  unfold xJ;rw[if_neg (by simp)];rfl
theorem ahA(g:bD){k:Nat}(hk:k<2):mH g (k+1)=mo (mH g k) (qP (rZ g k)):=by
 rcases(show k=0\/k=1 by omega)with rfl|rfl
 ·exact(ahz _).symm
 ·rfl
theorem V9(O:List (List Int)){l:List Int}(hl:l≠[]):mo O (qP l)=if O.head? =some l then O else O++[l]:=by
 unfold qP;rw[if_neg hl];rfl
theorem ahB{g:bD}{vh vc:Value}(hg:fH g)(hs:g.shape=1):
 aV Tryz.prog (.func 175) [.agg ⟨iW g vh vc⟩] [] [] (jD g vh vc) (λv:Value=>v) (λv=>[ap (ax aa) v (lZ g)]) (λ_=>[]) (λ_=>True):=by
 have hgl:=hg.len;have FP:=hg.make.wi;refine aC _ (aF 175) λB w0=>?_;refine go ?_;intro b1;refine aW (eB (b:=b1)) (h:=?_);refine go ?_;refine fJ (ax aa) ?_;refine aR (λy:Nat×Value=>2 - y.1) (λy=>[(4,.int .i64 (y.1:Int)),(3,y.2)]) (λy=>[ap (ax aa) y.2 (mH g y.1)]) (λ_=>[]) (λy=>y.1<=2/\(y.1=0\/g.w=g.h)) (0,.slice none 0 0) ⟨by omega,.inl rfl⟩ (hk:=by repeat (first|exact aJ.nil|(apply aJ.cons;(focus (repeat (first|exact aA.here|apply aA.there)))))) (body:=?_);rintro⟨k,v3⟩ ⟨hk,O0⟩;dsimp only at hk O0⊢;have JY:∀l∈mH g k,l.length<=256:=λl hl=>by
  have h1:∀n,(rZ g n).length<=256:=λn=>by have:=AO g.cells.length (ny g n);unfold rZ;omega
  have h2:∀n,∀l∈qP (rZ g n),l.length<=256:=λn l hl=>by
   unfold qP at hl;split at hl
   ·cases hl
   ·rw[bM.1 hl];exact h1 n
  unfold mH at hl;split at hl
  ·cases hl
  split at hl
  ·exact h2 0 l hl
  ·rcases ND hl with hl|hl
   ·exact h2 0 l hl
   ·exact h2 1 l hl
 have hol:(mH g k).length<=2:=by
  unfold mH mo qP;split
  ·simp
  split
  ·split<;>simp
  ·split<;>split<;>simp[xJ]<;>split<;>simp
 refine go ?_;refine gG (λhk2=>?_) (λhk2=>?_)
 ·have e:k=2:=by omega
  subst e;have hw:g.w=g.h:=O0.resolve_left (by omega);rw[show mH g 2=lZ g from(ahy hs hw).symm];refine go ?_;exact ae v3 (hv:=rfl) (hp:=trivial)
 refine go ?_;refine ay rfl (λhw=>?_) (λhw=>?_)
 rotate_left
 ·have e:k=0:=O0.resolve_right hw;subst e;have e:lZ g=mH g 0:=by unfold lZ;rw[if_neg (by omega),if_neg hw];rfl
  rw[e];refine go ?_;exact ae v3 (hv:=rfl) (hp:=trivial)
 have hds:=ahA g (show k<2 by omega);rcases(show k=0\/k=1 by omega)with rfl|rfl
 ·refine go ?_;refine fJ aa ?_;refine aR (λy:Nat×Value=>g.cells.length - y.1) (λy=>[(6,.int .i64 (y.1:Int)),(5,y.2)]) (λy=>[ap aa y.2 (dU y.1 (ny g 0))]) (λ_=>[]) (λy=>y.1<=g.cells.length) (0,.slice none 0 0) (bJ _) (hk:=by repeat (first|exact aJ.nil|(apply aJ.cons;(focus (repeat (first|exact aA.here|apply aA.there)))))) (body:=?_);rintro⟨j,v5⟩ hj;dsimp only at hj⊢;have hsl:=AO j (ny g 0);refine go ?_;refine ay rfl (λh3=>?_) (λh3=>?_)
  ·have x8:=Dr (k:=j) (by omega) hs;obtain⟨hc,hr⟩:=zy hg (k:=j) (by omega);have hss:=AL j (ny g 0);refine go ?_;refine aj (Dq (g:=g) (vh:=vh) (vc:=vc) (k:=j) hg (by omega)) (next:=λ_ _=>?_);refine go ?_;refine aj (Bo (g:=g) (vh:=vh) (vc:=vc) (k:=j) hg (by omega)) (next:=λ_ _=>?_);generalize(g.cells[j]).tmod g.w=x at hc x8⊢;generalize(g.cells[j]).tdiv g.w=y at hr x8⊢;refine go ?_;refine gG (λh4=>?_) (λh4=>?_)
   rotate_left
   ·have hp:ny g 0 (j:Int)=true:=by show decide _=true;rw[x8];exact dQ (by dsimp only;omega)
    rw[if_pos hp]at hss;refine go ?_;intro JE;refine go ?_;refine eG aa (xs:=dU j (ny g 0)) (j:Int) () (by omega) λad=>?_;rw[<- hss];refine go ?_;exact aD (j+1,.slice ad ((dU j (ny g 0)).length+1) ((dU j (ny g 0)).length+1)) (by show g.cells.length - (j+1)<g.cells.length - j;omega) (by show j+1<=_;omega)
   ·have hp:¬ny g 0 (j:Int)=true:=by show¬decide _=true;rw[x8];intro h;have:=iw h;dsimp only at this;omega
    rw[if_neg hp,gV]at hss;rw[<- hss];refine go ?_;exact aD (j+1,v5) (by show g.cells.length - (j+1)<g.cells.length - j;omega) (by show j+1<=_;omega)
  have fK:j=g.cells.length:=by omega
  subst fK;have hL:dU g.cells.length (ny g 0)=rZ g 0:=rfl;rw[hL]at hsl⊢;generalize rZ g 0=L at hsl hds⊢;refine qi (E:=aa) (v:=v5) (xs:=L) λa5 e5=>?_;subst e5;refine aW (fG (E:=aa) (v:=.slice a5 L.length L.length) (xs:=L)) (h:=?_);generalize mH g 0=O at hds hol JY⊢;refine qi (E:=ax aa) (v:=v3) (xs:=O) λa3 e3=>?_;subst e3;refine go ?_;refine gG (λh5=>?_) (λh5=>?_)
  ·have e0:L=[]:=jQ.1 (by omega);have e1:mH g (0+1)=O:=by rw[hds,e0];rfl
   rw[<- e1];refine go ?_;exact aD (0+1,.slice a3 (mH g (0+1)).length (mH g (0+1)).length) (by show 2 - (0+1)<2 - 0;omega) ⟨by show 0+1<=2;omega,.inr hw⟩
  rw[V9 O (λe=>by rw[e]at h5;simp at h5)]at hds;refine go ?_;refine gG (λh6=>?_) (λh6=>?_)
  ·obtain⟨o,O2,rfl⟩:∃o O2,O=o::O2:=by
    cases O with
    |nil=>simp at h6
    |cons o O2=>exact⟨o,O2,rfl⟩
   refine go ?_;refine I8 aa (v:=.slice a3 (o::O2).length (o::O2).length) (xss:=o::O2) 0 o rfl (next:=λ_ _ u=>?_);refine go ?_;have ho:=JY o (dJ ..);rw[List.head?_cons]at hds;refine aj (Dp (xs:=o) (ys:=L) (by omega)) (next:=λ_ _=>?_);refine go ?_;refine eX rfl (λh7=>?_) (λh7=>?_)
   ·rw[if_neg (λe=>h7 (Option.some.inj e))]at hds;refine go ?_;intro O1;refine go ?_;refine eG (xs:=o::O2) (ax aa) L (.slice a5 L.length L.length) (by omega) (next:=λrV=>?_);rw[<- hds];refine go ?_;exact aD (0+1,.slice rV ((o::O2).length+1) ((o::O2).length+1)) (by show 2 - (0+1)<2 - 0;omega) ⟨by show 0+1<=2;omega,.inr hw⟩
   ·rw[if_pos (congrArg some h7)]at hds;rw[<- hds];refine go ?_;exact aD (0+1,.slice a3 (mH g (0+1)).length (mH g (0+1)).length) (by show 2 - (0+1)<2 - 0;omega) ⟨by show 0+1<=2;omega,.inr hw⟩
  have e0:O=[]:=jQ.1 (by omega);subst e0;rw[if_neg (by simp)]at hds;refine go ?_;intro O1;refine go ?_;refine eG (xs:=([]:List (List Int))) (ax aa) L (.slice a5 L.length L.length) (by simp) (next:=λad=>?_);rw[<- hds];refine go ?_;exact aD (0+1,.slice ad (([]:List (List Int)).length+1) (([]:List (List Int)).length+1)) (by show 2 - (0+1)<2 - 0;omega) ⟨by show 0+1<=2;omega,.inr hw⟩
 ·refine go ?_;refine fJ aa ?_;refine aR (λy:Nat×Value=>g.cells.length - y.1) (λy=>[(6,.int .i64 (y.1:Int)),(5,y.2)]) (λy=>[ap aa y.2 (dU y.1 (ny g 1))]) (λ_=>[]) (λy=>y.1<=g.cells.length) (0,.slice none 0 0) (bJ _) (hk:=by repeat (first|exact aJ.nil|(apply aJ.cons;(focus (repeat (first|exact aA.here|apply aA.there)))))) (body:=?_);rintro⟨j,v5⟩ hj;dsimp only at hj⊢;have hsl:=AO j (ny g 1);refine go ?_;refine ay rfl (λh3=>?_) (λh3=>?_)
  ·have x8:=Dr (k:=j) (by omega) hs;obtain⟨hc,hr⟩:=zy hg (k:=j) (by omega);have hss:=AL j (ny g 1);refine go ?_;refine aj (Dq (g:=g) (vh:=vh) (vc:=vc) (k:=j) hg (by omega)) (next:=λ_ _=>?_);refine go ?_;refine aj (Bo (g:=g) (vh:=vh) (vc:=vc) (k:=j) hg (by omega)) (next:=λ_ _=>?_);generalize(g.cells[j]).tmod g.w=x at hc x8⊢;generalize(g.cells[j]).tdiv g.w=y at hr x8⊢;refine go ?_;refine ay rfl (λh4=>?_) (λh4=>?_)
   ·have hp:ny g 1 (j:Int)=true:=by show decide _=true;rw[x8];exact dQ (by dsimp only;omega)
    rw[if_pos hp]at hss;refine go ?_;intro JE;refine go ?_;refine eG aa (xs:=dU j (ny g 1)) (j:Int) () (by omega) λad=>?_;rw[<- hss];refine go ?_;exact aD (j+1,.slice ad ((dU j (ny g 1)).length+1) ((dU j (ny g 1)).length+1)) (by show g.cells.length - (j+1)<g.cells.length - j;omega) (by show j+1<=_;omega)
   ·have hp:¬ny g 1 (j:Int)=true:=by show¬decide _=true;rw[x8];intro h;have:=iw h;dsimp only at this;omega
    rw[if_neg hp,gV]at hss;rw[<- hss];refine go ?_;exact aD (j+1,v5) (by show g.cells.length - (j+1)<g.cells.length - j;omega) (by show j+1<=_;omega)
  have fK:j=g.cells.length:=by omega
  subst fK;have hL:dU g.cells.length (ny g 1)=rZ g 1:=rfl;rw[hL]at hsl⊢;generalize rZ g 1=L at hsl hds⊢;refine qi (E:=aa) (v:=v5) (xs:=L) λa5 e5=>?_;subst e5;refine aW (fG (E:=aa) (v:=.slice a5 L.length L.length) (xs:=L)) (h:=?_);generalize mH g 1=O at hds hol JY⊢;refine qi (E:=ax aa) (v:=v3) (xs:=O) λa3 e3=>?_;subst e3;refine go ?_;refine gG (λh5=>?_) (λh5=>?_)
  ·have e0:L=[]:=jQ.1 (by omega);have e1:mH g (1+1)=O:=by rw[hds,e0];rfl
   rw[<- e1];refine go ?_;exact aD (1+1,.slice a3 (mH g (1+1)).length (mH g (1+1)).length) (by show 2 - (1+1)<2 - 1;omega) ⟨by show 1+1<=2;omega,.inr hw⟩
  rw[V9 O (λe=>by rw[e]at h5;simp at h5)]at hds;refine go ?_;refine gG (λh6=>?_) (λh6=>?_)
  ·obtain⟨o,O2,rfl⟩:∃o O2,O=o::O2:=by
    cases O with
    |nil=>simp at h6
    |cons o O2=>exact⟨o,O2,rfl⟩
   refine go ?_;refine I8 aa (v:=.slice a3 (o::O2).length (o::O2).length) (xss:=o::O2) 0 o rfl (next:=λ_ _ u=>?_);refine go ?_;have ho:=JY o (dJ ..);rw[List.head?_cons]at hds;refine aj (Dp (xs:=o) (ys:=L) (by omega)) (next:=λ_ _=>?_);refine go ?_;refine eX rfl (λh7=>?_) (λh7=>?_)
   ·rw[if_neg (λe=>h7 (Option.some.inj e))]at hds;refine go ?_;intro O1;refine go ?_;refine eG (xs:=o::O2) (ax aa) L (.slice a5 L.length L.length) (by omega) (next:=λrV=>?_);rw[<- hds];refine go ?_;exact aD (1+1,.slice rV ((o::O2).length+1) ((o::O2).length+1)) (by show 2 - (1+1)<2 - 1;omega) ⟨by show 1+1<=2;omega,.inr hw⟩
   ·rw[if_pos (congrArg some h7)]at hds;rw[<- hds];refine go ?_;exact aD (1+1,.slice a3 (mH g (1+1)).length (mH g (1+1)).length) (by show 2 - (1+1)<2 - 1;omega) ⟨by show 1+1<=2;omega,.inr hw⟩
  have e0:O=[]:=jQ.1 (by omega);subst e0;rw[if_neg (by simp)]at hds;refine go ?_;intro O1;refine go ?_;refine eG (xs:=([]:List (List Int))) (ax aa) L (.slice a5 L.length L.length) (by simp) (next:=λad=>?_);rw[<- hds];refine go ?_;exact aD (1+1,.slice ad (([]:List (List Int)).length+1) (([]:List (List Int)).length+1)) (by show 2 - (1+1)<2 - 1;omega) ⟨by show 1+1<=2;omega,.inr hw⟩
theorem ahC{g:bD}{vh vc:Value}{p:Int}(hg:fH g):aV Tryz.prog (.func 176) [.agg ⟨iW g vh vc⟩,.int .i64 p] [] [] (jD g vh vc) (λy:Nat×Bool=>.tuple ⟨[.int .i64 (y.1:Int),.bool y.2]⟩) (λ_=>[]) (λ_=>[]) (λy=>(y.2=true↔p∈g.cells)/\(y.2=true->xK p g.cells=y.1)):=by
 have hgl:=hg.len;have mX:g.cells.Pairwise (·<·):=by rw[hg.cells];exact Ns _ _
 refine aC _ (aF 176) λB w0=>?_;refine go ?_;intro b1;refine aW (eB (b:=b1)) (h:=?_);refine go ?_;refine aR (λk=>g.cells.length - k) (λk:Nat=>[(6,.int .i64 (k:Int))]) (λ_=>[]) (λ_=>[]) (λk=>k<=g.cells.length/\p∉g.cells.take k) 0 ⟨by omega,by simp⟩ (body:=?_);rintro k ⟨hk,hno⟩;refine go ?_;refine ay rfl (λh1=>?_) (λh1=>?_)
 ·refine go ?_;intro _ _ x hx;refine go ?_;refine ay rfl (λh2=>?_) (λh2=>?_)
  ·refine go ?_;subst h2;exact ae (k,true) (hv:=rfl) (hp:=⟨⟨λ_=>aP hx,λ_=>rfl⟩,λ_=>NA mX hx⟩)
  ·refine go ?_;refine aD (k+1) (by omega) ⟨by omega,?_⟩;rw[bS hx,dB,not_or];exact⟨hno,by simp;exact λe=>h2 e.symm⟩
 have:k=g.cells.length:=by omega
 subst this;rw[bC]at hno;refine go ?_;exact ae (0,false) (hv:=rfl) (hp:=⟨⟨(λh=>by cases h),λh=>absurd h hno⟩,(λh=>by cases h)⟩)
theorem We{g:bD}{vh vc vr:Value}{rs:List (List Int)}(hS:qM g)(hrl:rs.length<9223372036854775808)(hrs:∀ps∈rs,ps.length<9223372036854775808):
 aV Tryz.prog (.func 128) [.agg ⟨iW g vh vc⟩,vr] [] [] (ah (ax aa) vr rs::jD g vh vc) tT (λ_=>[]) (λy=>JL g rs y) (λy=>y.e=0↔fH g/\ze g rs):=by
 refine aC _ (aF 128) λB w0=>?_;refine aT (E:=ax aa) (v:=vr) (xs:=rs) (by simp) λar cr er=>?_;subst er;refine go ?_;intro b2;refine aW (eB (b:=b2)) (h:=?_);refine go ?_;refine aj (V7 (g:=g) hS) (next:=λe he=>?_);refine go ?_;refine gG (λh1=>?_) (λh1=>?_)
 rotate_left
 ·refine go ?_;refine kY (c:=(130:Int)=0) (f:=ah (ax aa) (.slice none 0 0) (eD g rs)) (by omega) ?_;exact ae ⟨.slice none 0 0,130⟩ (hv:=rfl) (hp:=⟨(λh=>by cases h),λh=>absurd (he.2 h.1) h1⟩)
 have hg:=he.1 (by omega);have hgl:=hg.len;refine go ?_;refine ay rfl (λh2=>?_) (λh2=>?_)
 ·refine go ?_;refine kY (c:=(130:Int)=0) (f:=ah (ax aa) (.slice none 0 0) (eD g rs)) (by omega) ?_;exact ae ⟨.slice none 0 0,130⟩ (hv:=rfl) (hp:=⟨(λh=>by cases h),λh=>by exfalso;have:=h.2.len;omega⟩)
 refine go ?_;refine fJ (ax aa) ?_;refine aR (λy:Nat×Value=>rs.length - y.1) (λy=>[(7,.int .i64 (y.1:Int)),(6,y.2)]) (λy=>[ap (ax aa) y.2 (eD g (rs.take y.1))]) (λ_=>[]) (λy=>y.1<=rs.length/\∀ps∈rs.take y.1,zb g ps) (0,.slice none 0 0) ⟨bJ _,λps h=>by cases h⟩ (hk:=by repeat (first|exact aJ.nil|(apply aJ.cons;(focus (repeat (first|exact aA.here|apply aA.there)))))) (body:=?_);rintro⟨k,v6⟩ ⟨hk,hall⟩;dsimp only at hk hall⊢;have hkl:(eD g (rs.take k)).length=k:=by unfold eD;rw[dV,gL];omega
 refine go ?_;refine ay rfl (λh3=>?_) (λh3=>?_)
 ·obtain⟨ps,hps⟩:∃ps,rs[k]? =some ps:=⟨rs[k]'(by omega),bN _⟩
  have hpm:=aP hps;have hpl:=hrs ps hpm;have htk:=bS hps;refine go ?_;refine fJ aa ?_;refine aR (λy:Nat×Value=>ps.length - y.1) (λy=>[(9,.int .i64 (y.1:Int)),(8,y.2)]) (λy=>[ap aa y.2 (fu g (ps.take y.1))]) (λ_=>[]) (λy=>y.1<=ps.length/\(∀p∈ps.take y.1,p∈g.cells)/\(fu g (ps.take y.1)).Nodup) (0,.slice none 0 0) ⟨bJ _,(λp h=>by cases h),wz⟩ (hk:=by repeat (first|exact aJ.nil|(apply aJ.cons;(focus (repeat (first|exact aA.here|apply aA.there)))))) (body:=?_);rintro⟨j,v8⟩ ⟨hj,hmem,hnd⟩;dsimp only at hj hmem hnd⊢;have hjl:(fu g (ps.take j)).length=j:=by unfold fu;rw[dV,gL];omega
  have hj2:j<=256:=by have:=Jm hmem hnd;rw[gL]at this;omega
  refine go ?_;refine aU (ax aa) (xs:=rs) (next:=λ_ _ ps' (vp:Value) O3=>?_);cases hps.symm.trans O3;refine go ?_;refine ay rfl (λh4=>?_) (λh4=>?_)
  ·refine go ?_;refine aU (ax aa) (xs:=rs) (next:=λ_ _ ps' (vp:Value) O3=>?_);cases hps.symm.trans O3;refine go ?_;intro _ _ x hx;have htx:=bS hx;refine go ?_;refine aj (ahC (g:=g) (vh:=vh) (vc:=vc) (p:=x) hg) (next:=λy hy=>?_);obtain⟨c,ok⟩:=y;obtain⟨hy1,hy2⟩:=hy;dsimp only at hy1 hy2⊢;cases ok with
   |false=>
    refine go ?_;refine kY (c:=(130:Int)=0) (f:=ah (ax aa) (.slice none 0 0) (eD g rs)) (by omega) ?_;exact ae ⟨.slice none 0 0,130⟩ (hv:=rfl) (hp:=⟨(λh=>by cases h),λh=>by
     have:=hy1.2 ((h.2.all ps hpm).mem x (aP hx));cases this⟩)
   |true=>
    have hxm:=hy1.1 rfl;have hpos:=hy2 rfl;have hr1:fu g (ps.take (j+1))=fu g (ps.take j)++[(c:Int)]:=by unfold fu;rw[htx,ed,oW,hpos]
    refine go ?_;refine aj (ahn (vl:=v8) (xs:=fu g (ps.take j)) (z:=(c:Int)) (by omega)) (next:=λ_ _=>?_);refine go ?_;refine ay rfl (λh5=>?_) (λh5=>?_)
    ·refine go ?_;refine kY (c:=(130:Int)=0) (f:=ah (ax aa) (.slice none 0 0) (eD g rs)) (by omega) ?_;exact ae ⟨.slice none 0 0,130⟩ (hv:=rfl) (hp:=⟨(λh=>by cases h),λh=>by
      exfalso
      have h6:(fu g ps).Nodup:=(h.2.all ps hpm).nd;have h7:(fu g (ps.take (j+1))).Nodup:=by
       refine h6.sublist ?_;unfold fu;exact(DR _ _).map _
      rw[hr1,iq]at h7;exact h7.2.2 _ h5 _ (bM.2 rfl) rfl⟩)
    ·refine go ?_;intro b53;refine go ?_;refine eG (xs:=fu g (ps.take j)) aa (c:Int) () (by omega) (next:=λad=>?_);rw[<- hr1];refine go ?_;refine aD (j+1,.slice ad ((fu g (ps.take j)).length+1) ((fu g (ps.take j)).length+1)) (by show ps.length - (j+1)<ps.length - j;omega) ⟨by show j+1<=_;omega,?_,?_⟩
     ·show∀p∈ps.take (j+1),p∈g.cells;rw[htx];intro p hp;rcases dB.1 hp with hp|hp
      ·exact hmem p hp
      ·rw[bM.1 hp];exact hxm
     ·show(fu g (ps.take (j+1))).Nodup;rw[hr1,iq];exact⟨hnd,by simp,λa ha b hb e=>h5 (by rw[bM.1 hb]at e;rw[<- e];exact ha)⟩
  have fK:j=ps.length:=by omega
  subst fK;rw[bC]at hmem hnd⊢;have hrl2:(fu g ps).length=ps.length:=by unfold fu;rw[dV]
  refine qi (E:=aa) (v:=v8) (xs:=fu g ps) λa8 e8=>?_;subst e8;refine go ?_;refine ay rfl (λh5=>?_) (λh5=>?_)
  ·refine go ?_;refine kY (c:=(130:Int)=0) (f:=ah (ax aa) (.slice none 0 0) (eD g rs)) (by omega) ?_;exact ae ⟨.slice none 0 0,130⟩ (hv:=rfl) (hp:=⟨(λh=>by cases h),λh=>by
    exfalso
    exact(h.2.all ps hpm).ne (jQ.1 (by omega))⟩)
  have hR:zb g ps:=⟨λe=>h5 (by rw[hrl2,e];rfl),hmem,hnd⟩
  have hrr:eD g (rs.take (k+1))=eD g (rs.take k)++[fu g ps]:=by unfold eD;rw[htk,ed,oW]
  refine aW (fG (E:=aa) (v:=.slice a8 (fu g ps).length (fu g ps).length) (xs:=fu g ps)) (h:=?_);refine go ?_;intro b61;refine go ?_;refine eG (xs:=eD g (rs.take k)) (ax aa) (fu g ps) (.slice a8 (fu g ps).length (fu g ps).length) (by omega) (next:=λad=>?_);rw[<- hrr];refine go ?_;refine aD (k+1,.slice ad ((eD g (rs.take k)).length+1) ((eD g (rs.take k)).length+1)) (by show rs.length - (k+1)<rs.length - k;omega) ⟨by show k+1<=_;omega,?_⟩;show∀qs∈rs.take (k+1),zb g qs;rw[htk];intro qs hq;rcases dB.1 hq with hq|hq
  ·exact hall qs hq
  ·rw[bM.1 hq];exact hR
 have hke:k=rs.length:=by omega
 subst hke;rw[bC]at hall⊢;refine aW (fG (E:=ax aa) (v:=v6) (xs:=eD g rs)) (h:=?_);refine go ?_;refine kJ (c:=(0:Int)=0) (f:=ah (ax aa) v6 (eD g rs)) (by simp) ?_;exact ae ⟨v6,0⟩ (hv:=rfl) (hp:=⟨λ_=>⟨hg,by omega,hall⟩,λ_=>rfl⟩)
theorem ahD(g:bD):(λs:Int×Int=>(oC g.shape 1 s,true))=λs=>(s.2,true):=by funext s;rfl
theorem ahE(g:bD):(λs:Int×Int=>(oC g.shape 2 s,true))=λs=>(s.1,true):=by funext s;unfold oC;simp
theorem ahF{g:bD}(h:g.shape=2):(λs:Int×Int=>(oC g.shape 3 s,true))=λs=>(s.1+s.2,true):=by funext s;unfold oC;simp[h]
theorem ahG{g:bD}{vh vc:Value}{k:Int}(hS:qM g):
 aV Tryz.prog (.func 127) [.agg ⟨iW g vh vc⟩,.int .i64 k] [] [] (jD g vh vc) tT (λ_=>[]) (λy=>JJ g k y) (λy=>y.e=0↔fH g/\0<=k/\k<=7):=by
 refine aC _ (aF 127) λB w0=>?_;refine go ?_;intro b2;refine aW (eB (b:=b2)) (h:=?_);refine go ?_;refine aj (V8 (g:=g) (vh:=vh) (vc:=vc) hS) (next:=λy hy=>?_);obtain⟨vn,e⟩:=y;dsimp only at hy⊢;refine go ?_;refine ay rfl (λh1=>?_) (λh1=>?_)
 ·refine go ?_;refine kY (c:=e=0) (f:=ah (ax aa) (.slice none 0 0) (dx g k)) h1 ?_;exact ae ⟨.slice none 0 0,e⟩ (hv:=rfl) (hp:=⟨(λh=>absurd h h1),λh=>absurd (hy.2 h.1) h1⟩)
 have he:e=0:=gM.1 h1;subst he;have hg:=hy.1 rfl;clear hy h1;have hgl:=hg.len;have hnl:=vP g;have hnm:=Jl (g:=g);refine fD (ah (ax aa) vn (bO g)) (λw hw=>hw (kX ((0:Int)=0) (ah (ax aa) vn (bO g))) (by simp) rfl) ?_;refine aT (E:=ax aa) (v:=vn) (xs:=bO g) (by simp) λan cn en=>?_;subst en;refine go ?_;refine gG (λh2=>?_) (λh2=>?_)
 rotate_left
 ·refine go ?_;refine kY (c:=(1:Int)=0) (f:=ah (ax aa) (.slice none 0 0) (dx g k)) (by omega) ?_;exact ae ⟨.slice none 0 0,1⟩ (hv:=rfl) (hp:=⟨(λh=>by cases h),λh=>by exfalso;have:=h.2;omega⟩)
 refine go ?_;refine ay rfl (λh3=>?_) (λh3=>?_)
 ·refine go ?_;refine kY (c:=(1:Int)=0) (f:=ah (ax aa) (.slice none 0 0) (dx g k)) (by omega) ?_;exact ae ⟨.slice none 0 0,1⟩ (hv:=rfl) (hp:=⟨(λh=>by cases h),λh=>by exfalso;have:=h.2;omega⟩)
 rcases(show k=0\/k=1\/k=2\/k=3\/k=4\/k=5\/k=6\/k=7 by omega)with rfl|rfl|rfl|rfl|rfl|rfl|rfl|rfl;all_goals clear h2 h3
 ·have hf:dx g 0=kF g.cells.length:=by simp[dx]
  refine go ?_;refine fJ aa ?_;refine fJ (ax aa) ?_;refine aR (λy:Nat×Value×Value=>g.cells.length - y.1) (λy=>[(10,.int .i64 (y.1:Int)),(9,y.2.1),(8,y.2.2)]) (λy=>[ap aa y.2.1 (upTo' y.1),ap (ax aa) y.2.2 (kF y.1)]) (λ_=>[]) (λy=>y.1<=g.cells.length) (0,.slice none 0 0,.slice none 0 0) (bJ _) (hk:=by repeat (first|exact aJ.nil|(apply aJ.cons;(focus (repeat (first|exact aA.here|apply aA.there)))))) (body:=?_);rintro⟨i,v9,v8⟩ hi;dsimp only at hi⊢;have hil:=oh i;have Wh:=T9 i;refine go ?_;refine ay rfl (λh2=>?_) (λh2=>?_)
  ·refine go ?_;intro xV;refine go ?_;refine eG (xs:=upTo' i) aa (i:Int) () (by omega) (next:=λad=>?_);rw[<- tN];refine go ?_;intro vW b38;refine aW (A:=pt vW (.cells [.int .i64 (i:Int)])) (fs:=[ah aa (.slice (some ⟨vW,0,some 0⟩) 1 1) [(i:Int)]]) (yU (b:=vW) (f:=0) (c:=1) (xs:=[(i:Int)])) (h:=?_);refine go ?_;refine eG (xs:=kF i) (ax aa) [(i:Int)] (.slice (some ⟨vW,0,some 0⟩) 1 1) (by omega) (next:=λrV=>?_);rw[<- TZ];refine go ?_;exact aD (i+1,.slice ad ((upTo' i).length+1) ((upTo' i).length+1),.slice rV ((kF i).length+1) ((kF i).length+1)) (by show g.cells.length - (i+1)<g.cells.length - i;omega) (by show i+1<=_;omega)
  have hie:i=g.cells.length:=by omega
  subst hie;refine go ?_;refine aW (fG (E:=ax aa) (v:=v8) (xs:=kF g.cells.length)) (h:=?_);refine go ?_;refine kJ (c:=(0:Int)=0) (f:=ah (ax aa) v8 (dx g 0)) (by rw[hf];simp) ?_;exact ae ⟨v8,0⟩ (hv:=rfl) (hp:=⟨λ_=>⟨hg,by omega,by omega⟩,λ_=>rfl⟩)
 ·have hf:dx g 1=jg g (λs=>(s.2,true)):=by simp[dx]
  refine go ?_;refine fJ aa ?_;refine aR (λy:Nat×Value=>g.cells.length - y.1) (λy=>[(10,.int .i64 (y.1:Int)),(9,y.2)]) (λy=>[ap aa y.2 (upTo' y.1)]) (λ_=>[]) (λy=>y.1<=g.cells.length) (0,.slice none 0 0) (bJ _) (hk:=by repeat (first|exact aJ.nil|(apply aJ.cons;(focus (repeat (first|exact aA.here|apply aA.there)))))) (body:=?_);rintro⟨i,v9⟩ hi;dsimp only at hi⊢;have hil:=oh i;refine go ?_;refine ay rfl (λh2=>?_) (λh2=>?_)
  ·refine go ?_;intro xV;refine go ?_;refine eG (xs:=upTo' i) aa (i:Int) () (by omega) (next:=λad=>?_);rw[<- tN];refine go ?_;exact aD (i+1,.slice ad ((upTo' i).length+1) ((upTo' i).length+1)) (by show g.cells.length - (i+1)<g.cells.length - i;omega) (by show i+1<=_;omega)
  have hie:i=g.cells.length:=by omega
  subst hie;refine go ?_;refine aj (OZ (g:=g) (vh:=vh) (vc:=vc) (f:=1) hg) (next:=λv8 _=>?_);rw[ahD];refine go ?_;refine aW (fG (E:=ax aa) (v:=v8) (xs:=jg g (λs=>(s.2,true)))) (h:=?_);refine go ?_;refine kJ (c:=(0:Int)=0) (f:=ah (ax aa) v8 (dx g 1)) (by rw[hf];simp) ?_;exact ae ⟨v8,0⟩ (hv:=rfl) (hp:=⟨λ_=>⟨hg,by omega,by omega⟩,λ_=>rfl⟩)
 ·have hf:dx g 2=jg g (λs=>(s.1,true)):=by simp[dx]
  refine go ?_;refine fJ aa ?_;refine aR (λy:Nat×Value=>g.cells.length - y.1) (λy=>[(10,.int .i64 (y.1:Int)),(9,y.2)]) (λy=>[ap aa y.2 (upTo' y.1)]) (λ_=>[]) (λy=>y.1<=g.cells.length) (0,.slice none 0 0) (bJ _) (hk:=by repeat (first|exact aJ.nil|(apply aJ.cons;(focus (repeat (first|exact aA.here|apply aA.there)))))) (body:=?_);rintro⟨i,v9⟩ hi;dsimp only at hi⊢;have hil:=oh i;refine go ?_;refine ay rfl (λh2=>?_) (λh2=>?_)
  ·refine go ?_;intro xV;refine go ?_;refine eG (xs:=upTo' i) aa (i:Int) () (by omega) (next:=λad=>?_);rw[<- tN];refine go ?_;exact aD (i+1,.slice ad ((upTo' i).length+1) ((upTo' i).length+1)) (by show g.cells.length - (i+1)<g.cells.length - i;omega) (by show i+1<=_;omega)
  have hie:i=g.cells.length:=by omega
  subst hie;refine go ?_;refine aj (OZ (g:=g) (vh:=vh) (vc:=vc) (f:=2) hg) (next:=λv8 _=>?_);rw[ahE];refine go ?_;refine aW (fG (E:=ax aa) (v:=v8) (xs:=jg g (λs=>(s.1,true)))) (h:=?_);refine go ?_;refine kJ (c:=(0:Int)=0) (f:=ah (ax aa) v8 (dx g 2)) (by rw[hf];simp) ?_;exact ae ⟨v8,0⟩ (hv:=rfl) (hp:=⟨λ_=>⟨hg,by omega,by omega⟩,λ_=>rfl⟩)
 ·have hf:dx g 3=lZ g:=by simp[dx]
  refine go ?_;refine fJ aa ?_;refine aR (λy:Nat×Value=>g.cells.length - y.1) (λy=>[(10,.int .i64 (y.1:Int)),(9,y.2)]) (λy=>[ap aa y.2 (upTo' y.1)]) (λ_=>[]) (λy=>y.1<=g.cells.length) (0,.slice none 0 0) (bJ _) (hk:=by repeat (first|exact aJ.nil|(apply aJ.cons;(focus (repeat (first|exact aA.here|apply aA.there)))))) (body:=?_);rintro⟨i,v9⟩ hi;dsimp only at hi⊢;have hil:=oh i;refine go ?_;refine ay rfl (λh2=>?_) (λh2=>?_)
  ·refine go ?_;intro xV;refine go ?_;refine eG (xs:=upTo' i) aa (i:Int) () (by omega) (next:=λad=>?_);rw[<- tN];refine go ?_;exact aD (i+1,.slice ad ((upTo' i).length+1) ((upTo' i).length+1)) (by show g.cells.length - (i+1)<g.cells.length - i;omega) (by show i+1<=_;omega)
  have hie:i=g.cells.length:=by omega
  subst hie;refine go ?_;refine ay rfl (λh4=>?_) (λh4=>?_)
  ·refine go ?_;refine aj (ahB (g:=g) (vh:=vh) (vc:=vc) hg h4) (next:=λv8 _=>?_);refine go ?_;refine aW (fG (E:=ax aa) (v:=v8) (xs:=lZ g)) (h:=?_);refine go ?_;refine kJ (c:=(0:Int)=0) (f:=ah (ax aa) v8 (dx g 3)) (by rw[hf];simp) ?_;exact ae ⟨v8,0⟩ (hv:=rfl) (hp:=⟨λ_=>⟨hg,by omega,by omega⟩,λ_=>rfl⟩)
  ·have h5:g.shape=2:=hg.make.sh.resolve_left h4;have hd:lZ g=jg g (λs=>(s.1+s.2,true)):=by unfold lZ;rw[if_pos h5]
   refine go ?_;refine aj (OZ (g:=g) (vh:=vh) (vc:=vc) (f:=3) hg) (next:=λv8 _=>?_);rw[ahF h5,<- hd];refine go ?_;refine aW (fG (E:=ax aa) (v:=v8) (xs:=lZ g)) (h:=?_);refine go ?_;refine kJ (c:=(0:Int)=0) (f:=ah (ax aa) v8 (dx g 3)) (by rw[hf];simp) ?_;exact ae ⟨v8,0⟩ (hv:=rfl) (hp:=⟨λ_=>⟨hg,by omega,by omega⟩,λ_=>rfl⟩)
 ·have hf:dx g 4=bO g:=by simp[dx]
  refine go ?_;refine fJ aa ?_;refine aR (λy:Nat×Value=>g.cells.length - y.1) (λy=>[(10,.int .i64 (y.1:Int)),(9,y.2)]) (λy=>[ap aa y.2 (upTo' y.1)]) (λ_=>[]) (λy=>y.1<=g.cells.length) (0,.slice none 0 0) (bJ _) (hk:=by repeat (first|exact aJ.nil|(apply aJ.cons;(focus (repeat (first|exact aA.here|apply aA.there)))))) (body:=?_);rintro⟨i,v9⟩ hi;dsimp only at hi⊢;have hil:=oh i;refine go ?_;refine ay rfl (λh2=>?_) (λh2=>?_)
  ·refine go ?_;intro xV;refine go ?_;refine eG (xs:=upTo' i) aa (i:Int) () (by omega) (next:=λad=>?_);rw[<- tN];refine go ?_;exact aD (i+1,.slice ad ((upTo' i).length+1) ((upTo' i).length+1)) (by show g.cells.length - (i+1)<g.cells.length - i;omega) (by show i+1<=_;omega)
  have hie:i=g.cells.length:=by omega
  subst hie;refine go ?_;refine kJ (c:=(0:Int)=0) (f:=ah (ax aa) (.slice an (bO g).length cn) (dx g 4)) (by rw[hf];simp) ?_;exact ae ⟨.slice an (bO g).length cn,0⟩ (hv:=rfl) (hp:=⟨λ_=>⟨hg,by omega,by omega⟩,λ_=>rfl⟩)
 ·have hf:dx g 5=lH (bO g):=by simp[dx]
  refine go ?_;refine fJ aa ?_;refine fJ (ax aa) ?_;refine aR (λy:Nat×Value×Value=>g.cells.length - y.1) (λy=>[(10,.int .i64 (y.1:Int)),(9,y.2.1),(8,y.2.2)]) (λy=>[ap aa y.2.1 (upTo' y.1),ap (ax aa) y.2.2 (lH ((bO g).take y.1))]) (λ_=>[]) (λy=>y.1<=g.cells.length) (0,.slice none 0 0,.slice none 0 0) (bJ _) (hk:=by repeat (first|exact aJ.nil|(apply aJ.cons;(focus (repeat (first|exact aA.here|apply aA.there)))))) (body:=?_);rintro⟨i,v9,v8⟩ hi;dsimp only at hi⊢;have hil:=oh i;have Wh:(lH ((bO g).take i)).length=i:=by rw[Ub,gL];omega
  refine go ?_;refine ay rfl (λh2=>?_) (λh2=>?_)
  ·obtain⟨ln,hln⟩:∃ln,(bO g)[i]? =some ln:=⟨(bO g)[i]'(by omega),bN _⟩
   have hll:=hnm ln (aP hln);have hfs:=Ua hln;rw[aeb hg hln]at hfs;refine go ?_;intro xV;refine go ?_;refine eG (xs:=upTo' i) aa (i:Int) () (by omega) (next:=λad=>?_);rw[<- tN];refine go ?_;refine fJ aa ?_;refine aR (λy:Nat×Value=>g.cells.length - y.1) (λy=>[(12,.int .i64 (y.1:Int)),(11,y.2)]) (λy=>[ap aa y.2 (dU y.1 λb=>decide (b=(i:Int))||decide (b∈ln))]) (λ_=>[]) (λy=>y.1<=g.cells.length) (0,.slice none 0 0) (bJ _) (hk:=by repeat (first|exact aJ.nil|(apply aJ.cons;(focus (repeat (first|exact aA.here|apply aA.there)))))) (body:=?_);rintro⟨j,v11⟩ hj;dsimp only at hj⊢;have hsl:=AO j λb=>decide (b=(i:Int))||decide (b∈ln);refine go ?_;refine ay rfl (λh3=>?_) (λh3=>?_)
   ·have hss:=AL j λb=>decide (b=(i:Int))||decide (b∈ln);refine go ?_;refine gG (λh4=>?_) (λh4=>?_)
    ·refine go ?_;refine aU (ax aa) (xs:=bO g) (next:=λ_ _ O4 (vl:Value) hl=>?_);cases hln.symm.trans hl;refine go ?_;refine aj (JV (xs:=ln) (z:=(j:Int)) (by omega)) (next:=λ_ _=>?_);refine go ?_;refine ay rfl (λh5=>?_) (λh5=>?_)
     ·rw[if_pos (by simp[h5])]at hss;refine go ?_;intro b69;refine go ?_;refine eG (xs:=dU j λb=>decide (b=(i:Int))||decide (b∈ln)) aa (j:Int) () (by omega) (next:=λad=>?_);rw[<- hss];refine go ?_;exact aD (j+1,.slice ad ((dU j λb=>decide (b=(i:Int))||decide (b∈ln)).length+1) ((dU j λb=>decide (b=(i:Int))||decide (b∈ln)).length+1)) (by show g.cells.length - (j+1)<g.cells.length - j;omega) (by show j+1<=_;omega)
     ·rw[if_neg (by simp only[yo,yu,not_or];exact⟨h4,h5⟩),gV]at hss;rw[<- hss];refine go ?_;exact aD (j+1,v11) (by show g.cells.length - (j+1)<g.cells.length - j;omega) (by show j+1<=_;omega)
    ·rw[if_pos (by simp[h4])]at hss;refine go ?_;intro b69;refine go ?_;refine eG (xs:=dU j λb=>decide (b=(i:Int))||decide (b∈ln)) aa (j:Int) () (by omega) (next:=λad=>?_);rw[<- hss];refine go ?_;exact aD (j+1,.slice ad ((dU j λb=>decide (b=(i:Int))||decide (b∈ln)).length+1) ((dU j λb=>decide (b=(i:Int))||decide (b∈ln)).length+1)) (by show g.cells.length - (j+1)<g.cells.length - j;omega) (by show j+1<=_;omega)
   have fK:j=g.cells.length:=by omega
   subst fK;generalize(dU g.cells.length λb=>decide (b=(i:Int))||decide (b∈ln))=zs at hfs⊢;refine qi (E:=aa) (v:=v11) (xs:=zs) λWi e11=>?_;subst e11;refine aW (fG (E:=aa) (v:=.slice Wi zs.length zs.length) (xs:=zs)) (h:=?_);refine go ?_;intro b73;refine go ?_;refine eG (xs:=lH ((bO g).take i)) (ax aa) zs (.slice Wi zs.length zs.length) (by omega) (next:=λrV=>?_);rw[<- hfs];refine go ?_;exact aD (i+1,.slice ad ((upTo' i).length+1) ((upTo' i).length+1),.slice rV ((lH ((bO g).take i)).length+1) ((lH ((bO g).take i)).length+1)) (by show g.cells.length - (i+1)<g.cells.length - i;omega) (by show i+1<=_;omega)
  have hie:i=g.cells.length:=by omega
  subst hie;rw[OY (by omega)];refine go ?_;refine aW (fG (E:=ax aa) (v:=v8) (xs:=lH (bO g))) (h:=?_);refine go ?_;refine kJ (c:=(0:Int)=0) (f:=ah (ax aa) v8 (dx g 5)) (by rw[hf];simp) ?_;exact ae ⟨v8,0⟩ (hv:=rfl) (hp:=⟨λ_=>⟨hg,by omega,by omega⟩,λ_=>rfl⟩)
 ·have hf:dx g 6=iA (bO g):=by simp[dx]
  have h6:=Jk hnm;refine go ?_;refine fJ aa ?_;refine fJ (ax aa) ?_;refine aR (λy:Nat×Value×Value=>g.cells.length - y.1) (λy=>[(10,.int .i64 (y.1:Int)),(9,y.2.1),(8,y.2.2)]) (λy=>[ap aa y.2.1 (upTo' y.1),ap (ax aa) y.2.2 (iA ((bO g).take y.1))]) (λ_=>[]) (λy=>y.1<=g.cells.length) (0,.slice none 0 0,.slice none 0 0) (bJ _) (hk:=by repeat (first|exact aJ.nil|(apply aJ.cons;(focus (repeat (first|exact aA.here|apply aA.there)))))) (body:=?_);rintro⟨i,v9,v8⟩ hi;dsimp only at hi⊢;have hil:=oh i;have Wh:=h6 i (by omega);refine go ?_;refine ay rfl (λh2=>?_) (λh2=>?_)
  ·obtain⟨ln,hln⟩:∃ln,(bO g)[i]? =some ln:=⟨(bO g)[i]'(by omega),bN _⟩
   have hll:=hnm ln (aP hln);have hfs:=Nz hln;refine go ?_;intro xV;refine go ?_;refine eG (xs:=upTo' i) aa (i:Int) () (by omega) (next:=λad=>?_);rw[<- tN];refine go ?_;refine aR (λy:Nat×Value=>ln.length - y.1) (λy=>[(13,.int .i64 (y.1:Int)),(8,y.2)]) (λy=>[ap (ax aa) y.2 (iA ((bO g).take i)++jJ i (ln.take y.1))]) (λ_=>[]) (λy=>y.1<=ln.length) (0,v8) (bJ _) (hk:=by rw[show iA ((bO g).take i)++jJ i (ln.take 0)=iA ((bO g).take i)from gV _];repeat (first|exact aJ.nil|(apply aJ.cons;(focus (repeat (first|exact aA.here|apply aA.there)))))) (body:=?_);rintro⟨j,v5⟩ hj;dsimp only at hj⊢;have hpl:=Ny i (ln.take j);rw[gL]at hpl;have hal:(iA ((bO g).take i)++jJ i (ln.take j)).length<=2000:=by rw[gU];omega
   refine go ?_;refine aU (ax aa) (xs:=bO g) (next:=λ_ _ O4 (vl:Value) hl=>?_);cases hln.symm.trans hl;refine go ?_;refine ay rfl (λh3=>?_) (λh3=>?_)
   ·refine go ?_;refine aU (ax aa) (xs:=bO g) (next:=λ_ _ O4 (vl:Value) hl=>?_);cases hln.symm.trans hl;refine go ?_;intro _ _ x hx;have hps:=Uc (i:=i) hx;refine go ?_;refine ay rfl (λh4=>?_) (λh4=>?_)
    ·have A8:iA ((bO g).take i)++jJ i (ln.take (j+1))=(iA ((bO g).take i)++jJ i (ln.take j))++[[(i:Int),x]]:=by rw[hps,if_pos (by omega),fI]
     refine go ?_;refine aU (ax aa) (xs:=bO g) (next:=λ_ _ O4 (vl:Value) hl=>?_);cases hln.symm.trans hl;refine go ?_;intro _ _ x' hx';cases hx.symm.trans hx';refine go ?_;intro xW b98;refine aW (A:=pt xW (.cells [.int .i64 (i:Int),.int .i64 x])) (fs:=[ah aa (.slice (some ⟨xW,0,some 0⟩) 2 2) [(i:Int),x]]) (yU (b:=xW) (f:=0) (c:=2) (xs:=[(i:Int),x])) (h:=?_);refine go ?_;refine eG (xs:=iA ((bO g).take i)++jJ i (ln.take j)) (ax aa) [(i:Int),x] (.slice (some ⟨xW,0,some 0⟩) 2 2) (by omega) (next:=λrV=>?_);rw[<- A8];refine go ?_;exact aD (j+1,.slice rV ((iA ((bO g).take i)++jJ i (ln.take j)).length+1) ((iA ((bO g).take i)++jJ i (ln.take j)).length+1)) (by show ln.length - (j+1)<ln.length - j;omega) (by show j+1<=_;omega)
    ·have A8:iA ((bO g).take i)++jJ i (ln.take (j+1))=iA ((bO g).take i)++jJ i (ln.take j):=by rw[hps,if_neg (by omega),gV]
     rw[<- A8];refine go ?_;exact aD (j+1,v5) (by show ln.length - (j+1)<ln.length - j;omega) (by show j+1<=_;omega)
   have fK:j=ln.length:=by omega
   subst fK;rw[bC,<- hfs];refine go ?_;exact aD (i+1,.slice ad ((upTo' i).length+1) ((upTo' i).length+1),v5) (by show g.cells.length - (i+1)<g.cells.length - i;omega) (by show i+1<=_;omega)
  have hie:i=g.cells.length:=by omega
  subst hie;rw[OY (by omega)];refine go ?_;refine aW (fG (E:=ax aa) (v:=v8) (xs:=iA (bO g))) (h:=?_);refine go ?_;refine kJ (c:=(0:Int)=0) (f:=ah (ax aa) v8 (dx g 6)) (by rw[hf];simp) ?_;exact ae ⟨v8,0⟩ (hv:=rfl) (hp:=⟨λ_=>⟨hg,by omega,by omega⟩,λ_=>rfl⟩)
 ·have hf:dx g 7=[upTo' g.cells.length]:=by simp[dx]
  refine go ?_;refine fJ aa ?_;refine aR (λy:Nat×Value=>g.cells.length - y.1) (λy=>[(10,.int .i64 (y.1:Int)),(9,y.2)]) (λy=>[ap aa y.2 (upTo' y.1)]) (λ_=>[]) (λy=>y.1<=g.cells.length) (0,.slice none 0 0) (bJ _) (hk:=by repeat (first|exact aJ.nil|(apply aJ.cons;(focus (repeat (first|exact aA.here|apply aA.there)))))) (body:=?_);rintro⟨i,v9⟩ hi;dsimp only at hi⊢;have hil:=oh i;refine go ?_;refine ay rfl (λh2=>?_) (λh2=>?_)
  ·refine go ?_;intro xV;refine go ?_;refine eG (xs:=upTo' i) aa (i:Int) () (by omega) (next:=λad=>?_);rw[<- tN];refine go ?_;exact aD (i+1,.slice ad ((upTo' i).length+1) ((upTo' i).length+1)) (by show g.cells.length - (i+1)<g.cells.length - i;omega) (by show i+1<=_;omega)
  have hie:i=g.cells.length:=by omega
  subst hie;refine aW (fG (E:=aa) (v:=v9) (xs:=upTo' g.cells.length)) (h:=?_);refine aT (E:=aa) (v:=v9) (xs:=upTo' g.cells.length) (by simp) λa4 c4 e4=>?_;subst e4;refine go ?_;intro JZ;refine aW (eB (b:=JZ)) (h:=?_);refine fD (ah (ax aa) (A7 JZ 1) [upTo' g.cells.length]) (λw hw=>IR (v:=.slice a4 (upTo' g.cells.length).length c4) (hw _ (by simp)) (hw _ (by simp))) ?_;refine go ?_;refine kJ (c:=(0:Int)=0) (f:=ah (ax aa) (A7 JZ 1) (dx g 7)) (by rw[hf];simp) ?_;exact ae ⟨A7 JZ 1,0⟩ (hv:=rfl) (hp:=⟨λ_=>⟨hg,by omega,by omega⟩,λ_=>rfl⟩)
