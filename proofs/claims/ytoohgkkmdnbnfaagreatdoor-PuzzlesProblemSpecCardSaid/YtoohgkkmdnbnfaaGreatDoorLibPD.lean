/-
  The reference's grids: made, checked; neighbors.
-/
import Derived.Test.YtoohgkkmdnbnfaaGreatDoorLibOD
import Derived.Test.YtoohgkkmdnbnfaaGreatDoorLibED
set_option linter.all false
set_option maxRecDepth 10000
set_option maxHeartbeats 4000000
namespace Go.Proofs.YtoohgkkmdnbnfaaGreatDoor
open Go.Ideal Kd
theorem NB{s w h:Int}{holes:List Int}{vh:Value}(hw64:j3 w)(adA:j3 h)(hl:holes.length<4611686018427387904):
 bn Tryz.prog (.func 91) [.int .i64 s,.int .i64 w,.int .i64 h,vh] [] [] [ah aa vh holes] (mkV s w h holes) (λ_=>[]) (oq s w h holes) (λy=>y.ok=true↔nL s w h holes):=by
 refine aI _ (aO 91) λB w0=>?_;refine go ?_;intro b8;refine go ?_;by_cases hsh:s=1\/s=2
 rotate_left
 ·rw[dS (show s≠1 from λe=>hsh (.inl e))];refine go ?_;rw[dS (show s≠2 from λe=>hsh (.inr e))];refine go ?_;refine ae ⟨false,.nilFunc,.nilFunc⟩ (hv:=rfl) (hp:=⟨(λe=>by cases e),λe=>?_⟩)
  exfalso
  have e:=uJ.2 e;obtain⟨q1,q2,q3,q4,q5,q6⟩:=e;exact hsh q1
 rcases hsh with rfl|rfl;all_goals
  refine go ?_;first|with_reducible refine aN (λa1=>?_) (λa1=>?_)|with_reducible refine aM (λa1=>?_) (λa1=>?_)|with_reducible refine aK (λa1=>?_) (λa1=>?_)
  rotate_left
  ·refine go ?_;refine ae ⟨false,.nilFunc,.nilFunc⟩ (hv:=rfl) (hp:=⟨(λe=>by cases e),λe=>?_⟩)
   exfalso
   have e:=uJ.2 e;obtain⟨q1,q2,q3,q4,q5,q6⟩:=e;omega
  refine go ?_;first|with_reducible refine aN (λa2=>?_) (λa2=>?_)|with_reducible refine aM (λa2=>?_) (λa2=>?_)|with_reducible refine aK (λa2=>?_) (λa2=>?_)
  rotate_left
  ·refine go ?_;refine ae ⟨false,.nilFunc,.nilFunc⟩ (hv:=rfl) (hp:=⟨(λe=>by cases e),λe=>?_⟩)
   exfalso
   have e:=uJ.2 e;obtain⟨q1,q2,q3,q4,q5,q6⟩:=e;omega
  refine go ?_;first|with_reducible refine aN (λa3=>?_) (λa3=>?_)|with_reducible refine aM (λa3=>?_) (λa3=>?_)|with_reducible refine aK (λa3=>?_) (λa3=>?_)
  rotate_left
  ·refine go ?_;refine ae ⟨false,.nilFunc,.nilFunc⟩ (hv:=rfl) (hp:=⟨(λe=>by cases e),λe=>?_⟩)
   exfalso
   have e:=uJ.2 e;obtain⟨q1,q2,q3,q4,q5,q6⟩:=e;omega
  refine go ?_;refine ay rfl (λa4=>?_) (λa4=>?_)
  ·refine go ?_;refine ae ⟨false,.nilFunc,.nilFunc⟩ (hv:=rfl) (hp:=⟨(λe=>by cases e),λe=>?_⟩)
   exfalso
   have e:=uJ.2 e;obtain⟨q1,q2,q3,q4,q5,q6⟩:=e;omega
  have hwh:=wh (w:=w) (h:=h) ⟨by omega,by omega⟩ ⟨by omega,by omega⟩;refine go ?_;refine aZ (λk=>holes.length - k) (λk:Nat=>[(10,.int .i64 (k:Int))]) (λ_=>[]) (λ_=>[]) (λk=>k<=holes.length/\(holes.take k).Pairwise (·<·)/\∀x∈holes.take k,0<=x/\x<w*h) 0 ⟨bY _,by simp,by simp⟩ (body:=?_);rintro k ⟨hk,l5,hmem⟩;refine go ?_;refine ay rfl (λa6=>?_) (λa6=>?_)
  ·refine go ?_;intro _ _ x hx;have hxm:=bH hx;have htk:holes.take (k+1)=holes.take k++[x]:=by rw[mo,hx];rfl
   have hstep:0<=x->x<w*h->(∀a∈holes.take k,a<x)->k+1<=holes.length/\(holes.take (k+1)).Pairwise (·<·)/\∀z∈holes.take (k+1),0<=z/\z<w*h:=λq1 q2 q3=>by
    refine⟨by omega,?_,?_⟩
    ·rw[htk,JA];exact⟨l5,by simp,λa ha b hb=>by rw[bI.1 hb];exact q3 a ha⟩
    ·rw[htk];intro z hz;rcases dZ.1 hz with hz|hz
     ·exact hmem z hz
     ·rw[bI.1 hz];exact⟨q1,q2⟩
   refine go ?_;first|with_reducible refine aN (λb1=>?_) (λb1=>?_)|with_reducible refine aM (λb1=>?_) (λb1=>?_)|with_reducible refine aK (λb1=>?_) (λb1=>?_)
   rotate_left
   ·refine go ?_;refine ae ⟨false,.nilFunc,.nilFunc⟩ (hv:=rfl) (hp:=⟨(λe=>by cases e),λe=>?_⟩)
    exfalso
    have e:=uJ.2 e;obtain⟨q1,q2,q3,q4,q5,q6⟩:=e;have:=q5 x hxm;omega
   refine go ?_;intro _ _ x' hx';cases hx.symm.trans hx';refine go ?_;first|with_reducible refine aN (λb2=>?_) (λb2=>?_)|with_reducible refine aM (λb2=>?_) (λb2=>?_)|with_reducible refine aK (λb2=>?_) (λb2=>?_)
   rotate_left
   ·refine go ?_;refine ae ⟨false,.nilFunc,.nilFunc⟩ (hv:=rfl) (hp:=⟨(λe=>by cases e),λe=>?_⟩)
    exfalso
    have e:=uJ.2 e;obtain⟨q1,q2,q3,q4,q5,q6⟩:=e;have:=q5 x hxm;omega
   refine go ?_;first|with_reducible refine aN (λb3=>?_) (λb3=>?_)|with_reducible refine aM (λb3=>?_) (λb3=>?_)|with_reducible refine aK (λb3=>?_) (λb3=>?_)
   ·refine go ?_;refine aP (k+1) (by omega) (hstep (by omega) (by omega) λa ha=>?_);rw[show k=0 by omega,List.take_zero]at ha;cases ha
   refine go ?_;intro _ _ x' hx' _ _ z hz;cases hx.symm.trans hx';obtain⟨j,rfl⟩:∃j,k=j+1:=⟨k - 1,by omega⟩
   rw[show(((j+1:Nat):Int) - 1).toNat=j by omega]at hz;have hzj:holes.take (j+1)=holes.take j++[z]:=by rw[mo,hz];rfl
   refine go ?_;refine ay rfl (λb4=>?_) (λb4=>?_)
   ·refine go ?_;refine ae ⟨false,.nilFunc,.nilFunc⟩ (hv:=rfl) (hp:=⟨(λe=>by cases e),λe=>?_⟩)
    exfalso
    have e:=uJ.2 e;obtain⟨q1,q2,q3,q4,q5,q6⟩:=e;obtain⟨d1,d2⟩:=bP.1 hz;obtain⟨d3,d4⟩:=bP.1 hx;have:=CB.1 q4 j (j+1) d1 d3 (by omega);rw[d2,d4]at this;omega
   refine go ?_;refine aP (j+1+1) (by omega) (hstep (by omega) (by omega) λa ha=>?_);have:=Ud l5 ha;rw[hzj,Uc]at this;omega
  have hkl:k=holes.length:=by omega
  subst hkl;rw[bK]at l5 hmem;clear a6 hk;obtain⟨m,hm⟩:=qf (show 0<=w*h by omega);have Ex:lZ w h holes=gG m holes:=by
   unfold lZ;rw[hm];rfl
  have hmm:∀x∈holes,0<=x/\x<(m:Int):=λx hx=>by rw[<- hm];exact hmem x hx
  refine go ?_;intro b11;refine go ?_;refine fZ aa ?_;refine fZ aa ?_;refine aZ (λy:Nat×Value×Value=>m - y.1) (λy=>[(12,.int .i64 (y.1:Int))]) (λy=>[pt b11 (.cells [.int .i64 _,.int .i64 w,.int .i64 h,y.2.1,y.2.2]),ap aa y.2.1 (dR y.1 λi=>decide (i∈holes)),ap aa y.2.2 (gG y.1 holes)]) (λ_=>[]) (λy=>y.1<=m) (0,.slice none 0 0,.slice none 0 0) (bY _) (hk:=by repeat (first|exact aG.nil|(apply aG.cons;(focus (repeat (first|exact az.here|apply az.there)))))) (body:=?_);rintro⟨k,v1,v2⟩ hk;dsimp only at hk⊢;have hcl:=BK k holes;have hsl:=zS k λi=>decide (i∈holes);refine go ?_;rw[hm];refine go ?_;refine ay rfl (λa9=>?_) (λa9=>?_)
  ·refine go ?_;refine ax (I8 (xs:=holes) (z:=(k:Int)) (by omega)) (next:=λ_ _=>?_);refine go ?_;refine ay rfl (λhin=>?_) (λhin=>?_)
   ·have e1:gG (k+1) holes=gG k holes:=by rw[Ie,if_pos hin,gN]
    have e2:dR (k+1) (λi=>decide (i∈holes))=dR k (λi=>decide (i∈holes))++[(k:Int)]:=by rw[zR,if_pos (dS hin)]
    refine go ?_;intro b91;refine go ?_;refine eO aa (xs:=dR k λi=>decide (i∈holes)) (k:Int) () (by omega) λad=>?_;rw[<- e1,<- e2];refine go ?_;exact aP (k+1,.slice ad ((dR k λi=>decide (i∈holes)).length+1) ((dR k λi=>decide (i∈holes)).length+1),v2) (by show m - (k+1)<m - k;omega) (by show k+1<=m;omega)
   ·have e1:gG (k+1) holes=gG k holes++[(k:Int)]:=by rw[Ie,if_neg hin]
    have e2:dR (k+1) (λi=>decide (i∈holes))=dR k (λi=>decide (i∈holes)):=by rw[zR,if_neg (by simp[hin]),gN]
    refine go ?_;intro b91;refine go ?_;refine eO aa (xs:=gG k holes) (k:Int) () (by omega) λad=>?_;rw[<- e1,<- e2];refine go ?_;exact aP (k+1,v1,.slice ad ((gG k holes).length+1) ((gG k holes).length+1)) (by show m - (k+1)<m - k;omega) (by show k+1<=m;omega)
  have hkm:k=m:=by omega
  subst hkm;rw[Tv l5 hmm];refine oV (E:=aa) (v:=v2) (xs:=gG k holes) λa2 hv2=>?_;subst hv2;refine go ?_;refine ay rfl (λa7=>?_) (λa7=>?_)
  ·refine go ?_;refine ae ⟨false,.nilFunc,.nilFunc⟩ (hv:=rfl) (hp:=⟨(λe=>by cases e),λe=>?_⟩)
   exfalso
   have e:=uJ.2 e;obtain⟨q1,q2,q3,q4,q5,q6⟩:=e;rw[Ex]at q6;exact q6 (jM.1 (by omega))
  refine go ?_;refine bA (fV (E:=aa) (v:=v1) (xs:=holes)) (h:=?_);refine bA (fV (E:=aa) (v:=.slice a2 (gG k holes).length (gG k holes).length) (xs:=gG k holes)) (h:=?_);refine go ?_;refine ae ⟨true,v1,.slice a2 (gG k holes).length (gG k holes).length⟩ (hv:=rfl) (hp:=⟨λ_=>uJ.1 ⟨by first|exact .inl rfl|exact .inr rfl,⟨by omega,by omega⟩,⟨by omega,by omega⟩,l5,hmem,by rw[Ex];exact λe=>a7 (by rw[e];rfl)⟩,λ_=>rfl⟩) (hF:=?_);show Sub [ah aa _ holes,ah aa _ (lZ w h holes)] _;rw[Ex];exact .cons (by simp) (.cons (by simp) .nil)
theorem UH{g:bC}{vh vc:Value}(hS:pV g):
 bn Tryz.prog (.func 132) [.agg ⟨iO g vh vc⟩] [] [] (jq g vh vc) (λe:Int=>.int .i64 e) (λ_=>[]) (λ_=>[]) (λe=>e=0↔fw g):=by
 refine aI _ (aO 132) λB w0=>?_;refine go ?_;intro b1;refine go ?_;refine ax (NB (s:=g.shape) (w:=g.w) (h:=g.h) (holes:=g.holes) (vh:=vh) hS.w hS.h hS.holes) (next:=λy hy=>?_);obtain⟨ok,v1,v2⟩:=y;cases ok with
 |false=>
  have hno:¬nL g.shape g.w g.h g.holes:=λh=>by have:=hy.2 h;cases this
  dsimp only[mkV,oq,cond,List.nil_append];refine go ?_;intro b3;refine go ?_;exact ae 130 (hv:=rfl) (hp:=⟨(λh=>by cases h),λh=>absurd h.make hno⟩)
 |true=>
  have hmk:=hy.1 rfl;dsimp only[mkV,oq,cond,jq,uN,List.cons_append,List.nil_append];refine go ?_;intro b3;refine go ?_;refine ax (Ch (xs:=lZ g.w g.h g.holes) (ys:=g.cells) (by
   have:=BK (g.w*g.h).toNat g.holes;have:=wh hmk.wi hmk.he;unfold lZ;omega)) (next:=λ_ _=>?_)
  refine go ?_;refine eF rfl (λh1=>?_) (λh1=>?_)
  ·refine go ?_;exact ae 130 (hv:=rfl) (hp:=⟨(λh=>by cases h),λh=>absurd h.cells.symm h1⟩)
  ·refine go ?_;exact ae 0 (hv:=rfl) (hp:=⟨λ_=>⟨hmk,h1.symm⟩,λ_=>rfl⟩)
theorem NC{α:Type}{xs:List α}{k:Nat}(h:xs.length<=k):xs.take k=xs:=uX h
abbrev qK(g:bC)(a:Nat):Int->Bool:=λb=>wB g.shape (iN g (a:Int)) (iN g b)
theorem UI{g:bC}{vh vc:Value}(hS:pV g):
 bn Tryz.prog (.func 92) [.agg ⟨iO g vh vc⟩] [] [] (jq g vh vc) uO (λ_=>[]) (λy=>[l9 (y.e=0) (ah (aj aa) y.v (bJ g))]) (λy=>y.e=0↔fw g):=by
 refine aI _ (aO 92) λB w0=>?_;refine go ?_;intro b1;refine bA (eD (b:=b1)) (h:=?_);refine go ?_;refine ax (UH (g:=g) (vh:=vh) (vc:=vc) hS) (next:=λe he=>?_);refine go ?_;refine ay rfl (λh1=>?_) (λh1=>?_)
 ·refine go ?_;refine lK (c:=(130:Int)=0) (f:=ah (aj aa) (.slice none 0 0) (bJ g)) (by omega) ?_;exact ae ⟨.slice none 0 0,130⟩ (hv:=rfl) (hp:=⟨(λh=>by cases h),λh=>absurd (he.2 h) h1⟩)
 have hg:=he.1 (iI.1 h1);clear he h1;have hgl:=hg.len;have hnl:=xZ g;refine go ?_;refine fZ (aj aa) ?_;refine aZ (λy:Nat×Value=>g.cells.length - y.1) (λy=>[(5,.int .i64 (y.1:Int)),(4,y.2)]) (λy=>[ap (aj aa) y.2 ((bJ g).take y.1)]) (λ_=>[]) (λy=>y.1<=g.cells.length) (0,.slice none 0 0) (bY _) (hk:=by repeat (first|exact aG.nil|(apply aG.cons;(focus (repeat (first|exact az.here|apply az.there)))))) (body:=?_);rintro⟨i,v4⟩ hi;dsimp only at hi⊢;have hil:((bJ g).take i).length=i:=by rw[gW];omega
 refine go ?_;refine ay rfl (λh2=>?_) (λh2=>?_)
 ·have hn:=Tw hg (show i<g.cells.length by omega);refine go ?_;refine fZ aa ?_;refine aZ (λy:Nat×Value=>g.cells.length - y.1) (λy=>[(7,.int .i64 (y.1:Int)),(6,y.2)]) (λy=>[ap aa y.2 (dR y.1 (qK g i))]) (λ_=>[]) (λy=>y.1<=g.cells.length) (0,.slice none 0 0) (bY _) (hk:=by repeat (first|exact aG.nil|(apply aG.cons;(focus (repeat (first|exact az.here|apply az.there)))))) (body:=?_);rintro⟨j,v6⟩ hj;dsimp only at hj⊢;have hsl:=zS j (qK g i);refine go ?_;refine ay rfl (λh3=>?_) (λh3=>?_)
  ·refine go ?_;refine ax (afG (g:=g) (vh:=vh) (vc:=vc) (a:=i) (b:=j) hg (by omega) (by omega)) (next:=λ_ _=>?_);have hss:=zR j (qK g i);refine go ?_;refine jZ rfl (λh4=>?_) (λh4=>?_)
   ·rw[if_pos h4]at hss;refine go ?_;intro ND;refine go ?_;refine eO aa (xs:=dR j (qK g i)) (j:Int) () (by omega) λad=>?_;rw[<- hss];refine go ?_;exact aP (j+1,.slice ad ((dR j (qK g i)).length+1) ((dR j (qK g i)).length+1)) (by show g.cells.length - (j+1)<g.cells.length - j;omega) (by show j+1<=_;omega)
   ·rw[if_neg (by show¬wB g.shape (iN g (i:Int)) (iN g (j:Int))=true;rw[h4];simp),gN]at hss;rw[<- hss];refine go ?_;exact aP (j+1,v6) (by show g.cells.length - (j+1)<g.cells.length - j;omega) (by show j+1<=_;omega)
  have ig:j=g.cells.length:=by omega
  subst ig;refine oV (E:=aa) (v:=v6) (xs:=dR g.cells.length (qK g i)) λa6 e6=>?_;subst e6;refine bA (fV (E:=aa) (v:=.slice a6 (dR g.cells.length (qK g i)).length (dR g.cells.length (qK g i)).length) (xs:=dR g.cells.length (qK g i))) (h:=?_);refine go ?_;intro b35;refine go ?_;refine eO (xs:=(bJ g).take i) (aj aa) (dR g.cells.length (qK g i)) (.slice a6 (dR g.cells.length (qK g i)).length (dR g.cells.length (qK g i)).length) (by omega) (next:=λad=>?_);rw[<- bU hn];refine go ?_;exact aP (i+1,.slice ad (((bJ g).take i).length+1) (((bJ g).take i).length+1)) (by show g.cells.length - (i+1)<g.cells.length - i;omega) (by show i+1<=_;omega)
 have hie:i=g.cells.length:=by omega
 subst hie;rw[NC (by omega)];refine bA (fV (E:=aj aa) (v:=v4) (xs:=bJ g)) (h:=?_);refine go ?_;refine kQ (c:=(0:Int)=0) (f:=ah (aj aa) v4 (bJ g)) (by simp) ?_;exact ae ⟨v4,0⟩ (hv:=rfl) (hp:=⟨λ_=>hg,λ_=>rfl⟩)
theorem afK{g:bC}(hg:fw g){k:Nat}(hk:k<g.cells.length):(-8<(iN g (k:Int)).1/\(iN g (k:Int)).1<16)/\0<=(iN g (k:Int)).2/\(iN g (k:Int)).2<16:=by
 obtain⟨hc,hr⟩:=yG hg hk;have hv:=Ja hr;rcases hg.make.sh with hs|hs
 ·rw[Cj hk hs];dsimp only;omega
 ·rw[EQ hk hs];dsimp only;omega
theorem afL{g:bC}(hg:fw g){k:Nat}(hk:k<g.cells.length)(f:Int): -16<=ny g.shape f (iN g (k:Int))/\ny g.shape f (iN g (k:Int))<=32:=by
 obtain⟨h1,h2⟩:=afK hg hk;unfold ny;split
 ·omega
 split
 ·omega
 split<;>omega
abbrev rX(g:bC)(f n:Int):Int->Bool:=λb=>decide (ny g.shape f (iN g b)=n)
abbrev wM(g:bC)(f:Int)(k:Nat):List (List Int):=yo (λn=>dR g.cells.length (rX g f n)) (-16) k
theorem afM{g:bC}(hg:fw g)(f:Int):wM g f 49=iU g λs=>(ny g.shape f s,true):=by
 rw[Tz (lo:= -16) (k:=49) (λs=>(ny g.shape f s,true)) (λp hp _=>by
  obtain⟨h1,h2⟩:=Es.1 hp;have h3:=afL hg (k:=p.1.toNat) (by omega) f;rw[show((p.1.toNat:Nat):Int)=p.1 by omega,<- h2]at h3;dsimp only;omega)]
 unfold wM;congr 1;funext n
 rw[Tx];rfl
theorem afN(L:Int->List Int)(lo:Int)(k:Nat):(yo L lo k).length<=k:=by
 unfold yo;refine mh (Au _ _) ?_;rw[cz];unfold uK;simp
theorem NE{g:bC}{vh vc:Value}{f:Int}(hg:fw g):
 bn Tryz.prog (.func 134) [.agg ⟨iO g vh vc⟩,.int .i64 f] [] [] (jq g vh vc) (λv:Value=>v) (λv=>[ap (aj aa) v (iU g λs=>(ny g.shape f s,true))]) (λ_=>[]) (λ_=>True):=by
 have hgl:=hg.len;refine aI _ (aO 134) λB w0=>?_;refine go ?_;intro b1;refine bA (eD (b:=b1)) (h:=?_);refine go ?_;refine fZ (aj aa) ?_;refine aZ (λy:Nat×Value=>49 - y.1) (λy=>[(6,.int .i64 (-16+(y.1:Int))),(5,y.2)]) (λy=>[ap (aj aa) y.2 (wM g f y.1)]) (λ_=>[]) (λy=>y.1<=49) (0,.slice none 0 0) (by omega) (hk:=by repeat (first|exact aG.nil|(apply aG.cons;(focus (repeat (first|exact az.here|apply az.there)))))) (body:=?_);rintro⟨i,v5⟩ hi;dsimp only at hi⊢;have hil:(wM g f i).length<=i:=afN (λn=>dR g.cells.length (rX g f n)) (-16) i;have hls:wM g f (i+1)=wM g f i++if dR g.cells.length (rX g f (-16+(i:Int)))=[]then[]else[dR g.cells.length (rX g f (-16+(i:Int)))]:=Ty (λn=>dR g.cells.length (rX g f n)) (-16) i
 have hin: -16+(i:Int)+1= -16+((i+1:Nat):Int):=by omega
 refine go ?_;refine ay rfl (λh2=>?_) (λh2=>?_)
 ·refine go ?_;refine fZ aa ?_;refine aZ (λy:Nat×Value=>g.cells.length - y.1) (λy=>[(8,.int .i64 (y.1:Int)),(7,y.2)]) (λy=>[ap aa y.2 (dR y.1 (rX g f (-16+(i:Int))))]) (λ_=>[]) (λy=>y.1<=g.cells.length) (0,.slice none 0 0) (bY _) (hk:=by repeat (first|exact aG.nil|(apply aG.cons;(focus (repeat (first|exact az.here|apply az.there)))))) (body:=?_);rintro⟨j,v7⟩ hj;dsimp only at hj⊢;have hsl:=zS j (rX g f (-16+(i:Int)));refine go ?_;refine ay rfl (λh3=>?_) (λh3=>?_)
  ·refine go ?_;refine ax (afH (g:=g) (vh:=vh) (vc:=vc) (f:=f) (a:=j) hg (by omega)) (next:=λ_ _=>?_);have hss:=zR j (rX g f (-16+(i:Int)));refine go ?_;refine ay rfl (λh4=>?_) (λh4=>?_)
   ·rw[if_pos (dS h4)]at hss;refine go ?_;intro ND;refine go ?_;refine eO aa (xs:=dR j (rX g f (-16+(i:Int)))) (j:Int) () (by omega) λad=>?_;rw[<- hss];refine go ?_;exact aP (j+1,.slice ad ((dR j (rX g f (-16+(i:Int)))).length+1) ((dR j (rX g f (-16+(i:Int)))).length+1)) (by show g.cells.length - (j+1)<g.cells.length - j;omega) (by show j+1<=_;omega)
   ·rw[if_neg (by show¬decide (ny g.shape f (iN g (j:Int))= -16+(i:Int))=true;rw[aU h4];simp),gN]at hss;rw[<- hss];refine go ?_;exact aP (j+1,v7) (by show g.cells.length - (j+1)<g.cells.length - j;omega) (by show j+1<=_;omega)
  have ig:j=g.cells.length:=by omega
  subst ig;generalize hL:dR g.cells.length (rX g f (-16+(i:Int)))=L at hls hsl⊢;refine oV (E:=aa) (v:=v7) (xs:=L) λa7 e7=>?_;subst e7;refine go ?_;refine ay rfl (λh5=>?_) (λh5=>?_)
  ·rw[if_neg (λe=>by rw[e]at h5;simp at h5)]at hls;refine bA (fV (E:=aa) (v:=.slice a7 L.length L.length) (xs:=L)) (h:=?_);refine go ?_;intro b35;refine go ?_;refine eO (xs:=wM g f i) (aj aa) L (.slice a7 L.length L.length) (by omega) (next:=λad=>?_);rw[<- hls];refine go ?_;rw[hin];exact aP (i+1,.slice ad ((wM g f i).length+1) ((wM g f i).length+1)) (by show 49 - (i+1)<49 - i;omega) (by show i+1<=_;omega)
  ·rw[if_pos (jM.1 (by omega)),gN]at hls;rw[<- hls];refine go ?_;rw[hin];exact aP (i+1,v5) (by show 49 - (i+1)<49 - i;omega) (by show i+1<=_;omega)
 have hie:i=49:=by omega
 subst hie;rw[afM hg f];refine go ?_;exact ae v5 (hv:=rfl) (hp:=trivial)
abbrev mg(g:bC)(k:Nat):Int->Bool:=λb=>cond (Nat.beq k 0) (decide ((iN g b).1=(iN g b).2)) (decide ((iN g b).1+(iN g b).2=g.w - 1))
def qL(g:bC)(k:Nat):List Int:=dR g.cells.length (mg g k)
def pX(l:List Int):List (List Int):=if l=[]then[]else[l]
theorem afO{g:bC}(hs:g.shape=1)(hw:g.w=g.h):kW g=lF (pX (qL g 0)) (pX (qL g 1)):=by
 unfold kW;rw[if_neg (by omega),if_pos hw,TA (λs=>decide (s.1=s.2)),TA (λs=>decide (s.1+s.2=g.w - 1))];rfl
def lM(g:bC)(k:Nat):List (List Int):=if k=0 then[]else if k=1 then pX (qL g 0)else lF (pX (qL g 0)) (pX (qL g 1))
theorem afP(l:List Int):lF [] (pX l)=pX l:=by
 unfold pX;split
 ·rfl
 ·show wy [] l=[l]
  unfold wy;rw[if_neg (by simp)];rfl
theorem afQ(g:bC){k:Nat}(hk:k<2):lM g (k+1)=lF (lM g k) (pX (qL g k)):=by
 rcases(show k=0\/k=1 by omega)with rfl|rfl
 ·exact(afP _).symm
 ·rfl
theorem UJ(O:List (List Int)){l:List Int}(hl:l≠[]):lF O (pX l)=if O.head? =some l then O else O++[l]:=by
 unfold pX;rw[if_neg hl];rfl
theorem afR{g:bC}{vh vc:Value}(hg:fw g)(hs:g.shape=1):
 bn Tryz.prog (.func 135) [.agg ⟨iO g vh vc⟩] [] [] (jq g vh vc) (λv:Value=>v) (λv=>[ap (aj aa) v (kW g)]) (λ_=>[]) (λ_=>True):=by
 have hgl:=hg.len;have Ey:=hg.make.wi;refine aI _ (aO 135) λB w0=>?_;refine go ?_;intro b1;refine bA (eD (b:=b1)) (h:=?_);refine go ?_;refine fZ (aj aa) ?_;refine aZ (λy:Nat×Value=>2 - y.1) (λy=>[(4,.int .i64 (y.1:Int)),(3,y.2)]) (λy=>[ap (aj aa) y.2 (lM g y.1)]) (λ_=>[]) (λy=>y.1<=2/\(y.1=0\/g.w=g.h)) (0,.slice none 0 0) ⟨by omega,.inl rfl⟩ (hk:=by repeat (first|exact aG.nil|(apply aG.cons;(focus (repeat (first|exact az.here|apply az.there)))))) (body:=?_);rintro⟨k,v3⟩ ⟨hk,NF⟩;dsimp only at hk NF⊢;have Jb:∀l∈lM g k,l.length<=256:=λl hl=>by
  have h1:∀n,(qL g n).length<=256:=λn=>by have:=zS g.cells.length (mg g n);unfold qL;omega
  have h2:∀n,∀l∈pX (qL g n),l.length<=256:=λn l hl=>by
   unfold pX at hl;split at hl
   ·cases hl
   ·rw[bI.1 hl];exact h1 n
  unfold lM at hl;split at hl
  ·cases hl
  split at hl
  ·exact h2 0 l hl
  ·rcases Mr hl with hl|hl
   ·exact h2 0 l hl
   ·exact h2 1 l hl
 have hol:(lM g k).length<=2:=by
  unfold lM lF pX;split
  ·simp
  split
  ·split<;>simp
  ·split<;>split<;>simp[wy]<;>split<;>simp
 refine go ?_;first|with_reducible refine aN (λhk2=>?_) (λhk2=>?_)|with_reducible refine aM (λhk2=>?_) (λhk2=>?_)|with_reducible refine aK (λhk2=>?_) (λhk2=>?_)
 ·have e:k=2:=by omega
  subst e;have hw:g.w=g.h:=NF.resolve_left (by omega);rw[show lM g 2=kW g from(afO hs hw).symm];refine go ?_;exact ae v3 (hv:=rfl) (hp:=trivial)
 refine go ?_;refine ay rfl (λhw=>?_) (λhw=>?_)
 rotate_left
 ·have e:k=0:=NF.resolve_right hw;subst e;have e:kW g=lM g 0:=by unfold kW;rw[if_neg (by omega),if_neg hw];rfl
  rw[e];refine go ?_;exact ae v3 (hv:=rfl) (hp:=trivial)
 have hds:=afQ g (show k<2 by omega);rcases(show k=0\/k=1 by omega)with rfl|rfl
 ·refine go ?_;refine fZ aa ?_;refine aZ (λy:Nat×Value=>g.cells.length - y.1) (λy=>[(6,.int .i64 (y.1:Int)),(5,y.2)]) (λy=>[ap aa y.2 (dR y.1 (mg g 0))]) (λ_=>[]) (λy=>y.1<=g.cells.length) (0,.slice none 0 0) (bY _) (hk:=by repeat (first|exact aG.nil|(apply aG.cons;(focus (repeat (first|exact az.here|apply az.there)))))) (body:=?_);rintro⟨j,v5⟩ hj;dsimp only at hj⊢;have hsl:=zS j (mg g 0);refine go ?_;refine ay rfl (λh3=>?_) (λh3=>?_)
  ·have wN:=Cj (k:=j) (by omega) hs;obtain⟨hc,hr⟩:=yG hg (k:=j) (by omega);have hss:=zR j (mg g 0);refine go ?_;refine ax (Ci (g:=g) (vh:=vh) (vc:=vc) (k:=j) hg (by omega)) (next:=λ_ _=>?_);refine go ?_;refine ax (Ae (g:=g) (vh:=vh) (vc:=vc) (k:=j) hg (by omega)) (next:=λ_ _=>?_);generalize(g.cells[j]).tmod g.w=x at hc wN⊢;generalize(g.cells[j]).tdiv g.w=y at hr wN⊢;refine go ?_;first|with_reducible refine aN (λh4=>?_) (λh4=>?_)|with_reducible refine aM (λh4=>?_) (λh4=>?_)|with_reducible refine aK (λh4=>?_) (λh4=>?_)
   rotate_left
   ·have hp:mg g 0 (j:Int)=true:=by show decide _=true;rw[wN];exact dS (by dsimp only;omega)
    rw[if_pos hp]at hss;refine go ?_;intro ND;refine go ?_;refine eO aa (xs:=dR j (mg g 0)) (j:Int) () (by omega) λad=>?_;rw[<- hss];refine go ?_;exact aP (j+1,.slice ad ((dR j (mg g 0)).length+1) ((dR j (mg g 0)).length+1)) (by show g.cells.length - (j+1)<g.cells.length - j;omega) (by show j+1<=_;omega)
   ·have hp:¬mg g 0 (j:Int)=true:=by show¬decide _=true;rw[wN];intro h;have:=gX h;dsimp only at this;omega
    rw[if_neg hp,gN]at hss;rw[<- hss];refine go ?_;exact aP (j+1,v5) (by show g.cells.length - (j+1)<g.cells.length - j;omega) (by show j+1<=_;omega)
  have ig:j=g.cells.length:=by omega
  subst ig;have hL:dR g.cells.length (mg g 0)=qL g 0:=rfl;rw[hL]at hsl⊢;generalize qL g 0=L at hsl hds⊢;refine oV (E:=aa) (v:=v5) (xs:=L) λa5 e5=>?_;subst e5;refine bA (fV (E:=aa) (v:=.slice a5 L.length L.length) (xs:=L)) (h:=?_);generalize lM g 0=O at hds hol Jb⊢;refine oV (E:=aj aa) (v:=v3) (xs:=O) λa3 e3=>?_;subst e3;refine go ?_;first|with_reducible refine aN (λh5=>?_) (λh5=>?_)|with_reducible refine aM (λh5=>?_) (λh5=>?_)|with_reducible refine aK (λh5=>?_) (λh5=>?_)
  ·have e0:L=[]:=jM.1 (by omega);have e1:lM g (0+1)=O:=by rw[hds,e0];rfl
   rw[<- e1];refine go ?_;exact aP (0+1,.slice a3 (lM g (0+1)).length (lM g (0+1)).length) (by show 2 - (0+1)<2 - 0;omega) ⟨by show 0+1<=2;omega,.inr hw⟩
  rw[UJ O (λe=>by rw[e]at h5;simp at h5)]at hds;refine go ?_;first|with_reducible refine aN (λh6=>?_) (λh6=>?_)|with_reducible refine aM (λh6=>?_) (λh6=>?_)|with_reducible refine aK (λh6=>?_) (λh6=>?_)
  ·obtain⟨o,O2,rfl⟩:∃o O2,O=o::O2:=by
    cases O with
    |nil=>simp at h6
    |cons o O2=>exact⟨o,O2,rfl⟩
   refine go ?_;refine HZ aa (v:=.slice a3 (o::O2).length (o::O2).length) (xss:=o::O2) 0 o rfl (next:=λ_ _ u=>?_);refine go ?_;have ho:=Jb o (dM ..);rw[List.head?_cons]at hds;refine ax (Ch (xs:=o) (ys:=L) (by omega)) (next:=λ_ _=>?_);refine go ?_;refine eF rfl (λh7=>?_) (λh7=>?_)
   ·rw[if_neg (λe=>h7 (Option.some.inj e))]at hds;refine go ?_;intro NG;refine go ?_;refine eO (xs:=o::O2) (aj aa) L (.slice a5 L.length L.length) (by omega) (next:=λqG=>?_);rw[<- hds];refine go ?_;exact aP (0+1,.slice qG ((o::O2).length+1) ((o::O2).length+1)) (by show 2 - (0+1)<2 - 0;omega) ⟨by show 0+1<=2;omega,.inr hw⟩
   ·rw[if_pos (congrArg some h7)]at hds;rw[<- hds];refine go ?_;exact aP (0+1,.slice a3 (lM g (0+1)).length (lM g (0+1)).length) (by show 2 - (0+1)<2 - 0;omega) ⟨by show 0+1<=2;omega,.inr hw⟩
  have e0:O=[]:=jM.1 (by omega);subst e0;rw[if_neg (by simp)]at hds;refine go ?_;intro NG;refine go ?_;refine eO (xs:=([]:List (List Int))) (aj aa) L (.slice a5 L.length L.length) (by simp) (next:=λad=>?_);rw[<- hds];refine go ?_;exact aP (0+1,.slice ad (([]:List (List Int)).length+1) (([]:List (List Int)).length+1)) (by show 2 - (0+1)<2 - 0;omega) ⟨by show 0+1<=2;omega,.inr hw⟩
 ·refine go ?_;refine fZ aa ?_;refine aZ (λy:Nat×Value=>g.cells.length - y.1) (λy=>[(6,.int .i64 (y.1:Int)),(5,y.2)]) (λy=>[ap aa y.2 (dR y.1 (mg g 1))]) (λ_=>[]) (λy=>y.1<=g.cells.length) (0,.slice none 0 0) (bY _) (hk:=by repeat (first|exact aG.nil|(apply aG.cons;(focus (repeat (first|exact az.here|apply az.there)))))) (body:=?_);rintro⟨j,v5⟩ hj;dsimp only at hj⊢;have hsl:=zS j (mg g 1);refine go ?_;refine ay rfl (λh3=>?_) (λh3=>?_)
  ·have wN:=Cj (k:=j) (by omega) hs;obtain⟨hc,hr⟩:=yG hg (k:=j) (by omega);have hss:=zR j (mg g 1);refine go ?_;refine ax (Ci (g:=g) (vh:=vh) (vc:=vc) (k:=j) hg (by omega)) (next:=λ_ _=>?_);refine go ?_;refine ax (Ae (g:=g) (vh:=vh) (vc:=vc) (k:=j) hg (by omega)) (next:=λ_ _=>?_);generalize(g.cells[j]).tmod g.w=x at hc wN⊢;generalize(g.cells[j]).tdiv g.w=y at hr wN⊢;refine go ?_;refine ay rfl (λh4=>?_) (λh4=>?_)
   ·have hp:mg g 1 (j:Int)=true:=by show decide _=true;rw[wN];exact dS (by dsimp only;omega)
    rw[if_pos hp]at hss;refine go ?_;intro ND;refine go ?_;refine eO aa (xs:=dR j (mg g 1)) (j:Int) () (by omega) λad=>?_;rw[<- hss];refine go ?_;exact aP (j+1,.slice ad ((dR j (mg g 1)).length+1) ((dR j (mg g 1)).length+1)) (by show g.cells.length - (j+1)<g.cells.length - j;omega) (by show j+1<=_;omega)
   ·have hp:¬mg g 1 (j:Int)=true:=by show¬decide _=true;rw[wN];intro h;have:=gX h;dsimp only at this;omega
    rw[if_neg hp,gN]at hss;rw[<- hss];refine go ?_;exact aP (j+1,v5) (by show g.cells.length - (j+1)<g.cells.length - j;omega) (by show j+1<=_;omega)
  have ig:j=g.cells.length:=by omega
  subst ig;have hL:dR g.cells.length (mg g 1)=qL g 1:=rfl;rw[hL]at hsl⊢;generalize qL g 1=L at hsl hds⊢;refine oV (E:=aa) (v:=v5) (xs:=L) λa5 e5=>?_;subst e5;refine bA (fV (E:=aa) (v:=.slice a5 L.length L.length) (xs:=L)) (h:=?_);generalize lM g 1=O at hds hol Jb⊢;refine oV (E:=aj aa) (v:=v3) (xs:=O) λa3 e3=>?_;subst e3;refine go ?_;first|with_reducible refine aN (λh5=>?_) (λh5=>?_)|with_reducible refine aM (λh5=>?_) (λh5=>?_)|with_reducible refine aK (λh5=>?_) (λh5=>?_)
  ·have e0:L=[]:=jM.1 (by omega);have e1:lM g (1+1)=O:=by rw[hds,e0];rfl
   rw[<- e1];refine go ?_;exact aP (1+1,.slice a3 (lM g (1+1)).length (lM g (1+1)).length) (by show 2 - (1+1)<2 - 1;omega) ⟨by show 1+1<=2;omega,.inr hw⟩
  rw[UJ O (λe=>by rw[e]at h5;simp at h5)]at hds;refine go ?_;first|with_reducible refine aN (λh6=>?_) (λh6=>?_)|with_reducible refine aM (λh6=>?_) (λh6=>?_)|with_reducible refine aK (λh6=>?_) (λh6=>?_)
  ·obtain⟨o,O2,rfl⟩:∃o O2,O=o::O2:=by
    cases O with
    |nil=>simp at h6
    |cons o O2=>exact⟨o,O2,rfl⟩
   refine go ?_;refine HZ aa (v:=.slice a3 (o::O2).length (o::O2).length) (xss:=o::O2) 0 o rfl (next:=λ_ _ u=>?_);refine go ?_;have ho:=Jb o (dM ..);rw[List.head?_cons]at hds;refine ax (Ch (xs:=o) (ys:=L) (by omega)) (next:=λ_ _=>?_);refine go ?_;refine eF rfl (λh7=>?_) (λh7=>?_)
   ·rw[if_neg (λe=>h7 (Option.some.inj e))]at hds;refine go ?_;intro NG;refine go ?_;refine eO (xs:=o::O2) (aj aa) L (.slice a5 L.length L.length) (by omega) (next:=λqG=>?_);rw[<- hds];refine go ?_;exact aP (1+1,.slice qG ((o::O2).length+1) ((o::O2).length+1)) (by show 2 - (1+1)<2 - 1;omega) ⟨by show 1+1<=2;omega,.inr hw⟩
   ·rw[if_pos (congrArg some h7)]at hds;rw[<- hds];refine go ?_;exact aP (1+1,.slice a3 (lM g (1+1)).length (lM g (1+1)).length) (by show 2 - (1+1)<2 - 1;omega) ⟨by show 1+1<=2;omega,.inr hw⟩
  have e0:O=[]:=jM.1 (by omega);subst e0;rw[if_neg (by simp)]at hds;refine go ?_;intro NG;refine go ?_;refine eO (xs:=([]:List (List Int))) (aj aa) L (.slice a5 L.length L.length) (by simp) (next:=λad=>?_);rw[<- hds];refine go ?_;exact aP (1+1,.slice ad (([]:List (List Int)).length+1) (([]:List (List Int)).length+1)) (by show 2 - (1+1)<2 - 1;omega) ⟨by show 1+1<=2;omega,.inr hw⟩
theorem afS{g:bC}{vh vc:Value}{p:Int}(hg:fw g):bn Tryz.prog (.func 136) [.agg ⟨iO g vh vc⟩,.int .i64 p] [] [] (jq g vh vc) (λy:Nat×Bool=>.tuple ⟨[.int .i64 (y.1:Int),.bool y.2]⟩) (λ_=>[]) (λ_=>[]) (λy=>(y.2=true↔p∈g.cells)/\(y.2=true->wz p g.cells=y.1)):=by
 have hgl:=hg.len;have l5:g.cells.Pairwise (·<·):=by rw[hg.cells];exact Mg _ _
 refine aI _ (aO 136) λB w0=>?_;refine go ?_;intro b1;refine bA (eD (b:=b1)) (h:=?_);refine go ?_;refine aZ (λk=>g.cells.length - k) (λk:Nat=>[(6,.int .i64 (k:Int))]) (λ_=>[]) (λ_=>[]) (λk=>k<=g.cells.length/\p∉g.cells.take k) 0 ⟨by omega,by simp⟩ (body:=?_);rintro k ⟨hk,hno⟩;refine go ?_;refine ay rfl (λh1=>?_) (λh1=>?_)
 ·refine go ?_;intro _ _ x hx;refine go ?_;refine ay rfl (λh2=>?_) (λh2=>?_)
  ·refine go ?_;subst h2;exact ae (k,true) (hv:=rfl) (hp:=⟨⟨λ_=>bH hx,λ_=>rfl⟩,λ_=>Mo l5 hx⟩)
  ·refine go ?_;refine aP (k+1) (by omega) ⟨by omega,?_⟩;rw[bU hx,dZ,not_or];exact⟨hno,by simp;exact λe=>h2 e.symm⟩
 have:k=g.cells.length:=by omega
 subst this;rw[bK]at hno;refine go ?_;exact ae (0,false) (hv:=rfl) (hp:=⟨⟨(λh=>by cases h),λh=>absurd h hno⟩,(λh=>by cases h)⟩)
theorem UK{g:bC}{vh vc vr:Value}{rs:List (List Int)}(hS:pV g)(hrl:rs.length<9223372036854775808)(hrs:∀ps∈rs,ps.length<9223372036854775808):
 bn Tryz.prog (.func 94) [.agg ⟨iO g vh vc⟩,vr] [] [] (ah (aj aa) vr rs::jq g vh vc) uO (λ_=>[]) (λy=>IX g rs y) (λy=>y.e=0↔fw g/\yf g rs):=by
 refine aI _ (aO 94) λB w0=>?_;refine aS (E:=aj aa) (v:=vr) (xs:=rs) (by simp) λar cr er=>?_;subst er;refine go ?_;intro b2;refine bA (eD (b:=b2)) (h:=?_);refine go ?_;refine ax (UH (g:=g) hS) (next:=λe he=>?_);refine go ?_;first|with_reducible refine aN (λh1=>?_) (λh1=>?_)|with_reducible refine aM (λh1=>?_) (λh1=>?_)|with_reducible refine aK (λh1=>?_) (λh1=>?_)
 rotate_left
 ·refine go ?_;refine lK (c:=(130:Int)=0) (f:=ah (aj aa) (.slice none 0 0) (dV g rs)) (by omega) ?_;exact ae ⟨.slice none 0 0,130⟩ (hv:=rfl) (hp:=⟨(λh=>by cases h),λh=>absurd (he.2 h.1) h1⟩)
 have hg:=he.1 (by omega);have hgl:=hg.len;refine go ?_;refine ay rfl (λh2=>?_) (λh2=>?_)
 ·refine go ?_;refine lK (c:=(130:Int)=0) (f:=ah (aj aa) (.slice none 0 0) (dV g rs)) (by omega) ?_;exact ae ⟨.slice none 0 0,130⟩ (hv:=rfl) (hp:=⟨(λh=>by cases h),λh=>by exfalso;have:=h.2.len;omega⟩)
 refine go ?_;refine fZ (aj aa) ?_;refine aZ (λy:Nat×Value=>rs.length - y.1) (λy=>[(7,.int .i64 (y.1:Int)),(6,y.2)]) (λy=>[ap (aj aa) y.2 (dV g (rs.take y.1))]) (λ_=>[]) (λy=>y.1<=rs.length/\∀ps∈rs.take y.1,x9 g ps) (0,.slice none 0 0) ⟨bY _,λps h=>by cases h⟩ (hk:=by repeat (first|exact aG.nil|(apply aG.cons;(focus (repeat (first|exact az.here|apply az.there)))))) (body:=?_);rintro⟨k,v6⟩ ⟨hk,hall⟩;dsimp only at hk hall⊢;have hkl:(dV g (rs.take k)).length=k:=by unfold dV;rw[cz,gW];omega
 refine go ?_;refine ay rfl (λh3=>?_) (λh3=>?_)
 ·obtain⟨ps,hps⟩:∃ps,rs[k]? =some ps:=⟨rs[k]'(by omega),cO _⟩
  have hpm:=bH hps;have hpl:=hrs ps hpm;have htk:=bU hps;refine go ?_;refine fZ aa ?_;refine aZ (λy:Nat×Value=>ps.length - y.1) (λy=>[(9,.int .i64 (y.1:Int)),(8,y.2)]) (λy=>[ap aa y.2 (eU g (ps.take y.1))]) (λ_=>[]) (λy=>y.1<=ps.length/\(∀p∈ps.take y.1,p∈g.cells)/\(eU g (ps.take y.1)).Nodup) (0,.slice none 0 0) ⟨bY _,(λp h=>by cases h),tZ⟩ (hk:=by repeat (first|exact aG.nil|(apply aG.cons;(focus (repeat (first|exact az.here|apply az.there)))))) (body:=?_);rintro⟨j,v8⟩ ⟨hj,hmem,hnd⟩;dsimp only at hj hmem hnd⊢;have hjl:(eU g (ps.take j)).length=j:=by unfold eU;rw[cz,gW];omega
  have hj2:j<=256:=by have:=Im hmem hnd;rw[gW]at this;omega
  refine go ?_;refine bi (aj aa) (xs:=rs) (next:=λ_ _ ps' (vp:Value) NH=>?_);cases hps.symm.trans NH;refine go ?_;refine ay rfl (λh4=>?_) (λh4=>?_)
  ·refine go ?_;refine bi (aj aa) (xs:=rs) (next:=λ_ _ ps' (vp:Value) NH=>?_);cases hps.symm.trans NH;refine go ?_;intro _ _ x hx;have htx:=bU hx;refine go ?_;refine ax (afS (g:=g) (vh:=vh) (vc:=vc) (p:=x) hg) (next:=λy hy=>?_);obtain⟨c,ok⟩:=y;obtain⟨hy1,hy2⟩:=hy;dsimp only at hy1 hy2⊢;cases ok with
   |false=>
    refine go ?_;refine lK (c:=(130:Int)=0) (f:=ah (aj aa) (.slice none 0 0) (dV g rs)) (by omega) ?_;exact ae ⟨.slice none 0 0,130⟩ (hv:=rfl) (hp:=⟨(λh=>by cases h),λh=>by
     have:=hy1.2 ((h.2.all ps hpm).mem x (bH hx));cases this⟩)
   |true=>
    have hxm:=hy1.1 rfl;have hpos:=hy2 rfl;have hr1:eU g (ps.take (j+1))=eU g (ps.take j)++[(c:Int)]:=by unfold eU;rw[htx,eB,nV,hpos]
    refine go ?_;refine ax (afD (vl:=v8) (xs:=eU g (ps.take j)) (z:=(c:Int)) (by omega)) (next:=λ_ _=>?_);refine go ?_;refine ay rfl (λh5=>?_) (λh5=>?_)
    ·refine go ?_;refine lK (c:=(130:Int)=0) (f:=ah (aj aa) (.slice none 0 0) (dV g rs)) (by omega) ?_;exact ae ⟨.slice none 0 0,130⟩ (hv:=rfl) (hp:=⟨(λh=>by cases h),λh=>by
      exfalso
      have h6:(eU g ps).Nodup:=(h.2.all ps hpm).nd;have h7:(eU g (ps.take (j+1))).Nodup:=by
       refine h6.sublist ?_;unfold eU;exact(Om _ _).map _
      rw[hr1,iP]at h7;exact h7.2.2 _ h5 _ (bI.2 rfl) rfl⟩)
    ·refine go ?_;intro b53;refine go ?_;refine eO (xs:=eU g (ps.take j)) aa (c:Int) () (by omega) (next:=λad=>?_);rw[<- hr1];refine go ?_;refine aP (j+1,.slice ad ((eU g (ps.take j)).length+1) ((eU g (ps.take j)).length+1)) (by show ps.length - (j+1)<ps.length - j;omega) ⟨by show j+1<=_;omega,?_,?_⟩
     ·show∀p∈ps.take (j+1),p∈g.cells;rw[htx];intro p hp;rcases dZ.1 hp with hp|hp
      ·exact hmem p hp
      ·rw[bI.1 hp];exact hxm
     ·show(eU g (ps.take (j+1))).Nodup;rw[hr1,iP];exact⟨hnd,by simp,λa ha b hb e=>h5 (by rw[bI.1 hb]at e;rw[<- e];exact ha)⟩
  have ig:j=ps.length:=by omega
  subst ig;rw[bK]at hmem hnd⊢;have hrl2:(eU g ps).length=ps.length:=by unfold eU;rw[cz]
  refine oV (E:=aa) (v:=v8) (xs:=eU g ps) λa8 e8=>?_;subst e8;refine go ?_;refine ay rfl (λh5=>?_) (λh5=>?_)
  ·refine go ?_;refine lK (c:=(130:Int)=0) (f:=ah (aj aa) (.slice none 0 0) (dV g rs)) (by omega) ?_;exact ae ⟨.slice none 0 0,130⟩ (hv:=rfl) (hp:=⟨(λh=>by cases h),λh=>by
    exfalso
    exact(h.2.all ps hpm).ne (jM.1 (by omega))⟩)
  have hR:x9 g ps:=⟨λe=>h5 (by rw[hrl2,e];rfl),hmem,hnd⟩
  have hrr:dV g (rs.take (k+1))=dV g (rs.take k)++[eU g ps]:=by unfold dV;rw[htk,eB,nV]
  refine bA (fV (E:=aa) (v:=.slice a8 (eU g ps).length (eU g ps).length) (xs:=eU g ps)) (h:=?_);refine go ?_;intro b61;refine go ?_;refine eO (xs:=dV g (rs.take k)) (aj aa) (eU g ps) (.slice a8 (eU g ps).length (eU g ps).length) (by omega) (next:=λad=>?_);rw[<- hrr];refine go ?_;refine aP (k+1,.slice ad ((dV g (rs.take k)).length+1) ((dV g (rs.take k)).length+1)) (by show rs.length - (k+1)<rs.length - k;omega) ⟨by show k+1<=_;omega,?_⟩;show∀qs∈rs.take (k+1),x9 g qs;rw[htk];intro qs hq;rcases dZ.1 hq with hq|hq
  ·exact hall qs hq
  ·rw[bI.1 hq];exact hR
 have hke:k=rs.length:=by omega
 subst hke;rw[bK]at hall⊢;refine bA (fV (E:=aj aa) (v:=v6) (xs:=dV g rs)) (h:=?_);refine go ?_;refine kQ (c:=(0:Int)=0) (f:=ah (aj aa) v6 (dV g rs)) (by simp) ?_;exact ae ⟨v6,0⟩ (hv:=rfl) (hp:=⟨λ_=>⟨hg,by omega,hall⟩,λ_=>rfl⟩)
theorem afT(g:bC):(λs:Int×Int=>(ny g.shape 1 s,true))=λs=>(s.2,true):=by funext s;rfl
theorem afU(g:bC):(λs:Int×Int=>(ny g.shape 2 s,true))=λs=>(s.1,true):=by funext s;unfold ny;simp
theorem afV{g:bC}(h:g.shape=2):(λs:Int×Int=>(ny g.shape 3 s,true))=λs=>(s.1+s.2,true):=by funext s;unfold ny;simp[h]
theorem afW{g:bC}{vh vc:Value}{k:Int}(hS:pV g):
 bn Tryz.prog (.func 93) [.agg ⟨iO g vh vc⟩,.int .i64 k] [] [] (jq g vh vc) uO (λ_=>[]) (λy=>IV g k y) (λy=>y.e=0↔fw g/\0<=k/\k<=7):=by
 refine aI _ (aO 93) λB w0=>?_;refine go ?_;intro b2;refine bA (eD (b:=b2)) (h:=?_);refine go ?_;refine ax (UI (g:=g) (vh:=vh) (vc:=vc) hS) (next:=λy hy=>?_);obtain⟨vn,e⟩:=y;dsimp only at hy⊢;refine go ?_;refine ay rfl (λh1=>?_) (λh1=>?_)
 ·refine go ?_;refine lK (c:=e=0) (f:=ah (aj aa) (.slice none 0 0) (dA g k)) h1 ?_;exact ae ⟨.slice none 0 0,e⟩ (hv:=rfl) (hp:=⟨(λh=>absurd h h1),λh=>absurd (hy.2 h.1) h1⟩)
 have he:e=0:=iI.1 h1;subst he;have hg:=hy.1 rfl;clear hy h1;have hgl:=hg.len;have hnl:=xZ g;have hnm:=Il (g:=g);refine eT (ah (aj aa) vn (bJ g)) (λw hw=>hw (l9 ((0:Int)=0) (ah (aj aa) vn (bJ g))) (by simp) rfl) ?_;refine aS (E:=aj aa) (v:=vn) (xs:=bJ g) (by simp) λan cn en=>?_;subst en;refine go ?_;first|with_reducible refine aN (λh2=>?_) (λh2=>?_)|with_reducible refine aM (λh2=>?_) (λh2=>?_)|with_reducible refine aK (λh2=>?_) (λh2=>?_)
 rotate_left
 ·refine go ?_;refine lK (c:=(1:Int)=0) (f:=ah (aj aa) (.slice none 0 0) (dA g k)) (by omega) ?_;exact ae ⟨.slice none 0 0,1⟩ (hv:=rfl) (hp:=⟨(λh=>by cases h),λh=>by exfalso;have:=h.2;omega⟩)
 refine go ?_;refine ay rfl (λh3=>?_) (λh3=>?_)
 ·refine go ?_;refine lK (c:=(1:Int)=0) (f:=ah (aj aa) (.slice none 0 0) (dA g k)) (by omega) ?_;exact ae ⟨.slice none 0 0,1⟩ (hv:=rfl) (hp:=⟨(λh=>by cases h),λh=>by exfalso;have:=h.2;omega⟩)
 rcases(show k=0\/k=1\/k=2\/k=3\/k=4\/k=5\/k=6\/k=7 by omega)with rfl|rfl|rfl|rfl|rfl|rfl|rfl|rfl;all_goals clear h2 h3
 ·have hf:dA g 0=kN g.cells.length:=by simp[dA]
  refine go ?_;refine fZ aa ?_;refine fZ (aj aa) ?_;refine aZ (λy:Nat×Value×Value=>g.cells.length - y.1) (λy=>[(10,.int .i64 (y.1:Int)),(9,y.2.1),(8,y.2.2)]) (λy=>[ap aa y.2.1 (upTo' y.1),ap (aj aa) y.2.2 (kN y.1)]) (λ_=>[]) (λy=>y.1<=g.cells.length) (0,.slice none 0 0,.slice none 0 0) (bY _) (hk:=by repeat (first|exact aG.nil|(apply aG.cons;(focus (repeat (first|exact az.here|apply az.there)))))) (body:=?_);rintro⟨i,v9,v8⟩ hi;dsimp only at hi⊢;have hil:=rR i;have UL:=SL i;refine go ?_;refine ay rfl (λh2=>?_) (λh2=>?_)
  ·refine go ?_;intro yz;refine go ?_;refine eO (xs:=upTo' i) aa (i:Int) () (by omega) (next:=λad=>?_);rw[<- uG];refine go ?_;intro wG b38;refine bA (A:=pt wG (.cells [.int .i64 (i:Int)])) (fs:=[ah aa (.slice (some ⟨wG,0,some 0⟩) 1 1) [(i:Int)]]) (zu (b:=wG) (f:=0) (c:=1) (xs:=[(i:Int)])) (h:=?_);refine go ?_;refine eO (xs:=kN i) (aj aa) [(i:Int)] (.slice (some ⟨wG,0,some 0⟩) 1 1) (by omega) (next:=λqG=>?_);rw[<- SK];refine go ?_;exact aP (i+1,.slice ad ((upTo' i).length+1) ((upTo' i).length+1),.slice qG ((kN i).length+1) ((kN i).length+1)) (by show g.cells.length - (i+1)<g.cells.length - i;omega) (by show i+1<=_;omega)
  have hie:i=g.cells.length:=by omega
  subst hie;refine go ?_;refine bA (fV (E:=aj aa) (v:=v8) (xs:=kN g.cells.length)) (h:=?_);refine go ?_;refine kQ (c:=(0:Int)=0) (f:=ah (aj aa) v8 (dA g 0)) (by rw[hf];simp) ?_;exact ae ⟨v8,0⟩ (hv:=rfl) (hp:=⟨λ_=>⟨hg,by omega,by omega⟩,λ_=>rfl⟩)
 ·have hf:dA g 1=iU g (λs=>(s.2,true)):=by simp[dA]
  refine go ?_;refine fZ aa ?_;refine aZ (λy:Nat×Value=>g.cells.length - y.1) (λy=>[(10,.int .i64 (y.1:Int)),(9,y.2)]) (λy=>[ap aa y.2 (upTo' y.1)]) (λ_=>[]) (λy=>y.1<=g.cells.length) (0,.slice none 0 0) (bY _) (hk:=by repeat (first|exact aG.nil|(apply aG.cons;(focus (repeat (first|exact az.here|apply az.there)))))) (body:=?_);rintro⟨i,v9⟩ hi;dsimp only at hi⊢;have hil:=rR i;refine go ?_;refine ay rfl (λh2=>?_) (λh2=>?_)
  ·refine go ?_;intro yz;refine go ?_;refine eO (xs:=upTo' i) aa (i:Int) () (by omega) (next:=λad=>?_);rw[<- uG];refine go ?_;exact aP (i+1,.slice ad ((upTo' i).length+1) ((upTo' i).length+1)) (by show g.cells.length - (i+1)<g.cells.length - i;omega) (by show i+1<=_;omega)
  have hie:i=g.cells.length:=by omega
  subst hie;refine go ?_;refine ax (NE (g:=g) (vh:=vh) (vc:=vc) (f:=1) hg) (next:=λv8 _=>?_);rw[afT];refine go ?_;refine bA (fV (E:=aj aa) (v:=v8) (xs:=iU g (λs=>(s.2,true)))) (h:=?_);refine go ?_;refine kQ (c:=(0:Int)=0) (f:=ah (aj aa) v8 (dA g 1)) (by rw[hf];simp) ?_;exact ae ⟨v8,0⟩ (hv:=rfl) (hp:=⟨λ_=>⟨hg,by omega,by omega⟩,λ_=>rfl⟩)
 ·have hf:dA g 2=iU g (λs=>(s.1,true)):=by simp[dA]
  refine go ?_;refine fZ aa ?_;refine aZ (λy:Nat×Value=>g.cells.length - y.1) (λy=>[(10,.int .i64 (y.1:Int)),(9,y.2)]) (λy=>[ap aa y.2 (upTo' y.1)]) (λ_=>[]) (λy=>y.1<=g.cells.length) (0,.slice none 0 0) (bY _) (hk:=by repeat (first|exact aG.nil|(apply aG.cons;(focus (repeat (first|exact az.here|apply az.there)))))) (body:=?_);rintro⟨i,v9⟩ hi;dsimp only at hi⊢;have hil:=rR i;refine go ?_;refine ay rfl (λh2=>?_) (λh2=>?_)
  ·refine go ?_;intro yz;refine go ?_;refine eO (xs:=upTo' i) aa (i:Int) () (by omega) (next:=λad=>?_);rw[<- uG];refine go ?_;exact aP (i+1,.slice ad ((upTo' i).length+1) ((upTo' i).length+1)) (by show g.cells.length - (i+1)<g.cells.length - i;omega) (by show i+1<=_;omega)
  have hie:i=g.cells.length:=by omega
  subst hie;refine go ?_;refine ax (NE (g:=g) (vh:=vh) (vc:=vc) (f:=2) hg) (next:=λv8 _=>?_);rw[afU];refine go ?_;refine bA (fV (E:=aj aa) (v:=v8) (xs:=iU g (λs=>(s.1,true)))) (h:=?_);refine go ?_;refine kQ (c:=(0:Int)=0) (f:=ah (aj aa) v8 (dA g 2)) (by rw[hf];simp) ?_;exact ae ⟨v8,0⟩ (hv:=rfl) (hp:=⟨λ_=>⟨hg,by omega,by omega⟩,λ_=>rfl⟩)
 ·have hf:dA g 3=kW g:=by simp[dA]
  refine go ?_;refine fZ aa ?_;refine aZ (λy:Nat×Value=>g.cells.length - y.1) (λy=>[(10,.int .i64 (y.1:Int)),(9,y.2)]) (λy=>[ap aa y.2 (upTo' y.1)]) (λ_=>[]) (λy=>y.1<=g.cells.length) (0,.slice none 0 0) (bY _) (hk:=by repeat (first|exact aG.nil|(apply aG.cons;(focus (repeat (first|exact az.here|apply az.there)))))) (body:=?_);rintro⟨i,v9⟩ hi;dsimp only at hi⊢;have hil:=rR i;refine go ?_;refine ay rfl (λh2=>?_) (λh2=>?_)
  ·refine go ?_;intro yz;refine go ?_;refine eO (xs:=upTo' i) aa (i:Int) () (by omega) (next:=λad=>?_);rw[<- uG];refine go ?_;exact aP (i+1,.slice ad ((upTo' i).length+1) ((upTo' i).length+1)) (by show g.cells.length - (i+1)<g.cells.length - i;omega) (by show i+1<=_;omega)
  have hie:i=g.cells.length:=by omega
  subst hie;refine go ?_;refine ay rfl (λh4=>?_) (λh4=>?_)
  ·refine go ?_;refine ax (afR (g:=g) (vh:=vh) (vc:=vc) hg h4) (next:=λv8 _=>?_);refine go ?_;refine bA (fV (E:=aj aa) (v:=v8) (xs:=kW g)) (h:=?_);refine go ?_;refine kQ (c:=(0:Int)=0) (f:=ah (aj aa) v8 (dA g 3)) (by rw[hf];simp) ?_;exact ae ⟨v8,0⟩ (hv:=rfl) (hp:=⟨λ_=>⟨hg,by omega,by omega⟩,λ_=>rfl⟩)
  ·have h5:g.shape=2:=hg.make.sh.resolve_left h4;have hd:kW g=iU g (λs=>(s.1+s.2,true)):=by unfold kW;rw[if_pos h5]
   refine go ?_;refine ax (NE (g:=g) (vh:=vh) (vc:=vc) (f:=3) hg) (next:=λv8 _=>?_);rw[afV h5,<- hd];refine go ?_;refine bA (fV (E:=aj aa) (v:=v8) (xs:=kW g)) (h:=?_);refine go ?_;refine kQ (c:=(0:Int)=0) (f:=ah (aj aa) v8 (dA g 3)) (by rw[hf];simp) ?_;exact ae ⟨v8,0⟩ (hv:=rfl) (hp:=⟨λ_=>⟨hg,by omega,by omega⟩,λ_=>rfl⟩)
 ·have hf:dA g 4=bJ g:=by simp[dA]
  refine go ?_;refine fZ aa ?_;refine aZ (λy:Nat×Value=>g.cells.length - y.1) (λy=>[(10,.int .i64 (y.1:Int)),(9,y.2)]) (λy=>[ap aa y.2 (upTo' y.1)]) (λ_=>[]) (λy=>y.1<=g.cells.length) (0,.slice none 0 0) (bY _) (hk:=by repeat (first|exact aG.nil|(apply aG.cons;(focus (repeat (first|exact az.here|apply az.there)))))) (body:=?_);rintro⟨i,v9⟩ hi;dsimp only at hi⊢;have hil:=rR i;refine go ?_;refine ay rfl (λh2=>?_) (λh2=>?_)
  ·refine go ?_;intro yz;refine go ?_;refine eO (xs:=upTo' i) aa (i:Int) () (by omega) (next:=λad=>?_);rw[<- uG];refine go ?_;exact aP (i+1,.slice ad ((upTo' i).length+1) ((upTo' i).length+1)) (by show g.cells.length - (i+1)<g.cells.length - i;omega) (by show i+1<=_;omega)
  have hie:i=g.cells.length:=by omega
  subst hie;refine go ?_;refine kQ (c:=(0:Int)=0) (f:=ah (aj aa) (.slice an (bJ g).length cn) (dA g 4)) (by rw[hf];simp) ?_;exact ae ⟨.slice an (bJ g).length cn,0⟩ (hv:=rfl) (hp:=⟨λ_=>⟨hg,by omega,by omega⟩,λ_=>rfl⟩)
 ·have hf:dA g 5=kP (bJ g):=by simp[dA]
  refine go ?_;refine fZ aa ?_;refine fZ (aj aa) ?_;refine aZ (λy:Nat×Value×Value=>g.cells.length - y.1) (λy=>[(10,.int .i64 (y.1:Int)),(9,y.2.1),(8,y.2.2)]) (λy=>[ap aa y.2.1 (upTo' y.1),ap (aj aa) y.2.2 (kP ((bJ g).take y.1))]) (λ_=>[]) (λy=>y.1<=g.cells.length) (0,.slice none 0 0,.slice none 0 0) (bY _) (hk:=by repeat (first|exact aG.nil|(apply aG.cons;(focus (repeat (first|exact az.here|apply az.there)))))) (body:=?_);rintro⟨i,v9,v8⟩ hi;dsimp only at hi⊢;have hil:=rR i;have UL:(kP ((bJ g).take i)).length=i:=by rw[SQ,gW];omega
  refine go ?_;refine ay rfl (λh2=>?_) (λh2=>?_)
  ·obtain⟨ln,hln⟩:∃ln,(bJ g)[i]? =some ln:=⟨(bJ g)[i]'(by omega),cO _⟩
   have hll:=hnm ln (bH hln);have hfs:=SN hln;rw[acV hg hln]at hfs;refine go ?_;intro yz;refine go ?_;refine eO (xs:=upTo' i) aa (i:Int) () (by omega) (next:=λad=>?_);rw[<- uG];refine go ?_;refine fZ aa ?_;refine aZ (λy:Nat×Value=>g.cells.length - y.1) (λy=>[(12,.int .i64 (y.1:Int)),(11,y.2)]) (λy=>[ap aa y.2 (dR y.1 λb=>decide (b=(i:Int))||decide (b∈ln))]) (λ_=>[]) (λy=>y.1<=g.cells.length) (0,.slice none 0 0) (bY _) (hk:=by repeat (first|exact aG.nil|(apply aG.cons;(focus (repeat (first|exact az.here|apply az.there)))))) (body:=?_);rintro⟨j,v11⟩ hj;dsimp only at hj⊢;have hsl:=zS j λb=>decide (b=(i:Int))||decide (b∈ln);refine go ?_;refine ay rfl (λh3=>?_) (λh3=>?_)
   ·have hss:=zR j λb=>decide (b=(i:Int))||decide (b∈ln);refine go ?_;first|with_reducible refine aN (λh4=>?_) (λh4=>?_)|with_reducible refine aM (λh4=>?_) (λh4=>?_)|with_reducible refine aK (λh4=>?_) (λh4=>?_)
    ·refine go ?_;refine bi (aj aa) (xs:=bJ g) (next:=λ_ _ NI (vl:Value) hl=>?_);cases hln.symm.trans hl;refine go ?_;refine ax (I8 (xs:=ln) (z:=(j:Int)) (by omega)) (next:=λ_ _=>?_);refine go ?_;refine ay rfl (λh5=>?_) (λh5=>?_)
     ·rw[if_pos (by simp[h5])]at hss;refine go ?_;intro b69;refine go ?_;refine eO (xs:=dR j λb=>decide (b=(i:Int))||decide (b∈ln)) aa (j:Int) () (by omega) (next:=λad=>?_);rw[<- hss];refine go ?_;exact aP (j+1,.slice ad ((dR j λb=>decide (b=(i:Int))||decide (b∈ln)).length+1) ((dR j λb=>decide (b=(i:Int))||decide (b∈ln)).length+1)) (by show g.cells.length - (j+1)<g.cells.length - j;omega) (by show j+1<=_;omega)
     ·rw[if_neg (by simp only[uT,wR,not_or];exact⟨h4,h5⟩),gN]at hss;rw[<- hss];refine go ?_;exact aP (j+1,v11) (by show g.cells.length - (j+1)<g.cells.length - j;omega) (by show j+1<=_;omega)
    ·rw[if_pos (by simp[h4])]at hss;refine go ?_;intro b69;refine go ?_;refine eO (xs:=dR j λb=>decide (b=(i:Int))||decide (b∈ln)) aa (j:Int) () (by omega) (next:=λad=>?_);rw[<- hss];refine go ?_;exact aP (j+1,.slice ad ((dR j λb=>decide (b=(i:Int))||decide (b∈ln)).length+1) ((dR j λb=>decide (b=(i:Int))||decide (b∈ln)).length+1)) (by show g.cells.length - (j+1)<g.cells.length - j;omega) (by show j+1<=_;omega)
   have ig:j=g.cells.length:=by omega
   subst ig;generalize(dR g.cells.length λb=>decide (b=(i:Int))||decide (b∈ln))=zs at hfs⊢;refine oV (E:=aa) (v:=v11) (xs:=zs) λUM e11=>?_;subst e11;refine bA (fV (E:=aa) (v:=.slice UM zs.length zs.length) (xs:=zs)) (h:=?_);refine go ?_;intro b73;refine go ?_;refine eO (xs:=kP ((bJ g).take i)) (aj aa) zs (.slice UM zs.length zs.length) (by omega) (next:=λqG=>?_);rw[<- hfs];refine go ?_;exact aP (i+1,.slice ad ((upTo' i).length+1) ((upTo' i).length+1),.slice qG ((kP ((bJ g).take i)).length+1) ((kP ((bJ g).take i)).length+1)) (by show g.cells.length - (i+1)<g.cells.length - i;omega) (by show i+1<=_;omega)
  have hie:i=g.cells.length:=by omega
  subst hie;rw[NC (by omega)];refine go ?_;refine bA (fV (E:=aj aa) (v:=v8) (xs:=kP (bJ g))) (h:=?_);refine go ?_;refine kQ (c:=(0:Int)=0) (f:=ah (aj aa) v8 (dA g 5)) (by rw[hf];simp) ?_;exact ae ⟨v8,0⟩ (hv:=rfl) (hp:=⟨λ_=>⟨hg,by omega,by omega⟩,λ_=>rfl⟩)
 ·have hf:dA g 6=gZ (bJ g):=by simp[dA]
  have h6:=Ik hnm;refine go ?_;refine fZ aa ?_;refine fZ (aj aa) ?_;refine aZ (λy:Nat×Value×Value=>g.cells.length - y.1) (λy=>[(10,.int .i64 (y.1:Int)),(9,y.2.1),(8,y.2.2)]) (λy=>[ap aa y.2.1 (upTo' y.1),ap (aj aa) y.2.2 (gZ ((bJ g).take y.1))]) (λ_=>[]) (λy=>y.1<=g.cells.length) (0,.slice none 0 0,.slice none 0 0) (bY _) (hk:=by repeat (first|exact aG.nil|(apply aG.cons;(focus (repeat (first|exact az.here|apply az.there)))))) (body:=?_);rintro⟨i,v9,v8⟩ hi;dsimp only at hi⊢;have hil:=rR i;have UL:=h6 i (by omega);refine go ?_;refine ay rfl (λh2=>?_) (λh2=>?_)
  ·obtain⟨ln,hln⟩:∃ln,(bJ g)[i]? =some ln:=⟨(bJ g)[i]'(by omega),cO _⟩
   have hll:=hnm ln (bH hln);have hfs:=Mm hln;refine go ?_;intro yz;refine go ?_;refine eO (xs:=upTo' i) aa (i:Int) () (by omega) (next:=λad=>?_);rw[<- uG];refine go ?_;refine aZ (λy:Nat×Value=>ln.length - y.1) (λy=>[(13,.int .i64 (y.1:Int)),(8,y.2)]) (λy=>[ap (aj aa) y.2 (gZ ((bJ g).take i)++jB i (ln.take y.1))]) (λ_=>[]) (λy=>y.1<=ln.length) (0,v8) (bY _) (hk:=by rw[show gZ ((bJ g).take i)++jB i (ln.take 0)=gZ ((bJ g).take i)from gN _];repeat (first|exact aG.nil|(apply aG.cons;(focus (repeat (first|exact az.here|apply az.there)))))) (body:=?_);rintro⟨j,v5⟩ hj;dsimp only at hj⊢;have hpl:=Ml i (ln.take j);rw[gW]at hpl;have hal:(gZ ((bJ g).take i)++jB i (ln.take j)).length<=2000:=by rw[gH];omega
   refine go ?_;refine bi (aj aa) (xs:=bJ g) (next:=λ_ _ NI (vl:Value) hl=>?_);cases hln.symm.trans hl;refine go ?_;refine ay rfl (λh3=>?_) (λh3=>?_)
   ·refine go ?_;refine bi (aj aa) (xs:=bJ g) (next:=λ_ _ NI (vl:Value) hl=>?_);cases hln.symm.trans hl;refine go ?_;intro _ _ x hx;have hps:=SS (i:=i) hx;refine go ?_;refine ay rfl (λh4=>?_) (λh4=>?_)
    ·have zX:gZ ((bJ g).take i)++jB i (ln.take (j+1))=(gZ ((bJ g).take i)++jB i (ln.take j))++[[(i:Int),x]]:=by rw[hps,if_pos (by omega),fB]
     refine go ?_;refine bi (aj aa) (xs:=bJ g) (next:=λ_ _ NI (vl:Value) hl=>?_);cases hln.symm.trans hl;refine go ?_;intro _ _ x' hx';cases hx.symm.trans hx';refine go ?_;intro wI Nf;refine bA (A:=pt wI (.cells [.int .i64 (i:Int),.int .i64 x])) (fs:=[ah aa (.slice (some ⟨wI,0,some 0⟩) 2 2) [(i:Int),x]]) (zu (b:=wI) (f:=0) (c:=2) (xs:=[(i:Int),x])) (h:=?_);refine go ?_;refine eO (xs:=gZ ((bJ g).take i)++jB i (ln.take j)) (aj aa) [(i:Int),x] (.slice (some ⟨wI,0,some 0⟩) 2 2) (by omega) (next:=λqG=>?_);rw[<- zX];refine go ?_;exact aP (j+1,.slice qG ((gZ ((bJ g).take i)++jB i (ln.take j)).length+1) ((gZ ((bJ g).take i)++jB i (ln.take j)).length+1)) (by show ln.length - (j+1)<ln.length - j;omega) (by show j+1<=_;omega)
    ·have zX:gZ ((bJ g).take i)++jB i (ln.take (j+1))=gZ ((bJ g).take i)++jB i (ln.take j):=by rw[hps,if_neg (by omega),gN]
     rw[<- zX];refine go ?_;exact aP (j+1,v5) (by show ln.length - (j+1)<ln.length - j;omega) (by show j+1<=_;omega)
   have ig:j=ln.length:=by omega
   subst ig;rw[bK,<- hfs];refine go ?_;exact aP (i+1,.slice ad ((upTo' i).length+1) ((upTo' i).length+1),v5) (by show g.cells.length - (i+1)<g.cells.length - i;omega) (by show i+1<=_;omega)
  have hie:i=g.cells.length:=by omega
  subst hie;rw[NC (by omega)];refine go ?_;refine bA (fV (E:=aj aa) (v:=v8) (xs:=gZ (bJ g))) (h:=?_);refine go ?_;refine kQ (c:=(0:Int)=0) (f:=ah (aj aa) v8 (dA g 6)) (by rw[hf];simp) ?_;exact ae ⟨v8,0⟩ (hv:=rfl) (hp:=⟨λ_=>⟨hg,by omega,by omega⟩,λ_=>rfl⟩)
 ·have hf:dA g 7=[upTo' g.cells.length]:=by simp[dA]
  refine go ?_;refine fZ aa ?_;refine aZ (λy:Nat×Value=>g.cells.length - y.1) (λy=>[(10,.int .i64 (y.1:Int)),(9,y.2)]) (λy=>[ap aa y.2 (upTo' y.1)]) (λ_=>[]) (λy=>y.1<=g.cells.length) (0,.slice none 0 0) (bY _) (hk:=by repeat (first|exact aG.nil|(apply aG.cons;(focus (repeat (first|exact az.here|apply az.there)))))) (body:=?_);rintro⟨i,v9⟩ hi;dsimp only at hi⊢;have hil:=rR i;refine go ?_;refine ay rfl (λh2=>?_) (λh2=>?_)
  ·refine go ?_;intro yz;refine go ?_;refine eO (xs:=upTo' i) aa (i:Int) () (by omega) (next:=λad=>?_);rw[<- uG];refine go ?_;exact aP (i+1,.slice ad ((upTo' i).length+1) ((upTo' i).length+1)) (by show g.cells.length - (i+1)<g.cells.length - i;omega) (by show i+1<=_;omega)
  have hie:i=g.cells.length:=by omega
  subst hie;refine bA (fV (E:=aa) (v:=v9) (xs:=upTo' g.cells.length)) (h:=?_);refine aS (E:=aa) (v:=v9) (xs:=upTo' g.cells.length) (by simp) λa4 c4 e4=>?_;subst e4;refine go ?_;intro Jc;refine bA (eD (b:=Jc)) (h:=?_);refine eT (ah (aj aa) (zW Jc 1) [upTo' g.cells.length]) (λw hw=>Q3 (v:=.slice a4 (upTo' g.cells.length).length c4) (hw _ (by simp)) (hw _ (by simp))) ?_;refine go ?_;refine kQ (c:=(0:Int)=0) (f:=ah (aj aa) (zW Jc 1) (dA g 7)) (by rw[hf];simp) ?_;exact ae ⟨zW Jc 1,0⟩ (hv:=rfl) (hp:=⟨λ_=>⟨hg,by omega,by omega⟩,λ_=>rfl⟩)
