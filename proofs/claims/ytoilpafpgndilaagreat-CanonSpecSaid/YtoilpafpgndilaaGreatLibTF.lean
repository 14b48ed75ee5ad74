/- Part. -/
import Derived.Test.YtoilpafpgndilaaGreatLibSF
set_option linter.all false
set_option maxRecDepth 10000
set_option maxHeartbeats 4000000
namespace Go.Proofs.YtoilpafpgndilaaGreat
open Tryz (prog)
open Go.Ideal Kd
variable{vh:vI}
def O4{s w h:Int}{holes:kI Int}(hw64:kD w)(afC:kD h)(hl:holes.length<4611686018427387904):
 bA prog (.func 134) [iV s,iV w,iV h,vh] [] [] [ai ae vh holes] (mkV s w h holes) (λ_=>[]) (pM s w h holes) (λy=>y.ok=true↔oH s w h holes):=by
 refine gB 134 λB w0=>?_;refine go ?_;intro b8;refine go ?_;by_cases hsh:s=1\/s=2
 rotate_left
 .rw[dK (show s≠1 from λe=>hsh (.inl e))];refine go ?_;rw[dK (show s≠2 from λe=>hsh (.inr e))];refine go ?_;refine gQ ⟨false,.nilFunc,.nilFunc⟩ ⟨(λe=>by cases e),λe=>?_⟩
  exfalso
  have e:=wz.2 e;obtain⟨q1,q2,q3,q4,q5,q6⟩:=e;exact hsh q1
 rcases hsh with rfl|rfl;all_goals
  refine gH ?_ ?_<;>intro a1
  rotate_left
  .exact c7
  refine gH ?_ ?_<;>intro a2
  rotate_left
  .exact c7
  refine gH ?_ ?_<;>intro a3
  rotate_left
  .exact c7
  refine gIf ?_ ?_<;>intro a4
  .exact c7
  have hwh:=xQ (w:=w) (h:=h) ⟨z7,z7⟩ ⟨z7,z7⟩;refine gN holes.length 10 (λk=>k<=holes.length/\(holes.take k).Pairwise (·<·)/\∀x∈holes.take k,0<=x/\x<w*h) ⟨bR _,An,An⟩ ?_;rintro k ⟨hk,l6,hmem⟩;refine gIf ?_ ?_<;>intro a6
  .refine go ?_;intro _ _ x hx;have hxm:=aZ hx;have htk:holes.take (k+1)=holes.take k++[x]:=by rw[nP,hx];rfl
   have hstep:0<=x->x<w*h->(∀a∈holes.take k,a<x)->k+1<=holes.length/\(holes.take (k+1)).Pairwise (·<·)/\∀z∈holes.take (k+1),0<=z/\z<w*h:=λq1 q2 q3=>by
    refine⟨z7,?_,?_⟩
    .rw[htk,Kq];exact⟨l6,An,λa ha b hb=>by rw[bM.1 hb];exact q3 a ha⟩
    .rw[htk];intro z hz;rcases dX.1 hz with hz|hz
     .exact hmem z hz
     .rw[bM.1 hz];exact⟨q1,q2⟩
   refine gH ?_ ?_<;>intro b1
   rotate_left
   .exact kB
   refine go ?_;intro _ _ x' hx';cases hx.symm.trans hx';refine gH ?_ ?_<;>intro b2
   rotate_left
   .exact kB
   refine gH ?_ ?_<;>intro b3
   .refine go ?_;refine aN (k+1) z7 (hstep z7 z7 λa ha=>?_);rw[show k=0 by omega,DK]at ha;cases ha
   refine go ?_;intro _ _ x' hx' _ _ z hz;cases hx.symm.trans hx';obtain⟨j,rfl⟩:∃j,k=j+1:=⟨k - 1,z7⟩
   rw[show(((j+1:Nat):Int) - 1).toNat=j by omega]at hz;have hzj:holes.take (j+1)=holes.take j++[z]:=by rw[nP,hz];rfl
   refine gIf ?_ ?_<;>intro b4
   .refine go ?_;refine gQ ⟨false,.nilFunc,.nilFunc⟩ ⟨(λe=>by cases e),λe=>?_⟩
    exfalso
    have e:=wz.2 e;obtain⟨q1,q2,q3,q4,q5,q6⟩:=e;obtain⟨d1,d2⟩:=bq.1 hz;obtain⟨d3,d4⟩:=bq.1 hx;have:=wT.1 q4 j (j+1) d1 d3 z7;rw[d2,d4]at this;omega
   refine go ?_;refine aN (j+1+1) z7 (hstep z7 z7 λa ha=>?_);have:=VJ l6 ha;rw[hzj,VI]at this;omega
  have hkl:k=holes.length:=z7
  subst hkl;rw[bU]at l6 hmem;clear a6 hk;obtain⟨m,hm⟩:=jA (show 0<=w*h by omega);have FI:mX w h holes=gI m holes:=by
   unfold mX;rw[hm];rfl
  have hmm:∀x∈holes,0<=x/\x<(m:Int):=λx hx=>by rw[<- hm];exact hmem x hx
  refine go ?_;intro b11;refine go ?_;refine af5 ae ?_;refine af5 ae ?_;refine aU (λy:Nat×vI×vI=>m - y.1) (λy=>[(12,iV (y.1:Int))]) (λy=>[pt b11 (.cells [iV _,iV w,iV h,y.2.1,y.2.2]),ap ae y.2.1 (dP y.1 λi=>decide (i∈holes)),ap ae y.2.2 (gI y.1 holes)]) (λ_=>[]) (λy=>y.1<=m) (0,.slice none 0 0,.slice none 0 0) (bR _) (hk:=As) (body:=?_);rintro⟨k,v1,v2⟩ hk;dsimp only at hk⊢;have hcl:=CW k holes;have hsl:=Ba k λi=>decide (i∈holes);refine go ?_;rw[hm];refine gIf ?_ ?_<;>intro a9
  .refine gC (JZ (xs:=holes) (z:=(k:Int)) z7) λ_ _=>?_;refine gIf ?_ ?_<;>intro hin
   .have e1:gI (k+1) holes=gI k holes:=by rw[Jd,if_pos hin,gU]
    have e2:dP (k+1) (λi=>decide (i∈holes))=dP k (λi=>decide (i∈holes))++[(k:Int)]:=by rw[A9,if_pos (dK hin)]
    refine go ?_;intro b91;refine go ?_;refine fB ae (xs:=dP k λi=>decide (i∈holes)) (k:Int) () z7 λad=>?_;rw[<- e1,<- e2];refine go ?_;exact aN (k+1,.slice ad ((dP k λi=>decide (i∈holes)).length+1) ((dP k λi=>decide (i∈holes)).length+1),v2) CM CN
   .have e1:gI (k+1) holes=gI k holes++[(k:Int)]:=by rw[Jd,if_neg hin]
    have e2:dP (k+1) (λi=>decide (i∈holes))=dP k (λi=>decide (i∈holes)):=by rw[A9,if_neg (by simp[hin]),gU]
    refine go ?_;intro b91;refine go ?_;refine fB ae (xs:=gI k holes) (k:Int) () z7 λad=>?_;rw[<- e1,<- e2];refine go ?_;exact aN (k+1,v1,.slice ad ((gI k holes).length+1) ((gI k holes).length+1)) CM CN
  have hkm:k=m:=z7
  subst hkm;rw[UJ l6 hmm];refine pO (E:=ae) (v:=v2) (xs:=gI k holes) λa2 hv2=>?_;subst hv2;refine gIf ?_ ?_<;>intro a7
  .refine go ?_;refine gQ ⟨false,.nilFunc,.nilFunc⟩ ⟨(λe=>by cases e),λe=>?_⟩
   exfalso
   have e:=wz.2 e;obtain⟨q1,q2,q3,q4,q5,q6⟩:=e;rw[FI]at q6;exact q6 (jy.1 z7)
  refine go ?_;refine gZ (gz (E:=ae) (v:=v1) (xs:=holes)) ?_;refine gZ (gz (E:=ae) (v:=.slice a2 (gI k holes).length (gI k holes).length) (xs:=gI k holes)) ?_;refine go ?_;refine gQ ⟨true,v1,.slice a2 (gI k holes).length (gI k holes).length⟩ ⟨λ_=>wz.1 ⟨by first|exact .inl rfl|exact .inr rfl,⟨z7,z7⟩,⟨z7,z7⟩,l6,hmem,by rw[FI];exact λe=>a7 (by rw[e];rfl)⟩,λ_=>rfl⟩ (hF:=?_);show Sub [ai ae _ holes,ai ae _ (mX w h holes)] _;rw[FI];exact .cons An (.cons An .nil)
variable{g:bz}{vc:vI}
def Wu(hS:qP g):
 fC prog 201 [.agg ⟨iO g vh vc⟩] (jq g vh vc) (λe:Int=>iV e) (λe=>e=0↔fE g):=by
 refine gB 201 λB w0=>?_;refine go ?_;intro b1;refine gC (O4 (s:=g.shape) (w:=g.w) (h:=g.h) (holes:=g.holes) (vh:=vh) hS.w hS.h hS.holes) λy hy=>?_;obtain⟨ok,v1,v2⟩:=y;cases ok with
 |false=>
  exact gf
 |true=>
  have hmk:=hy.1 rfl;dsimp only[mkV,pM,cond,jq,wH,List.cons_append,List.nil_append];refine go ?_;intro b3;refine gC (zF (xs:=mX g.w g.h g.holes) (ys:=g.cells) (by
   exact tn)) λ_ _=>?_
  exact hJ
def O5{α:Type}{xs:kI α}{k:Nat}(h:xs.length<=k):xs.take k=xs:=ry h
abbrev sF(g:bz)(a:Nat):Int->Bool:=λb=>xU g.shape (aic g (a:Int)) (aic g b)
def Wv(hS:qP g):
 bA prog (.func 135) [.agg ⟨iO g vh vc⟩] [] [] (jq g vh vc) wI (λ_=>[]) (λy=>[jr (y.e=0) (ai (ak ae) y.v (bJ g))]) (λy=>y.e=0↔fE g):=by
 refine gB 135 λB w0=>?_;refine go ?_;intro b1;refine gP b1 ?_;refine gC (Wu (g:=g) (vh:=vh) (vc:=vc) hS) λe he=>?_;refine gIf ?_ ?_<;>intro h1
 .refine go ?_;refine jE (c:=(130:Int)=0) (f:=ai (ak ae) (.slice none 0 0) (bJ g)) z7 ?_;exact gQ ⟨.slice none 0 0,130⟩ ⟨(λh=>by cases h),λh=>absurd (he.2 h) h1⟩
 have hg:=he.1 (ic.1 h1);clear he h1;have hgl:=hg.len;have hnl:=wm g;refine go ?_;refine af5 (ak ae) ?_;refine aU (λy:Nat×vI=>g.cells.length - y.1) (λy=>[(5,iV (y.1:Int)),(4,y.2)]) (λy=>[ap (ak ae) y.2 ((bJ g).take y.1)]) (λ_=>[]) (λy=>y.1<=g.cells.length) (0,.slice none 0 0) (bR _) (hk:=As) (body:=?_);rintro⟨i,v4⟩ hi;dsimp only at hi⊢;have hil:((bJ g).take i).length=i:=by rw[gT];omega
 refine gIf ?_ ?_<;>intro h2
 .have hn:=UK hg (show i<g.cells.length by omega);refine go ?_;refine af5 ae ?_;refine aU (λy:Nat×vI=>g.cells.length - y.1) (λy=>[(7,iV (y.1:Int)),(6,y.2)]) (λy=>[ap ae y.2 (dP y.1 (sF g i))]) (λ_=>[]) (λy=>y.1<=g.cells.length) (0,.slice none 0 0) (bR _) (hk:=As) (body:=?_);rintro⟨j,v6⟩ hj;dsimp only at hj⊢;have hsl:=Ba j (sF g i);refine gIf ?_ ?_<;>intro h3
  .refine gC (ahG (g:=g) (vh:=vh) (vc:=vc) (a:=i) (b:=j) hg z7 z7) λ_ _=>?_;have hss:=A9 j (sF g i);refine go ?_;refine kw rfl (λh4=>?_) (λh4=>?_)
   .rw[if_pos h4]at hss;refine go ?_;intro O6;refine go ?_;refine fB ae (xs:=dP j (sF g i)) (j:Int) () z7 λad=>?_;rw[<- hss];refine go ?_;exact aN (j+1,.slice ad ((dP j (sF g i)).length+1) ((dP j (sF g i)).length+1)) By AW
   .rw[if_neg (by show¬xU g.shape (aic g (i:Int)) (aic g (j:Int))=true;rw[h4];simp),gU]at hss;rw[<- hss];refine go ?_;exact aN (j+1,v6) By AW
  have iR:j=g.cells.length:=z7
  subst iR;refine pO (E:=ae) (v:=v6) (xs:=dP g.cells.length (sF g i)) λa6 e6=>?_;subst e6;refine gZ (gz (E:=ae) (v:=.slice a6 (dP g.cells.length (sF g i)).length (dP g.cells.length (sF g i)).length) (xs:=dP g.cells.length (sF g i))) ?_;refine go ?_;intro b35;refine go ?_;refine fB (xs:=(bJ g).take i) (ak ae) (dP g.cells.length (sF g i)) (.slice a6 (dP g.cells.length (sF g i)).length (dP g.cells.length (sF g i)).length) z7 (next:=λad=>?_);rw[<- bZ hn];refine go ?_;exact aN (i+1,.slice ad (((bJ g).take i).length+1) (((bJ g).take i).length+1)) CT AK
 have hie:i=g.cells.length:=z7
 subst hie;rw[O5 z7];refine gZ (gz (E:=ak ae) (v:=v4) (xs:=bJ g)) ?_;refine go ?_;refine jP (c:=(0:Int)=0) (f:=ai (ak ae) v4 (bJ g)) An ?_;exact gQ ⟨v4,0⟩ ⟨λ_=>hg,λ_=>rfl⟩
def ahK(hg:fE g){k:Nat}(hk:k<g.cells.length):(-8<(aic g (k:Int)).1/\(aic g (k:Int)).1<16)/\0<=(aic g (k:Int)).2/\(aic g (k:Int)).2<16:=by
 obtain⟨hc,hr⟩:=zG hg hk;have hv:=J3 hr;rcases hg.make.sh with hs|hs
 .rw[Du hk hs];dsimp only;omega
 .rw[FY hk hs];dsimp only;omega
def ahL(hg:fE g){k:Nat}(hk:k<g.cells.length)(f:Int): -16<=oh g.shape f (aic g (k:Int))/\oh g.shape f (aic g (k:Int))<=32:=by
 obtain⟨h1,h2⟩:=ahK hg hk;unfold oh;split
 .omega
 split
 .omega
 split<;>omega
abbrev ul(g:bz)(f n:Int):Int->Bool:=λb=>decide (oh g.shape f (aic g b)=n)
abbrev yu(g:bz)(f:Int)(k:Nat):kI (kI Int):=zm (λn=>dP g.cells.length (ul g f n)) (-16) k
def ahM(hg:fE g)(f:Int):yu g f 49=jd g λs=>(oh g.shape f s,true):=by
 rw[UO (lo:= -16) (k:=49) (λs=>(oh g.shape f s,true)) (λp hp _=>by
  obtain⟨h1,h2⟩:=Fx.1 hp;have h3:=ahL hg (k:=p.1.toNat) z7 f;rw[show((p.1.toNat:Nat):Int)=p.1 by omega,<- h2]at h3;dsimp only;omega)]
 unfold yu;congr 1;funext n
 rw[UM];rfl
def ahN(L:Int->kI Int)(lo:Int)(k:Nat):(zm L lo k).length<=k:=by
 unfold zm;refine pQ (PR _ _) ?_;rw[bY];unfold fG;simp
def O7{f:Int}(hg:fE g):
 bA prog (.func 203) [.agg ⟨iO g vh vc⟩,iV f] [] [] (jq g vh vc) (λv:vI=>v) (λv=>[ap (ak ae) v (jd g λs=>(oh g.shape f s,true))]) (λ_=>[]) (λ_=>True):=by
 have hgl:=hg.len;refine gB 203 λB w0=>?_;refine go ?_;intro b1;refine gP b1 ?_;refine go ?_;refine af5 (ak ae) ?_;refine aU (λy:Nat×vI=>49 - y.1) (λy=>[(6,iV (-16+(y.1:Int))),(5,y.2)]) (λy=>[ap (ak ae) y.2 (yu g f y.1)]) (λ_=>[]) (λy=>y.1<=49) (0,.slice none 0 0) z7 (hk:=As) (body:=?_);rintro⟨i,v5⟩ hi;dsimp only at hi⊢;have hil:(yu g f i).length<=i:=ahN (λn=>dP g.cells.length (ul g f n)) (-16) i;have hls:yu g f (i+1)=yu g f i++if dP g.cells.length (ul g f (-16+(i:Int)))=[]then[]else[dP g.cells.length (ul g f (-16+(i:Int)))]:=UN (λn=>dP g.cells.length (ul g f n)) (-16) i
 have hin: -16+(i:Int)+1= -16+((i+1:Nat):Int):=z7
 refine gIf ?_ ?_<;>intro h2
 .refine go ?_;refine af5 ae ?_;refine aU (λy:Nat×vI=>g.cells.length - y.1) (λy=>[(8,iV (y.1:Int)),(7,y.2)]) (λy=>[ap ae y.2 (dP y.1 (ul g f (-16+(i:Int))))]) (λ_=>[]) (λy=>y.1<=g.cells.length) (0,.slice none 0 0) (bR _) (hk:=As) (body:=?_);rintro⟨j,v7⟩ hj;dsimp only at hj⊢;have hsl:=Ba j (ul g f (-16+(i:Int)));refine gIf ?_ ?_<;>intro h3
  .refine gC (ahH (g:=g) (vh:=vh) (vc:=vc) (f:=f) (a:=j) hg z7) λ_ _=>?_;have hss:=A9 j (ul g f (-16+(i:Int)));refine gIf ?_ ?_<;>intro h4
   .rw[if_pos (dK h4)]at hss;refine go ?_;intro O6;refine go ?_;refine fB ae (xs:=dP j (ul g f (-16+(i:Int)))) (j:Int) () z7 λad=>?_;rw[<- hss];refine go ?_;exact aN (j+1,.slice ad ((dP j (ul g f (-16+(i:Int)))).length+1) ((dP j (ul g f (-16+(i:Int)))).length+1)) By AW
   .rw[if_neg (by show¬decide (oh g.shape f (aic g (j:Int))= -16+(i:Int))=true;rw[aR h4];simp),gU]at hss;rw[<- hss];refine go ?_;exact aN (j+1,v7) By AW
  have iR:j=g.cells.length:=z7
  subst iR;generalize hL:dP g.cells.length (ul g f (-16+(i:Int)))=L at hls hsl⊢;refine pO (E:=ae) (v:=v7) (xs:=L) λa7 e7=>?_;subst e7;refine gIf ?_ ?_<;>intro h5
  .rw[if_neg (λe=>by rw[e]at h5;simp at h5)]at hls;refine gZ (gz (E:=ae) (v:=.slice a7 L.length L.length) (xs:=L)) ?_;refine go ?_;intro b35;refine go ?_;refine fB (xs:=yu g f i) (ak ae) L (.slice a7 L.length L.length) z7 (next:=λad=>?_);rw[<- hls];refine go ?_;rw[hin];exact aN (i+1,.slice ad ((yu g f i).length+1) ((yu g f i).length+1)) Jx AK
  .rw[if_pos (jy.1 z7),gU]at hls;rw[<- hls];refine go ?_;rw[hin];exact aN (i+1,v5) Jx AK
 have hie:i=49:=z7
 subst hie;rw[ahM hg f];refine go ?_;exact gQ v5 trivial
abbrev ny(g:bz)(k:Nat):Int->Bool:=λb=>cond (Nat.beq k 0) (decide ((aic g b).1=(aic g b).2)) (decide ((aic g b).1+(aic g b).2=g.w - 1))
def sG(g:bz)(k:Nat):kI Int:=dP g.cells.length (ny g k)
def qW(l:kI Int):kI (kI Int):=if l=[]then[]else[l]
def ahO(hs:g.shape=1)(hw:g.w=g.h):lY g=jO (qW (sG g 0)) (qW (sG g 1)):=by
 unfold lY;rw[if_neg z7,if_pos hw,Jt (λs=>decide (s.1=s.2)),Jt (λs=>decide (s.1+s.2=g.w - 1))];rfl
def mJ(g:bz)(k:Nat):kI (kI Int):=if k=0 then[]else if k=1 then qW (sG g 0)else jO (qW (sG g 0)) (qW (sG g 1))
def ahP(l:kI Int):jO [] (qW l)=qW l:=by
 unfold qW;split
 .rfl
 .show uf [] l=[l]
  unfold uf;rw[if_neg An];rfl
def ahQ(g:bz){k:Nat}(hk:k<2):mJ g (k+1)=jO (mJ g k) (qW (sG g k)):=by
 rcases(show k=0\/k=1 by omega)with rfl|rfl
 .exact(ahP _).symm
 .rfl
def Ww(O:kI (kI Int)){l:kI Int}(hl:l≠[]):jO O (qW l)=if O.head? =some l then O else O++[l]:=by
 unfold qW;rw[if_neg hl];rfl
def ahR(hg:fE g)(hs:g.shape=1):
 bA prog (.func 204) [.agg ⟨iO g vh vc⟩] [] [] (jq g vh vc) (λv:vI=>v) (λv=>[ap (ak ae) v (lY g)]) (λ_=>[]) (λ_=>True):=by
 have hgl:=hg.len;have FJ:=hg.make.wi;refine gB 204 λB w0=>?_;refine go ?_;intro b1;refine gP b1 ?_;refine go ?_;refine af5 (ak ae) ?_;refine aU (λy:Nat×vI=>2 - y.1) (λy=>[(4,iV (y.1:Int)),(3,y.2)]) (λy=>[ap (ak ae) y.2 (mJ g y.1)]) (λ_=>[]) (λy=>y.1<=2/\(y.1=0\/g.w=g.h)) (0,.slice none 0 0) ⟨z7,.inl rfl⟩ (hk:=As) (body:=?_);rintro⟨k,v3⟩ ⟨hk,O8⟩;dsimp only at hk O8⊢;have J4:∀l∈mJ g k,l.length<=256:=λl hl=>by
  have h1:∀n,(sG g n).length<=256:=λn=>by have:=Ba g.cells.length (ny g n);unfold sG;omega
  have h2:∀n,∀l∈qW (sG g n),l.length<=256:=λn l hl=>by
   unfold qW at hl;split at hl
   .cases hl
   .rw[bM.1 hl];exact h1 n
  unfold mJ at hl;split at hl
  .cases hl
  split at hl
  .exact h2 0 l hl
  .rcases Uz hl with hl|hl
   .exact h2 0 l hl
   .exact h2 1 l hl
 have hol:(mJ g k).length<=2:=by
  unfold mJ jO qW;split
  .simp
  split
  .split<;>simp
  .split<;>split<;>simp[uf]<;>split<;>simp
 refine gH ?_ ?_<;>intro hk2
 .have e:k=2:=by omega
  subst e;have hw:g.w=g.h:=O8.resolve_left z7;rw[show mJ g 2=lY g from(ahO hs hw).symm];refine go ?_;exact gQ v3 trivial
 refine gIf ?_ ?_<;>intro hw
 rotate_left
 .have e:k=0:=O8.resolve_right hw;subst e;have e:lY g=mJ g 0:=by unfold lY;rw[if_neg z7,if_neg hw];rfl
  rw[e];refine go ?_;exact gQ v3 trivial
 have hds:=ahQ g (show k<2 by omega);rcases(show k=0\/k=1 by omega)with rfl|rfl
 .refine go ?_;refine af5 ae ?_;refine aU (λy:Nat×vI=>g.cells.length - y.1) (λy=>[(6,iV (y.1:Int)),(5,y.2)]) (λy=>[ap ae y.2 (dP y.1 (ny g 0))]) (λ_=>[]) (λy=>y.1<=g.cells.length) (0,.slice none 0 0) (bR _) (hk:=As) (body:=?_);rintro⟨j,v5⟩ hj;dsimp only at hj⊢;have hsl:=Ba j (ny g 0);refine gIf ?_ ?_<;>intro h3
  .have yx:=Du (k:=j) z7 hs;obtain⟨hc,hr⟩:=zG hg (k:=j) z7;have hss:=A9 j (ny g 0);refine gC (Dt (g:=g) (vh:=vh) (vc:=vc) (k:=j) hg z7) λ_ _=>?_;refine gC (BA (g:=g) (vh:=vh) (vc:=vc) (k:=j) hg z7) λ_ _=>?_;generalize(g.cells[j]).tmod g.w=x at hc yx⊢;generalize(g.cells[j]).tdiv g.w=y at hr yx⊢;refine gH ?_ ?_<;>intro h4
   rotate_left
   .have hp:ny g 0 (j:Int)=true:=by show decide _=true;rw[yx];exact dK B0
    rw[if_pos hp]at hss;refine go ?_;intro O6;refine go ?_;refine fB ae (xs:=dP j (ny g 0)) (j:Int) () z7 λad=>?_;rw[<- hss];refine go ?_;exact aN (j+1,.slice ad ((dP j (ny g 0)).length+1) ((dP j (ny g 0)).length+1)) By AW
   .have hp:¬ny g 0 (j:Int)=true:=by show¬decide _=true;rw[yx];intro h;have:=iI h;dsimp only at this;omega
    exact mj
  have iR:j=g.cells.length:=z7
  subst iR;have hL:dP g.cells.length (ny g 0)=sG g 0:=rfl;rw[hL]at hsl⊢;generalize sG g 0=L at hsl hds⊢;refine pO (E:=ae) (v:=v5) (xs:=L) λa5 e5=>?_;subst e5;refine gZ (gz (E:=ae) (v:=.slice a5 L.length L.length) (xs:=L)) ?_;generalize mJ g 0=O at hds hol J4⊢;refine pO (E:=ak ae) (v:=v3) (xs:=O) λa3 e3=>?_;subst e3;refine gH ?_ ?_<;>intro h5
  .have e0:L=[]:=jy.1 z7;have e1:mJ g (0+1)=O:=by rw[hds,e0];rfl
   rw[<- e1];exact mw
  rw[Ww O (λe=>by rw[e]at h5;simp at h5)]at hds;refine gH ?_ ?_<;>intro h6
  .obtain⟨o,O2,rfl⟩:∃o O2,O=o::O2:=by
    exact ur
   refine go ?_;refine I6 ae (v:=.slice a3 (o::O2).length (o::O2).length) (xss:=o::O2) 0 o rfl (next:=λ_ _ u=>?_);refine go ?_;have ho:=J4 o (cB ..);rw[List.head?_cons]at hds;refine ay (zF (xs:=o) (ys:=L) z7) (next:=λ_ _=>?_);refine go ?_;refine fq rfl (λh7=>?_) (λh7=>?_)
   .rw[if_neg (λe=>h7 (Option.some.inj e))]at hds;refine go ?_;intro O9;refine go ?_;refine fB (xs:=o::O2) (ak ae) L (.slice a5 L.length L.length) z7 (next:=λr9=>?_);rw[<- hds];refine go ?_;exact aN (0+1,.slice r9 ((o::O2).length+1) ((o::O2).length+1)) (by show 2 - (0+1)<2 - 0;omega) ⟨by show 0+1<=2;omega,.inr hw⟩
   .rw[if_pos (congrArg some h7)]at hds;rw[<- hds];exact mw
  have e0:O=[]:=jy.1 z7;subst e0;rw[if_neg An]at hds;refine go ?_;intro O9;refine go ?_;refine fB (xs:=([]:kI (kI Int))) (ak ae) L (.slice a5 L.length L.length) An (next:=λad=>?_);rw[<- hds];refine go ?_;exact aN (0+1,.slice ad (([]:kI (kI Int)).length+1) (([]:kI (kI Int)).length+1)) (by show 2 - (0+1)<2 - 0;omega) ⟨by show 0+1<=2;omega,.inr hw⟩
 .refine go ?_;refine af5 ae ?_;refine aU (λy:Nat×vI=>g.cells.length - y.1) (λy=>[(6,iV (y.1:Int)),(5,y.2)]) (λy=>[ap ae y.2 (dP y.1 (ny g 1))]) (λ_=>[]) (λy=>y.1<=g.cells.length) (0,.slice none 0 0) (bR _) (hk:=As) (body:=?_);rintro⟨j,v5⟩ hj;dsimp only at hj⊢;have hsl:=Ba j (ny g 1);refine gIf ?_ ?_<;>intro h3
  .have yx:=Du (k:=j) z7 hs;obtain⟨hc,hr⟩:=zG hg (k:=j) z7;have hss:=A9 j (ny g 1);refine gC (Dt (g:=g) (vh:=vh) (vc:=vc) (k:=j) hg z7) λ_ _=>?_;refine gC (BA (g:=g) (vh:=vh) (vc:=vc) (k:=j) hg z7) λ_ _=>?_;generalize(g.cells[j]).tmod g.w=x at hc yx⊢;generalize(g.cells[j]).tdiv g.w=y at hr yx⊢;refine gIf ?_ ?_<;>intro h4
   .have hp:ny g 1 (j:Int)=true:=by show decide _=true;rw[yx];exact dK B0
    rw[if_pos hp]at hss;refine go ?_;intro O6;refine go ?_;refine fB ae (xs:=dP j (ny g 1)) (j:Int) () z7 λad=>?_;rw[<- hss];refine go ?_;exact aN (j+1,.slice ad ((dP j (ny g 1)).length+1) ((dP j (ny g 1)).length+1)) By AW
   .have hp:¬ny g 1 (j:Int)=true:=by show¬decide _=true;rw[yx];intro h;have:=iI h;dsimp only at this;omega
    exact mj
  have iR:j=g.cells.length:=z7
  subst iR;have hL:dP g.cells.length (ny g 1)=sG g 1:=rfl;rw[hL]at hsl⊢;generalize sG g 1=L at hsl hds⊢;refine pO (E:=ae) (v:=v5) (xs:=L) λa5 e5=>?_;subst e5;refine gZ (gz (E:=ae) (v:=.slice a5 L.length L.length) (xs:=L)) ?_;generalize mJ g 1=O at hds hol J4⊢;refine pO (E:=ak ae) (v:=v3) (xs:=O) λa3 e3=>?_;subst e3;refine gH ?_ ?_<;>intro h5
  .have e0:L=[]:=jy.1 z7;have e1:mJ g (1+1)=O:=by rw[hds,e0];rfl
   rw[<- e1];exact mu
  rw[Ww O (λe=>by rw[e]at h5;simp at h5)]at hds;refine gH ?_ ?_<;>intro h6
  .obtain⟨o,O2,rfl⟩:∃o O2,O=o::O2:=by
    exact ur
   refine go ?_;refine I6 ae (v:=.slice a3 (o::O2).length (o::O2).length) (xss:=o::O2) 0 o rfl (next:=λ_ _ u=>?_);refine go ?_;have ho:=J4 o (cB ..);rw[List.head?_cons]at hds;refine ay (zF (xs:=o) (ys:=L) z7) (next:=λ_ _=>?_);refine go ?_;refine fq rfl (λh7=>?_) (λh7=>?_)
   .rw[if_neg (λe=>h7 (Option.some.inj e))]at hds;refine go ?_;intro O9;refine go ?_;refine fB (xs:=o::O2) (ak ae) L (.slice a5 L.length L.length) z7 (next:=λr9=>?_);rw[<- hds];refine go ?_;exact aN (1+1,.slice r9 ((o::O2).length+1) ((o::O2).length+1)) (by show 2 - (1+1)<2 - 1;omega) ⟨by show 1+1<=2;omega,.inr hw⟩
   .rw[if_pos (congrArg some h7)]at hds;rw[<- hds];exact mu
  have e0:O=[]:=jy.1 z7;subst e0;rw[if_neg An]at hds;refine go ?_;intro O9;refine go ?_;refine fB (xs:=([]:kI (kI Int))) (ak ae) L (.slice a5 L.length L.length) An (next:=λad=>?_);rw[<- hds];refine go ?_;exact aN (1+1,.slice ad (([]:kI (kI Int)).length+1) (([]:kI (kI Int)).length+1)) (by show 2 - (1+1)<2 - 1;omega) ⟨by show 1+1<=2;omega,.inr hw⟩
def ahS{p:Int}(hg:fE g):fC prog 205 [.agg ⟨iO g vh vc⟩,iV p] (jq g vh vc) (λy:Nat×Bool=>.tuple ⟨[iV (y.1:Int),.bool y.2]⟩) (λy=>(y.2=true↔p∈g.cells)/\(y.2=true->ww p g.cells=y.1)):=by
 have hgl:=hg.len;have l6:g.cells.Pairwise (·<·):=DM
 refine gB 205 λB w0=>?_;refine go ?_;intro b1;refine gP b1 ?_;refine gN g.cells.length 6 (λk=>k<=g.cells.length/\p∉g.cells.take k) ⟨z7,An⟩ ?_;rintro k ⟨hk,hno⟩;refine gIf ?_ ?_<;>intro h1
 .refine go ?_;intro _ _ x hx;refine gIf ?_ ?_<;>intro h2
  .refine go ?_;subst h2;exact gQ (k,true) ⟨⟨λ_=>aZ hx,λ_=>rfl⟩,λ_=>Jk l6 hx⟩
  .exact ew
 have:k=g.cells.length:=z7
 subst this;rw[bU]at hno;exact iu
def Wx{vr:vI}{rs:kI (kI Int)}(hS:qP g)(hrl:rs.length<2^63)(hrs:∀ps∈rs,ps.length<2^63):
 bA prog (.func 137) [.agg ⟨iO g vh vc⟩,vr] [] [] (ai (ak ae) vr rs::jq g vh vc) wI (λ_=>[]) (λy=>JO g rs y) (λy=>y.e=0↔fE g/\CZ g rs):=by
 refine gB 137 λB w0=>?_;refine gF (ak ae) vr rs λar cr er=>?_;subst er;refine go ?_;intro b2;refine gP b2 ?_;refine gC (Wu (g:=g) hS) λe he=>?_;refine gH ?_ ?_<;>intro h1
 rotate_left
 .exact iS
 have hg:=he.1 z7;have hgl:=hg.len;refine gIf ?_ ?_<;>intro h2
 .exact gO
 refine go ?_;refine af5 (ak ae) ?_;refine aU (λy:Nat×vI=>rs.length - y.1) (λy=>[(7,iV (y.1:Int)),(6,y.2)]) (λy=>[ap (ak ae) y.2 (dW g (rs.take y.1))]) (λ_=>[]) (λy=>y.1<=rs.length/\∀ps∈rs.take y.1,zk g ps) (0,.slice none 0 0) ⟨bR _,λps h=>by cases h⟩ (hk:=As) (body:=?_);rintro⟨k,v6⟩ ⟨hk,hall⟩;dsimp only at hk hall⊢;have hkl:(dW g (rs.take k)).length=k:=by unfold dW;rw[bY,gT];omega
 refine gIf ?_ ?_<;>intro h3
 .obtain⟨ps,hps⟩:∃ps,rs[k]? =some ps:=⟨rs[k]'(z7),bP _⟩
  have hpm:=aZ hps;have hpl:=hrs ps hpm;have htk:=bZ hps;refine go ?_;refine af5 ae ?_;refine aU (λy:Nat×vI=>ps.length - y.1) (λy=>[(9,iV (y.1:Int)),(8,y.2)]) (λy=>[ap ae y.2 (eZ g (ps.take y.1))]) (λ_=>[]) (λy=>y.1<=ps.length/\(∀p∈ps.take y.1,p∈g.cells)/\(eZ g (ps.take y.1)).Nodup) (0,.slice none 0 0) ⟨bR _,(λp h=>by cases h),yE⟩ (hk:=As) (body:=?_);rintro⟨j,v8⟩ ⟨hj,hmem,hnd⟩;dsimp only at hj hmem hnd⊢;have hjl:(eZ g (ps.take j)).length=j:=by unfold eZ;rw[bY,gT];omega
  have hj2:j<=256:=IF
  refine gX (ak ae) (xs:=rs) λ_ _ ps' (vp:vI) Pb=>?_;cases hps.symm.trans Pb;refine gIf ?_ ?_<;>intro h4
  .refine gX (ak ae) (xs:=rs) λ_ _ ps' (vp:vI) Pb=>?_;cases hps.symm.trans Pb;refine go ?_;intro _ _ x hx;have htx:=bZ hx;refine gC (ahS (g:=g) (vh:=vh) (vc:=vc) (p:=x) hg) λy hy=>?_;obtain⟨c,ok⟩:=y;obtain⟨hy1,hy2⟩:=hy;dsimp only at hy1 hy2⊢;cases ok with
   |false=>
    refine go ?_;refine jE (c:=(130:Int)=0) (f:=ai (ak ae) (.slice none 0 0) (dW g rs)) z7 ?_;exact gQ ⟨.slice none 0 0,130⟩ ⟨(λh=>by cases h),λh=>by
     have:=hy1.2 ((h.2.all ps hpm).mem x (aZ hx));cases this⟩
   |true=>
    have hxm:=hy1.1 rfl;have hpos:=hy2 rfl;have hr1:eZ g (ps.take (j+1))=eZ g (ps.take j)++[(c:Int)]:=IN
    refine gC (ahD (vl:=v8) (xs:=eZ g (ps.take j)) (z:=(c:Int)) z7) λ_ _=>?_;refine gIf ?_ ?_<;>intro h5
    .exact dr
    .exact cR
  exact cC
 have hke:k=rs.length:=z7
 subst hke;rw[bU]at hall⊢;refine gZ (gz (E:=ak ae) (v:=v6) (xs:=dW g rs)) ?_;refine go ?_;refine jP (c:=(0:Int)=0) (f:=ai (ak ae) v6 (dW g rs)) An ?_;exact gQ ⟨v6,0⟩ ⟨λ_=>⟨hg,z7,hall⟩,λ_=>rfl⟩
def ahT(g:bz):(λs:Int×Int=>(oh g.shape 1 s,true))=λs=>(s.2,true):=by funext s;rfl
def ahU(g:bz):(λs:Int×Int=>(oh g.shape 2 s,true))=λs=>(s.1,true):=by funext s;unfold oh;simp
def ahV(h:g.shape=2):(λs:Int×Int=>(oh g.shape 3 s,true))=λs=>(s.1+s.2,true):=by funext s;unfold oh;simp[h]
def ahW{k:Int}(hS:qP g):
 bA prog (.func 136) [.agg ⟨iO g vh vc⟩,iV k] [] [] (jq g vh vc) wI (λ_=>[]) (λy=>JM g k y) (λy=>y.e=0↔fE g/\0<=k/\k<=7):=by
 refine gB 136 λB w0=>?_;refine go ?_;intro b2;refine gP b2 ?_;refine gC (Wv (g:=g) (vh:=vh) (vc:=vc) hS) λy hy=>?_;obtain⟨vn,e⟩:=y;dsimp only at hy⊢;refine gIf ?_ ?_<;>intro h1
 .exact kj
 have he:e=0:=ic.1 h1;subst he;have hg:=hy.1 rfl;clear hy h1;have hgl:=hg.len;have hnl:=wm g;have hnm:=Nq (g:=g);refine eF (ai (ak ae) vn (bJ g)) (λw hw=>hw (jr ((0:Int)=0) (ai (ak ae) vn (bJ g))) An rfl) ?_;refine gF (ak ae) vn (bJ g) λan cn en=>?_;subst en;refine gH ?_ ?_<;>intro h2
 rotate_left
 .exact iv
 refine gIf ?_ ?_<;>intro h3
 .exact iv
 rcases(show k=0\/k=1\/k=2\/k=3\/k=4\/k=5\/k=6\/k=7 by omega)with rfl|rfl|rfl|rfl|rfl|rfl|rfl|rfl;all_goals clear h2 h3
 .have hf:dM g 0=kW g.cells.length:=by simp[dM]
  refine go ?_;refine af5 ae ?_;refine af5 (ak ae) ?_;refine aU (λy:Nat×vI×vI=>g.cells.length - y.1) (λy=>[(10,iV (y.1:Int)),(9,y.2.1),(8,y.2.2)]) (λy=>[ap ae y.2.1 (upTo' y.1),ap (ak ae) y.2.2 (kW y.1)]) (λ_=>[]) (λy=>y.1<=g.cells.length) (0,.slice none 0 0,.slice none 0 0) (bR _) (hk:=As) (body:=?_);rintro⟨i,v9,v8⟩ hi;dsimp only at hi⊢;have hil:=lZ i;have Wy:=Jj i;refine gIf ?_ ?_<;>intro h2
  .refine go ?_;intro zx;refine go ?_;refine fB (xs:=upTo' i) ae (i:Int) () z7 (next:=λad=>?_);rw[<- wo];refine go ?_;intro yj b38;refine aie (A:=pt yj (.cells [iV (i:Int)])) (fs:=[ai ae (.slice (some ⟨yj,0,some 0⟩) 1 1) [(i:Int)]]) (uR (b:=yj) (f:=0) (c:=1) (xs:=[(i:Int)])) (h:=?_);refine go ?_;refine fB (xs:=kW i) (ak ae) [(i:Int)] (.slice (some ⟨yj,0,some 0⟩) 1 1) z7 (next:=λr9=>?_);rw[<- Uq];refine go ?_;exact aN (i+1,.slice ad ((upTo' i).length+1) ((upTo' i).length+1),.slice r9 ((kW i).length+1) ((kW i).length+1)) CT AK
  have hie:i=g.cells.length:=z7
  subst hie;refine go ?_;refine gZ (gz (E:=ak ae) (v:=v8) (xs:=kW g.cells.length)) ?_;refine go ?_;refine jP (c:=(0:Int)=0) (f:=ai (ak ae) v8 (dM g 0)) AN ?_;exact oc
 .have hf:dM g 1=jd g (λs=>(s.2,true)):=by simp[dM]
  refine go ?_;refine af5 ae ?_;refine aU (λy:Nat×vI=>g.cells.length - y.1) (λy=>[(10,iV (y.1:Int)),(9,y.2)]) (λy=>[ap ae y.2 (upTo' y.1)]) (λ_=>[]) (λy=>y.1<=g.cells.length) (0,.slice none 0 0) (bR _) (hk:=As) (body:=?_);rintro⟨i,v9⟩ hi;dsimp only at hi⊢;have hil:=lZ i;refine gIf ?_ ?_<;>intro h2
  .exact zd
  have hie:i=g.cells.length:=z7
  subst hie;refine gC (O7 (g:=g) (vh:=vh) (vc:=vc) (f:=1) hg) λv8 _=>?_;rw[ahT];refine go ?_;refine gZ (gz (E:=ak ae) (v:=v8) (xs:=jd g (λs=>(s.2,true)))) ?_;refine go ?_;refine jP (c:=(0:Int)=0) (f:=ai (ak ae) v8 (dM g 1)) AN ?_;exact gQ ⟨v8,0⟩ ⟨λ_=>⟨hg,z7,z7⟩,λ_=>rfl⟩
 .have hf:dM g 2=jd g (λs=>(s.1,true)):=by simp[dM]
  refine go ?_;refine af5 ae ?_;refine aU (λy:Nat×vI=>g.cells.length - y.1) (λy=>[(10,iV (y.1:Int)),(9,y.2)]) (λy=>[ap ae y.2 (upTo' y.1)]) (λ_=>[]) (λy=>y.1<=g.cells.length) (0,.slice none 0 0) (bR _) (hk:=As) (body:=?_);rintro⟨i,v9⟩ hi;dsimp only at hi⊢;have hil:=lZ i;refine gIf ?_ ?_<;>intro h2
  .exact zd
  have hie:i=g.cells.length:=z7
  subst hie;refine gC (O7 (g:=g) (vh:=vh) (vc:=vc) (f:=2) hg) λv8 _=>?_;rw[ahU];refine go ?_;refine gZ (gz (E:=ak ae) (v:=v8) (xs:=jd g (λs=>(s.1,true)))) ?_;refine go ?_;refine jP (c:=(0:Int)=0) (f:=ai (ak ae) v8 (dM g 2)) AN ?_;exact gQ ⟨v8,0⟩ ⟨λ_=>⟨hg,z7,z7⟩,λ_=>rfl⟩
 .have hf:dM g 3=lY g:=by simp[dM]
  refine go ?_;refine af5 ae ?_;refine aU (λy:Nat×vI=>g.cells.length - y.1) (λy=>[(10,iV (y.1:Int)),(9,y.2)]) (λy=>[ap ae y.2 (upTo' y.1)]) (λ_=>[]) (λy=>y.1<=g.cells.length) (0,.slice none 0 0) (bR _) (hk:=As) (body:=?_);rintro⟨i,v9⟩ hi;dsimp only at hi⊢;have hil:=lZ i;refine gIf ?_ ?_<;>intro h2
  .exact zd
  have hie:i=g.cells.length:=z7
  subst hie;refine gIf ?_ ?_<;>intro h4
  .refine gC (ahR (g:=g) (vh:=vh) (vc:=vc) hg h4) λv8 _=>?_;refine go ?_;refine gZ (gz (E:=ak ae) (v:=v8) (xs:=lY g)) ?_;refine go ?_;refine jP (c:=(0:Int)=0) (f:=ai (ak ae) v8 (dM g 3)) AN ?_;exact gQ ⟨v8,0⟩ ⟨λ_=>⟨hg,z7,z7⟩,λ_=>rfl⟩
  .have h5:g.shape=2:=hg.make.sh.resolve_left h4;have hd:lY g=jd g (λs=>(s.1+s.2,true)):=by unfold lY;rw[if_pos h5]
   refine gC (O7 (g:=g) (vh:=vh) (vc:=vc) (f:=3) hg) λv8 _=>?_;rw[ahV h5,<- hd];refine go ?_;refine gZ (gz (E:=ak ae) (v:=v8) (xs:=lY g)) ?_;refine go ?_;refine jP (c:=(0:Int)=0) (f:=ai (ak ae) v8 (dM g 3)) AN ?_;exact gQ ⟨v8,0⟩ ⟨λ_=>⟨hg,z7,z7⟩,λ_=>rfl⟩
 .have hf:dM g 4=bJ g:=by simp[dM]
  refine go ?_;refine af5 ae ?_;refine aU (λy:Nat×vI=>g.cells.length - y.1) (λy=>[(10,iV (y.1:Int)),(9,y.2)]) (λy=>[ap ae y.2 (upTo' y.1)]) (λ_=>[]) (λy=>y.1<=g.cells.length) (0,.slice none 0 0) (bR _) (hk:=As) (body:=?_);rintro⟨i,v9⟩ hi;dsimp only at hi⊢;have hil:=lZ i;refine gIf ?_ ?_<;>intro h2
  .exact zd
  have hie:i=g.cells.length:=z7
  subst hie;exact gg
 .have hf:dM g 5=l5 (bJ g):=by simp[dM]
  refine go ?_;refine af5 ae ?_;refine af5 (ak ae) ?_;refine aU (λy:Nat×vI×vI=>g.cells.length - y.1) (λy=>[(10,iV (y.1:Int)),(9,y.2.1),(8,y.2.2)]) (λy=>[ap ae y.2.1 (upTo' y.1),ap (ak ae) y.2.2 (l5 ((bJ g).take y.1))]) (λ_=>[]) (λy=>y.1<=g.cells.length) (0,.slice none 0 0,.slice none 0 0) (bR _) (hk:=As) (body:=?_);rintro⟨i,v9,v8⟩ hi;dsimp only at hi⊢;have hil:=lZ i;have Wy:(l5 ((bJ g).take i)).length=i:=by rw[Nk,gT];omega
  refine gIf ?_ ?_<;>intro h2
  .obtain⟨ln,hln⟩:∃ln,(bJ g)[i]? =some ln:=⟨(bJ g)[i]'(z7),bP _⟩
   have hll:=hnm ln (aZ hln);have hfs:=Ur hln;rw[aex hg hln]at hfs;refine go ?_;intro zx;refine go ?_;refine fB (xs:=upTo' i) ae (i:Int) () z7 (next:=λad=>?_);rw[<- wo];refine go ?_;refine af5 ae ?_;refine aU (λy:Nat×vI=>g.cells.length - y.1) (λy=>[(12,iV (y.1:Int)),(11,y.2)]) (λy=>[ap ae y.2 (dP y.1 λb=>decide (b=(i:Int))||decide (b∈ln))]) (λ_=>[]) (λy=>y.1<=g.cells.length) (0,.slice none 0 0) (bR _) (hk:=As) (body:=?_);rintro⟨j,v11⟩ hj;dsimp only at hj⊢;have hsl:=Ba j λb=>decide (b=(i:Int))||decide (b∈ln);refine gIf ?_ ?_<;>intro h3
   .have hss:=A9 j λb=>decide (b=(i:Int))||decide (b∈ln);refine gH ?_ ?_<;>intro h4
    .refine gX (ak ae) (xs:=bJ g) λ_ _ Pd (vl:vI) hl=>?_;cases hln.symm.trans hl;refine gC (JZ (xs:=ln) (z:=(j:Int)) z7) λ_ _=>?_;refine gIf ?_ ?_<;>intro h5
     .rw[if_pos (by simp[h5])]at hss;exact dj
     .rw[if_neg (by simp only[vG,wP,not_or];exact⟨h4,h5⟩),gU]at hss;rw[<- hss];refine go ?_;exact aN (j+1,v11) By AW
    .rw[if_pos (by simp[h4])]at hss;exact dj
   have iR:j=g.cells.length:=z7
   subst iR;generalize(dP g.cells.length λb=>decide (b=(i:Int))||decide (b∈ln))=zs at hfs⊢;refine pO (E:=ae) (v:=v11) (xs:=zs) λWz e11=>?_;subst e11;refine gZ (gz (E:=ae) (v:=.slice Wz zs.length zs.length) (xs:=zs)) ?_;refine go ?_;intro b73;refine go ?_;refine fB (xs:=l5 ((bJ g).take i)) (ak ae) zs (.slice Wz zs.length zs.length) z7 (next:=λr9=>?_);rw[<- hfs];refine go ?_;exact aN (i+1,.slice ad ((upTo' i).length+1) ((upTo' i).length+1),.slice r9 ((l5 ((bJ g).take i)).length+1) ((l5 ((bJ g).take i)).length+1)) CT AK
  have hie:i=g.cells.length:=z7
  subst hie;rw[O5 z7];refine go ?_;refine gZ (gz (E:=ak ae) (v:=v8) (xs:=l5 (bJ g))) ?_;refine go ?_;refine jP (c:=(0:Int)=0) (f:=ai (ak ae) v8 (dM g 5)) AN ?_;exact oc
 .have hf:dM g 6=ik (bJ g):=by simp[dM]
  have h6:=Np hnm;refine go ?_;refine af5 ae ?_;refine af5 (ak ae) ?_;refine aU (λy:Nat×vI×vI=>g.cells.length - y.1) (λy=>[(10,iV (y.1:Int)),(9,y.2.1),(8,y.2.2)]) (λy=>[ap ae y.2.1 (upTo' y.1),ap (ak ae) y.2.2 (ik ((bJ g).take y.1))]) (λ_=>[]) (λy=>y.1<=g.cells.length) (0,.slice none 0 0,.slice none 0 0) (bR _) (hk:=As) (body:=?_);rintro⟨i,v9,v8⟩ hi;dsimp only at hi⊢;have hil:=lZ i;have Wy:=h6 i z7;refine gIf ?_ ?_<;>intro h2
  .obtain⟨ln,hln⟩:∃ln,(bJ g)[i]? =some ln:=⟨(bJ g)[i]'(z7),bP _⟩
   have hll:=hnm ln (aZ hln);have hfs:=Nn hln;refine go ?_;intro zx;refine go ?_;refine fB (xs:=upTo' i) ae (i:Int) () z7 (next:=λad=>?_);rw[<- wo];refine go ?_;refine aU (λy:Nat×vI=>ln.length - y.1) (λy=>[(13,iV (y.1:Int)),(8,y.2)]) (λy=>[ap (ak ae) y.2 (ik ((bJ g).take i)++jh i (ln.take y.1))]) (λ_=>[]) (λy=>y.1<=ln.length) (0,v8) (bR _) (hk:=by rw[show ik ((bJ g).take i)++jh i (ln.take 0)=ik ((bJ g).take i)from gU _];repeat (first|exact aI.nil|(apply aI.cons;(focus (repeat (first|exact az.here|apply az.there)))))) (body:=?_);rintro⟨j,v5⟩ hj;dsimp only at hj⊢;have hpl:=Nl i (ln.take j);rw[gT]at hpl;have hal:(ik ((bJ g).take i)++jh i (ln.take j)).length<=2000:=by rw[iH];omega
   refine gX (ak ae) (xs:=bJ g) λ_ _ Pd (vl:vI) hl=>?_;cases hln.symm.trans hl;refine gIf ?_ ?_<;>intro h3
   .refine gX (ak ae) (xs:=bJ g) λ_ _ Pd (vl:vI) hl=>?_;cases hln.symm.trans hl;refine go ?_;intro _ _ x hx;have hps:=Us (i:=i) hx;refine gIf ?_ ?_<;>intro h4
    .have Bl:ik ((bJ g).take i)++jh i (ln.take (j+1))=(ik ((bJ g).take i)++jh i (ln.take j))++[[(i:Int),x]]:=by rw[hps,if_pos z7,List.append_assoc]
     refine gX (ak ae) (xs:=bJ g) λ_ _ Pd (vl:vI) hl=>?_;cases hln.symm.trans hl;refine go ?_;intro _ _ x' hx';cases hx.symm.trans hx';refine go ?_;intro ym b98;refine aie (A:=pt ym (.cells [iV (i:Int),iV x])) (fs:=[ai ae (.slice (some ⟨ym,0,some 0⟩) 2 2) [(i:Int),x]]) (uR (b:=ym) (f:=0) (c:=2) (xs:=[(i:Int),x])) (h:=?_);refine go ?_;refine fB (xs:=ik ((bJ g).take i)++jh i (ln.take j)) (ak ae) [(i:Int),x] (.slice (some ⟨ym,0,some 0⟩) 2 2) z7 (next:=λr9=>?_);rw[<- Bl];refine go ?_;exact aN (j+1,.slice r9 ((ik ((bJ g).take i)++jh i (ln.take j)).length+1) ((ik ((bJ g).take i)++jh i (ln.take j)).length+1)) ID AW
    .have Bl:ik ((bJ g).take i)++jh i (ln.take (j+1))=ik ((bJ g).take i)++jh i (ln.take j):=by rw[hps,if_neg z7,gU]
     exact oR
   have iR:j=ln.length:=z7
   subst iR;rw[bU,<- hfs];refine go ?_;exact aN (i+1,.slice ad ((upTo' i).length+1) ((upTo' i).length+1),v5) CT AK
  have hie:i=g.cells.length:=z7
  subst hie;rw[O5 z7];refine go ?_;refine gZ (gz (E:=ak ae) (v:=v8) (xs:=ik (bJ g))) ?_;refine go ?_;refine jP (c:=(0:Int)=0) (f:=ai (ak ae) v8 (dM g 6)) AN ?_;exact oc
 .have hf:dM g 7=[upTo' g.cells.length]:=by simp[dM]
  refine go ?_;refine af5 ae ?_;refine aU (λy:Nat×vI=>g.cells.length - y.1) (λy=>[(10,iV (y.1:Int)),(9,y.2)]) (λy=>[ap ae y.2 (upTo' y.1)]) (λ_=>[]) (λy=>y.1<=g.cells.length) (0,.slice none 0 0) (bR _) (hk:=As) (body:=?_);rintro⟨i,v9⟩ hi;dsimp only at hi⊢;have hil:=lZ i;refine gIf ?_ ?_<;>intro h2
  .exact zd
  have hie:i=g.cells.length:=z7
  subst hie;refine gZ (gz (E:=ae) (v:=v9) (xs:=upTo' g.cells.length)) ?_;refine gF ae v9 (upTo' g.cells.length) λa4 c4 e4=>?_;subst e4;refine go ?_;intro J5;refine gP J5 ?_;refine eF (ai (ak ae) (Bj J5 1) [upTo' g.cells.length]) (λw hw=>ML (v:=.slice a4 (upTo' g.cells.length).length c4) (hw _ An) (hw _ An)) ?_;refine go ?_;refine jP (c:=(0:Int)=0) (f:=ai (ak ae) (Bj J5 1) (dM g 7)) AN ?_;exact gQ ⟨Bj J5 1,0⟩ ⟨λ_=>⟨hg,z7,z7⟩,λ_=>rfl⟩
