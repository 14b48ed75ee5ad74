/- Part. -/
import Derived.Test.YtignbinlipkmfaaGreatDoorLibSK
set_option linter.all false
set_option maxRecDepth 10000
set_option maxHeartbeats 4000000
namespace Go.Proofs.YtignbinlipkmfaaGreatDoor
open Tryz (prog)
open Go.Ideal Kd
variable{vh:ah}
def QS{s w h:Int}{holes:ae Int}(hw64:lI w)(aiF:lI h)(hl:holes.length<4611686018427387904):
 cK prog (.func 87) [iV s,iV w,iV h,vh] [] [] [aj ai vh holes] (mkV s w h holes) (λ_=>[]) (qB s w h holes) (λy=>y.ok=true↔qc s w h holes):=by
 refine gB 87 λB w0=>?_;refine go ?_;intro b8;refine go ?_;by_cases hsh:s=1\/s=2
 rotate_left
 .rw[eB (show s≠1 from λe=>hsh (.inl e))];refine go ?_;rw[eB (show s≠2 from λe=>hsh (.inr e))];refine go ?_;refine gQ ⟨false,.nilFunc,.nilFunc⟩ ⟨(λe=>by cases e),λe=>?_⟩
  exfalso
  have e:=xJ.2 e;obtain⟨q1,q2,q3,q4,q5,q6⟩:=e;exact hsh q1
 rcases hsh with rfl|rfl;all_goals
  refine gH ?_ ?_<;>intro a1
  rotate_left
  .exact cM
  refine gH ?_ ?_<;>intro a2
  rotate_left
  .exact cM
  refine gH ?_ ?_<;>intro a3
  rotate_left
  .exact cM
  refine aB ?_ ?_<;>intro a4
  .exact cM
  have hwh:=xE (w:=w) (h:=h) ⟨tr,tr⟩ ⟨tr,tr⟩;refine gN holes.length 10 (λk=>k<=holes.length/\(holes.take k).Pairwise (·<·)/\∀x∈holes.take k,0<=x/\x<w*h) ⟨bP _,tt,tt⟩ ?_;rintro k ⟨hk,mW,hmem⟩;refine aB ?_ ?_<;>intro a6
  .refine go ?_;intro _ _ x hx;have hxm:=aS hx;have htk:holes.take (k+1)=holes.take k++[x]:=by rw[oN,hx];rfl
   have hstep:0<=x->x<w*h->(∀a∈holes.take k,a<x)->k+1<=holes.length/\(holes.take (k+1)).Pairwise (·<·)/\∀z∈holes.take (k+1),0<=z/\z<w*h:=λq1 q2 q3=>by
    refine⟨tr,?_,?_⟩
    .rw[htk,MF];exact⟨mW,tt,λa ha b hb=>by rw[bK.1 hb];exact q3 a ha⟩
    .rw[htk];intro z hz;rcases dY.1 hz with hz|hz
     .exact hmem z hz
     .rw[bK.1 hz];exact⟨q1,q2⟩
   refine gH ?_ ?_<;>intro b1
   rotate_left
   .exact gx
   refine go ?_;intro _ _ x' hx';cases hx.symm.trans hx';refine gH ?_ ?_<;>intro b2
   rotate_left
   .exact gx
   refine gH ?_ ?_<;>intro b3
   .refine go ?_;refine aQ (k+1) tr (hstep tr tr λa ha=>?_);rw[show k=0 by omega,List.take_zero]at ha;cases ha
   refine go ?_;intro _ _ x' hx' _ _ z hz;cases hx.symm.trans hx';obtain⟨j,rfl⟩:∃j,k=j+1:=⟨k - 1,tr⟩
   rw[show(((j+1:Nat):Int) - 1).toNat=j by omega]at hz;have hzj:holes.take (j+1)=holes.take j++[z]:=by rw[oN,hz];rfl
   refine aB ?_ ?_<;>intro b4
   .refine go ?_;refine gQ ⟨false,.nilFunc,.nilFunc⟩ ⟨(λe=>by cases e),λe=>?_⟩
    exfalso
    have e:=xJ.2 e;obtain⟨q1,q2,q3,q4,q5,q6⟩:=e;obtain⟨d1,d2⟩:=bC.1 hz;obtain⟨d3,d4⟩:=bC.1 hx;have:=AZ.1 q4 j (j+1) d1 d3 tr;rw[d2,d4]at this;omega
   refine go ?_;refine aQ (j+1+1) tr (hstep tr tr λa ha=>?_);have:=XC mW ha;rw[hzj,XB]at this;omega
  have hkl:k=holes.length:=tr
  subst hkl;rw[bM]at mW hmem;clear a6 hk;obtain⟨m,hm⟩:=iO (show 0<=w*h by omega);have GK:ny w h holes=gY m holes:=by
   unfold ny;rw[hm];rfl
  have hmm:∀x∈holes,0<=x/\x<(m:Int):=λx hx=>by rw[<- hm];exact hmem x hx
  refine go ?_;intro b11;refine go ?_;refine iy ai ?_;refine iy ai ?_;refine dX (λy:Nat×ah×ah=>m - y.1) (λy=>[(12,iV (y.1:Int))]) (λy=>[pt b11 (.cells [iV _,iV w,iV h,y.2.1,y.2.2]),ap ai y.2.1 (dP y.1 λi=>decide (i∈holes)),ap ai y.2.2 (gY y.1 holes)]) (λ_=>[]) (λy=>y.1<=m) (0,.slice none 0 0,.slice none 0 0) (bP _) (hk:=tx) (body:=?_);rintro⟨k,v1,v2⟩ hk;dsimp only at hk⊢;have hcl:=DW k holes;have hsl:=BV k λi=>decide (i∈holes);refine go ?_;rw[hm];refine aB ?_ ?_<;>intro a9
  .refine gC (LD (xs:=holes) (z:=(k:Int)) tr) λ_ _=>?_;refine aB ?_ ?_<;>intro hin
   .have e1:gY (k+1) holes=gY k holes:=by rw[Km,if_pos hin,jd]
    have e2:dP (k+1) (λi=>decide (i∈holes))=dP k (λi=>decide (i∈holes))++[(k:Int)]:=by rw[BU,if_pos (eB hin)]
    refine go ?_;intro b91;refine go ?_;refine fI ai (xs:=dP k λi=>decide (i∈holes)) (k:Int) () tr λad=>?_;rw[<- e1,<- e2];refine go ?_;exact aQ (k+1,.slice ad ((dP k λi=>decide (i∈holes)).length+1) ((dP k λi=>decide (i∈holes)).length+1),v2) As Ax
   .have e1:gY (k+1) holes=gY k holes++[(k:Int)]:=by rw[Km,if_neg hin]
    have e2:dP (k+1) (λi=>decide (i∈holes))=dP k (λi=>decide (i∈holes)):=by rw[BU,if_neg (by simp[hin]),jd]
    refine go ?_;intro b91;refine go ?_;refine fI ai (xs:=gY k holes) (k:Int) () tr λad=>?_;rw[<- e1,<- e2];refine go ?_;exact aQ (k+1,v1,.slice ad ((gY k holes).length+1) ((gY k holes).length+1)) As Ax
  have hkm:k=m:=tr
  subst hkm;rw[WE mW hmm];refine qR (E:=ai) (v:=v2) (xs:=gY k holes) λa2 hv2=>?_;subst hv2;refine aB ?_ ?_<;>intro a7
  .refine go ?_;refine gQ ⟨false,.nilFunc,.nilFunc⟩ ⟨(λe=>by cases e),λe=>?_⟩
   exfalso
   have e:=xJ.2 e;obtain⟨q1,q2,q3,q4,q5,q6⟩:=e;rw[GK]at q6;exact q6 (jX.1 tr)
  refine go ?_;refine gZ (gI (E:=ai) (v:=v1) (xs:=holes)) ?_;refine gZ (gI (E:=ai) (v:=.slice a2 (gY k holes).length (gY k holes).length) (xs:=gY k holes)) ?_;refine go ?_;refine gQ ⟨true,v1,.slice a2 (gY k holes).length (gY k holes).length⟩ ⟨λ_=>xJ.1 ⟨by first|exact .inl rfl|exact .inr rfl,⟨tr,tr⟩,⟨tr,tr⟩,mW,hmem,by rw[GK];exact λe=>a7 (by rw[e];rfl)⟩,λ_=>rfl⟩ (hF:=?_);show Sub [aj ai _ holes,aj ai _ (ny w h holes)] _;rw[GK];exact .cons tt (.cons tt .nil)
variable{g:bB}{vc:ah}
def Yv(hS:si g):
 fC prog 66 [.agg ⟨jm g vh vc⟩] (jU g vh vc) (λe:Int=>iV e) (λe=>e=0↔eU g):=by
 refine gB 66 λB w0=>?_;refine go ?_;intro b1;refine gC (QS (s:=g.shape) (w:=g.w) (h:=g.h) (holes:=g.holes) (vh:=vh) hS.w hS.h hS.holes) λy hy=>?_;obtain⟨ok,v1,v2⟩:=y;cases ok with
 |false=>
  exact eE
 |true=>
  have hmk:=hy.1 rfl;dsimp only[mkV,qB,cond,jU,xQ,List.cons_append,List.nil_append];refine go ?_;intro b3;refine gC (Er (xs:=ny g.w g.h g.holes) (ys:=g.cells) (by
   exact pD)) λ_ _=>?_
  exact e9
def QT{α:Type}{xs:ae α}{k:Nat}(h:xs.length<=k):xs.take k=xs:=vM h
abbrev uh(g:bB)(a:Nat):Int->Bool:=λb=>yZ g.shape (iR g (a:Int)) (iR g b)
def Yw(hS:si g):
 cK prog (.func 88) [.agg ⟨jm g vh vc⟩] [] [] (jU g vh vc) xR (λ_=>[]) (λy=>[kZ (y.e=0) (aj (aA ai) y.v (bJ g))]) (λy=>y.e=0↔eU g):=by
 refine gB 88 λB w0=>?_;refine go ?_;intro b1;refine gP b1 ?_;refine gC (Yv (g:=g) (vh:=vh) (vc:=vc) hS) λe he=>?_;refine aB ?_ ?_<;>intro h1
 .refine go ?_;refine lc (c:=(130:Int)=0) (f:=aj (aA ai) (.slice none 0 0) (bJ g)) tr ?_;exact gQ ⟨.slice none 0 0,130⟩ ⟨(λh=>by cases h),λh=>absurd (he.2 h) h1⟩
 have hg:=he.1 (iD.1 h1);clear he h1;have hgl:=hg.len;have hnl:=wE g;refine go ?_;refine iy (aA ai) ?_;refine dX (λy:Nat×ah=>g.cells.length - y.1) (λy=>[(5,iV (y.1:Int)),(4,y.2)]) (λy=>[ap (aA ai) y.2 ((bJ g).take y.1)]) (λ_=>[]) (λy=>y.1<=g.cells.length) (0,.slice none 0 0) (bP _) (hk:=tx) (body:=?_);rintro⟨i,v4⟩ hi;dsimp only at hi⊢;have hil:((bJ g).take i).length=i:=by rw[iY];omega
 refine aB ?_ ?_<;>intro h2
 .have hn:=WG hg (show i<g.cells.length by omega);refine go ?_;refine iy ai ?_;refine dX (λy:Nat×ah=>g.cells.length - y.1) (λy=>[(7,iV (y.1:Int)),(6,y.2)]) (λy=>[ap ai y.2 (dP y.1 (uh g i))]) (λ_=>[]) (λy=>y.1<=g.cells.length) (0,.slice none 0 0) (bP _) (hk:=tx) (body:=?_);rintro⟨j,v6⟩ hj;dsimp only at hj⊢;have hsl:=BV j (uh g i);refine aB ?_ ?_<;>intro h3
  .refine gC (akM (g:=g) (vh:=vh) (vc:=vc) (a:=i) (b:=j) hg tr tr) λ_ _=>?_;have hss:=BU j (uh g i);refine go ?_;refine jS rfl (λh4=>?_) (λh4=>?_)
   .rw[if_pos h4]at hss;refine go ?_;intro QU;refine go ?_;refine fI ai (xs:=dP j (uh g i)) (j:Int) () tr λad=>?_;rw[<- hss];refine go ?_;exact aQ (j+1,.slice ad ((dP j (uh g i)).length+1) ((dP j (uh g i)).length+1)) vj tU
   .rw[if_neg (by show¬yZ g.shape (iR g (i:Int)) (iR g (j:Int))=true;rw[h4];simp),jd]at hss;rw[<- hss];refine go ?_;exact aQ (j+1,v6) vj tU
  have iJ:j=g.cells.length:=tr
  subst iJ;refine qR (E:=ai) (v:=v6) (xs:=dP g.cells.length (uh g i)) λa6 e6=>?_;subst e6;refine gZ (gI (E:=ai) (v:=.slice a6 (dP g.cells.length (uh g i)).length (dP g.cells.length (uh g i)).length) (xs:=dP g.cells.length (uh g i))) ?_;refine go ?_;intro b35;refine go ?_;refine fI (xs:=(bJ g).take i) (aA ai) (dP g.cells.length (uh g i)) (.slice a6 (dP g.cells.length (uh g i)).length (dP g.cells.length (uh g i)).length) tr (next:=λad=>?_);rw[<- cB hn];refine go ?_;exact aQ (i+1,.slice ad (((bJ g).take i).length+1) (((bJ g).take i).length+1)) xT tP
 have hie:i=g.cells.length:=tr
 subst hie;rw[QT tr];refine gZ (gI (E:=aA ai) (v:=v4) (xs:=bJ g)) ?_;refine go ?_;refine lK (c:=(0:Int)=0) (f:=aj (aA ai) v4 (bJ g)) tt ?_;exact gQ ⟨v4,0⟩ ⟨λ_=>hg,λ_=>rfl⟩
def akQ(hg:eU g){k:Nat}(hk:k<g.cells.length):(-8<(iR g (k:Int)).1/\(iR g (k:Int)).1<16)/\0<=(iR g (k:Int)).2/\(iR g (k:Int)).2<16:=by
 obtain⟨hc,hr⟩:=AJ hg hk;have hv:=LG hr;rcases hg.make.sh with hs|hs
 .rw[Et hk hs];dsimp only;omega
 .rw[G9 hk hs];dsimp only;omega
def akR(hg:eU g){k:Nat}(hk:k<g.cells.length)(f:Int): -16<=pz g.shape f (iR g (k:Int))/\pz g.shape f (iR g (k:Int))<=32:=by
 obtain⟨h1,h2⟩:=akQ hg hk;unfold pz;split
 .omega
 split
 .omega
 split<;>omega
abbrev vo(g:bB)(f n:Int):Int->Bool:=λb=>decide (pz g.shape f (iR g b)=n)
abbrev zl(g:bB)(f:Int)(k:Nat):ae (ae Int):=Al (λn=>dP g.cells.length (vo g f n)) (-16) k
def akS(hg:eU g)(f:Int):zl g f 49=jr g λs=>(pz g.shape f s,true):=by
 rw[WK (lo:= -16) (k:=49) (λs=>(pz g.shape f s,true)) (λp hp _=>by
  obtain⟨h1,h2⟩:=GA.1 hp;have h3:=akR hg (k:=p.1.toNat) tr f;rw[show((p.1.toNat:Nat):Int)=p.1 by omega,<- h2]at h3;dsimp only;omega)]
 unfold zl;congr 1;funext n
 rw[WI];rfl
def akT(L:Int->ae Int)(lo:Int)(k:Nat):(Al L lo k).length<=k:=by
 unfold Al;refine ql (MC _ _) ?_;rw[bZ];unfold dQ;simp
def QV{f:Int}(hg:eU g):
 cK prog (.func 140) [.agg ⟨jm g vh vc⟩,iV f] [] [] (jU g vh vc) (λv:ah=>v) (λv=>[ap (aA ai) v (jr g λs=>(pz g.shape f s,true))]) (λ_=>[]) (λ_=>True):=by
 have hgl:=hg.len;refine gB 140 λB w0=>?_;refine go ?_;intro b1;refine gP b1 ?_;refine go ?_;refine iy (aA ai) ?_;refine dX (λy:Nat×ah=>49 - y.1) (λy=>[(6,iV (-16+(y.1:Int))),(5,y.2)]) (λy=>[ap (aA ai) y.2 (zl g f y.1)]) (λ_=>[]) (λy=>y.1<=49) (0,.slice none 0 0) tr (hk:=tx) (body:=?_);rintro⟨i,v5⟩ hi;dsimp only at hi⊢;have hil:(zl g f i).length<=i:=akT (λn=>dP g.cells.length (vo g f n)) (-16) i;have hls:zl g f (i+1)=zl g f i++if dP g.cells.length (vo g f (-16+(i:Int)))=[]then[]else[dP g.cells.length (vo g f (-16+(i:Int)))]:=WJ (λn=>dP g.cells.length (vo g f n)) (-16) i
 have hin: -16+(i:Int)+1= -16+((i+1:Nat):Int):=tr
 refine aB ?_ ?_<;>intro h2
 .refine go ?_;refine iy ai ?_;refine dX (λy:Nat×ah=>g.cells.length - y.1) (λy=>[(8,iV (y.1:Int)),(7,y.2)]) (λy=>[ap ai y.2 (dP y.1 (vo g f (-16+(i:Int))))]) (λ_=>[]) (λy=>y.1<=g.cells.length) (0,.slice none 0 0) (bP _) (hk:=tx) (body:=?_);rintro⟨j,v7⟩ hj;dsimp only at hj⊢;have hsl:=BV j (vo g f (-16+(i:Int)));refine aB ?_ ?_<;>intro h3
  .refine gC (akN (g:=g) (vh:=vh) (vc:=vc) (f:=f) (a:=j) hg tr) λ_ _=>?_;have hss:=BU j (vo g f (-16+(i:Int)));refine aB ?_ ?_<;>intro h4
   .rw[if_pos (eB h4)]at hss;refine go ?_;intro QU;refine go ?_;refine fI ai (xs:=dP j (vo g f (-16+(i:Int)))) (j:Int) () tr λad=>?_;rw[<- hss];refine go ?_;exact aQ (j+1,.slice ad ((dP j (vo g f (-16+(i:Int)))).length+1) ((dP j (vo g f (-16+(i:Int)))).length+1)) vj tU
   .rw[if_neg (by show¬decide (pz g.shape f (iR g (j:Int))= -16+(i:Int))=true;rw[aY h4];simp),jd]at hss;rw[<- hss];refine go ?_;exact aQ (j+1,v7) vj tU
  have iJ:j=g.cells.length:=tr
  subst iJ;generalize hL:dP g.cells.length (vo g f (-16+(i:Int)))=L at hls hsl⊢;refine qR (E:=ai) (v:=v7) (xs:=L) λa7 e7=>?_;subst e7;refine aB ?_ ?_<;>intro h5
  .rw[if_neg (λe=>by rw[e]at h5;simp at h5)]at hls;refine gZ (gI (E:=ai) (v:=.slice a7 L.length L.length) (xs:=L)) ?_;refine go ?_;intro b35;refine go ?_;refine fI (xs:=zl g f i) (aA ai) L (.slice a7 L.length L.length) tr (next:=λad=>?_);rw[<- hls];refine go ?_;rw[hin];exact aQ (i+1,.slice ad ((zl g f i).length+1) ((zl g f i).length+1)) CN tP
  .rw[if_pos (jX.1 tr),jd]at hls;rw[<- hls];refine go ?_;rw[hin];exact aQ (i+1,v5) CN tP
 have hie:i=49:=tr
 subst hie;rw[akS hg f];refine go ?_;exact gQ v5 trivial
abbrev nZ(g:bB)(k:Nat):Int->Bool:=λb=>cond (Nat.beq k 0) (decide ((iR g b).1=(iR g b).2)) (decide ((iR g b).1+(iR g b).2=g.w - 1))
def uj(g:bB)(k:Nat):ae Int:=dP g.cells.length (nZ g k)
def sD(l:ae Int):ae (ae Int):=if l=[]then[]else[l]
def akU(hs:g.shape=1)(hw:g.w=g.h):lZ g=kP (sD (uj g 0)) (sD (uj g 1)):=by
 unfold lZ;rw[if_neg tr,if_pos hw,KJ (λs=>decide (s.1=s.2)),KJ (λs=>decide (s.1+s.2=g.w - 1))];rfl
def nG(g:bB)(k:Nat):ae (ae Int):=if k=0 then[]else if k=1 then sD (uj g 0)else kP (sD (uj g 0)) (sD (uj g 1))
def akV(l:ae Int):kP [] (sD l)=sD l:=by
 unfold sD;split
 .rfl
 .show uX [] l=[l]
  unfold uX;rw[if_neg tt];rfl
def akW(g:bB){k:Nat}(hk:k<2):nG g (k+1)=kP (nG g k) (sD (uj g k)):=by
 rcases(show k=0\/k=1 by omega)with rfl|rfl
 .exact(akV _).symm
 .rfl
def Yx(O:ae (ae Int)){l:ae Int}(hl:l≠[]):kP O (sD l)=if O.head? =some l then O else O++[l]:=by
 unfold sD;rw[if_neg hl];rfl
def akX(hg:eU g)(hs:g.shape=1):
 cK prog (.func 141) [.agg ⟨jm g vh vc⟩] [] [] (jU g vh vc) (λv:ah=>v) (λv=>[ap (aA ai) v (lZ g)]) (λ_=>[]) (λ_=>True):=by
 have hgl:=hg.len;have mK:=hg.make.wi;refine gB 141 λB w0=>?_;refine go ?_;intro b1;refine gP b1 ?_;refine go ?_;refine iy (aA ai) ?_;refine dX (λy:Nat×ah=>2 - y.1) (λy=>[(4,iV (y.1:Int)),(3,y.2)]) (λy=>[ap (aA ai) y.2 (nG g y.1)]) (λ_=>[]) (λy=>y.1<=2/\(y.1=0\/g.w=g.h)) (0,.slice none 0 0) ⟨tr,.inl rfl⟩ (hk:=tx) (body:=?_);rintro⟨k,v3⟩ ⟨hk,QW⟩;dsimp only at hk QW⊢;have LH:∀l∈nG g k,l.length<=256:=λl hl=>by
  have h1:∀n,(uj g n).length<=256:=λn=>by have:=BV g.cells.length (nZ g n);unfold uj;omega
  have h2:∀n,∀l∈sD (uj g n),l.length<=256:=λn l hl=>by
   unfold sD at hl;split at hl
   .cases hl
   .rw[bK.1 hl];exact h1 n
  unfold nG at hl;split at hl
  .cases hl
  split at hl
  .exact h2 0 l hl
  .rcases Px hl with hl|hl
   .exact h2 0 l hl
   .exact h2 1 l hl
 have hol:(nG g k).length<=2:=by
  unfold nG kP sD;split
  .simp
  split
  .split<;>simp
  .split<;>split<;>simp[uX]<;>split<;>simp
 refine gH ?_ ?_<;>intro hk2
 .have e:k=2:=by omega
  subst e;have hw:g.w=g.h:=QW.resolve_left tr;rw[show nG g 2=lZ g from(akU hs hw).symm];refine go ?_;exact gQ v3 trivial
 refine aB ?_ ?_<;>intro hw
 rotate_left
 .have e:k=0:=QW.resolve_right hw;subst e;have e:lZ g=nG g 0:=by unfold lZ;rw[if_neg tr,if_neg hw];rfl
  rw[e];refine go ?_;exact gQ v3 trivial
 have hds:=akW g (show k<2 by omega);rcases(show k=0\/k=1 by omega)with rfl|rfl
 .refine go ?_;refine iy ai ?_;refine dX (λy:Nat×ah=>g.cells.length - y.1) (λy=>[(6,iV (y.1:Int)),(5,y.2)]) (λy=>[ap ai y.2 (dP y.1 (nZ g 0))]) (λ_=>[]) (λy=>y.1<=g.cells.length) (0,.slice none 0 0) (bP _) (hk:=tx) (body:=?_);rintro⟨j,v5⟩ hj;dsimp only at hj⊢;have hsl:=BV j (nZ g 0);refine aB ?_ ?_<;>intro h3
  .have zm:=Et (k:=j) tr hs;obtain⟨hc,hr⟩:=AJ hg (k:=j) tr;have hss:=BU j (nZ g 0);refine gC (Es (g:=g) (vh:=vh) (vc:=vc) (k:=j) hg tr) λ_ _=>?_;refine gC (Ct (g:=g) (vh:=vh) (vc:=vc) (k:=j) hg tr) λ_ _=>?_;generalize(g.cells[j]).tmod g.w=x at hc zm⊢;generalize(g.cells[j]).tdiv g.w=y at hr zm⊢;refine gH ?_ ?_<;>intro h4
   rotate_left
   .have hp:nZ g 0 (j:Int)=true:=by show decide _=true;rw[zm];exact eB wl
    rw[if_pos hp]at hss;refine go ?_;intro QU;refine go ?_;refine fI ai (xs:=dP j (nZ g 0)) (j:Int) () tr λad=>?_;rw[<- hss];refine go ?_;exact aQ (j+1,.slice ad ((dP j (nZ g 0)).length+1) ((dP j (nZ g 0)).length+1)) vj tU
   .have hp:¬nZ g 0 (j:Int)=true:=by show¬decide _=true;rw[zm];intro h;have:=gT h;dsimp only at this;omega
    exact ii
  have iJ:j=g.cells.length:=tr
  subst iJ;have hL:dP g.cells.length (nZ g 0)=uj g 0:=rfl;rw[hL]at hsl⊢;generalize uj g 0=L at hsl hds⊢;refine qR (E:=ai) (v:=v5) (xs:=L) λa5 e5=>?_;subst e5;refine gZ (gI (E:=ai) (v:=.slice a5 L.length L.length) (xs:=L)) ?_;generalize nG g 0=O at hds hol LH⊢;refine qR (E:=aA ai) (v:=v3) (xs:=O) λa3 e3=>?_;subst e3;refine gH ?_ ?_<;>intro h5
  .have e0:L=[]:=jX.1 tr;have e1:nG g (0+1)=O:=by rw[hds,e0];rfl
   rw[<- e1];exact ir
  rw[Yx O (λe=>by rw[e]at h5;simp at h5)]at hds;refine gH ?_ ?_<;>intro h6
  .obtain⟨o,O2,rfl⟩:∃o O2,O=o::O2:=by
    exact rj
   refine go ?_;refine Ka ai (v:=.slice a3 (o::O2).length (o::O2).length) (xss:=o::O2) 0 o rfl (next:=λ_ _ u=>?_);refine go ?_;have ho:=LH o (fT ..);rw[List.head?_cons]at hds;refine eO (Er (xs:=o) (ys:=L) tr) (next:=λ_ _=>?_);refine go ?_;refine fu rfl (λh7=>?_) (λh7=>?_)
   .rw[if_neg (λe=>h7 (Option.some.inj e))]at hds;refine go ?_;intro QX;refine go ?_;refine fI (xs:=o::O2) (aA ai) L (.slice a5 L.length L.length) tr (next:=λtY=>?_);rw[<- hds];refine go ?_;exact aQ (0+1,.slice tY ((o::O2).length+1) ((o::O2).length+1)) (by show 2 - (0+1)<2 - 0;omega) ⟨by show 0+1<=2;omega,.inr hw⟩
   .rw[if_pos (congrArg some h7)]at hds;rw[<- hds];exact ir
  have e0:O=[]:=jX.1 tr;subst e0;rw[if_neg tt]at hds;refine go ?_;intro QX;refine go ?_;refine fI (xs:=([]:ae (ae Int))) (aA ai) L (.slice a5 L.length L.length) tt (next:=λad=>?_);rw[<- hds];refine go ?_;exact aQ (0+1,.slice ad (([]:ae (ae Int)).length+1) (([]:ae (ae Int)).length+1)) (by show 2 - (0+1)<2 - 0;omega) ⟨by show 0+1<=2;omega,.inr hw⟩
 .refine go ?_;refine iy ai ?_;refine dX (λy:Nat×ah=>g.cells.length - y.1) (λy=>[(6,iV (y.1:Int)),(5,y.2)]) (λy=>[ap ai y.2 (dP y.1 (nZ g 1))]) (λ_=>[]) (λy=>y.1<=g.cells.length) (0,.slice none 0 0) (bP _) (hk:=tx) (body:=?_);rintro⟨j,v5⟩ hj;dsimp only at hj⊢;have hsl:=BV j (nZ g 1);refine aB ?_ ?_<;>intro h3
  .have zm:=Et (k:=j) tr hs;obtain⟨hc,hr⟩:=AJ hg (k:=j) tr;have hss:=BU j (nZ g 1);refine gC (Es (g:=g) (vh:=vh) (vc:=vc) (k:=j) hg tr) λ_ _=>?_;refine gC (Ct (g:=g) (vh:=vh) (vc:=vc) (k:=j) hg tr) λ_ _=>?_;generalize(g.cells[j]).tmod g.w=x at hc zm⊢;generalize(g.cells[j]).tdiv g.w=y at hr zm⊢;refine aB ?_ ?_<;>intro h4
   .have hp:nZ g 1 (j:Int)=true:=by show decide _=true;rw[zm];exact eB wl
    rw[if_pos hp]at hss;refine go ?_;intro QU;refine go ?_;refine fI ai (xs:=dP j (nZ g 1)) (j:Int) () tr λad=>?_;rw[<- hss];refine go ?_;exact aQ (j+1,.slice ad ((dP j (nZ g 1)).length+1) ((dP j (nZ g 1)).length+1)) vj tU
   .have hp:¬nZ g 1 (j:Int)=true:=by show¬decide _=true;rw[zm];intro h;have:=gT h;dsimp only at this;omega
    exact ii
  have iJ:j=g.cells.length:=tr
  subst iJ;have hL:dP g.cells.length (nZ g 1)=uj g 1:=rfl;rw[hL]at hsl⊢;generalize uj g 1=L at hsl hds⊢;refine qR (E:=ai) (v:=v5) (xs:=L) λa5 e5=>?_;subst e5;refine gZ (gI (E:=ai) (v:=.slice a5 L.length L.length) (xs:=L)) ?_;generalize nG g 1=O at hds hol LH⊢;refine qR (E:=aA ai) (v:=v3) (xs:=O) λa3 e3=>?_;subst e3;refine gH ?_ ?_<;>intro h5
  .have e0:L=[]:=jX.1 tr;have e1:nG g (1+1)=O:=by rw[hds,e0];rfl
   rw[<- e1];exact ij
  rw[Yx O (λe=>by rw[e]at h5;simp at h5)]at hds;refine gH ?_ ?_<;>intro h6
  .obtain⟨o,O2,rfl⟩:∃o O2,O=o::O2:=by
    exact rj
   refine go ?_;refine Ka ai (v:=.slice a3 (o::O2).length (o::O2).length) (xss:=o::O2) 0 o rfl (next:=λ_ _ u=>?_);refine go ?_;have ho:=LH o (fT ..);rw[List.head?_cons]at hds;refine eO (Er (xs:=o) (ys:=L) tr) (next:=λ_ _=>?_);refine go ?_;refine fu rfl (λh7=>?_) (λh7=>?_)
   .rw[if_neg (λe=>h7 (Option.some.inj e))]at hds;refine go ?_;intro QX;refine go ?_;refine fI (xs:=o::O2) (aA ai) L (.slice a5 L.length L.length) tr (next:=λtY=>?_);rw[<- hds];refine go ?_;exact aQ (1+1,.slice tY ((o::O2).length+1) ((o::O2).length+1)) (by show 2 - (1+1)<2 - 1;omega) ⟨by show 1+1<=2;omega,.inr hw⟩
   .rw[if_pos (congrArg some h7)]at hds;rw[<- hds];exact ij
  have e0:O=[]:=jX.1 tr;subst e0;rw[if_neg tt]at hds;refine go ?_;intro QX;refine go ?_;refine fI (xs:=([]:ae (ae Int))) (aA ai) L (.slice a5 L.length L.length) tt (next:=λad=>?_);rw[<- hds];refine go ?_;exact aQ (1+1,.slice ad (([]:ae (ae Int)).length+1) (([]:ae (ae Int)).length+1)) (by show 2 - (1+1)<2 - 1;omega) ⟨by show 1+1<=2;omega,.inr hw⟩
def akY{p:Int}(hg:eU g):fC prog 142 [.agg ⟨jm g vh vc⟩,iV p] (jU g vh vc) (λy:Nat×Bool=>.tuple ⟨[iV (y.1:Int),.bool y.2]⟩) (λy=>(y.2=true↔p∈g.cells)/\(y.2=true->xH p g.cells=y.1)):=by
 have hgl:=hg.len;have mW:g.cells.Pairwise (·<·):=zp
 refine gB 142 λB w0=>?_;refine go ?_;intro b1;refine gP b1 ?_;refine gN g.cells.length 6 (λk=>k<=g.cells.length/\p∉g.cells.take k) ⟨tr,tt⟩ ?_;rintro k ⟨hk,hno⟩;refine aB ?_ ?_<;>intro h1
 .refine go ?_;intro _ _ x hx;refine aB ?_ ?_<;>intro h2
  .refine go ?_;subst h2;exact gQ (k,true) ⟨⟨λ_=>aS hx,λ_=>rfl⟩,λ_=>Kw mW hx⟩
  .exact cT
 have:k=g.cells.length:=tr
 subst this;rw[bM]at hno;exact fc
def Yy{vr:ah}{rs:ae (ae Int)}(hS:si g)(hrl:rs.length<2^63)(hrs:∀ps∈rs,ps.length<2^63):
 cK prog (.func 90) [.agg ⟨jm g vh vc⟩,vr] [] [] (aj (aA ai) vr rs::jU g vh vc) xR (λ_=>[]) (λy=>La g rs y) (λy=>y.e=0↔eU g/\xI g rs):=by
 refine gB 90 λB w0=>?_;refine gF (aA ai) vr rs λar cr er=>?_;subst er;refine go ?_;intro b2;refine gP b2 ?_;refine gC (Yv (g:=g) hS) λe he=>?_;refine gH ?_ ?_<;>intro h1
 rotate_left
 .exact fh
 have hg:=he.1 tr;have hgl:=hg.len;refine aB ?_ ?_<;>intro h2
 .exact eV
 refine go ?_;refine iy (aA ai) ?_;refine dX (λy:Nat×ah=>rs.length - y.1) (λy=>[(7,iV (y.1:Int)),(6,y.2)]) (λy=>[ap (aA ai) y.2 (dW g (rs.take y.1))]) (λ_=>[]) (λy=>y.1<=rs.length/\∀ps∈rs.take y.1,Aj g ps) (0,.slice none 0 0) ⟨bP _,λps h=>by cases h⟩ (hk:=tx) (body:=?_);rintro⟨k,v6⟩ ⟨hk,hall⟩;dsimp only at hk hall⊢;have hkl:(dW g (rs.take k)).length=k:=by unfold dW;rw[bZ,iY];omega
 refine aB ?_ ?_<;>intro h3
 .obtain⟨ps,hps⟩:∃ps,rs[k]? =some ps:=⟨rs[k]'(tr),bX _⟩
  have hpm:=aS hps;have hpl:=hrs ps hpm;have htk:=cB hps;refine go ?_;refine iy ai ?_;refine dX (λy:Nat×ah=>ps.length - y.1) (λy=>[(9,iV (y.1:Int)),(8,y.2)]) (λy=>[ap ai y.2 (fA g (ps.take y.1))]) (λ_=>[]) (λy=>y.1<=ps.length/\(∀p∈ps.take y.1,p∈g.cells)/\(fA g (ps.take y.1)).Nodup) (0,.slice none 0 0) ⟨bP _,(λp h=>by cases h),w9⟩ (hk:=tx) (body:=?_);rintro⟨j,v8⟩ ⟨hj,hmem,hnd⟩;dsimp only at hj hmem hnd⊢;have hjl:(fA g (ps.take j)).length=j:=by unfold fA;rw[bZ,iY];omega
  have hj2:j<=256:=Cp
  refine gX (aA ai) (xs:=rs) λ_ _ ps' (vp:ah) QY=>?_;cases hps.symm.trans QY;refine aB ?_ ?_<;>intro h4
  .refine gX (aA ai) (xs:=rs) λ_ _ ps' (vp:ah) QY=>?_;cases hps.symm.trans QY;refine go ?_;intro _ _ x hx;have htx:=cB hx;refine gC (akY (g:=g) (vh:=vh) (vc:=vc) (p:=x) hg) λy hy=>?_;obtain⟨c,ok⟩:=y;obtain⟨hy1,hy2⟩:=hy;dsimp only at hy1 hy2⊢;cases ok with
   |false=>
    refine go ?_;refine lc (c:=(130:Int)=0) (f:=aj (aA ai) (.slice none 0 0) (dW g rs)) tr ?_;exact gQ ⟨.slice none 0 0,130⟩ ⟨(λh=>by cases h),λh=>by
     have:=hy1.2 ((h.2.all ps hpm).mem x (aS hx));cases this⟩
   |true=>
    have hxm:=hy1.1 rfl;have hpos:=hy2 rfl;have hr1:fA g (ps.take (j+1))=fA g (ps.take j)++[(c:Int)]:=CA
    refine gC (akJ (vl:=v8) (xs:=fA g (ps.take j)) (z:=(c:Int)) tr) λ_ _=>?_;refine aB ?_ ?_<;>intro h5
    .exact cR
    .exact cF
  exact cj
 have hke:k=rs.length:=tr
 subst hke;rw[bM]at hall⊢;refine gZ (gI (E:=aA ai) (v:=v6) (xs:=dW g rs)) ?_;refine go ?_;refine lK (c:=(0:Int)=0) (f:=aj (aA ai) v6 (dW g rs)) tt ?_;exact gQ ⟨v6,0⟩ ⟨λ_=>⟨hg,tr,hall⟩,λ_=>rfl⟩
def akZ(g:bB):(λs:Int×Int=>(pz g.shape 1 s,true))=λs=>(s.2,true):=by funext s;rfl
def ak0(g:bB):(λs:Int×Int=>(pz g.shape 2 s,true))=λs=>(s.1,true):=by funext s;unfold pz;simp
def ak1(h:g.shape=2):(λs:Int×Int=>(pz g.shape 3 s,true))=λs=>(s.1+s.2,true):=by funext s;unfold pz;simp[h]
def ak2{k:Int}(hS:si g):
 cK prog (.func 89) [.agg ⟨jm g vh vc⟩,iV k] [] [] (jU g vh vc) xR (λ_=>[]) (λy=>K8 g k y) (λy=>y.e=0↔eU g/\0<=k/\k<=7):=by
 refine gB 89 λB w0=>?_;refine go ?_;intro b2;refine gP b2 ?_;refine gC (Yw (g:=g) (vh:=vh) (vc:=vc) hS) λy hy=>?_;obtain⟨vn,e⟩:=y;dsimp only at hy⊢;refine aB ?_ ?_<;>intro h1
 .exact gi
 have he:e=0:=iD.1 h1;subst he;have hg:=hy.1 rfl;clear hy h1;have hgl:=hg.len;have hnl:=wE g;have hnm:=Gs (g:=g);refine fM (aj (aA ai) vn (bJ g)) (λw hw=>hw (kZ ((0:Int)=0) (aj (aA ai) vn (bJ g))) tt rfl) ?_;refine gF (aA ai) vn (bJ g) λan cn en=>?_;subst en;refine gH ?_ ?_<;>intro h2
 rotate_left
 .exact fg
 refine aB ?_ ?_<;>intro h3
 .exact fg
 rcases(show k=0\/k=1\/k=2\/k=3\/k=4\/k=5\/k=6\/k=7 by omega)with rfl|rfl|rfl|rfl|rfl|rfl|rfl|rfl;all_goals clear h2 h3
 .have hf:dD g 0=mV g.cells.length:=by simp[dD]
  refine go ?_;refine iy ai ?_;refine iy (aA ai) ?_;refine dX (λy:Nat×ah×ah=>g.cells.length - y.1) (λy=>[(10,iV (y.1:Int)),(9,y.2.1),(8,y.2.2)]) (λy=>[ap ai y.2.1 (upTo' y.1),ap (aA ai) y.2.2 (mV y.1)]) (λ_=>[]) (λy=>y.1<=g.cells.length) (0,.slice none 0 0,.slice none 0 0) (bP _) (hk:=tx) (body:=?_);rintro⟨i,v9,v8⟩ hi;dsimp only at hi⊢;have hil:=nT i;have Eo:=Pp i;refine aB ?_ ?_<;>intro h2
  .refine go ?_;intro Ar;refine go ?_;refine fI (xs:=upTo' i) ai (i:Int) () tr (next:=λad=>?_);rw[<- wG];refine go ?_;intro ze b38;refine tu (A:=pt ze (.cells [iV (i:Int)])) (fs:=[aj ai (.slice (some ⟨ze,0,some 0⟩) 1 1) [(i:Int)]]) (BB (b:=ze) (f:=0) (c:=1) (xs:=[(i:Int)])) (h:=?_);refine go ?_;refine fI (xs:=mV i) (aA ai) [(i:Int)] (.slice (some ⟨ze,0,some 0⟩) 1 1) tr (next:=λtY=>?_);rw[<- Wh];refine go ?_;exact aQ (i+1,.slice ad ((upTo' i).length+1) ((upTo' i).length+1),.slice tY ((mV i).length+1) ((mV i).length+1)) xT tP
  have hie:i=g.cells.length:=tr
  subst hie;refine go ?_;refine gZ (gI (E:=aA ai) (v:=v8) (xs:=mV g.cells.length)) ?_;refine go ?_;refine lK (c:=(0:Int)=0) (f:=aj (aA ai) v8 (dD g 0)) tI ?_;exact j9
 .have hf:dD g 1=jr g (λs=>(s.2,true)):=by simp[dD]
  refine go ?_;refine iy ai ?_;refine dX (λy:Nat×ah=>g.cells.length - y.1) (λy=>[(10,iV (y.1:Int)),(9,y.2)]) (λy=>[ap ai y.2 (upTo' y.1)]) (λ_=>[]) (λy=>y.1<=g.cells.length) (0,.slice none 0 0) (bP _) (hk:=tx) (body:=?_);rintro⟨i,v9⟩ hi;dsimp only at hi⊢;have hil:=nT i;refine aB ?_ ?_<;>intro h2
  .exact tg
  have hie:i=g.cells.length:=tr
  subst hie;refine gC (QV (g:=g) (vh:=vh) (vc:=vc) (f:=1) hg) λv8 _=>?_;rw[akZ];refine go ?_;refine gZ (gI (E:=aA ai) (v:=v8) (xs:=jr g (λs=>(s.2,true)))) ?_;refine go ?_;refine lK (c:=(0:Int)=0) (f:=aj (aA ai) v8 (dD g 1)) tI ?_;exact gQ ⟨v8,0⟩ ⟨λ_=>⟨hg,tr,tr⟩,λ_=>rfl⟩
 .have hf:dD g 2=jr g (λs=>(s.1,true)):=by simp[dD]
  refine go ?_;refine iy ai ?_;refine dX (λy:Nat×ah=>g.cells.length - y.1) (λy=>[(10,iV (y.1:Int)),(9,y.2)]) (λy=>[ap ai y.2 (upTo' y.1)]) (λ_=>[]) (λy=>y.1<=g.cells.length) (0,.slice none 0 0) (bP _) (hk:=tx) (body:=?_);rintro⟨i,v9⟩ hi;dsimp only at hi⊢;have hil:=nT i;refine aB ?_ ?_<;>intro h2
  .exact tg
  have hie:i=g.cells.length:=tr
  subst hie;refine gC (QV (g:=g) (vh:=vh) (vc:=vc) (f:=2) hg) λv8 _=>?_;rw[ak0];refine go ?_;refine gZ (gI (E:=aA ai) (v:=v8) (xs:=jr g (λs=>(s.1,true)))) ?_;refine go ?_;refine lK (c:=(0:Int)=0) (f:=aj (aA ai) v8 (dD g 2)) tI ?_;exact gQ ⟨v8,0⟩ ⟨λ_=>⟨hg,tr,tr⟩,λ_=>rfl⟩
 .have hf:dD g 3=lZ g:=by simp[dD]
  refine go ?_;refine iy ai ?_;refine dX (λy:Nat×ah=>g.cells.length - y.1) (λy=>[(10,iV (y.1:Int)),(9,y.2)]) (λy=>[ap ai y.2 (upTo' y.1)]) (λ_=>[]) (λy=>y.1<=g.cells.length) (0,.slice none 0 0) (bP _) (hk:=tx) (body:=?_);rintro⟨i,v9⟩ hi;dsimp only at hi⊢;have hil:=nT i;refine aB ?_ ?_<;>intro h2
  .exact tg
  have hie:i=g.cells.length:=tr
  subst hie;refine aB ?_ ?_<;>intro h4
  .refine gC (akX (g:=g) (vh:=vh) (vc:=vc) hg h4) λv8 _=>?_;refine go ?_;refine gZ (gI (E:=aA ai) (v:=v8) (xs:=lZ g)) ?_;refine go ?_;refine lK (c:=(0:Int)=0) (f:=aj (aA ai) v8 (dD g 3)) tI ?_;exact gQ ⟨v8,0⟩ ⟨λ_=>⟨hg,tr,tr⟩,λ_=>rfl⟩
  .have h5:g.shape=2:=hg.make.sh.resolve_left h4;have hd:lZ g=jr g (λs=>(s.1+s.2,true)):=by unfold lZ;rw[if_pos h5]
   refine gC (QV (g:=g) (vh:=vh) (vc:=vc) (f:=3) hg) λv8 _=>?_;rw[ak1 h5,<- hd];refine go ?_;refine gZ (gI (E:=aA ai) (v:=v8) (xs:=lZ g)) ?_;refine go ?_;refine lK (c:=(0:Int)=0) (f:=aj (aA ai) v8 (dD g 3)) tI ?_;exact gQ ⟨v8,0⟩ ⟨λ_=>⟨hg,tr,tr⟩,λ_=>rfl⟩
 .have hf:dD g 4=bJ g:=by simp[dD]
  refine go ?_;refine iy ai ?_;refine dX (λy:Nat×ah=>g.cells.length - y.1) (λy=>[(10,iV (y.1:Int)),(9,y.2)]) (λy=>[ap ai y.2 (upTo' y.1)]) (λ_=>[]) (λy=>y.1<=g.cells.length) (0,.slice none 0 0) (bP _) (hk:=tx) (body:=?_);rintro⟨i,v9⟩ hi;dsimp only at hi⊢;have hil:=nT i;refine aB ?_ ?_<;>intro h2
  .exact tg
  have hie:i=g.cells.length:=tr
  subst hie;exact eI
 .have hf:dD g 5=l5 (bJ g):=by simp[dD]
  refine go ?_;refine iy ai ?_;refine iy (aA ai) ?_;refine dX (λy:Nat×ah×ah=>g.cells.length - y.1) (λy=>[(10,iV (y.1:Int)),(9,y.2.1),(8,y.2.2)]) (λy=>[ap ai y.2.1 (upTo' y.1),ap (aA ai) y.2.2 (l5 ((bJ g).take y.1))]) (λ_=>[]) (λy=>y.1<=g.cells.length) (0,.slice none 0 0,.slice none 0 0) (bP _) (hk:=tx) (body:=?_);rintro⟨i,v9,v8⟩ hi;dsimp only at hi⊢;have hil:=nT i;have Eo:(l5 ((bJ g).take i)).length=i:=by rw[Pq,iY];omega
  refine aB ?_ ?_<;>intro h2
  .obtain⟨ln,hln⟩:∃ln,(bJ g)[i]? =some ln:=⟨(bJ g)[i]'(tr),bX _⟩
   have hll:=hnm ln (aS hln);have hfs:=Wi hln;rw[ahH hg hln]at hfs;refine go ?_;intro Ar;refine go ?_;refine fI (xs:=upTo' i) ai (i:Int) () tr (next:=λad=>?_);rw[<- wG];refine go ?_;refine iy ai ?_;refine dX (λy:Nat×ah=>g.cells.length - y.1) (λy=>[(12,iV (y.1:Int)),(11,y.2)]) (λy=>[ap ai y.2 (dP y.1 λb=>decide (b=(i:Int))||decide (b∈ln))]) (λ_=>[]) (λy=>y.1<=g.cells.length) (0,.slice none 0 0) (bP _) (hk:=tx) (body:=?_);rintro⟨j,v11⟩ hj;dsimp only at hj⊢;have hsl:=BV j λb=>decide (b=(i:Int))||decide (b∈ln);refine aB ?_ ?_<;>intro h3
   .have hss:=BU j λb=>decide (b=(i:Int))||decide (b∈ln);refine gH ?_ ?_<;>intro h4
    .refine gX (aA ai) (xs:=bJ g) λ_ _ QZ (vl:ah) hl=>?_;cases hln.symm.trans hl;refine gC (LD (xs:=ln) (z:=(j:Int)) tr) λ_ _=>?_;refine aB ?_ ?_<;>intro h5
     .rw[if_pos (by simp[h5])]at hss;exact cQ
     .rw[if_neg (by simp only[qZ,zu,not_or];exact⟨h4,h5⟩),jd]at hss;rw[<- hss];refine go ?_;exact aQ (j+1,v11) vj tU
    .rw[if_pos (by simp[h4])]at hss;exact cQ
   have iJ:j=g.cells.length:=tr
   subst iJ;generalize(dP g.cells.length λb=>decide (b=(i:Int))||decide (b∈ln))=zs at hfs⊢;refine qR (E:=ai) (v:=v11) (xs:=zs) λYz e11=>?_;subst e11;refine gZ (gI (E:=ai) (v:=.slice Yz zs.length zs.length) (xs:=zs)) ?_;refine go ?_;intro b73;refine go ?_;refine fI (xs:=l5 ((bJ g).take i)) (aA ai) zs (.slice Yz zs.length zs.length) tr (next:=λtY=>?_);rw[<- hfs];refine go ?_;exact aQ (i+1,.slice ad ((upTo' i).length+1) ((upTo' i).length+1),.slice tY ((l5 ((bJ g).take i)).length+1) ((l5 ((bJ g).take i)).length+1)) xT tP
  have hie:i=g.cells.length:=tr
  subst hie;rw[QT tr];refine go ?_;refine gZ (gI (E:=aA ai) (v:=v8) (xs:=l5 (bJ g))) ?_;refine go ?_;refine lK (c:=(0:Int)=0) (f:=aj (aA ai) v8 (dD g 5)) tI ?_;exact j9
 .have hf:dD g 6=iX (bJ g):=by simp[dD]
  have h6:=Kv hnm;refine go ?_;refine iy ai ?_;refine iy (aA ai) ?_;refine dX (λy:Nat×ah×ah=>g.cells.length - y.1) (λy=>[(10,iV (y.1:Int)),(9,y.2.1),(8,y.2.2)]) (λy=>[ap ai y.2.1 (upTo' y.1),ap (aA ai) y.2.2 (iX ((bJ g).take y.1))]) (λ_=>[]) (λy=>y.1<=g.cells.length) (0,.slice none 0 0,.slice none 0 0) (bP _) (hk:=tx) (body:=?_);rintro⟨i,v9,v8⟩ hi;dsimp only at hi⊢;have hil:=nT i;have Eo:=h6 i tr;refine aB ?_ ?_<;>intro h2
  .obtain⟨ln,hln⟩:∃ln,(bJ g)[i]? =some ln:=⟨(bJ g)[i]'(tr),bX _⟩
   have hll:=hnm ln (aS hln);have hfs:=Pt hln;refine go ?_;intro Ar;refine go ?_;refine fI (xs:=upTo' i) ai (i:Int) () tr (next:=λad=>?_);rw[<- wG];refine go ?_;refine dX (λy:Nat×ah=>ln.length - y.1) (λy=>[(13,iV (y.1:Int)),(8,y.2)]) (λy=>[ap (aA ai) y.2 (iX ((bJ g).take i)++jK i (ln.take y.1))]) (λ_=>[]) (λy=>y.1<=ln.length) (0,v8) (bP _) (hk:=by rw[show iX ((bJ g).take i)++jK i (ln.take 0)=iX ((bJ g).take i)from jd _];repeat (first|exact aO.nil|(apply aO.cons;(focus (repeat (first|exact aD.here|apply aD.there)))))) (body:=?_);rintro⟨j,v5⟩ hj;dsimp only at hj⊢;have hpl:=Ps i (ln.take j);rw[iY]at hpl;have hal:(iX ((bJ g).take i)++jK i (ln.take j)).length<=2000:=by rw[ik];omega
   refine gX (aA ai) (xs:=bJ g) λ_ _ QZ (vl:ah) hl=>?_;cases hln.symm.trans hl;refine aB ?_ ?_<;>intro h3
   .refine gX (aA ai) (xs:=bJ g) λ_ _ QZ (vl:ah) hl=>?_;cases hln.symm.trans hl;refine go ?_;intro _ _ x hx;have hps:=Wj (i:=i) hx;refine aB ?_ ?_<;>intro h4
    .have Ce:iX ((bJ g).take i)++jK i (ln.take (j+1))=(iX ((bJ g).take i)++jK i (ln.take j))++[[(i:Int),x]]:=by rw[hps,if_pos tr,gz]
     refine gX (aA ai) (xs:=bJ g) λ_ _ QZ (vl:ah) hl=>?_;cases hln.symm.trans hl;refine go ?_;intro _ _ x' hx';cases hx.symm.trans hx';refine go ?_;intro zf b98;refine tu (A:=pt zf (.cells [iV (i:Int),iV x])) (fs:=[aj ai (.slice (some ⟨zf,0,some 0⟩) 2 2) [(i:Int),x]]) (BB (b:=zf) (f:=0) (c:=2) (xs:=[(i:Int),x])) (h:=?_);refine go ?_;refine fI (xs:=iX ((bJ g).take i)++jK i (ln.take j)) (aA ai) [(i:Int),x] (.slice (some ⟨zf,0,some 0⟩) 2 2) tr (next:=λtY=>?_);rw[<- Ce];refine go ?_;exact aQ (j+1,.slice tY ((iX ((bJ g).take i)++jK i (ln.take j)).length+1) ((iX ((bJ g).take i)++jK i (ln.take j)).length+1)) Cl tU
    .have Ce:iX ((bJ g).take i)++jK i (ln.take (j+1))=iX ((bJ g).take i)++jK i (ln.take j):=by rw[hps,if_neg tr,jd]
     exact lz
   have iJ:j=ln.length:=tr
   subst iJ;rw[bM,<- hfs];refine go ?_;exact aQ (i+1,.slice ad ((upTo' i).length+1) ((upTo' i).length+1),v5) xT tP
  have hie:i=g.cells.length:=tr
  subst hie;rw[QT tr];refine go ?_;refine gZ (gI (E:=aA ai) (v:=v8) (xs:=iX (bJ g))) ?_;refine go ?_;refine lK (c:=(0:Int)=0) (f:=aj (aA ai) v8 (dD g 6)) tI ?_;exact j9
 .have hf:dD g 7=[upTo' g.cells.length]:=by simp[dD]
  refine go ?_;refine iy ai ?_;refine dX (λy:Nat×ah=>g.cells.length - y.1) (λy=>[(10,iV (y.1:Int)),(9,y.2)]) (λy=>[ap ai y.2 (upTo' y.1)]) (λ_=>[]) (λy=>y.1<=g.cells.length) (0,.slice none 0 0) (bP _) (hk:=tx) (body:=?_);rintro⟨i,v9⟩ hi;dsimp only at hi⊢;have hil:=nT i;refine aB ?_ ?_<;>intro h2
  .exact tg
  have hie:i=g.cells.length:=tr
  subst hie;refine gZ (gI (E:=ai) (v:=v9) (xs:=upTo' g.cells.length)) ?_;refine gF ai v9 (upTo' g.cells.length) λa4 c4 e4=>?_;subst e4;refine go ?_;intro LJ;refine gP LJ ?_;refine fM (aj (aA ai) (Cc LJ 1) [upTo' g.cells.length]) (λw hw=>UK (v:=.slice a4 (upTo' g.cells.length).length c4) (hw _ tt) (hw _ tt)) ?_;refine go ?_;refine lK (c:=(0:Int)=0) (f:=aj (aA ai) (Cc LJ 1) (dD g 7)) tI ?_;exact gQ ⟨Cc LJ 1,0⟩ ⟨λ_=>⟨hg,tr,tr⟩,λ_=>rfl⟩
