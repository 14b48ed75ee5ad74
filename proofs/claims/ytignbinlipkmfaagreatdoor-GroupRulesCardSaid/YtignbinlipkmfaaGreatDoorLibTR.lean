/- Part. -/
import Derived.Test.YtignbinlipkmfaaGreatDoorLibSR
set_option linter.all false
set_option maxRecDepth 10000
set_option maxHeartbeats 4000000
namespace Go.Proofs.YtignbinlipkmfaaGreatDoor
open Tryz (prog)
open Go.Ideal Kd
variable{vh:ah}
def VV{s w h:Int}{holes:ae Int}(hw64:lG w)(an4:lG h)(hl:holes.length<4611686018427387904):
 bG prog (.func 87) [iV s,iV w,iV h,vh] [] [] [aj ai vh holes] (mkV s w h holes) (λ_=>[]) (rQ s w h holes) (λy=>y.ok=true↔qZ s w h holes):=by
 refine gB 87 λB w0=>?_;refine go ?_;intro b8;refine go ?_;by_cases hsh:s=1\/s=2
 rotate_left
 .rw[dQ (show s≠1 from λe=>hsh (.inl e))];refine go ?_;rw[dQ (show s≠2 from λe=>hsh (.inr e))];refine go ?_;refine gQ ⟨false,.nilFunc,.nilFunc⟩ ⟨(λe=>by cases e),λe=>?_⟩
  exfalso
  have e:=zF.2 e;obtain⟨q1,q2,q3,q4,q5,q6⟩:=e;exact hsh q1
 rcases hsh with rfl|rfl;all_goals
  refine gH ?_ ?_<;>intro a1
  rotate_left
  .exact cT
  refine gH ?_ ?_<;>intro a2
  rotate_left
  .exact cT
  refine gH ?_ ?_<;>intro a3
  rotate_left
  .exact cT
  refine aC ?_ ?_<;>intro a4
  .exact cT
  have hwh:=zB (w:=w) (h:=h) ⟨tf,tf⟩ ⟨tf,tf⟩;refine gN holes.length 10 (λk=>k<=holes.length/\(holes.take k).Pairwise (·<·)/\∀x∈holes.take k,0<=x/\x<w*h) ⟨bH _,tg,tg⟩ ?_;rintro k ⟨hk,nY,hmem⟩;refine aC ?_ ?_<;>intro a6
  .refine go ?_;intro _ _ x hx;have hxm:=aU hx;have htk:holes.take (k+1)=holes.take k++[x]:=by rw[qw,hx];rfl
   have hstep:0<=x->x<w*h->(∀a∈holes.take k,a<x)->k+1<=holes.length/\(holes.take (k+1)).Pairwise (·<·)/\∀z∈holes.take (k+1),0<=z/\z<w*h:=λq1 q2 q3=>by
    refine⟨tf,?_,?_⟩
    .rw[htk,Q4];exact⟨nY,tg,λa ha b hb=>by rw[bS.1 hb];exact q3 a ha⟩
    .rw[htk];intro z hz;rcases eP.1 hz with hz|hz
     .exact hmem z hz
     .rw[bS.1 hz];exact⟨q1,q2⟩
   refine gH ?_ ?_<;>intro b1
   rotate_left
   .exact ii
   refine go ?_;intro _ _ x' hx';cases hx.symm.trans hx';refine gH ?_ ?_<;>intro b2
   rotate_left
   .exact ii
   refine gH ?_ ?_<;>intro b3
   .refine go ?_;refine aO (k+1) tf (hstep tf tf λa ha=>?_);rw[show k=0 by omega,List.take_zero]at ha;cases ha
   refine go ?_;intro _ _ x' hx' _ _ z hz;cases hx.symm.trans hx';obtain⟨j,rfl⟩:∃j,k=j+1:=⟨k - 1,tf⟩
   rw[show(((j+1:Nat):Int) - 1).toNat=j by omega]at hz;have hzj:holes.take (j+1)=holes.take j++[z]:=by rw[qw,hz];rfl
   refine aC ?_ ?_<;>intro b4
   .refine go ?_;refine gQ ⟨false,.nilFunc,.nilFunc⟩ ⟨(λe=>by cases e),λe=>?_⟩
    exfalso
    have e:=zF.2 e;obtain⟨q1,q2,q3,q4,q5,q6⟩:=e;obtain⟨d1,d2⟩:=bJ.1 hz;obtain⟨d3,d4⟩:=bJ.1 hx;have:=xI.1 q4 j (j+1) d1 d3 tf;rw[d2,d4]at this;omega
   refine go ?_;refine aO (j+1+1) tf (hstep tf tf λa ha=>?_);have:=abR nY ha;rw[hzj,abQ]at this;omega
  have hkl:k=holes.length:=tf
  subst hkl;rw[bP]at nY hmem;clear a6 hk;obtain⟨m,hm⟩:=jK (show 0<=w*h by omega);have KC:pF w h holes=iM m holes:=by
   unfold pF;rw[hm];rfl
  have hmm:∀x∈holes,0<=x/\x<(m:Int):=λx hx=>by rw[<- hm];exact hmem x hx
  refine go ?_;intro b11;refine go ?_;refine gK ai ?_;refine gK ai ?_;refine di (λy:Nat×ah×ah=>m - y.1) (λy=>[(12,iV (y.1:Int))]) (λy=>[pt b11 (.cells [iV _,iV w,iV h,y.2.1,y.2.2]),ap ai y.2.1 (dY y.1 λi=>decide (i∈holes)),ap ai y.2.2 (iM y.1 holes)]) (λ_=>[]) (λy=>y.1<=m) (0,.slice none 0 0,.slice none 0 0) (bH _) (hk:=tj) (body:=?_);rintro⟨k,v1,v2⟩ hk;dsimp only at hk⊢;have hcl:=GL k holes;have hsl:=EB k λi=>decide (i∈holes);refine go ?_;rw[hm];refine aC ?_ ?_<;>intro a9
  .refine gC (Qn (xs:=holes) (z:=(k:Int)) tf) λ_ _=>?_;refine aC ?_ ?_<;>intro hin
   .have e1:iM (k+1) holes=iM k holes:=by rw[OW,if_pos hin,iE]
    have e2:dY (k+1) (λi=>decide (i∈holes))=dY k (λi=>decide (i∈holes))++[(k:Int)]:=by rw[EA,if_pos (dQ hin)]
    refine go ?_;intro b91;refine go ?_;refine fJ ai (xs:=dY k λi=>decide (i∈holes)) (k:Int) () tf λad=>?_;rw[<- e1,<- e2];refine go ?_;exact aO (k+1,.slice ad ((dY k λi=>decide (i∈holes)).length+1) ((dY k λi=>decide (i∈holes)).length+1),v2) yW y3
   .have e1:iM (k+1) holes=iM k holes++[(k:Int)]:=by rw[OW,if_neg hin]
    have e2:dY (k+1) (λi=>decide (i∈holes))=dY k (λi=>decide (i∈holes)):=by rw[EA,if_neg (by simp[hin]),iE]
    refine go ?_;intro b91;refine go ?_;refine fJ ai (xs:=iM k holes) (k:Int) () tf λad=>?_;rw[<- e1,<- e2];refine go ?_;exact aO (k+1,v1,.slice ad ((iM k holes).length+1) ((iM k holes).length+1)) yW y3
  have hkm:k=m:=tf
  subst hkm;rw[aa0 nY hmm];refine sZ (E:=ai) (v:=v2) (xs:=iM k holes) λa2 hv2=>?_;subst hv2;refine aC ?_ ?_<;>intro a7
  .refine go ?_;refine gQ ⟨false,.nilFunc,.nilFunc⟩ ⟨(λe=>by cases e),λe=>?_⟩
   exfalso
   have e:=zF.2 e;obtain⟨q1,q2,q3,q4,q5,q6⟩:=e;rw[KC]at q6;exact q6 (lW.1 tf)
  refine go ?_;refine gZ (gD (E:=ai) (v:=v1) (xs:=holes)) ?_;refine gZ (gD (E:=ai) (v:=.slice a2 (iM k holes).length (iM k holes).length) (xs:=iM k holes)) ?_;refine go ?_;refine gQ ⟨true,v1,.slice a2 (iM k holes).length (iM k holes).length⟩ ⟨λ_=>zF.1 ⟨by first|exact .inl rfl|exact .inr rfl,⟨tf,tf⟩,⟨tf,tf⟩,nY,hmem,by rw[KC];exact λe=>a7 (by rw[e];rfl)⟩,λ_=>rfl⟩ (hF:=?_);show Sub [aj ai _ holes,aj ai _ (pF w h holes)] _;rw[KC];exact .cons tg (.cons tg .nil)
variable{g:bA}{vc:ah}
def adA(hS:rR g):
 fC prog 66 [.agg ⟨iW g vh vc⟩] (jU g vh vc) (λe:Int=>iV e) (λe=>e=0↔eF g):=by
 refine gB 66 λB w0=>?_;refine go ?_;intro b1;refine gC (VV (s:=g.shape) (w:=g.w) (h:=g.h) (holes:=g.holes) (vh:=vh) hS.w hS.h hS.holes) λy hy=>?_;obtain⟨ok,v1,v2⟩:=y;cases ok with
 |false=>
  exact fb
 |true=>
  have hmk:=hy.1 rfl;dsimp only[mkV,rQ,cond,jU,zK,List.cons_append,List.nil_append];refine go ?_;intro b3;refine gC (Hy (xs:=pF g.w g.h g.holes) (ys:=g.cells) (by
   exact pC)) λ_ _=>?_
  exact fp
def VW{α:Type}{xs:ae α}{k:Nat}(h:xs.length<=k):xs.take k=xs:=oQ h
abbrev vU(g:bA)(a:Nat):Int->Bool:=λb=>AX g.shape (iZ g (a:Int)) (iZ g b)
def adB(hS:rR g):
 bG prog (.func 88) [.agg ⟨iW g vh vc⟩] [] [] (jU g vh vc) zM (λ_=>[]) (λy=>[pM (y.e=0) (aj (ay ai) y.v (bR g))]) (λy=>y.e=0↔eF g):=by
 refine gB 88 λB w0=>?_;refine go ?_;intro b1;refine gP b1 ?_;refine gC (adA (g:=g) (vh:=vh) (vc:=vc) hS) λe he=>?_;refine aC ?_ ?_<;>intro h1
 .refine go ?_;refine oK (c:=(130:Int)=0) (f:=aj (ay ai) (.slice none 0 0) (bR g)) tf ?_;exact gQ ⟨.slice none 0 0,130⟩ ⟨(λh=>by cases h),λh=>absurd (he.2 h) h1⟩
 have hg:=he.1 (iX.1 h1);clear he h1;have hgl:=hg.len;have hnl:=yA g;refine go ?_;refine gK (ay ai) ?_;refine di (λy:Nat×ah=>g.cells.length - y.1) (λy=>[(5,iV (y.1:Int)),(4,y.2)]) (λy=>[ap (ay ai) y.2 ((bR g).take y.1)]) (λ_=>[]) (λy=>y.1<=g.cells.length) (0,.slice none 0 0) (bH _) (hk:=tj) (body:=?_);rintro⟨i,v4⟩ hi;dsimp only at hi⊢;have hil:((bR g).take i).length=i:=vA
 refine aC ?_ ?_<;>intro h2
 .have hn:=aa1 hg (show i<g.cells.length by omega);refine go ?_;refine gK ai ?_;refine di (λy:Nat×ah=>g.cells.length - y.1) (λy=>[(7,iV (y.1:Int)),(6,y.2)]) (λy=>[ap ai y.2 (dY y.1 (vU g i))]) (λ_=>[]) (λy=>y.1<=g.cells.length) (0,.slice none 0 0) (bH _) (hk:=tj) (body:=?_);rintro⟨j,v6⟩ hj;dsimp only at hj⊢;have hsl:=EB j (vU g i);refine aC ?_ ?_<;>intro h3
  .refine gC (ar6 (g:=g) (vh:=vh) (vc:=vc) (a:=i) (b:=j) hg tf tf) λ_ _=>?_;have hss:=EA j (vU g i);refine go ?_;refine kX rfl (λh4=>?_) (λh4=>?_)
   .rw[if_pos h4]at hss;refine go ?_;intro VX;refine go ?_;refine fJ ai (xs:=dY j (vU g i)) (j:Int) () tf λad=>?_;rw[<- hss];refine go ?_;exact aO (j+1,.slice ad ((dY j (vU g i)).length+1) ((dY j (vU g i)).length+1)) uv tM
   .rw[if_neg (by show¬AX g.shape (iZ g (i:Int)) (iZ g (j:Int))=true;rw[h4];simp),iE]at hss;rw[<- hss];refine go ?_;exact aO (j+1,v6) uv tM
  have j5:j=g.cells.length:=tf
  subst j5;refine sZ (E:=ai) (v:=v6) (xs:=dY g.cells.length (vU g i)) λa6 e6=>?_;subst e6;refine gZ (gD (E:=ai) (v:=.slice a6 (dY g.cells.length (vU g i)).length (dY g.cells.length (vU g i)).length) (xs:=dY g.cells.length (vU g i))) ?_;refine go ?_;intro b35;refine go ?_;refine fJ (xs:=(bR g).take i) (ay ai) (dY g.cells.length (vU g i)) (.slice a6 (dY g.cells.length (vU g i)).length (dY g.cells.length (vU g i)).length) tf (next:=λad=>?_);rw[<- bU hn];refine go ?_;exact aO (i+1,.slice ad (((bR g).take i).length+1) (((bR g).take i).length+1)) xb tI
 have hie:i=g.cells.length:=tf
 subst hie;rw[VW tf];refine gZ (gD (E:=ay ai) (v:=v4) (xs:=bR g)) ?_;refine go ?_;refine nM (c:=(0:Int)=0) (f:=aj (ay ai) v4 (bR g)) tg ?_;exact gQ ⟨v4,0⟩ ⟨λ_=>hg,λ_=>rfl⟩
def asa(hg:eF g){k:Nat}(hk:k<g.cells.length):(-8<(iZ g (k:Int)).1/\(iZ g (k:Int)).1<16)/\0<=(iZ g (k:Int)).2/\(iZ g (k:Int)).2<16:=by
 obtain⟨hc,hr⟩:=Di hg hk;have hv:=Qp hr;rcases hg.make.sh with hs|hs
 .rw[HV hk hs];dsimp only;omega
 .rw[K5 hk hs];dsimp only;omega
def asb(hg:eF g){k:Nat}(hk:k<g.cells.length)(f:Int): -16<=qI g.shape f (iZ g (k:Int))/\qI g.shape f (iZ g (k:Int))<=32:=by
 obtain⟨h1,h2⟩:=asa hg hk;unfold qI;split
 .omega
 split
 .omega
 split<;>omega
abbrev xq(g:bA)(f n:Int):Int->Bool:=λb=>decide (qI g.shape f (iZ g b)=n)
abbrev Bq(g:bA)(f:Int)(k:Nat):ae (ae Int):=CE (λn=>dY g.cells.length (xq g f n)) (-16) k
def ase(hg:eF g)(f:Int):Bq g f 49=jT g λs=>(qI g.shape f s,true):=by
 rw[aa5 (lo:= -16) (k:=49) (λs=>(qI g.shape f s,true)) (λp hp _=>by
  obtain⟨h1,h2⟩:=Kn.1 hp;have h3:=asb hg (k:=p.1.toNat) tf f;rw[show((p.1.toNat:Nat):Int)=p.1 by omega,<- h2]at h3;dsimp only;omega)]
 unfold Bq;congr 1;funext n
 rw[aa3];rfl
def asf(L:Int->ae Int)(lo:Int)(k:Nat):(CE L lo k).length<=k:=by
 unfold CE;refine lV (Ik _ _) ?_;rw[bC];unfold eY;simp
def VY{f:Int}(hg:eF g):
 bG prog (.func 140) [.agg ⟨iW g vh vc⟩,iV f] [] [] (jU g vh vc) (λv:ah=>v) (λv=>[ap (ay ai) v (jT g λs=>(qI g.shape f s,true))]) (λ_=>[]) (λ_=>True):=by
 have hgl:=hg.len;refine gB 140 λB w0=>?_;refine go ?_;intro b1;refine gP b1 ?_;refine go ?_;refine gK (ay ai) ?_;refine di (λy:Nat×ah=>49 - y.1) (λy=>[(6,iV (-16+(y.1:Int))),(5,y.2)]) (λy=>[ap (ay ai) y.2 (Bq g f y.1)]) (λ_=>[]) (λy=>y.1<=49) (0,.slice none 0 0) tf (hk:=tj) (body:=?_);rintro⟨i,v5⟩ hi;dsimp only at hi⊢;have hil:(Bq g f i).length<=i:=asf (λn=>dY g.cells.length (xq g f n)) (-16) i;have hls:Bq g f (i+1)=Bq g f i++if dY g.cells.length (xq g f (-16+(i:Int)))=[]then[]else[dY g.cells.length (xq g f (-16+(i:Int)))]:=aa4 (λn=>dY g.cells.length (xq g f n)) (-16) i
 have hin: -16+(i:Int)+1= -16+((i+1:Nat):Int):=tf
 refine aC ?_ ?_<;>intro h2
 .refine go ?_;refine gK ai ?_;refine di (λy:Nat×ah=>g.cells.length - y.1) (λy=>[(8,iV (y.1:Int)),(7,y.2)]) (λy=>[ap ai y.2 (dY y.1 (xq g f (-16+(i:Int))))]) (λ_=>[]) (λy=>y.1<=g.cells.length) (0,.slice none 0 0) (bH _) (hk:=tj) (body:=?_);rintro⟨j,v7⟩ hj;dsimp only at hj⊢;have hsl:=EB j (xq g f (-16+(i:Int)));refine aC ?_ ?_<;>intro h3
  .refine gC (ar7 (g:=g) (vh:=vh) (vc:=vc) (f:=f) (a:=j) hg tf) λ_ _=>?_;have hss:=EA j (xq g f (-16+(i:Int)));refine aC ?_ ?_<;>intro h4
   .rw[if_pos (dQ h4)]at hss;refine go ?_;intro VX;refine go ?_;refine fJ ai (xs:=dY j (xq g f (-16+(i:Int)))) (j:Int) () tf λad=>?_;rw[<- hss];refine go ?_;exact aO (j+1,.slice ad ((dY j (xq g f (-16+(i:Int)))).length+1) ((dY j (xq g f (-16+(i:Int)))).length+1)) uv tM
   .rw[if_neg (by show¬decide (qI g.shape f (iZ g (j:Int))= -16+(i:Int))=true;rw[aW h4];simp),iE]at hss;rw[<- hss];refine go ?_;exact aO (j+1,v7) uv tM
  have j5:j=g.cells.length:=tf
  subst j5;generalize hL:dY g.cells.length (xq g f (-16+(i:Int)))=L at hls hsl⊢;refine sZ (E:=ai) (v:=v7) (xs:=L) λa7 e7=>?_;subst e7;refine aC ?_ ?_<;>intro h5
  .rw[if_neg (λe=>by rw[e]at h5;simp at h5)]at hls;refine gZ (gD (E:=ai) (v:=.slice a7 L.length L.length) (xs:=L)) ?_;refine go ?_;intro b35;refine go ?_;refine fJ (xs:=Bq g f i) (ay ai) L (.slice a7 L.length L.length) tf (next:=λad=>?_);rw[<- hls];refine go ?_;rw[hin];exact aO (i+1,.slice ad ((Bq g f i).length+1) ((Bq g f i).length+1)) DE tI
  .rw[if_pos (lW.1 tf),iE]at hls;rw[<- hls];refine go ?_;rw[hin];exact aO (i+1,v5) DE tI
 have hie:i=49:=tf
 subst hie;rw[ase hg f];refine go ?_;exact gQ v5 trivial
abbrev pO(g:bA)(k:Nat):Int->Bool:=λb=>cond (Nat.beq k 0) (decide ((iZ g b).1=(iZ g b).2)) (decide ((iZ g b).1+(iZ g b).2=g.w - 1))
def vV(g:bA)(k:Nat):ae Int:=dY g.cells.length (pO g k)
def uO(l:ae Int):ae (ae Int):=if l=[]then[]else[l]
def ash(hs:g.shape=1)(hw:g.w=g.h):mP g=lQ (uO (vV g 0)) (uO (vV g 1)):=by
 unfold mP;rw[if_neg tf,if_pos hw,Pj (λs=>decide (s.1=s.2)),Pj (λs=>decide (s.1+s.2=g.w - 1))];rfl
def oO(g:bA)(k:Nat):ae (ae Int):=if k=0 then[]else if k=1 then uO (vV g 0)else lQ (uO (vV g 0)) (uO (vV g 1))
def asi(l:ae Int):lQ [] (uO l)=uO l:=by
 unfold uO;split
 .rfl
 .show wT [] l=[l]
  unfold wT;rw[if_neg tg];rfl
def asj(g:bA){k:Nat}(hk:k<2):oO g (k+1)=lQ (oO g k) (uO (vV g k)):=by
 rcases(show k=0\/k=1 by omega)with rfl|rfl
 .exact(asi _).symm
 .rfl
def adC(O:ae (ae Int)){l:ae Int}(hl:l≠[]):lQ O (uO l)=if O.head? =some l then O else O++[l]:=by
 unfold uO;rw[if_neg hl];rfl
def asl(hg:eF g)(hs:g.shape=1):
 bG prog (.func 141) [.agg ⟨iW g vh vc⟩] [] [] (jU g vh vc) (λv:ah=>v) (λv=>[ap (ay ai) v (mP g)]) (λ_=>[]) (λ_=>True):=by
 have hgl:=hg.len;have mW:=hg.make.wi;refine gB 141 λB w0=>?_;refine go ?_;intro b1;refine gP b1 ?_;refine go ?_;refine gK (ay ai) ?_;refine di (λy:Nat×ah=>2 - y.1) (λy=>[(4,iV (y.1:Int)),(3,y.2)]) (λy=>[ap (ay ai) y.2 (oO g y.1)]) (λ_=>[]) (λy=>y.1<=2/\(y.1=0\/g.w=g.h)) (0,.slice none 0 0) ⟨tf,.inl rfl⟩ (hk:=tj) (body:=?_);rintro⟨k,v3⟩ ⟨hk,VZ⟩;dsimp only at hk VZ⊢;have Qq:∀l∈oO g k,l.length<=256:=λl hl=>by
  have h1:∀n,(vV g n).length<=256:=λn=>by have:=EB g.cells.length (pO g n);unfold vV;omega
  have h2:∀n,∀l∈uO (vV g n),l.length<=256:=λn l hl=>by
   unfold uO at hl;split at hl
   .cases hl
   .rw[bS.1 hl];exact h1 n
  unfold oO at hl;split at hl
  .cases hl
  split at hl
  .exact h2 0 l hl
  .rcases Ul hl with hl|hl
   .exact h2 0 l hl
   .exact h2 1 l hl
 have hol:(oO g k).length<=2:=by
  unfold oO lQ uO;split
  .simp
  split
  .split<;>simp
  .split<;>split<;>simp[wT]<;>split<;>simp
 refine gH ?_ ?_<;>intro hk2
 .have e:k=2:=by omega
  subst e;have hw:g.w=g.h:=VZ.resolve_left tf;rw[show oO g 2=mP g from(ash hs hw).symm];refine go ?_;exact gQ v3 trivial
 refine aC ?_ ?_<;>intro hw
 rotate_left
 .have e:k=0:=VZ.resolve_right hw;subst e;have e:mP g=oO g 0:=by unfold mP;rw[if_neg tf,if_neg hw];rfl
  rw[e];refine go ?_;exact gQ v3 trivial
 have hds:=asj g (show k<2 by omega);rcases(show k=0\/k=1 by omega)with rfl|rfl
 .refine go ?_;refine gK ai ?_;refine di (λy:Nat×ah=>g.cells.length - y.1) (λy=>[(6,iV (y.1:Int)),(5,y.2)]) (λy=>[ap ai y.2 (dY y.1 (pO g 0))]) (λ_=>[]) (λy=>y.1<=g.cells.length) (0,.slice none 0 0) (bH _) (hk:=tj) (body:=?_);rintro⟨j,v5⟩ hj;dsimp only at hj⊢;have hsl:=EB j (pO g 0);refine aC ?_ ?_<;>intro h3
  .have zT:=HV (k:=j) tf hs;obtain⟨hc,hr⟩:=Di hg (k:=j) tf;have hss:=EA j (pO g 0);refine gC (Hz (g:=g) (vh:=vh) (vc:=vc) (k:=j) hg tf) λ_ _=>?_;refine gC (E8 (g:=g) (vh:=vh) (vc:=vc) (k:=j) hg tf) λ_ _=>?_;generalize(g.cells[j]).tmod g.w=x at hc zT⊢;generalize(g.cells[j]).tdiv g.w=y at hr zT⊢;refine gH ?_ ?_<;>intro h4
   rotate_left
   .have hp:pO g 0 (j:Int)=true:=by show decide _=true;rw[zT];exact dQ z7
    rw[if_pos hp]at hss;refine go ?_;intro VX;refine go ?_;refine fJ ai (xs:=dY j (pO g 0)) (j:Int) () tf λad=>?_;rw[<- hss];refine go ?_;exact aO (j+1,.slice ad ((dY j (pO g 0)).length+1) ((dY j (pO g 0)).length+1)) uv tM
   .have hp:¬pO g 0 (j:Int)=true:=by show¬decide _=true;rw[zT];intro h;have:=iN h;dsimp only at this;omega
    exact i7
  have j5:j=g.cells.length:=tf
  subst j5;have hL:dY g.cells.length (pO g 0)=vV g 0:=rfl;rw[hL]at hsl⊢;generalize vV g 0=L at hsl hds⊢;refine sZ (E:=ai) (v:=v5) (xs:=L) λa5 e5=>?_;subst e5;refine gZ (gD (E:=ai) (v:=.slice a5 L.length L.length) (xs:=L)) ?_;generalize oO g 0=O at hds hol Qq⊢;refine sZ (E:=ay ai) (v:=v3) (xs:=O) λa3 e3=>?_;subst e3;refine gH ?_ ?_<;>intro h5
  .have e0:L=[]:=lW.1 tf;have e1:oO g (0+1)=O:=by rw[hds,e0];rfl
   rw[<- e1];exact jn
  rw[adC O (λe=>by rw[e]at h5;simp at h5)]at hds;refine gH ?_ ?_<;>intro h6
  .obtain⟨o,O2,rfl⟩:∃o O2,O=o::O2:=by
    exact ri
   refine go ?_;refine Ow ai (v:=.slice a3 (o::O2).length (o::O2).length) (xss:=o::O2) 0 o rfl (next:=λ_ _ u=>?_);refine go ?_;have ho:=Qq o (fF ..);rw[List.head?_cons]at hds;refine fD (Hy (xs:=o) (ys:=L) tf) (next:=λ_ _=>?_);refine go ?_;refine fP rfl (λh7=>?_) (λh7=>?_)
   .rw[if_neg (λe=>h7 (Option.some.inj e))]at hds;refine go ?_;intro V3;refine go ?_;refine fJ (xs:=o::O2) (ay ai) L (.slice a5 L.length L.length) tf (next:=λvM=>?_);rw[<- hds];refine go ?_;exact aO (0+1,.slice vM ((o::O2).length+1) ((o::O2).length+1)) (by show 2 - (0+1)<2 - 0;omega) ⟨by show 0+1<=2;omega,.inr hw⟩
   .rw[if_pos (congrArg some h7)]at hds;rw[<- hds];exact jn
  have e0:O=[]:=lW.1 tf;subst e0;rw[if_neg tg]at hds;refine go ?_;intro V3;refine go ?_;refine fJ (xs:=([]:ae (ae Int))) (ay ai) L (.slice a5 L.length L.length) tg (next:=λad=>?_);rw[<- hds];refine go ?_;exact aO (0+1,.slice ad (([]:ae (ae Int)).length+1) (([]:ae (ae Int)).length+1)) (by show 2 - (0+1)<2 - 0;omega) ⟨by show 0+1<=2;omega,.inr hw⟩
 .refine go ?_;refine gK ai ?_;refine di (λy:Nat×ah=>g.cells.length - y.1) (λy=>[(6,iV (y.1:Int)),(5,y.2)]) (λy=>[ap ai y.2 (dY y.1 (pO g 1))]) (λ_=>[]) (λy=>y.1<=g.cells.length) (0,.slice none 0 0) (bH _) (hk:=tj) (body:=?_);rintro⟨j,v5⟩ hj;dsimp only at hj⊢;have hsl:=EB j (pO g 1);refine aC ?_ ?_<;>intro h3
  .have zT:=HV (k:=j) tf hs;obtain⟨hc,hr⟩:=Di hg (k:=j) tf;have hss:=EA j (pO g 1);refine gC (Hz (g:=g) (vh:=vh) (vc:=vc) (k:=j) hg tf) λ_ _=>?_;refine gC (E8 (g:=g) (vh:=vh) (vc:=vc) (k:=j) hg tf) λ_ _=>?_;generalize(g.cells[j]).tmod g.w=x at hc zT⊢;generalize(g.cells[j]).tdiv g.w=y at hr zT⊢;refine aC ?_ ?_<;>intro h4
   .have hp:pO g 1 (j:Int)=true:=by show decide _=true;rw[zT];exact dQ z7
    rw[if_pos hp]at hss;refine go ?_;intro VX;refine go ?_;refine fJ ai (xs:=dY j (pO g 1)) (j:Int) () tf λad=>?_;rw[<- hss];refine go ?_;exact aO (j+1,.slice ad ((dY j (pO g 1)).length+1) ((dY j (pO g 1)).length+1)) uv tM
   .have hp:¬pO g 1 (j:Int)=true:=by show¬decide _=true;rw[zT];intro h;have:=iN h;dsimp only at this;omega
    exact i7
  have j5:j=g.cells.length:=tf
  subst j5;have hL:dY g.cells.length (pO g 1)=vV g 1:=rfl;rw[hL]at hsl⊢;generalize vV g 1=L at hsl hds⊢;refine sZ (E:=ai) (v:=v5) (xs:=L) λa5 e5=>?_;subst e5;refine gZ (gD (E:=ai) (v:=.slice a5 L.length L.length) (xs:=L)) ?_;generalize oO g 1=O at hds hol Qq⊢;refine sZ (E:=ay ai) (v:=v3) (xs:=O) λa3 e3=>?_;subst e3;refine gH ?_ ?_<;>intro h5
  .have e0:L=[]:=lW.1 tf;have e1:oO g (1+1)=O:=by rw[hds,e0];rfl
   rw[<- e1];exact jj
  rw[adC O (λe=>by rw[e]at h5;simp at h5)]at hds;refine gH ?_ ?_<;>intro h6
  .obtain⟨o,O2,rfl⟩:∃o O2,O=o::O2:=by
    exact ri
   refine go ?_;refine Ow ai (v:=.slice a3 (o::O2).length (o::O2).length) (xss:=o::O2) 0 o rfl (next:=λ_ _ u=>?_);refine go ?_;have ho:=Qq o (fF ..);rw[List.head?_cons]at hds;refine fD (Hy (xs:=o) (ys:=L) tf) (next:=λ_ _=>?_);refine go ?_;refine fP rfl (λh7=>?_) (λh7=>?_)
   .rw[if_neg (λe=>h7 (Option.some.inj e))]at hds;refine go ?_;intro V3;refine go ?_;refine fJ (xs:=o::O2) (ay ai) L (.slice a5 L.length L.length) tf (next:=λvM=>?_);rw[<- hds];refine go ?_;exact aO (1+1,.slice vM ((o::O2).length+1) ((o::O2).length+1)) (by show 2 - (1+1)<2 - 1;omega) ⟨by show 1+1<=2;omega,.inr hw⟩
   .rw[if_pos (congrArg some h7)]at hds;rw[<- hds];exact jj
  have e0:O=[]:=lW.1 tf;subst e0;rw[if_neg tg]at hds;refine go ?_;intro V3;refine go ?_;refine fJ (xs:=([]:ae (ae Int))) (ay ai) L (.slice a5 L.length L.length) tg (next:=λad=>?_);rw[<- hds];refine go ?_;exact aO (1+1,.slice ad (([]:ae (ae Int)).length+1) (([]:ae (ae Int)).length+1)) (by show 2 - (1+1)<2 - 1;omega) ⟨by show 1+1<=2;omega,.inr hw⟩
def asn{p:Int}(hg:eF g):fC prog 142 [.agg ⟨iW g vh vc⟩,iV p] (jU g vh vc) (λy:Nat×Bool=>.tuple ⟨[iV (y.1:Int),.bool y.2]⟩) (λy=>(y.2=true↔p∈g.cells)/\(y.2=true->zD p g.cells=y.1)):=by
 have hgl:=hg.len;have nY:g.cells.Pairwise (·<·):=x7
 refine gB 142 λB w0=>?_;refine go ?_;intro b1;refine gP b1 ?_;refine gN g.cells.length 6 (λk=>k<=g.cells.length/\p∉g.cells.take k) ⟨tf,tg⟩ ?_;rintro k ⟨hk,hno⟩;refine aC ?_ ?_<;>intro h1
 .refine go ?_;intro _ _ x hx;refine aC ?_ ?_<;>intro h2
  .refine go ?_;subst h2;exact gQ (k,true) ⟨⟨λ_=>aU hx,λ_=>rfl⟩,λ_=>O5 nY hx⟩
  .exact c7
 have:k=g.cells.length:=tf
 subst this;rw[bP]at hno;exact fS
def adD{vr:ah}{rs:ae (ae Int)}(hS:rR g)(hrl:rs.length<2^63)(hrs:∀ps∈rs,ps.length<2^63):
 bG prog (.func 90) [.agg ⟨iW g vh vc⟩,vr] [] [] (aj (ay ai) vr rs::jU g vh vc) zM (λ_=>[]) (λy=>PL g rs y) (λy=>y.e=0↔eF g/\wU g rs):=by
 refine gB 90 λB w0=>?_;refine gF (ay ai) vr rs λar cr er=>?_;subst er;refine go ?_;intro b2;refine gP b2 ?_;refine gC (adA (g:=g) hS) λe he=>?_;refine gH ?_ ?_<;>intro h1
 rotate_left
 .exact gb
 have hg:=he.1 tf;have hgl:=hg.len;refine aC ?_ ?_<;>intro h2
 .exact fh
 refine go ?_;refine gK (ay ai) ?_;refine di (λy:Nat×ah=>rs.length - y.1) (λy=>[(7,iV (y.1:Int)),(6,y.2)]) (λy=>[ap (ay ai) y.2 (eH g (rs.take y.1))]) (λ_=>[]) (λy=>y.1<=rs.length/\∀ps∈rs.take y.1,Cz g ps) (0,.slice none 0 0) ⟨bH _,λps h=>by cases h⟩ (hk:=tj) (body:=?_);rintro⟨k,v6⟩ ⟨hk,hall⟩;dsimp only at hk hall⊢;have hkl:(eH g (rs.take k)).length=k:=by unfold eH;rw[bC,gM];omega
 refine aC ?_ ?_<;>intro h3
 .obtain⟨ps,hps⟩:∃ps,rs[k]? =some ps:=⟨rs[k]'(tf),bY _⟩
  have hpm:=aU hps;have hpl:=hrs ps hpm;have htk:=bU hps;refine go ?_;refine gK ai ?_;refine di (λy:Nat×ah=>ps.length - y.1) (λy=>[(9,iV (y.1:Int)),(8,y.2)]) (λy=>[ap ai y.2 (fH g (ps.take y.1))]) (λ_=>[]) (λy=>y.1<=ps.length/\(∀p∈ps.take y.1,p∈g.cells)/\(fH g (ps.take y.1)).Nodup) (0,.slice none 0 0) ⟨bH _,(λp h=>by cases h),xH⟩ (hk:=tj) (body:=?_);rintro⟨j,v8⟩ ⟨hj,hmem,hnd⟩;dsimp only at hj hmem hnd⊢;have hjl:(fH g (ps.take j)).length=j:=by unfold fH;rw[bC,gM];omega
  have hj2:j<=256:=CN
  refine gX (ay ai) (xs:=rs) λ_ _ ps' (vp:ah) V4=>?_;cases hps.symm.trans V4;refine aC ?_ ?_<;>intro h4
  .refine gX (ay ai) (xs:=rs) λ_ _ ps' (vp:ah) V4=>?_;cases hps.symm.trans V4;refine go ?_;intro _ _ x hx;have htx:=bU hx;refine gC (asn (g:=g) (vh:=vh) (vc:=vc) (p:=x) hg) λy hy=>?_;obtain⟨c,ok⟩:=y;obtain⟨hy1,hy2⟩:=hy;dsimp only at hy1 hy2⊢;cases ok with
   |false=>
    refine go ?_;refine oK (c:=(130:Int)=0) (f:=aj (ay ai) (.slice none 0 0) (eH g rs)) tf ?_;exact gQ ⟨.slice none 0 0,130⟩ ⟨(λh=>by cases h),λh=>by
     have:=hy1.2 ((h.2.all ps hpm).mem x (aU hx));cases this⟩
   |true=>
    have hxm:=hy1.1 rfl;have hpos:=hy2 rfl;have hr1:fH g (ps.take (j+1))=fH g (ps.take j)++[(c:Int)]:=CT
    refine gC (ar3 (vl:=v8) (xs:=fH g (ps.take j)) (z:=(c:Int)) tf) λ_ _=>?_;refine aC ?_ ?_<;>intro h5
    .exact cW
    .exact cN
  exact cA
 have hke:k=rs.length:=tf
 subst hke;rw[bP]at hall⊢;refine gZ (gD (E:=ay ai) (v:=v6) (xs:=eH g rs)) ?_;refine go ?_;refine nM (c:=(0:Int)=0) (f:=aj (ay ai) v6 (eH g rs)) tg ?_;exact gQ ⟨v6,0⟩ ⟨λ_=>⟨hg,tf,hall⟩,λ_=>rfl⟩
def aso(g:bA):(λs:Int×Int=>(qI g.shape 1 s,true))=λs=>(s.2,true):=by funext s;rfl
def asq(g:bA):(λs:Int×Int=>(qI g.shape 2 s,true))=λs=>(s.1,true):=by funext s;unfold qI;simp
def asr(h:g.shape=2):(λs:Int×Int=>(qI g.shape 3 s,true))=λs=>(s.1+s.2,true):=by funext s;unfold qI;simp[h]
def ass{k:Int}(hS:rR g):
 bG prog (.func 89) [.agg ⟨iW g vh vc⟩,iV k] [] [] (jU g vh vc) zM (λ_=>[]) (λy=>PI g k y) (λy=>y.e=0↔eF g/\0<=k/\k<=7):=by
 refine gB 89 λB w0=>?_;refine go ?_;intro b2;refine gP b2 ?_;refine gC (adB (g:=g) (vh:=vh) (vc:=vc) hS) λy hy=>?_;obtain⟨vn,e⟩:=y;dsimp only at hy⊢;refine aC ?_ ?_<;>intro h1
 .exact hU
 have he:e=0:=iX.1 h1;subst he;have hg:=hy.1 rfl;clear hy h1;have hgl:=hg.len;have hnl:=yA g;have hnm:=Kh (g:=g);refine fo (aj (ay ai) vn (bR g)) (λw hw=>hw (pM ((0:Int)=0) (aj (ay ai) vn (bR g))) tg rfl) ?_;refine gF (ay ai) vn (bR g) λan cn en=>?_;subst en;refine gH ?_ ?_<;>intro h2
 rotate_left
 .exact ga
 refine aC ?_ ?_<;>intro h3
 .exact ga
 rcases(show k=0\/k=1\/k=2\/k=3\/k=4\/k=5\/k=6\/k=7 by omega)with rfl|rfl|rfl|rfl|rfl|rfl|rfl|rfl;all_goals clear h2 h3
 .have hf:dL g 0=mh g.cells.length:=by simp[dL]
  refine go ?_;refine gK ai ?_;refine gK (ay ai) ?_;refine di (λy:Nat×ah×ah=>g.cells.length - y.1) (λy=>[(10,iV (y.1:Int)),(9,y.2.1),(8,y.2.2)]) (λy=>[ap ai y.2.1 (upTo' y.1),ap (ay ai) y.2.2 (mh y.1)]) (λ_=>[]) (λy=>y.1<=g.cells.length) (0,.slice none 0 0,.slice none 0 0) (bH _) (hk:=tj) (body:=?_);rintro⟨i,v9,v8⟩ hi;dsimp only at hi⊢;have hil:=jH i;have Ho:=O3 i;refine aC ?_ ?_<;>intro h2
  .refine go ?_;intro CQ;refine go ?_;refine fJ (xs:=upTo' i) ai (i:Int) () tf (next:=λad=>?_);rw[<- vI];refine go ?_;intro A9 b38;refine uy (A:=pt A9 (.cells [iV (i:Int)])) (fs:=[aj ai (.slice (some ⟨A9,0,some 0⟩) 1 1) [(i:Int)]]) (zm (b:=A9) (f:=0) (c:=1) (xs:=[(i:Int)])) (h:=?_);refine go ?_;refine fJ (xs:=mh i) (ay ai) [(i:Int)] (.slice (some ⟨A9,0,some 0⟩) 1 1) tf (next:=λvM=>?_);rw[<- aaC];refine go ?_;exact aO (i+1,.slice ad ((upTo' i).length+1) ((upTo' i).length+1),.slice vM ((mh i).length+1) ((mh i).length+1)) xb tI
  have hie:i=g.cells.length:=tf
  subst hie;refine go ?_;refine gZ (gD (E:=ay ai) (v:=v8) (xs:=mh g.cells.length)) ?_;refine go ?_;refine nM (c:=(0:Int)=0) (f:=aj (ay ai) v8 (dL g 0)) tD ?_;exact lz
 .have hf:dL g 1=jT g (λs=>(s.2,true)):=by simp[dL]
  refine go ?_;refine gK ai ?_;refine di (λy:Nat×ah=>g.cells.length - y.1) (λy=>[(10,iV (y.1:Int)),(9,y.2)]) (λy=>[ap ai y.2 (upTo' y.1)]) (λ_=>[]) (λy=>y.1<=g.cells.length) (0,.slice none 0 0) (bH _) (hk:=tj) (body:=?_);rintro⟨i,v9⟩ hi;dsimp only at hi⊢;have hil:=jH i;refine aC ?_ ?_<;>intro h2
  .exact tb
  have hie:i=g.cells.length:=tf
  subst hie;refine gC (VY (g:=g) (vh:=vh) (vc:=vc) (f:=1) hg) λv8 _=>?_;rw[aso];refine go ?_;refine gZ (gD (E:=ay ai) (v:=v8) (xs:=jT g (λs=>(s.2,true)))) ?_;refine go ?_;refine nM (c:=(0:Int)=0) (f:=aj (ay ai) v8 (dL g 1)) tD ?_;exact gQ ⟨v8,0⟩ ⟨λ_=>⟨hg,tf,tf⟩,λ_=>rfl⟩
 .have hf:dL g 2=jT g (λs=>(s.1,true)):=by simp[dL]
  refine go ?_;refine gK ai ?_;refine di (λy:Nat×ah=>g.cells.length - y.1) (λy=>[(10,iV (y.1:Int)),(9,y.2)]) (λy=>[ap ai y.2 (upTo' y.1)]) (λ_=>[]) (λy=>y.1<=g.cells.length) (0,.slice none 0 0) (bH _) (hk:=tj) (body:=?_);rintro⟨i,v9⟩ hi;dsimp only at hi⊢;have hil:=jH i;refine aC ?_ ?_<;>intro h2
  .exact tb
  have hie:i=g.cells.length:=tf
  subst hie;refine gC (VY (g:=g) (vh:=vh) (vc:=vc) (f:=2) hg) λv8 _=>?_;rw[asq];refine go ?_;refine gZ (gD (E:=ay ai) (v:=v8) (xs:=jT g (λs=>(s.1,true)))) ?_;refine go ?_;refine nM (c:=(0:Int)=0) (f:=aj (ay ai) v8 (dL g 2)) tD ?_;exact gQ ⟨v8,0⟩ ⟨λ_=>⟨hg,tf,tf⟩,λ_=>rfl⟩
 .have hf:dL g 3=mP g:=by simp[dL]
  refine go ?_;refine gK ai ?_;refine di (λy:Nat×ah=>g.cells.length - y.1) (λy=>[(10,iV (y.1:Int)),(9,y.2)]) (λy=>[ap ai y.2 (upTo' y.1)]) (λ_=>[]) (λy=>y.1<=g.cells.length) (0,.slice none 0 0) (bH _) (hk:=tj) (body:=?_);rintro⟨i,v9⟩ hi;dsimp only at hi⊢;have hil:=jH i;refine aC ?_ ?_<;>intro h2
  .exact tb
  have hie:i=g.cells.length:=tf
  subst hie;refine aC ?_ ?_<;>intro h4
  .refine gC (asl (g:=g) (vh:=vh) (vc:=vc) hg h4) λv8 _=>?_;refine go ?_;refine gZ (gD (E:=ay ai) (v:=v8) (xs:=mP g)) ?_;refine go ?_;refine nM (c:=(0:Int)=0) (f:=aj (ay ai) v8 (dL g 3)) tD ?_;exact gQ ⟨v8,0⟩ ⟨λ_=>⟨hg,tf,tf⟩,λ_=>rfl⟩
  .have h5:g.shape=2:=hg.make.sh.resolve_left h4;have hd:mP g=jT g (λs=>(s.1+s.2,true)):=by unfold mP;rw[if_pos h5]
   refine gC (VY (g:=g) (vh:=vh) (vc:=vc) (f:=3) hg) λv8 _=>?_;rw[asr h5,<- hd];refine go ?_;refine gZ (gD (E:=ay ai) (v:=v8) (xs:=mP g)) ?_;refine go ?_;refine nM (c:=(0:Int)=0) (f:=aj (ay ai) v8 (dL g 3)) tD ?_;exact gQ ⟨v8,0⟩ ⟨λ_=>⟨hg,tf,tf⟩,λ_=>rfl⟩
 .have hf:dL g 4=bR g:=by simp[dL]
  refine go ?_;refine gK ai ?_;refine di (λy:Nat×ah=>g.cells.length - y.1) (λy=>[(10,iV (y.1:Int)),(9,y.2)]) (λy=>[ap ai y.2 (upTo' y.1)]) (λ_=>[]) (λy=>y.1<=g.cells.length) (0,.slice none 0 0) (bH _) (hk:=tj) (body:=?_);rintro⟨i,v9⟩ hi;dsimp only at hi⊢;have hil:=jH i;refine aC ?_ ?_<;>intro h2
  .exact tb
  have hie:i=g.cells.length:=tf
  subst hie;exact fc
 .have hf:dL g 5=mQ (bR g):=by simp[dL]
  refine go ?_;refine gK ai ?_;refine gK (ay ai) ?_;refine di (λy:Nat×ah×ah=>g.cells.length - y.1) (λy=>[(10,iV (y.1:Int)),(9,y.2.1),(8,y.2.2)]) (λy=>[ap ai y.2.1 (upTo' y.1),ap (ay ai) y.2.2 (mQ ((bR g).take y.1))]) (λ_=>[]) (λy=>y.1<=g.cells.length) (0,.slice none 0 0,.slice none 0 0) (bH _) (hk:=tj) (body:=?_);rintro⟨i,v9,v8⟩ hi;dsimp only at hi⊢;have hil:=jH i;have Ho:(mQ ((bR g).take i)).length=i:=by rw[Ue,gM];omega
  refine aC ?_ ?_<;>intro h2
  .obtain⟨ln,hln⟩:∃ln,(bR g)[i]? =some ln:=⟨(bR g)[i]'(tf),bY _⟩
   have hll:=hnm ln (aU hln);have hfs:=aaD hln;rw[amX hg hln]at hfs;refine go ?_;intro CQ;refine go ?_;refine fJ (xs:=upTo' i) ai (i:Int) () tf (next:=λad=>?_);rw[<- vI];refine go ?_;refine gK ai ?_;refine di (λy:Nat×ah=>g.cells.length - y.1) (λy=>[(12,iV (y.1:Int)),(11,y.2)]) (λy=>[ap ai y.2 (dY y.1 λb=>decide (b=(i:Int))||decide (b∈ln))]) (λ_=>[]) (λy=>y.1<=g.cells.length) (0,.slice none 0 0) (bH _) (hk:=tj) (body:=?_);rintro⟨j,v11⟩ hj;dsimp only at hj⊢;have hsl:=EB j λb=>decide (b=(i:Int))||decide (b∈ln);refine aC ?_ ?_<;>intro h3
   .have hss:=EA j λb=>decide (b=(i:Int))||decide (b∈ln);refine gH ?_ ?_<;>intro h4
    .refine gX (ay ai) (xs:=bR g) λ_ _ V5 (vl:ah) hl=>?_;cases hln.symm.trans hl;refine gC (Qn (xs:=ln) (z:=(j:Int)) tf) λ_ _=>?_;refine aC ?_ ?_<;>intro h5
     .rw[if_pos (by simp[h5])]at hss;exact cV
     .rw[if_neg (by simp only[Fs,decide_eq_true_eq,not_or];exact⟨h4,h5⟩),iE]at hss;rw[<- hss];refine go ?_;exact aO (j+1,v11) uv tM
    .rw[if_pos (by simp[h4])]at hss;exact cV
   have j5:j=g.cells.length:=tf
   subst j5;generalize(dY g.cells.length λb=>decide (b=(i:Int))||decide (b∈ln))=zs at hfs⊢;refine sZ (E:=ai) (v:=v11) (xs:=zs) λa11 e11=>?_;subst e11;refine gZ (gD (E:=ai) (v:=.slice a11 zs.length zs.length) (xs:=zs)) ?_;refine go ?_;intro b73;refine go ?_;refine fJ (xs:=mQ ((bR g).take i)) (ay ai) zs (.slice a11 zs.length zs.length) tf (next:=λvM=>?_);rw[<- hfs];refine go ?_;exact aO (i+1,.slice ad ((upTo' i).length+1) ((upTo' i).length+1),.slice vM ((mQ ((bR g).take i)).length+1) ((mQ ((bR g).take i)).length+1)) xb tI
  have hie:i=g.cells.length:=tf
  subst hie;rw[VW tf];refine go ?_;refine gZ (gD (E:=ay ai) (v:=v8) (xs:=mQ (bR g))) ?_;refine go ?_;refine nM (c:=(0:Int)=0) (f:=aj (ay ai) v8 (dL g 5)) tD ?_;exact lz
 .have hf:dL g 6=jk (bR g):=by simp[dL]
  have h6:=O4 hnm;refine go ?_;refine gK ai ?_;refine gK (ay ai) ?_;refine di (λy:Nat×ah×ah=>g.cells.length - y.1) (λy=>[(10,iV (y.1:Int)),(9,y.2.1),(8,y.2.2)]) (λy=>[ap ai y.2.1 (upTo' y.1),ap (ay ai) y.2.2 (jk ((bR g).take y.1))]) (λ_=>[]) (λy=>y.1<=g.cells.length) (0,.slice none 0 0,.slice none 0 0) (bH _) (hk:=tj) (body:=?_);rintro⟨i,v9,v8⟩ hi;dsimp only at hi⊢;have hil:=jH i;have Ho:=h6 i tf;refine aC ?_ ?_<;>intro h2
  .obtain⟨ln,hln⟩:∃ln,(bR g)[i]? =some ln:=⟨(bR g)[i]'(tf),bY _⟩
   have hll:=hnm ln (aU hln);have hfs:=Ug hln;refine go ?_;intro CQ;refine go ?_;refine fJ (xs:=upTo' i) ai (i:Int) () tf (next:=λad=>?_);rw[<- vI];refine go ?_;refine di (λy:Nat×ah=>ln.length - y.1) (λy=>[(13,iV (y.1:Int)),(8,y.2)]) (λy=>[ap (ay ai) y.2 (jk ((bR g).take i)++ko i (ln.take y.1))]) (λ_=>[]) (λy=>y.1<=ln.length) (0,v8) (bH _) (hk:=by rw[show jk ((bR g).take i)++ko i (ln.take 0)=jk ((bR g).take i)from iE _];repeat (first|exact aH.nil|(apply aH.cons;(focus (repeat (first|exact aB.here|apply aB.there)))))) (body:=?_);rintro⟨j,v5⟩ hj;dsimp only at hj⊢;have hpl:=Uf i (ln.take j);rw[gM]at hpl;have hal:(jk ((bR g).take i)++ko i (ln.take j)).length<=2000:=by rw[fV];omega
   refine gX (ay ai) (xs:=bR g) λ_ _ V5 (vl:ah) hl=>?_;cases hln.symm.trans hl;refine aC ?_ ?_<;>intro h3
   .refine gX (ay ai) (xs:=bR g) λ_ _ V5 (vl:ah) hl=>?_;cases hln.symm.trans hl;refine go ?_;intro _ _ x hx;have hps:=aaE (i:=i) hx;refine aC ?_ ?_<;>intro h4
    .have EI:jk ((bR g).take i)++ko i (ln.take (j+1))=(jk ((bR g).take i)++ko i (ln.take j))++[[(i:Int),x]]:=by rw[hps,if_pos tf,iO]
     refine gX (ay ai) (xs:=bR g) λ_ _ V5 (vl:ah) hl=>?_;cases hln.symm.trans hl;refine go ?_;intro _ _ x' hx';cases hx.symm.trans hx';refine go ?_;intro Ba b98;refine uy (A:=pt Ba (.cells [iV (i:Int),iV x])) (fs:=[aj ai (.slice (some ⟨Ba,0,some 0⟩) 2 2) [(i:Int),x]]) (zm (b:=Ba) (f:=0) (c:=2) (xs:=[(i:Int),x])) (h:=?_);refine go ?_;refine fJ (xs:=jk ((bR g).take i)++ko i (ln.take j)) (ay ai) [(i:Int),x] (.slice (some ⟨Ba,0,some 0⟩) 2 2) tf (next:=λvM=>?_);rw[<- EI];refine go ?_;exact aO (j+1,.slice vM ((jk ((bR g).take i)++ko i (ln.take j)).length+1) ((jk ((bR g).take i)++ko i (ln.take j)).length+1)) CM tM
    .have EI:jk ((bR g).take i)++ko i (ln.take (j+1))=jk ((bR g).take i)++ko i (ln.take j):=by rw[hps,if_neg tf,iE]
     exact me
   have j5:j=ln.length:=tf
   subst j5;rw[bP,<- hfs];refine go ?_;exact aO (i+1,.slice ad ((upTo' i).length+1) ((upTo' i).length+1),v5) xb tI
  have hie:i=g.cells.length:=tf
  subst hie;rw[VW tf];refine go ?_;refine gZ (gD (E:=ay ai) (v:=v8) (xs:=jk (bR g))) ?_;refine go ?_;refine nM (c:=(0:Int)=0) (f:=aj (ay ai) v8 (dL g 6)) tD ?_;exact lz
 .have hf:dL g 7=[upTo' g.cells.length]:=by simp[dL]
  refine go ?_;refine gK ai ?_;refine di (λy:Nat×ah=>g.cells.length - y.1) (λy=>[(10,iV (y.1:Int)),(9,y.2)]) (λy=>[ap ai y.2 (upTo' y.1)]) (λ_=>[]) (λy=>y.1<=g.cells.length) (0,.slice none 0 0) (bH _) (hk:=tj) (body:=?_);rintro⟨i,v9⟩ hi;dsimp only at hi⊢;have hil:=jH i;refine aC ?_ ?_<;>intro h2
  .exact tb
  have hie:i=g.cells.length:=tf
  subst hie;refine gZ (gD (E:=ai) (v:=v9) (xs:=upTo' g.cells.length)) ?_;refine gF ai v9 (upTo' g.cells.length) λa4 c4 e4=>?_;subst e4;refine go ?_;intro Qr;refine gP Qr ?_;refine fo (aj (ay ai) (EH Qr 1) [upTo' g.cells.length]) (λw hw=>Y7 (v:=.slice a4 (upTo' g.cells.length).length c4) (hw _ tg) (hw _ tg)) ?_;refine go ?_;refine nM (c:=(0:Int)=0) (f:=aj (ay ai) (EH Qr 1) (dL g 7)) tD ?_;exact gQ ⟨EH Qr 1,0⟩ ⟨λ_=>⟨hg,tf,tf⟩,λ_=>rfl⟩
