/-
  Part LibTW.
-/
import Derived.Test.YtfakljdleblkoaaGreatLibSW
import Derived.Test.YtfakljdleblkoaaGreatLibEW
set_option linter.all false
set_option maxRecDepth 10000
set_option maxHeartbeats 4000000
namespace Go.Proofs.YtfakljdleblkoaaGreat
open Go.Ideal Kd
variable{vh:Value}
theorem Oi{s w h:Int}{holes:List Int}(hw64:j5 w)(aeP:j5 h)(hl:holes.length<4611686018427387904):
 aU Tryz.prog (.func 120) [.int .i64 s,.int .i64 w,.int .i64 h,vh] [] [] [ai ae vh holes] (mkV s w h holes) (λ_=>[]) (oU s w h holes) (λy=>y.ok=true↔om s w h holes):=by
 refine aH _ (aN 120) λB w0=>?_;refine go ?_;intro b8;refine go ?_;by_cases hsh:s=1\/s=2
 rotate_left
 ·rw[eY (show s≠1 from λe=>hsh (.inl e))];refine go ?_;rw[eY (show s≠2 from λe=>hsh (.inr e))];refine go ?_;refine ah ⟨false,.nilFunc,.nilFunc⟩ (hv:=rfl) (hp:=⟨(λe=>by cases e),λe=>?_⟩)
  exfalso
  have e:=vO.2 e;obtain⟨q1,q2,q3,q4,q5,q6⟩:=e;exact hsh q1
 rcases hsh with rfl|rfl;all_goals
  refine go ?_;refine gG (λa1=>?_) (λa1=>?_)
  rotate_left
  ·exact dg
  refine go ?_;refine gG (λa2=>?_) (λa2=>?_)
  rotate_left
  ·exact dg
  refine go ?_;refine gG (λa3=>?_) (λa3=>?_)
  rotate_left
  ·exact dg
  refine go ?_;refine az rfl (λa4=>?_) (λa4=>?_)
  ·exact dg
  have hwh:=vH (w:=w) (h:=h) ⟨vj,vj⟩ ⟨vj,vj⟩;refine go ?_;refine aW (λk=>holes.length - k) (λk:Nat=>[(10,.int .i64 (k:Int))]) (λ_=>[]) (λ_=>[]) (λk=>k<=holes.length/\(holes.take k).Pairwise (·<·)/\∀x∈holes.take k,0<=x/\x<w*h) 0 ⟨bQ _,vm,vm⟩ (body:=?_);rintro k ⟨hk,lM,hmem⟩;refine go ?_;refine az rfl (λa6=>?_) (λa6=>?_)
  ·refine go ?_;intro _ _ x hx;have hxm:=aP hx;have htk:holes.take (k+1)=holes.take k++[x]:=by rw[nE,hx];rfl
   have hstep:0<=x->x<w*h->(∀a∈holes.take k,a<x)->k+1<=holes.length/\(holes.take (k+1)).Pairwise (·<·)/\∀z∈holes.take (k+1),0<=z/\z<w*h:=λq1 q2 q3=>by
    refine⟨vj,?_,?_⟩
    ·rw[htk,JY];exact⟨lM,vm,λa ha b hb=>by rw[bK.1 hb];exact q3 a ha⟩
    ·rw[htk];intro z hz;rcases dW.1 hz with hz|hz
     ·exact hmem z hz
     ·rw[bK.1 hz];exact⟨q1,q2⟩
   refine go ?_;refine gG (λb1=>?_) (λb1=>?_)
   rotate_left
   ·exact j8
   refine go ?_;intro _ _ x' hx';cases hx.symm.trans hx';refine go ?_;refine gG (λb2=>?_) (λb2=>?_)
   rotate_left
   ·exact j8
   refine go ?_;refine gG (λb3=>?_) (λb3=>?_)
   ·refine go ?_;refine aM (k+1) vj (hstep vj vj λa ha=>?_);rw[show k=0 by omega,List.take_zero]at ha;cases ha
   refine go ?_;intro _ _ x' hx' _ _ z hz;cases hx.symm.trans hx';obtain⟨j,rfl⟩:∃j,k=j+1:=⟨k - 1,vj⟩
   rw[show(((j+1:Nat):Int) - 1).toNat=j by omega]at hz;have hzj:holes.take (j+1)=holes.take j++[z]:=by rw[nE,hz];rfl
   refine go ?_;refine az rfl (λb4=>?_) (λb4=>?_)
   ·refine go ?_;refine ah ⟨false,.nilFunc,.nilFunc⟩ (hv:=rfl) (hp:=⟨(λe=>by cases e),λe=>?_⟩)
    exfalso
    have e:=vO.2 e;obtain⟨q1,q2,q3,q4,q5,q6⟩:=e;obtain⟨d1,d2⟩:=bC.1 hz;obtain⟨d3,d4⟩:=bC.1 hx;have:=zm.1 q4 j (j+1) d1 d3 vj;rw[d2,d4]at this;omega
   refine go ?_;refine aM (j+1+1) vj (hstep vj vj λa ha=>?_);have:=UN lM ha;rw[hzj,UM]at this;omega
  have hkl:k=holes.length:=vj
  subst hkl;rw[bJ]at lM hmem;clear a6 hk;obtain⟨m,hm⟩:=iO (show 0<=w*h by omega);have EU:l5 w h holes=gp m holes:=by
   unfold l5;rw[hm];rfl
  have hmm:∀x∈holes,0<=x/\x<(m:Int):=λx hx=>by rw[<- hm];exact hmem x hx
  refine go ?_;intro b11;refine go ?_;refine gH ae ?_;refine gH ae ?_;refine aW (λy:Nat×Value×Value=>m - y.1) (λy=>[(12,.int .i64 (y.1:Int))]) (λy=>[pt b11 (.cells [.int .i64 _,.int .i64 w,.int .i64 h,y.2.1,y.2.2]),ap ae y.2.1 (dM y.1 λi=>decide (i∈holes)),ap ae y.2.2 (gp y.1 holes)]) (λ_=>[]) (λy=>y.1<=m) (0,.slice none 0 0,.slice none 0 0) (bQ _) (hk:=we) (body:=?_);rintro⟨k,v1,v2⟩ hk;dsimp only at hk⊢;have hcl:=Cg k holes;have hsl:=Aj k λi=>decide (i∈holes);refine go ?_;rw[hm];refine go ?_;refine az rfl (λa9=>?_) (λa9=>?_)
  ·refine go ?_;refine ax (JB (xs:=holes) (z:=(k:Int)) vj) (next:=λ_ _=>?_);refine go ?_;refine az rfl (λhin=>?_) (λhin=>?_)
   ·have e1:gp (k+1) holes=gp k holes:=by rw[Iy,if_pos hin,iI]
    have e2:dM (k+1) (λi=>decide (i∈holes))=dM k (λi=>decide (i∈holes))++[(k:Int)]:=by rw[Ai,if_pos (eY hin)]
    refine go ?_;intro b91;refine go ?_;refine fw ae (xs:=dM k λi=>decide (i∈holes)) (k:Int) () vj λad=>?_;rw[<- e1,<- e2];refine go ?_;exact aM (k+1,.slice ad ((dM k λi=>decide (i∈holes)).length+1) ((dM k λi=>decide (i∈holes)).length+1),v2) BT BW
   ·have e1:gp (k+1) holes=gp k holes++[(k:Int)]:=by rw[Iy,if_neg hin]
    have e2:dM (k+1) (λi=>decide (i∈holes))=dM k (λi=>decide (i∈holes)):=by rw[Ai,if_neg (by simp[hin]),iI]
    refine go ?_;intro b91;refine go ?_;refine fw ae (xs:=gp k holes) (k:Int) () vj λad=>?_;rw[<- e1,<- e2];refine go ?_;exact aM (k+1,v1,.slice ad ((gp k holes).length+1) ((gp k holes).length+1)) BT BW
  have hkm:k=m:=vj
  subst hkm;rw[TP lM hmm];refine pV (E:=ae) (v:=v2) (xs:=gp k holes) λa2 hv2=>?_;subst hv2;refine go ?_;refine az rfl (λa7=>?_) (λa7=>?_)
  ·refine go ?_;refine ah ⟨false,.nilFunc,.nilFunc⟩ (hv:=rfl) (hp:=⟨(λe=>by cases e),λe=>?_⟩)
   exfalso
   have e:=vO.2 e;obtain⟨q1,q2,q3,q4,q5,q6⟩:=e;rw[EU]at q6;exact q6 (jw.1 vj)
  refine go ?_;refine bi (fQ (E:=ae) (v:=v1) (xs:=holes)) (h:=?_);refine bi (fQ (E:=ae) (v:=.slice a2 (gp k holes).length (gp k holes).length) (xs:=gp k holes)) (h:=?_);refine go ?_;refine ah ⟨true,v1,.slice a2 (gp k holes).length (gp k holes).length⟩ (hv:=rfl) (hp:=⟨λ_=>vO.1 ⟨by first|exact .inl rfl|exact .inr rfl,⟨vj,vj⟩,⟨vj,vj⟩,lM,hmem,by rw[EU];exact λe=>a7 (by rw[e];rfl)⟩,λ_=>rfl⟩) (hF:=?_);show Sub [ai ae _ holes,ai ae _ (l5 w h holes)] _;rw[EU];exact .cons vm (.cons vm .nil)
variable{g:bz}{vc:Value}
theorem VN(hS:qC g):
 aU Tryz.prog (.func 167) [.agg ⟨iH g vh vc⟩] [] [] (jk g vh vc) (λe:Int=>.int .i64 e) (λ_=>[]) (λ_=>[]) (λe=>e=0↔eD g):=by
 refine aH _ (aN 167) λB w0=>?_;refine go ?_;intro b1;refine go ?_;refine ax (Oi (s:=g.shape) (w:=g.w) (h:=g.h) (holes:=g.holes) (vh:=vh) hS.w hS.h hS.holes) (next:=λy hy=>?_);obtain⟨ok,v1,v2⟩:=y;cases ok with
 |false=>
  exact gA
 |true=>
  have hmk:=hy.1 rfl;dsimp only[mkV,oU,cond,jk,vX,List.cons_append,List.nil_append];refine go ?_;intro b3;refine go ?_;refine ax (CG (xs:=l5 g.w g.h g.holes) (ys:=g.cells) (by
   exact tg)) (next:=λ_ _=>?_)
  exact gx
theorem Oj{α:Type}{xs:List α}{k:Nat}(h:xs.length<=k):xs.take k=xs:=tV h
abbrev rR(g:bz)(a:Nat):Int->Bool:=λb=>xy g.shape (gW g (a:Int)) (gW g b)
theorem VO(hS:qC g):
 aU Tryz.prog (.func 121) [.agg ⟨iH g vh vc⟩] [] [] (jk g vh vc) vY (λ_=>[]) (λy=>[mQ (y.e=0) (ai (ak ae) y.v (bI g))]) (λy=>y.e=0↔eD g):=by
 refine aH _ (aN 121) λB w0=>?_;refine go ?_;intro b1;refine bi (dR (b:=b1)) (h:=?_);refine go ?_;refine ax (VN (g:=g) (vh:=vh) (vc:=vc) hS) (next:=λe he=>?_);refine go ?_;refine az rfl (λh1=>?_) (λh1=>?_)
 ·refine go ?_;refine mg (c:=(130:Int)=0) (f:=ai (ak ae) (.slice none 0 0) (bI g)) vj ?_;exact ah ⟨.slice none 0 0,130⟩ (hv:=rfl) (hp:=⟨(λh=>by cases h),λh=>absurd (he.2 h) h1⟩)
 have hg:=he.1 (gT.1 h1);clear he h1;have hgl:=hg.len;have hnl:=uC g;refine go ?_;refine gH (ak ae) ?_;refine aW (λy:Nat×Value=>g.cells.length - y.1) (λy=>[(5,.int .i64 (y.1:Int)),(4,y.2)]) (λy=>[ap (ak ae) y.2 ((bI g).take y.1)]) (λ_=>[]) (λy=>y.1<=g.cells.length) (0,.slice none 0 0) (bQ _) (hk:=we) (body:=?_);rintro⟨i,v4⟩ hi;dsimp only at hi⊢;have hil:((bI g).take i).length=i:=by rw[ig];omega
 refine go ?_;refine az rfl (λh2=>?_) (λh2=>?_)
 ·have hn:=TQ hg (show i<g.cells.length by omega);refine go ?_;refine gH ae ?_;refine aW (λy:Nat×Value=>g.cells.length - y.1) (λy=>[(7,.int .i64 (y.1:Int)),(6,y.2)]) (λy=>[ap ae y.2 (dM y.1 (rR g i))]) (λ_=>[]) (λy=>y.1<=g.cells.length) (0,.slice none 0 0) (bQ _) (hk:=we) (body:=?_);rintro⟨j,v6⟩ hj;dsimp only at hj⊢;have hsl:=Aj j (rR g i);refine go ?_;refine az rfl (λh3=>?_) (λh3=>?_)
  ·refine go ?_;refine ax (agU (g:=g) (vh:=vh) (vc:=vc) (a:=i) (b:=j) hg vj vj) (next:=λ_ _=>?_);have hss:=Ai j (rR g i);refine go ?_;refine jh rfl (λh4=>?_) (λh4=>?_)
   ·rw[if_pos h4]at hss;refine go ?_;intro Ol;refine go ?_;refine fw ae (xs:=dM j (rR g i)) (j:Int) () vj λad=>?_;rw[<- hss];refine go ?_;exact aM (j+1,.slice ad ((dM j (rR g i)).length+1) ((dM j (rR g i)).length+1)) yy xj
   ·rw[if_neg (by show¬xy g.shape (gW g (i:Int)) (gW g (j:Int))=true;rw[h4];simp),iI]at hss;rw[<- hss];refine go ?_;exact aM (j+1,v6) yy xj
  have gV:j=g.cells.length:=vj
  subst gV;refine pV (E:=ae) (v:=v6) (xs:=dM g.cells.length (rR g i)) λa6 e6=>?_;subst e6;refine bi (fQ (E:=ae) (v:=.slice a6 (dM g.cells.length (rR g i)).length (dM g.cells.length (rR g i)).length) (xs:=dM g.cells.length (rR g i))) (h:=?_);refine go ?_;intro b35;refine go ?_;refine fw (xs:=(bI g).take i) (ak ae) (dM g.cells.length (rR g i)) (.slice a6 (dM g.cells.length (rR g i)).length (dM g.cells.length (rR g i)).length) vj (next:=λad=>?_);rw[<- bU hn];refine go ?_;exact aM (i+1,.slice ad (((bI g).take i).length+1) (((bI g).take i).length+1)) AI xf
 have hie:i=g.cells.length:=vj
 subst hie;rw[Oj vj];refine bi (fQ (E:=ak ae) (v:=v4) (xs:=bI g)) (h:=?_);refine go ?_;refine lu (c:=(0:Int)=0) (f:=ai (ak ae) v4 (bI g)) vm ?_;exact ah ⟨v4,0⟩ (hv:=rfl) (hp:=⟨λ_=>hg,λ_=>rfl⟩)
theorem agY(hg:eD g){k:Nat}(hk:k<g.cells.length):(-8<(gW g (k:Int)).1/\(gW g (k:Int)).1<16)/\0<=(gW g (k:Int)).2/\(gW g (k:Int)).2<16:=by
 obtain⟨hc,hr⟩:=zb hg hk;have hv:=JD hr;rcases hg.make.sh with hs|hs
 ·rw[CK hk hs];dsimp only;omega
 ·rw[Fp hk hs];dsimp only;omega
theorem agZ(hg:eD g){k:Nat}(hk:k<g.cells.length)(f:Int): -16<=nQ g.shape f (gW g (k:Int))/\nQ g.shape f (gW g (k:Int))<=32:=by
 obtain⟨h1,h2⟩:=agY hg hk;unfold nQ;split
 ·omega
 split
 ·omega
 split<;>omega
abbrev tJ(g:bz)(f n:Int):Int->Bool:=λb=>decide (nQ g.shape f (gW g b)=n)
abbrev xL(g:bz)(f:Int)(k:Nat):List (List Int):=yQ (λn=>dM g.cells.length (tJ g f n)) (-16) k
theorem ag0(hg:eD g)(f:Int):xL g f 49=iL g λs=>(nQ g.shape f s,true):=by
 rw[TU (lo:= -16) (k:=49) (λs=>(nQ g.shape f s,true)) (λp hp _=>by
  obtain⟨h1,h2⟩:=EN.1 hp;have h3:=agZ hg (k:=p.1.toNat) vj f;rw[show((p.1.toNat:Nat):Int)=p.1 by omega,<- h2]at h3;dsimp only;omega)]
 unfold xL;congr 1;funext n
 rw[TS];rfl
theorem ag1(L:Int->List Int)(lo:Int)(k:Nat):(yQ L lo k).length<=k:=by
 unfold yQ;refine oW (OX _ _) ?_;rw[cz];unfold eH;simp
theorem Om{f:Int}(hg:eD g):
 aU Tryz.prog (.func 169) [.agg ⟨iH g vh vc⟩,.int .i64 f] [] [] (jk g vh vc) (λv:Value=>v) (λv=>[ap (ak ae) v (iL g λs=>(nQ g.shape f s,true))]) (λ_=>[]) (λ_=>True):=by
 have hgl:=hg.len;refine aH _ (aN 169) λB w0=>?_;refine go ?_;intro b1;refine bi (dR (b:=b1)) (h:=?_);refine go ?_;refine gH (ak ae) ?_;refine aW (λy:Nat×Value=>49 - y.1) (λy=>[(6,.int .i64 (-16+(y.1:Int))),(5,y.2)]) (λy=>[ap (ak ae) y.2 (xL g f y.1)]) (λ_=>[]) (λy=>y.1<=49) (0,.slice none 0 0) vj (hk:=we) (body:=?_);rintro⟨i,v5⟩ hi;dsimp only at hi⊢;have hil:(xL g f i).length<=i:=ag1 (λn=>dM g.cells.length (tJ g f n)) (-16) i;have hls:xL g f (i+1)=xL g f i++if dM g.cells.length (tJ g f (-16+(i:Int)))=[]then[]else[dM g.cells.length (tJ g f (-16+(i:Int)))]:=TT (λn=>dM g.cells.length (tJ g f n)) (-16) i
 have hin: -16+(i:Int)+1= -16+((i+1:Nat):Int):=vj
 refine go ?_;refine az rfl (λh2=>?_) (λh2=>?_)
 ·refine go ?_;refine gH ae ?_;refine aW (λy:Nat×Value=>g.cells.length - y.1) (λy=>[(8,.int .i64 (y.1:Int)),(7,y.2)]) (λy=>[ap ae y.2 (dM y.1 (tJ g f (-16+(i:Int))))]) (λ_=>[]) (λy=>y.1<=g.cells.length) (0,.slice none 0 0) (bQ _) (hk:=we) (body:=?_);rintro⟨j,v7⟩ hj;dsimp only at hj⊢;have hsl:=Aj j (tJ g f (-16+(i:Int)));refine go ?_;refine az rfl (λh3=>?_) (λh3=>?_)
  ·refine go ?_;refine ax (agV (g:=g) (vh:=vh) (vc:=vc) (f:=f) (a:=j) hg vj) (next:=λ_ _=>?_);have hss:=Ai j (tJ g f (-16+(i:Int)));refine go ?_;refine az rfl (λh4=>?_) (λh4=>?_)
   ·rw[if_pos (eY h4)]at hss;refine go ?_;intro Ol;refine go ?_;refine fw ae (xs:=dM j (tJ g f (-16+(i:Int)))) (j:Int) () vj λad=>?_;rw[<- hss];refine go ?_;exact aM (j+1,.slice ad ((dM j (tJ g f (-16+(i:Int)))).length+1) ((dM j (tJ g f (-16+(i:Int)))).length+1)) yy xj
   ·rw[if_neg (by show¬decide (nQ g.shape f (gW g (j:Int))= -16+(i:Int))=true;rw[aS h4];simp),iI]at hss;rw[<- hss];refine go ?_;exact aM (j+1,v7) yy xj
  have gV:j=g.cells.length:=vj
  subst gV;generalize hL:dM g.cells.length (tJ g f (-16+(i:Int)))=L at hls hsl⊢;refine pV (E:=ae) (v:=v7) (xs:=L) λa7 e7=>?_;subst e7;refine go ?_;refine az rfl (λh5=>?_) (λh5=>?_)
  ·rw[if_neg (λe=>by rw[e]at h5;simp at h5)]at hls;refine bi (fQ (E:=ae) (v:=.slice a7 L.length L.length) (xs:=L)) (h:=?_);refine go ?_;intro b35;refine go ?_;refine fw (xs:=xL g f i) (ak ae) L (.slice a7 L.length L.length) vj (next:=λad=>?_);rw[<- hls];refine go ?_;rw[hin];exact aM (i+1,.slice ad ((xL g f i).length+1) ((xL g f i).length+1)) (by show 49 - (i+1)<49 - i;omega) xf
  ·rw[if_pos (jw.1 vj),iI]at hls;rw[<- hls];refine go ?_;rw[hin];exact aM (i+1,v5) (by show 49 - (i+1)<49 - i;omega) xf
 have hie:i=49:=vj
 subst hie;rw[ag0 hg f];refine go ?_;exact ah v5 (hv:=rfl) (hp:=trivial)
abbrev mR(g:bz)(k:Nat):Int->Bool:=λb=>cond (Nat.beq k 0) (decide ((gW g b).1=(gW g b).2)) (decide ((gW g b).1+(gW g b).2=g.w - 1))
def rT(g:bz)(k:Nat):List Int:=dM g.cells.length (mR g k)
def qE(l:List Int):List (List Int):=if l=[]then[]else[l]
theorem ag2(hs:g.shape=1)(hw:g.w=g.h):kK g=jJ (qE (rT g 0)) (qE (rT g 1)):=by
 unfold kK;rw[if_neg vj,if_pos hw,IX (λs=>decide (s.1=s.2)),IX (λs=>decide (s.1+s.2=g.w - 1))];rfl
def mq(g:bz)(k:Nat):List (List Int):=if k=0 then[]else if k=1 then qE (rT g 0)else jJ (qE (rT g 0)) (qE (rT g 1))
theorem ag3(l:List Int):jJ [] (qE l)=qE l:=by
 unfold qE;split
 ·rfl
 ·show sZ [] l=[l]
  unfold sZ;rw[if_neg vm];rfl
theorem ag4(g:bz){k:Nat}(hk:k<2):mq g (k+1)=jJ (mq g k) (qE (rT g k)):=by
 rcases(show k=0\/k=1 by omega)with rfl|rfl
 ·exact(ag3 _).symm
 ·rfl
theorem VP(O:List (List Int)){l:List Int}(hl:l≠[]):jJ O (qE l)=if O.head? =some l then O else O++[l]:=by
 unfold qE;rw[if_neg hl];rfl
theorem ag5(hg:eD g)(hs:g.shape=1):
 aU Tryz.prog (.func 170) [.agg ⟨iH g vh vc⟩] [] [] (jk g vh vc) (λv:Value=>v) (λv=>[ap (ak ae) v (kK g)]) (λ_=>[]) (λ_=>True):=by
 have hgl:=hg.len;have lq:=hg.make.wi;refine aH _ (aN 170) λB w0=>?_;refine go ?_;intro b1;refine bi (dR (b:=b1)) (h:=?_);refine go ?_;refine gH (ak ae) ?_;refine aW (λy:Nat×Value=>2 - y.1) (λy=>[(4,.int .i64 (y.1:Int)),(3,y.2)]) (λy=>[ap (ak ae) y.2 (mq g y.1)]) (λ_=>[]) (λy=>y.1<=2/\(y.1=0\/g.w=g.h)) (0,.slice none 0 0) ⟨vj,.inl rfl⟩ (hk:=we) (body:=?_);rintro⟨k,v3⟩ ⟨hk,Oo⟩;dsimp only at hk Oo⊢;have JE:∀l∈mq g k,l.length<=256:=λl hl=>by
  have h1:∀n,(rT g n).length<=256:=λn=>by have:=Aj g.cells.length (mR g n);unfold rT;omega
  have h2:∀n,∀l∈qE (rT g n),l.length<=256:=λn l hl=>by
   unfold qE at hl;split at hl
   ·cases hl
   ·rw[bK.1 hl];exact h1 n
  unfold mq at hl;split at hl
  ·cases hl
  split at hl
  ·exact h2 0 l hl
  ·rcases MZ hl with hl|hl
   ·exact h2 0 l hl
   ·exact h2 1 l hl
 have hol:(mq g k).length<=2:=by
  unfold mq jJ qE;split
  ·simp
  split
  ·split<;>simp
  ·split<;>split<;>simp[sZ]<;>split<;>simp
 refine go ?_;refine gG (λhk2=>?_) (λhk2=>?_)
 ·have e:k=2:=by omega
  subst e;have hw:g.w=g.h:=Oo.resolve_left vj;rw[show mq g 2=kK g from(ag2 hs hw).symm];refine go ?_;exact ah v3 (hv:=rfl) (hp:=trivial)
 refine go ?_;refine az rfl (λhw=>?_) (λhw=>?_)
 rotate_left
 ·have e:k=0:=Oo.resolve_right hw;subst e;have e:kK g=mq g 0:=by unfold kK;rw[if_neg vj,if_neg hw];rfl
  rw[e];refine go ?_;exact ah v3 (hv:=rfl) (hp:=trivial)
 have hds:=ag4 g (show k<2 by omega);rcases(show k=0\/k=1 by omega)with rfl|rfl
 ·refine go ?_;refine gH ae ?_;refine aW (λy:Nat×Value=>g.cells.length - y.1) (λy=>[(6,.int .i64 (y.1:Int)),(5,y.2)]) (λy=>[ap ae y.2 (dM y.1 (mR g 0))]) (λ_=>[]) (λy=>y.1<=g.cells.length) (0,.slice none 0 0) (bQ _) (hk:=we) (body:=?_);rintro⟨j,v5⟩ hj;dsimp only at hj⊢;have hsl:=Aj j (mR g 0);refine go ?_;refine az rfl (λh3=>?_) (λh3=>?_)
  ·have xM:=CK (k:=j) vj hs;obtain⟨hc,hr⟩:=zb hg (k:=j) vj;have hss:=Ai j (mR g 0);refine go ?_;refine ax (CJ (g:=g) (vh:=vh) (vc:=vc) (k:=j) hg vj) (next:=λ_ _=>?_);refine go ?_;refine ax (AO (g:=g) (vh:=vh) (vc:=vc) (k:=j) hg vj) (next:=λ_ _=>?_);generalize(g.cells[j]).tmod g.w=x at hc xM⊢;generalize(g.cells[j]).tdiv g.w=y at hr xM⊢;refine go ?_;refine gG (λh4=>?_) (λh4=>?_)
   rotate_left
   ·have hp:mR g 0 (j:Int)=true:=by show decide _=true;rw[xM];exact eY Bx
    rw[if_pos hp]at hss;refine go ?_;intro Ol;refine go ?_;refine fw ae (xs:=dM j (mR g 0)) (j:Int) () vj λad=>?_;rw[<- hss];refine go ?_;exact aM (j+1,.slice ad ((dM j (mR g 0)).length+1) ((dM j (mR g 0)).length+1)) yy xj
   ·have hp:¬mR g 0 (j:Int)=true:=by show¬decide _=true;rw[xM];intro h;have:=gQ h;dsimp only at this;omega
    exact mB
  have gV:j=g.cells.length:=vj
  subst gV;have hL:dM g.cells.length (mR g 0)=rT g 0:=rfl;rw[hL]at hsl⊢;generalize rT g 0=L at hsl hds⊢;refine pV (E:=ae) (v:=v5) (xs:=L) λa5 e5=>?_;subst e5;refine bi (fQ (E:=ae) (v:=.slice a5 L.length L.length) (xs:=L)) (h:=?_);generalize mq g 0=O at hds hol JE⊢;refine pV (E:=ak ae) (v:=v3) (xs:=O) λa3 e3=>?_;subst e3;refine go ?_;refine gG (λh5=>?_) (λh5=>?_)
  ·have e0:L=[]:=jw.1 vj;have e1:mq g (0+1)=O:=by rw[hds,e0];rfl
   rw[<- e1];exact mL
  rw[VP O (λe=>by rw[e]at h5;simp at h5)]at hds;refine go ?_;refine gG (λh6=>?_) (λh6=>?_)
  ·obtain⟨o,O2,rfl⟩:∃o O2,O=o::O2:=by
    cases O with
    |nil=>simp at h6
    |cons o O2=>exact⟨o,O2,rfl⟩
   refine go ?_;refine Io ae (v:=.slice a3 (o::O2).length (o::O2).length) (xss:=o::O2) 0 o rfl (next:=λ_ _ u=>?_);refine go ?_;have ho:=JE o (cZ ..);rw[List.head?_cons]at hds;refine ax (CG (xs:=o) (ys:=L) vj) (next:=λ_ _=>?_);refine go ?_;refine eO rfl (λh7=>?_) (λh7=>?_)
   ·rw[if_neg (λe=>h7 (Option.some.inj e))]at hds;refine go ?_;intro Oq;refine go ?_;refine fw (xs:=o::O2) (ak ae) L (.slice a5 L.length L.length) vj (next:=λrJ=>?_);rw[<- hds];refine go ?_;exact aM (0+1,.slice rJ ((o::O2).length+1) ((o::O2).length+1)) (by show 2 - (0+1)<2 - 0;omega) ⟨by show 0+1<=2;omega,.inr hw⟩
   ·rw[if_pos (congrArg some h7)]at hds;rw[<- hds];exact mL
  have e0:O=[]:=jw.1 vj;subst e0;rw[if_neg vm]at hds;refine go ?_;intro Oq;refine go ?_;refine fw (xs:=([]:List (List Int))) (ak ae) L (.slice a5 L.length L.length) vm (next:=λad=>?_);rw[<- hds];refine go ?_;exact aM (0+1,.slice ad (([]:List (List Int)).length+1) (([]:List (List Int)).length+1)) (by show 2 - (0+1)<2 - 0;omega) ⟨by show 0+1<=2;omega,.inr hw⟩
 ·refine go ?_;refine gH ae ?_;refine aW (λy:Nat×Value=>g.cells.length - y.1) (λy=>[(6,.int .i64 (y.1:Int)),(5,y.2)]) (λy=>[ap ae y.2 (dM y.1 (mR g 1))]) (λ_=>[]) (λy=>y.1<=g.cells.length) (0,.slice none 0 0) (bQ _) (hk:=we) (body:=?_);rintro⟨j,v5⟩ hj;dsimp only at hj⊢;have hsl:=Aj j (mR g 1);refine go ?_;refine az rfl (λh3=>?_) (λh3=>?_)
  ·have xM:=CK (k:=j) vj hs;obtain⟨hc,hr⟩:=zb hg (k:=j) vj;have hss:=Ai j (mR g 1);refine go ?_;refine ax (CJ (g:=g) (vh:=vh) (vc:=vc) (k:=j) hg vj) (next:=λ_ _=>?_);refine go ?_;refine ax (AO (g:=g) (vh:=vh) (vc:=vc) (k:=j) hg vj) (next:=λ_ _=>?_);generalize(g.cells[j]).tmod g.w=x at hc xM⊢;generalize(g.cells[j]).tdiv g.w=y at hr xM⊢;refine go ?_;refine az rfl (λh4=>?_) (λh4=>?_)
   ·have hp:mR g 1 (j:Int)=true:=by show decide _=true;rw[xM];exact eY Bx
    rw[if_pos hp]at hss;refine go ?_;intro Ol;refine go ?_;refine fw ae (xs:=dM j (mR g 1)) (j:Int) () vj λad=>?_;rw[<- hss];refine go ?_;exact aM (j+1,.slice ad ((dM j (mR g 1)).length+1) ((dM j (mR g 1)).length+1)) yy xj
   ·have hp:¬mR g 1 (j:Int)=true:=by show¬decide _=true;rw[xM];intro h;have:=gQ h;dsimp only at this;omega
    exact mB
  have gV:j=g.cells.length:=vj
  subst gV;have hL:dM g.cells.length (mR g 1)=rT g 1:=rfl;rw[hL]at hsl⊢;generalize rT g 1=L at hsl hds⊢;refine pV (E:=ae) (v:=v5) (xs:=L) λa5 e5=>?_;subst e5;refine bi (fQ (E:=ae) (v:=.slice a5 L.length L.length) (xs:=L)) (h:=?_);generalize mq g 1=O at hds hol JE⊢;refine pV (E:=ak ae) (v:=v3) (xs:=O) λa3 e3=>?_;subst e3;refine go ?_;refine gG (λh5=>?_) (λh5=>?_)
  ·have e0:L=[]:=jw.1 vj;have e1:mq g (1+1)=O:=by rw[hds,e0];rfl
   rw[<- e1];exact mC
  rw[VP O (λe=>by rw[e]at h5;simp at h5)]at hds;refine go ?_;refine gG (λh6=>?_) (λh6=>?_)
  ·obtain⟨o,O2,rfl⟩:∃o O2,O=o::O2:=by
    cases O with
    |nil=>simp at h6
    |cons o O2=>exact⟨o,O2,rfl⟩
   refine go ?_;refine Io ae (v:=.slice a3 (o::O2).length (o::O2).length) (xss:=o::O2) 0 o rfl (next:=λ_ _ u=>?_);refine go ?_;have ho:=JE o (cZ ..);rw[List.head?_cons]at hds;refine ax (CG (xs:=o) (ys:=L) vj) (next:=λ_ _=>?_);refine go ?_;refine eO rfl (λh7=>?_) (λh7=>?_)
   ·rw[if_neg (λe=>h7 (Option.some.inj e))]at hds;refine go ?_;intro Oq;refine go ?_;refine fw (xs:=o::O2) (ak ae) L (.slice a5 L.length L.length) vj (next:=λrJ=>?_);rw[<- hds];refine go ?_;exact aM (1+1,.slice rJ ((o::O2).length+1) ((o::O2).length+1)) (by show 2 - (1+1)<2 - 1;omega) ⟨by show 1+1<=2;omega,.inr hw⟩
   ·rw[if_pos (congrArg some h7)]at hds;rw[<- hds];exact mC
  have e0:O=[]:=jw.1 vj;subst e0;rw[if_neg vm]at hds;refine go ?_;intro Oq;refine go ?_;refine fw (xs:=([]:List (List Int))) (ak ae) L (.slice a5 L.length L.length) vm (next:=λad=>?_);rw[<- hds];refine go ?_;exact aM (1+1,.slice ad (([]:List (List Int)).length+1) (([]:List (List Int)).length+1)) (by show 2 - (1+1)<2 - 1;omega) ⟨by show 1+1<=2;omega,.inr hw⟩
theorem ag6{p:Int}(hg:eD g):aU Tryz.prog (.func 171) [.agg ⟨iH g vh vc⟩,.int .i64 p] [] [] (jk g vh vc) (λy:Nat×Bool=>.tuple ⟨[.int .i64 (y.1:Int),.bool y.2]⟩) (λ_=>[]) (λ_=>[]) (λy=>(y.2=true↔p∈g.cells)/\(y.2=true->vM p g.cells=y.1)):=by
 have hgl:=hg.len;have lM:g.cells.Pairwise (·<·):=Bs
 refine aH _ (aN 171) λB w0=>?_;refine go ?_;intro b1;refine bi (dR (b:=b1)) (h:=?_);refine go ?_;refine aW (λk=>g.cells.length - k) (λk:Nat=>[(6,.int .i64 (k:Int))]) (λ_=>[]) (λ_=>[]) (λk=>k<=g.cells.length/\p∉g.cells.take k) 0 ⟨vj,vm⟩ (body:=?_);rintro k ⟨hk,hno⟩;refine go ?_;refine az rfl (λh1=>?_) (λh1=>?_)
 ·refine go ?_;intro _ _ x hx;refine go ?_;refine az rfl (λh2=>?_) (λh2=>?_)
  ·refine go ?_;subst h2;exact ah (k,true) (hv:=rfl) (hp:=⟨⟨λ_=>aP hx,λ_=>rfl⟩,λ_=>II lM hx⟩)
  ·exact eC
 have:k=g.cells.length:=vj
 subst this;rw[bJ]at hno;exact gE
theorem VQ{vr:Value}{rs:List (List Int)}(hS:qC g)(hrl:rs.length<9223372036854775808)(hrs:∀ps∈rs,ps.length<9223372036854775808):
 aU Tryz.prog (.func 123) [.agg ⟨iH g vh vc⟩,vr] [] [] (ai (ak ae) vr rs::jk g vh vc) vY (λ_=>[]) (λy=>Jl g rs y) (λy=>y.e=0↔eD g/\vN g rs):=by
 refine aH _ (aN 123) λB w0=>?_;refine aT (E:=ak ae) (v:=vr) (xs:=rs) vm λar cr er=>?_;subst er;refine go ?_;intro b2;refine bi (dR (b:=b2)) (h:=?_);refine go ?_;refine ax (VN (g:=g) hS) (next:=λe he=>?_);refine go ?_;refine gG (λh1=>?_) (λh1=>?_)
 rotate_left
 ·exact iu
 have hg:=he.1 vj;have hgl:=hg.len;refine go ?_;refine az rfl (λh2=>?_) (λh2=>?_)
 ·exact ia
 refine go ?_;refine gH (ak ae) ?_;refine aW (λy:Nat×Value=>rs.length - y.1) (λy=>[(7,.int .i64 (y.1:Int)),(6,y.2)]) (λy=>[ap (ak ae) y.2 (dU g (rs.take y.1))]) (λ_=>[]) (λy=>y.1<=rs.length/\∀ps∈rs.take y.1,yP g ps) (0,.slice none 0 0) ⟨bQ _,λps h=>by cases h⟩ (hk:=we) (body:=?_);rintro⟨k,v6⟩ ⟨hk,hall⟩;dsimp only at hk hall⊢;have hkl:(dU g (rs.take k)).length=k:=by unfold dU;rw[cz,ig];omega
 refine go ?_;refine az rfl (λh3=>?_) (λh3=>?_)
 ·obtain⟨ps,hps⟩:∃ps,rs[k]? =some ps:=⟨rs[k]'(vj),bW _⟩
  have hpm:=aP hps;have hpl:=hrs ps hpm;have htk:=bU hps;refine go ?_;refine gH ae ?_;refine aW (λy:Nat×Value=>ps.length - y.1) (λy=>[(9,.int .i64 (y.1:Int)),(8,y.2)]) (λy=>[ap ae y.2 (eT g (ps.take y.1))]) (λ_=>[]) (λy=>y.1<=ps.length/\(∀p∈ps.take y.1,p∈g.cells)/\(eT g (ps.take y.1)).Nodup) (0,.slice none 0 0) ⟨bQ _,(λp h=>by cases h),wy⟩ (hk:=we) (body:=?_);rintro⟨j,v8⟩ ⟨hj,hmem,hnd⟩;dsimp only at hj hmem hnd⊢;have hjl:(eT g (ps.take j)).length=j:=by unfold eT;rw[cz,ig];omega
  have hj2:j<=256:=by have:=IJ hmem hnd;rw[ig]at this;omega
  refine go ?_;refine bq (ak ae) (xs:=rs) (next:=λ_ _ ps' (vp:Value) Ot=>?_);cases hps.symm.trans Ot;refine go ?_;refine az rfl (λh4=>?_) (λh4=>?_)
  ·refine go ?_;refine bq (ak ae) (xs:=rs) (next:=λ_ _ ps' (vp:Value) Ot=>?_);cases hps.symm.trans Ot;refine go ?_;intro _ _ x hx;have htx:=bU hx;refine go ?_;refine ax (ag6 (g:=g) (vh:=vh) (vc:=vc) (p:=x) hg) (next:=λy hy=>?_);obtain⟨c,ok⟩:=y;obtain⟨hy1,hy2⟩:=hy;dsimp only at hy1 hy2⊢;cases ok with
   |false=>
    refine go ?_;refine mg (c:=(130:Int)=0) (f:=ai (ak ae) (.slice none 0 0) (dU g rs)) vj ?_;exact ah ⟨.slice none 0 0,130⟩ (hv:=rfl) (hp:=⟨(λh=>by cases h),λh=>by
     have:=hy1.2 ((h.2.all ps hpm).mem x (aP hx));cases this⟩)
   |true=>
    have hxm:=hy1.1 rfl;have hpos:=hy2 rfl;have hr1:eT g (ps.take (j+1))=eT g (ps.take j)++[(c:Int)]:=by unfold eT;rw[htx,fD,r9,hpos]
    refine go ?_;refine ax (agR (vl:=v8) (xs:=eT g (ps.take j)) (z:=(c:Int)) vj) (next:=λ_ _=>?_);refine go ?_;refine az rfl (λh5=>?_) (λh5=>?_)
    ·exact ee
    ·exact da
  exact cG
 have hke:k=rs.length:=vj
 subst hke;rw[bJ]at hall⊢;refine bi (fQ (E:=ak ae) (v:=v6) (xs:=dU g rs)) (h:=?_);refine go ?_;refine lu (c:=(0:Int)=0) (f:=ai (ak ae) v6 (dU g rs)) vm ?_;exact ah ⟨v6,0⟩ (hv:=rfl) (hp:=⟨λ_=>⟨hg,vj,hall⟩,λ_=>rfl⟩)
theorem ag7(g:bz):(λs:Int×Int=>(nQ g.shape 1 s,true))=λs=>(s.2,true):=by funext s;rfl
theorem ag8(g:bz):(λs:Int×Int=>(nQ g.shape 2 s,true))=λs=>(s.1,true):=by funext s;unfold nQ;simp
theorem ag9(h:g.shape=2):(λs:Int×Int=>(nQ g.shape 3 s,true))=λs=>(s.1+s.2,true):=by funext s;unfold nQ;simp[h]
theorem aha{k:Int}(hS:qC g):
 aU Tryz.prog (.func 122) [.agg ⟨iH g vh vc⟩,.int .i64 k] [] [] (jk g vh vc) vY (λ_=>[]) (λy=>Jj g k y) (λy=>y.e=0↔eD g/\0<=k/\k<=7):=by
 refine aH _ (aN 122) λB w0=>?_;refine go ?_;intro b2;refine bi (dR (b:=b2)) (h:=?_);refine go ?_;refine ax (VO (g:=g) (vh:=vh) (vc:=vc) hS) (next:=λy hy=>?_);obtain⟨vn,e⟩:=y;dsimp only at hy⊢;refine go ?_;refine az rfl (λh1=>?_) (λh1=>?_)
 ·exact j0
 have he:e=0:=gT.1 h1;subst he;have hg:=hy.1 rfl;clear hy h1;have hgl:=hg.len;have hnl:=uC g;have hnm:=EF (g:=g);refine fK (ai (ak ae) vn (bI g)) (λw hw=>hw (mQ ((0:Int)=0) (ai (ak ae) vn (bI g))) vm rfl) ?_;refine aT (E:=ak ae) (v:=vn) (xs:=bI g) vm λan cn en=>?_;subst en;refine go ?_;refine gG (λh2=>?_) (λh2=>?_)
 rotate_left
 ·exact ij
 refine go ?_;refine az rfl (λh3=>?_) (λh3=>?_)
 ·exact ij
 rcases(show k=0\/k=1\/k=2\/k=3\/k=4\/k=5\/k=6\/k=7 by omega)with rfl|rfl|rfl|rfl|rfl|rfl|rfl|rfl;all_goals clear h2 h3
 ·have hf:dx g 0=lK g.cells.length:=by simp[dx]
  refine go ?_;refine gH ae ?_;refine gH (ak ae) ?_;refine aW (λy:Nat×Value×Value=>g.cells.length - y.1) (λy=>[(10,.int .i64 (y.1:Int)),(9,y.2.1),(8,y.2.2)]) (λy=>[ap ae y.2.1 (upTo' y.1),ap (ak ae) y.2.2 (lK y.1)]) (λ_=>[]) (λy=>y.1<=g.cells.length) (0,.slice none 0 0,.slice none 0 0) (bQ _) (hk:=we) (body:=?_);rintro⟨i,v9,v8⟩ hi;dsimp only at hi⊢;have hil:=oO i;have CF:=MQ i;refine go ?_;refine az rfl (λh2=>?_) (λh2=>?_)
  ·refine go ?_;intro yU;refine go ?_;refine fw (xs:=upTo' i) ae (i:Int) () vj (next:=λad=>?_);rw[<- vK];refine go ?_;intro xD b38;refine bi (A:=pt xD (.cells [.int .i64 (i:Int)])) (fs:=[ai ae (.slice (some ⟨xD,0,some 0⟩) 1 1) [(i:Int)]]) (D7 (b:=xD) (f:=0) (c:=1) (xs:=[(i:Int)])) (h:=?_);refine go ?_;refine fw (xs:=lK i) (ak ae) [(i:Int)] (.slice (some ⟨xD,0,some 0⟩) 1 1) vj (next:=λrJ=>?_);rw[<- Tv];refine go ?_;exact aM (i+1,.slice ad ((upTo' i).length+1) ((upTo' i).length+1),.slice rJ ((lK i).length+1) ((lK i).length+1)) AI xf
  have hie:i=g.cells.length:=vj
  subst hie;refine go ?_;refine bi (fQ (E:=ak ae) (v:=v8) (xs:=lK g.cells.length)) (h:=?_);refine go ?_;refine lu (c:=(0:Int)=0) (f:=ai (ak ae) v8 (dx g 0)) w7 ?_;exact dj
 ·have hf:dx g 1=iL g (λs=>(s.2,true)):=by simp[dx]
  refine go ?_;refine gH ae ?_;refine aW (λy:Nat×Value=>g.cells.length - y.1) (λy=>[(10,.int .i64 (y.1:Int)),(9,y.2)]) (λy=>[ap ae y.2 (upTo' y.1)]) (λ_=>[]) (λy=>y.1<=g.cells.length) (0,.slice none 0 0) (bQ _) (hk:=we) (body:=?_);rintro⟨i,v9⟩ hi;dsimp only at hi⊢;have hil:=oO i;refine go ?_;refine az rfl (λh2=>?_) (λh2=>?_)
  ·exact uv
  have hie:i=g.cells.length:=vj
  subst hie;refine go ?_;refine ax (Om (g:=g) (vh:=vh) (vc:=vc) (f:=1) hg) (next:=λv8 _=>?_);rw[ag7];refine go ?_;refine bi (fQ (E:=ak ae) (v:=v8) (xs:=iL g (λs=>(s.2,true)))) (h:=?_);refine go ?_;refine lu (c:=(0:Int)=0) (f:=ai (ak ae) v8 (dx g 1)) w7 ?_;exact dj
 ·have hf:dx g 2=iL g (λs=>(s.1,true)):=by simp[dx]
  refine go ?_;refine gH ae ?_;refine aW (λy:Nat×Value=>g.cells.length - y.1) (λy=>[(10,.int .i64 (y.1:Int)),(9,y.2)]) (λy=>[ap ae y.2 (upTo' y.1)]) (λ_=>[]) (λy=>y.1<=g.cells.length) (0,.slice none 0 0) (bQ _) (hk:=we) (body:=?_);rintro⟨i,v9⟩ hi;dsimp only at hi⊢;have hil:=oO i;refine go ?_;refine az rfl (λh2=>?_) (λh2=>?_)
  ·exact uv
  have hie:i=g.cells.length:=vj
  subst hie;refine go ?_;refine ax (Om (g:=g) (vh:=vh) (vc:=vc) (f:=2) hg) (next:=λv8 _=>?_);rw[ag8];refine go ?_;refine bi (fQ (E:=ak ae) (v:=v8) (xs:=iL g (λs=>(s.1,true)))) (h:=?_);refine go ?_;refine lu (c:=(0:Int)=0) (f:=ai (ak ae) v8 (dx g 2)) w7 ?_;exact dj
 ·have hf:dx g 3=kK g:=by simp[dx]
  refine go ?_;refine gH ae ?_;refine aW (λy:Nat×Value=>g.cells.length - y.1) (λy=>[(10,.int .i64 (y.1:Int)),(9,y.2)]) (λy=>[ap ae y.2 (upTo' y.1)]) (λ_=>[]) (λy=>y.1<=g.cells.length) (0,.slice none 0 0) (bQ _) (hk:=we) (body:=?_);rintro⟨i,v9⟩ hi;dsimp only at hi⊢;have hil:=oO i;refine go ?_;refine az rfl (λh2=>?_) (λh2=>?_)
  ·exact uv
  have hie:i=g.cells.length:=vj
  subst hie;refine go ?_;refine az rfl (λh4=>?_) (λh4=>?_)
  ·refine go ?_;refine ax (ag5 (g:=g) (vh:=vh) (vc:=vc) hg h4) (next:=λv8 _=>?_);exact ua
  ·have h5:g.shape=2:=hg.make.sh.resolve_left h4;have hd:kK g=iL g (λs=>(s.1+s.2,true)):=by unfold kK;rw[if_pos h5]
   refine go ?_;refine ax (Om (g:=g) (vh:=vh) (vc:=vc) (f:=3) hg) (next:=λv8 _=>?_);rw[ag9 h5,<- hd];exact ua
 ·have hf:dx g 4=bI g:=by simp[dx]
  refine go ?_;refine gH ae ?_;refine aW (λy:Nat×Value=>g.cells.length - y.1) (λy=>[(10,.int .i64 (y.1:Int)),(9,y.2)]) (λy=>[ap ae y.2 (upTo' y.1)]) (λ_=>[]) (λy=>y.1<=g.cells.length) (0,.slice none 0 0) (bQ _) (hk:=we) (body:=?_);rintro⟨i,v9⟩ hi;dsimp only at hi⊢;have hil:=oO i;refine go ?_;refine az rfl (λh2=>?_) (λh2=>?_)
  ·exact uv
  have hie:i=g.cells.length:=vj
  subst hie;exact gC
 ·have hf:dx g 5=kL (bI g):=by simp[dx]
  refine go ?_;refine gH ae ?_;refine gH (ak ae) ?_;refine aW (λy:Nat×Value×Value=>g.cells.length - y.1) (λy=>[(10,.int .i64 (y.1:Int)),(9,y.2.1),(8,y.2.2)]) (λy=>[ap ae y.2.1 (upTo' y.1),ap (ak ae) y.2.2 (kL ((bI g).take y.1))]) (λ_=>[]) (λy=>y.1<=g.cells.length) (0,.slice none 0 0,.slice none 0 0) (bQ _) (hk:=we) (body:=?_);rintro⟨i,v9,v8⟩ hi;dsimp only at hi⊢;have hil:=oO i;have CF:(kL ((bI g).take i)).length=i:=by rw[MS,ig];omega
  refine go ?_;refine az rfl (λh2=>?_) (λh2=>?_)
  ·obtain⟨ln,hln⟩:∃ln,(bI g)[i]? =some ln:=⟨(bI g)[i]'(vj),bW _⟩
   have hll:=hnm ln (aP hln);have hfs:=Tw hln;rw[adL hg hln]at hfs;refine go ?_;intro yU;refine go ?_;refine fw (xs:=upTo' i) ae (i:Int) () vj (next:=λad=>?_);rw[<- vK];refine go ?_;refine gH ae ?_;refine aW (λy:Nat×Value=>g.cells.length - y.1) (λy=>[(12,.int .i64 (y.1:Int)),(11,y.2)]) (λy=>[ap ae y.2 (dM y.1 λb=>decide (b=(i:Int))||decide (b∈ln))]) (λ_=>[]) (λy=>y.1<=g.cells.length) (0,.slice none 0 0) (bQ _) (hk:=we) (body:=?_);rintro⟨j,v11⟩ hj;dsimp only at hj⊢;have hsl:=Aj j λb=>decide (b=(i:Int))||decide (b∈ln);refine go ?_;refine az rfl (λh3=>?_) (λh3=>?_)
   ·have hss:=Ai j λb=>decide (b=(i:Int))||decide (b∈ln);refine go ?_;refine gG (λh4=>?_) (λh4=>?_)
    ·refine go ?_;refine bq (ak ae) (xs:=bI g) (next:=λ_ _ Ou (vl:Value) hl=>?_);cases hln.symm.trans hl;refine go ?_;refine ax (JB (xs:=ln) (z:=(j:Int)) vj) (next:=λ_ _=>?_);refine go ?_;refine az rfl (λh5=>?_) (λh5=>?_)
     ·rw[if_pos (by simp[h5])]at hss;exact dy
     ·rw[if_neg (by simp only[qM,zh,not_or];exact⟨h4,h5⟩),iI]at hss;rw[<- hss];refine go ?_;exact aM (j+1,v11) yy xj
    ·rw[if_pos (by simp[h4])]at hss;exact dy
   have gV:j=g.cells.length:=vj
   subst gV;generalize(dM g.cells.length λb=>decide (b=(i:Int))||decide (b∈ln))=zs at hfs⊢;refine pV (E:=ae) (v:=v11) (xs:=zs) λVS e11=>?_;subst e11;refine bi (fQ (E:=ae) (v:=.slice VS zs.length zs.length) (xs:=zs)) (h:=?_);refine go ?_;intro b73;refine go ?_;refine fw (xs:=kL ((bI g).take i)) (ak ae) zs (.slice VS zs.length zs.length) vj (next:=λrJ=>?_);rw[<- hfs];refine go ?_;exact aM (i+1,.slice ad ((upTo' i).length+1) ((upTo' i).length+1),.slice rJ ((kL ((bI g).take i)).length+1) ((kL ((bI g).take i)).length+1)) AI xf
  have hie:i=g.cells.length:=vj
  subst hie;rw[Oj vj];refine go ?_;refine bi (fQ (E:=ak ae) (v:=v8) (xs:=kL (bI g))) (h:=?_);refine go ?_;refine lu (c:=(0:Int)=0) (f:=ai (ak ae) v8 (dx g 5)) w7 ?_;exact dj
 ·have hf:dx g 6=gZ (bI g):=by simp[dx]
  have h6:=IG hnm;refine go ?_;refine gH ae ?_;refine gH (ak ae) ?_;refine aW (λy:Nat×Value×Value=>g.cells.length - y.1) (λy=>[(10,.int .i64 (y.1:Int)),(9,y.2.1),(8,y.2.2)]) (λy=>[ap ae y.2.1 (upTo' y.1),ap (ak ae) y.2.2 (gZ ((bI g).take y.1))]) (λ_=>[]) (λy=>y.1<=g.cells.length) (0,.slice none 0 0,.slice none 0 0) (bQ _) (hk:=we) (body:=?_);rintro⟨i,v9,v8⟩ hi;dsimp only at hi⊢;have hil:=oO i;have CF:=h6 i vj;refine go ?_;refine az rfl (λh2=>?_) (λh2=>?_)
  ·obtain⟨ln,hln⟩:∃ln,(bI g)[i]? =some ln:=⟨(bI g)[i]'(vj),bW _⟩
   have hll:=hnm ln (aP hln);have hfs:=MV hln;refine go ?_;intro yU;refine go ?_;refine fw (xs:=upTo' i) ae (i:Int) () vj (next:=λad=>?_);rw[<- vK];refine go ?_;refine aW (λy:Nat×Value=>ln.length - y.1) (λy=>[(13,.int .i64 (y.1:Int)),(8,y.2)]) (λy=>[ap (ak ae) y.2 (gZ ((bI g).take i)++jc i (ln.take y.1))]) (λ_=>[]) (λy=>y.1<=ln.length) (0,v8) (bQ _) (hk:=by rw[show gZ ((bI g).take i)++jc i (ln.take 0)=gZ ((bI g).take i)from iI _];repeat (first|exact aI.nil|(apply aI.cons;(focus (repeat (first|exact ay.here|apply ay.there)))))) (body:=?_);rintro⟨j,v5⟩ hj;dsimp only at hj⊢;have hpl:=MU i (ln.take j);rw[ig]at hpl;have hal:(gZ ((bI g).take i)++jc i (ln.take j)).length<=2000:=by rw[iE];omega
   refine go ?_;refine bq (ak ae) (xs:=bI g) (next:=λ_ _ Ou (vl:Value) hl=>?_);cases hln.symm.trans hl;refine go ?_;refine az rfl (λh3=>?_) (λh3=>?_)
   ·refine go ?_;refine bq (ak ae) (xs:=bI g) (next:=λ_ _ Ou (vl:Value) hl=>?_);cases hln.symm.trans hl;refine go ?_;intro _ _ x hx;have hps:=Tx (i:=i) hx;refine go ?_;refine az rfl (λh4=>?_) (λh4=>?_)
    ·have Av:gZ ((bI g).take i)++jc i (ln.take (j+1))=(gZ ((bI g).take i)++jc i (ln.take j))++[[(i:Int),x]]:=by rw[hps,if_pos vj,fU]
     refine go ?_;refine bq (ak ae) (xs:=bI g) (next:=λ_ _ Ou (vl:Value) hl=>?_);cases hln.symm.trans hl;refine go ?_;intro _ _ x' hx';cases hx.symm.trans hx';refine go ?_;intro xE b98;refine bi (A:=pt xE (.cells [.int .i64 (i:Int),.int .i64 x])) (fs:=[ai ae (.slice (some ⟨xE,0,some 0⟩) 2 2) [(i:Int),x]]) (D7 (b:=xE) (f:=0) (c:=2) (xs:=[(i:Int),x])) (h:=?_);refine go ?_;refine fw (xs:=gZ ((bI g).take i)++jc i (ln.take j)) (ak ae) [(i:Int),x] (.slice (some ⟨xE,0,some 0⟩) 2 2) vj (next:=λrJ=>?_);rw[<- Av];refine go ?_;exact aM (j+1,.slice rJ ((gZ ((bI g).take i)++jc i (ln.take j)).length+1) ((gZ ((bI g).take i)++jc i (ln.take j)).length+1)) C3 xj
    ·have Av:gZ ((bI g).take i)++jc i (ln.take (j+1))=gZ ((bI g).take i)++jc i (ln.take j):=by rw[hps,if_neg vj,iI]
     exact oy
   have gV:j=ln.length:=vj
   subst gV;rw[bJ,<- hfs];refine go ?_;exact aM (i+1,.slice ad ((upTo' i).length+1) ((upTo' i).length+1),v5) AI xf
  have hie:i=g.cells.length:=vj
  subst hie;rw[Oj vj];refine go ?_;refine bi (fQ (E:=ak ae) (v:=v8) (xs:=gZ (bI g))) (h:=?_);refine go ?_;refine lu (c:=(0:Int)=0) (f:=ai (ak ae) v8 (dx g 6)) w7 ?_;exact dj
 ·have hf:dx g 7=[upTo' g.cells.length]:=by simp[dx]
  refine go ?_;refine gH ae ?_;refine aW (λy:Nat×Value=>g.cells.length - y.1) (λy=>[(10,.int .i64 (y.1:Int)),(9,y.2)]) (λy=>[ap ae y.2 (upTo' y.1)]) (λ_=>[]) (λy=>y.1<=g.cells.length) (0,.slice none 0 0) (bQ _) (hk:=we) (body:=?_);rintro⟨i,v9⟩ hi;dsimp only at hi⊢;have hil:=oO i;refine go ?_;refine az rfl (λh2=>?_) (λh2=>?_)
  ·exact uv
  have hie:i=g.cells.length:=vj
  subst hie;refine bi (fQ (E:=ae) (v:=v9) (xs:=upTo' g.cells.length)) (h:=?_);refine aT (E:=ae) (v:=v9) (xs:=upTo' g.cells.length) vm λa4 c4 e4=>?_;subst e4;refine go ?_;intro JF;refine bi (dR (b:=JF)) (h:=?_);refine fK (ai (ak ae) (Au JF 1) [upTo' g.cells.length]) (λw hw=>Ry (v:=.slice a4 (upTo' g.cells.length).length c4) (hw _ vm) (hw _ vm)) ?_;refine go ?_;refine lu (c:=(0:Int)=0) (f:=ai (ak ae) (Au JF 1) (dx g 7)) w7 ?_;exact ah ⟨Au JF 1,0⟩ (hv:=rfl) (hp:=⟨λ_=>⟨hg,vj,vj⟩,λ_=>rfl⟩)
