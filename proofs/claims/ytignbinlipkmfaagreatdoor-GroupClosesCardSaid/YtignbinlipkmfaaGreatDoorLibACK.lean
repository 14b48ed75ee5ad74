/- Part. -/
import Derived.Test.YtignbinlipkmfaaGreatDoorLibABK
set_option linter.all false
set_option maxRecDepth 10000
set_option maxHeartbeats 4000000
namespace Go.Proofs.YtignbinlipkmfaaGreatDoor
open Tryz (prog)
open Go.Ideal Kd Canon
def amk{P:Program}{ρ:ay->ah}{x y:ay}{t:aC}{a b:Int}(hx:ρ x=iV a)(hy:ρ y=iV b):Pu P ρ (.bin .add t x y) (iV (IntKind.i64.wrap (a+b))):=λh=>by
 simp only[aH.run,hx,hy];rw[yL (v:=iV (IntKind.i64.wrap (a+b)))];simp only[qp,M8];rw[IC]
def Y8{k:bN}{vh vs vr vc vu gh gc vn vl:ah}(hB:Cn k):fC prog 10 [.agg ⟨mM k vh vs vr vc vu gh gc vn vl⟩] (lN k vh vs vr vc vu gh gc vn vl []) (λb:Bool=>.bool b) (λb=>b=true->Q8 k/\k.grid.cells.length<=16/\k.decl.symbols.length<=4):=by
 obtain⟨l1,l2⟩:=hB.lists;have hcb:=hB.cells;have hsb:=hB.dG;refine gB 10 λB w0=>?_;dsimp only[lN];refine gF (aA (aA ai)) vl k.lists λal cl el=>?_;subst el;refine gF ai gc k.grid.cells λag cg eg=>?_;subst eg;refine gF eT vs k.decl.symbols λpg cs1 es1=>?_;subst es1;refine go ?_;intro b1;refine gL (λx:Nat×Int=>k.lists.length - x.1) (λx=>[(4,iV (x.1:Int)),(3,iV x.2)]) (λ_=>True) (8,0) trivial ?_;rintro⟨i,n⟩ -;dsimp only;refine aB ?_ ?_<;>intro h2
 .refine gX (aA (aA ai)) (xs:=k.lists) (k:=i) λ_ _ x (vx:ah) hx=>?_;have hxl:=l2 x (aS hx);refine gF (aA ai) vx x λax cx ex=>?_;subst ex;refine go ?_;refine(fo rfl rfl (amk rfl rfl)).h ?_;refine go ?_;exact aQ (i+1,IntKind.i64.wrap (n+(x.length:Int))) CT trivial
 refine gC (al6 (k:=k) hB) λb hb=>?_;cases b with
 |false=>
  exact cC
 |true=>
 have hf:=hb rfl;refine gH ?_ ?_<;>intro t1
 .exact cC
 refine gH ?_ ?_<;>intro t2
 .exact cC
 refine go ?_;exact gQ (decide (n<=12)) (λ_=>⟨hf,tr,tr⟩)
def aml{fn:Fn}{first cap:ae ah}{F1:ae aP}{p:ae Int->Bool}{va:ah}{xs:ae (ae Int)}(hl:xs.length<2^63)(hp:∀x∈xs,Cj prog fn first cap F1 p x):
 fC prog 46 [va,.func fn ⟨first⟩ ⟨cap⟩] (aj (aA ai) va xs::F1) (λ_:Unit=>.bool (xs.any p)) (λ_=>True):=by
 refine gB 46 λB w0=>?_;refine gC (X3 hl hp) λ_ _=>?_;refine aM ?_;have:decide (0<=oK p xs)=xs.any p:=by
  cases e:xs.any p with
  |false=>rw[Qw e];rfl
  |true=>
   cases hf:xs.findIdx? p with
   |none=>
    rw[aaW]at hf;obtain⟨x,hx,hpx⟩:=MG.1 e;rw[hf x hx]at hpx;cases hpx
   |some i=>
    have:oK p xs=(i:Int):=by unfold oK;rw[hf]
    rw[this];exact eB tr
 rw[<- this];rfl
variable{sc st:ah}{s:ae Int}
def amm{b:Nat}(hs:s.length<2^63)(x:ae Int)(hx:x.length<2^63):Cj prog (.func 47) [] [ptr' b] [eZ b 0 [sc,st],aj ai sc s] (λx=>decide (x=s)) x:=by
 intro v;rw[dU];refine gB 47 λB w0=>?_;refine gC (uY (xs:=x) (ys:=s) hx) λ_ _=>?_;exact fH
structure Y9(G:List (List Int))(cl s t:List Int):Prop where
 p:bW cl.length t
 c:∀(i:Nat) x,t[i]? =some x->aT cl (i:Int)=aT cl x
 m:s∈G
variable{vG wS:ah}{t cl:ae Int}{G:ae (ae Int)}
def amn(hcl:cl.length<=256)(hG:G.length<2^63)(Ew:∀x∈G,x.length<2^63)(hs:s.length<2^63)(ht:t.length<2^63):
 fC prog 20 [.agg ⟨[vG,wS]⟩,.agg ⟨[sc,st]⟩] [aj (aA ai) vG G,aj ai wS cl,aj ai sc s,aj ai st t] (λb:Bool=>.bool b) (λb=>b=true↔Y9 G cl s t):=by
 refine gB 20 λB w0=>?_;refine gF ai wS cl λacl Za Hl=>?_;subst Hl;refine gF ai st t λpY ct et=>?_;subst et;refine go ?_;intro b2 b3;refine gP b2 ?_;refine gP b3 ?_;refine gH ?_ ?_<;>intro h1
 rotate_left
 .refine go ?_;exact gQ false ⟨(λh=>by cases h),λq=>by have:=q.p.len;omega⟩
 refine gC (Qy (xs:=t) (n:=cl.length) hcl ht) λe1 he1=>?_;refine aB ?_ ?_<;>intro h2
 .refine go ?_;exact gQ false ⟨(λh=>by cases h),λq=>absurd (he1.2 q.p) h2⟩
 have hp:=he1.1 (iD.1 h2);have htl:=hp.len;refine gN t.length 23 (λj=>j<=t.length/\∀i',i'<j->∀x,t[i']? =some x->aT cl (i':Int)=aT cl x) ⟨bP _,λi' h=>absurd h (x9 _)⟩ ?_;rintro j ⟨hj,hall⟩;refine aB ?_ ?_<;>intro h3
 .refine go ?_;intro _ _ x hx;have mX:=hp.dQ x (aS hx);obtain⟨i,rfl⟩:=iO mX.1;refine go ?_;intro _ _ y hy;have e1:=kX hy;refine go ?_;intro _ _ z hz;have e2:=kX hz;refine aB ?_ ?_<;>intro h4
  .refine go ?_;exact gQ false ⟨(λh=>by cases h),λq=>absurd (by have:=q.c j _ hx;rw[e1,e2]at this;exact this) h4⟩
  refine go ?_;refine aQ (j+1) tr ⟨tr,λi' hi' x hx'=>?_⟩;by_cases e:i'=j
  .subst e;rw[hx]at hx';cases hx';rw[e1,e2];exact iD.1 h4
  .exact nB
 have iJ:j=t.length:=tr
 subst iJ;refine gC (aml (fn:=.func 47) (first:=[]) (cap:=[ptr' b3]) (F1:=[eZ b3 0 [sc,.slice pY t.length ct],aj ai sc s]) (p:=λx=>decide (x=s)) (va:=vG) (xs:=G) hG (λx hx=>amm hs x (Ew x hx))) λ_ _=>?_;refine go ?_;refine gQ (G.any λx=>decide (x=s)) ⟨λh=>⟨hp,λi x hx=>hall i (bC.1 hx).1 x hx,?_⟩,λq=>MG.2 ⟨s,q.m,eB rfl⟩⟩;obtain⟨x,hx,e⟩:=MG.1 h;rw[<- gT e];exact hx
def Rf:fC prog 17 [.agg ⟨[sc,st]⟩] [aj ai sc s,aj ai st t] (λb:Bool=>.bool b) (λb=>b=true->s.length<=40/\t.length<=40):=by
 refine gB 17 λB w0=>?_;refine go ?_;intro b1;refine gH ?_ ?_<;>intro h1
 .exact cC
 refine go ?_;refine gQ (decide ((t.length:Int)<=40)) (λh=>?_);have h:=gT h;exact⟨tr,tr⟩
def Zb{n:Nat}(hn:n<=4096):cK prog (.func 23) [iV (n:Int)] [] [] [] (λv:ah=>v) (λ_=>[]) (λv=>[aj ai v (upTo' n)]) (λ_=>True):=by
 refine gB 23 λB w0=>?_;refine go ?_;intro b0;refine JB ai aD.here ?_;refine dX (λy:Nat×ah=>n - y.1) (λy=>[(4,iV (y.1:Int)),(3,y.2)]) (λy=>[ap ai y.2 (upTo' y.1)]) (λ_=>[]) (λy=>y.1<=n) (0,.slice (some ⟨b0,0,some 0⟩) 0 0) (bP _) (hk:=tx) (body:=?_);rintro⟨i,v⟩ hi;dsimp only at hi⊢;have hil:=nT i;refine aB ?_ ?_<;>intro h1
 .refine go ?_;intro YX;refine go ?_;refine fI (xs:=upTo' i) ai (i:Int) () tr (next:=λad=>?_);rw[<- wG];refine go ?_;exact aQ (i+1,.slice ad ((upTo' i).length+1) ((upTo' i).length+1)) (by show n - (i+1)<n - i;omega) tP
 obtain rfl:i=n:=tr
 refine tu (A:=ap ai v (upTo' i)) (fs:=[aj ai v (upTo' i)]) gI (h:=?_);refine go ?_;exact gQ v trivial
def amo(hcl:cl.length<=256)(hG:G.length<2^63)(Ew:∀x∈G,x.length<2^63)(hs:s.length<2^63)(ht:t.length<2^63):
 fC prog 21 [.agg ⟨[vG,wS]⟩,.agg ⟨[sc,st]⟩] [aj (aA ai) vG G,aj ai wS cl,aj ai sc s,aj ai st t] (λb:Bool=>.bool b) (λb=>b=true↔Y9 G cl s t):=by
 refine gB 21 λB w0=>?_;refine gF ai wS cl λacl Za Hl=>?_;subst Hl;refine gF ai st t λpY ct et=>?_;subst et;refine gF (aA ai) vG G λaG cG eG=>?_;subst eG;refine go ?_;intro b2 b3;refine gP b2 ?_;refine gP b3 ?_;refine gC (Rb (xs:=t) (n:=cl.length) tr ht) λe1 he1=>?_;cases e1 with
 |false=>
  refine go ?_;exact gQ false ⟨(λh=>by cases h),λq=>by have:=he1.2 q.p;cases this⟩
 |true=>
 have hp:=he1.1 rfl;have htl:=hp.len;refine gN cl.length 5 (λj=>j<=cl.length/\∀i',i'<j->∀x,t[i']? =some x->aT cl (i':Int)=aT cl x) ⟨bP _,λi' h=>absurd h (x9 _)⟩ ?_;rintro j ⟨hj,hall⟩;refine aB ?_ ?_<;>intro h3
 .refine go ?_;intro _ _ y hy;have e1:=kX hy;have htx:t[j]? =some t[j]:=bX tr;generalize t[j]=x0 at htx;have hx0:=hp.dQ x0 (aS htx);obtain⟨i,rfl⟩:=iO hx0.1;refine go ?_;intro _ _ x hx;rw[htx]at hx;obtain rfl:(i:Int)=x:=Option.some.inj hx;refine go ?_;intro _ _ z hz;have e2:=kX hz;refine aB ?_ ?_<;>intro h4
  .refine go ?_;exact gQ false ⟨(λh=>by cases h),λq=>absurd (by have:=q.c j _ htx;rw[e1,e2]at this;exact this) h4⟩
  refine go ?_;refine aQ (j+1) tr ⟨tr,λi' hi' x hx'=>?_⟩;by_cases e:i'=j
  .subst e;rw[htx]at hx';cases hx';rw[e1,e2];exact iD.1 h4
  .exact nB
 have iJ:j=cl.length:=tr
 subst iJ;have hc:∀(i:Nat) x,t[i]? =some x->aT cl (i:Int)=aT cl x:=λi x hx=>hall i (by have:=(bC.1 hx).1;omega) x hx;refine gN G.length 6 (λj=>j<=G.length/\s∉G.take j) ⟨bP _,tt⟩ ?_;rintro j ⟨hj,hno⟩;refine aB ?_ ?_<;>intro h3
 .refine gX (aA ai) (xs:=G) λ_ _ x (vx:ah) hx=>?_;have hxm:=aS hx;refine gC (Q9 (xs:=x) (ys:=s) (Ew x hxm) hs) λ_ _=>?_;by_cases e:x=s
  .rw[eB e];refine go ?_;exact gQ true ⟨λ_=>⟨hp,hc,e▸hxm⟩,λ_=>rfl⟩
  .rw[aY e];refine go ?_;refine aQ (j+1) (by show G.length - (j+1)<G.length - j;omega) ⟨tr,λq=>?_⟩;rw[cB hx]at q;rcases dY.1 q with q|q
   .exact hno q
   .exact e (bK.1 q).symm
 have iJ:j=G.length:=tr
 subst iJ;rw[bM]at hno;refine go ?_;exact gQ false ⟨(λh=>by cases h),λq=>absurd q.m hno⟩
