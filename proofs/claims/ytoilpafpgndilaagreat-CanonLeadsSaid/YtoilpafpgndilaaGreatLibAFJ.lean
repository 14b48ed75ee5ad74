/- Part. -/
import Derived.Test.YtoilpafpgndilaaGreatLibMJ
set_option linter.all false
set_option maxRecDepth 10000
set_option maxHeartbeats 4000000
namespace Go.Proofs.YtoilpafpgndilaaGreat
open Tryz (prog)
open Go.Ideal Kd Canon
def aqL{P:Program}{ρ:ay->ah}{x y:ay}{t:aD}{a b:Int}(hx:ρ x=iV a)(hy:ρ y=iV b):Pu P ρ (.bin .add t x y) (iV (IntKind.i64.wrap (a+b))):=λh=>by
 simp only[aK.run,hx,hy];rw[AO (v:=iV (IntKind.i64.wrap (a+b)))];simp only[rJ,PZ];rw[Ea]
def aqM{k:aQ}{vh vs vr vc vu gh gc vn vl:ah}(hB:Bv k):fC prog 15 [.agg ⟨jO k vh vs vr vc vu gh gc vn vl⟩] (iT k vh vs vr vc vu gh gc vn vl []) (λb:Bool=>.bool b) (λb=>b=true->Ur k/\k.grid.cells.length<=16/\k.decl.symbols.length<=4):=by
 obtain⟨l1,l2⟩:=hB.lists;have hcb:=hB.cells;have hsb:=hB.fB;refine gB 15 λB w0=>?_;dsimp only[iT];refine gF (az (az ai)) vl k.lists λal cl el=>?_;subst el;refine gF ai gc k.grid.cells λag cg eg=>?_;subst eg;refine gF kF vs k.decl.symbols λqd cs1 es1=>?_;subst es1;refine go ?_;intro b1;refine gL (λx:Nat×Int=>k.lists.length - x.1) (λx=>[(4,iV (x.1:Int)),(3,iV x.2)]) (λ_=>True) (8,0) trivial ?_;rintro⟨i,n⟩ -;dsimp only;refine aO ?_ ?_<;>intro h2
 .refine gX (az (az ai)) (xs:=k.lists) (k:=i) λ_ _ x (vx:ah) hx=>?_;have hxl:=l2 x (aT hx);refine gF (az ai) vx x λax cx ex=>?_;subst ex;refine go ?_;refine(cZ rfl rfl (aqL rfl rfl)).h ?_;refine go ?_;exact aU (i+1,IntKind.i64.wrap (n+(x.length:Int))) E3 trivial
 refine gC (anF (k:=k) hB) λb hb=>?_;cases b with
 |false=>
  exact cH
 |true=>
 have hf:=hb rfl;refine gH ?_ ?_<;>intro t1
 .exact cH
 refine gH ?_ ?_<;>intro t2
 .exact cH
 refine go ?_;exact gQ (decide (n<=12)) (λ_=>⟨hf,s6,s6⟩)
abbrev qU(b:Nat)(g:Clue)(v:ah):OA:=pt b (.cells [iV g.aS,iV g.at_,v])
variable{va vb:ah}{a b:Clue}{b2 b3:Nat}
def aqN:
 aX prog (.func 64) [] [ptr' b2,ptr' b3] [qU b2 a va,qU b3 b vb] [] (λ_:Unit=>iV (dx a.aS b.aS)) (λ_=>[qU b2 a va,qU b3 b vb]) (λ_=>[]) (λ_=>True):=by
 refine gB 64 λB w0=>?_;refine gC (Um _ _) λ_ _=>?_;exact eH
def aqO:
 aX prog (.func 66) [] [ptr' b2,ptr' b3] [qU b2 a va,qU b3 b vb] [] (λ_:Unit=>iV (dx a.at_ b.at_)) (λ_=>[qU b2 a va,qU b3 b vb]) (λ_=>[]) (λ_=>True):=by
 refine gB 66 λB w0=>?_;refine gC (Um _ _) λ_ _=>?_;exact eH
def aqP(hal:a.values.length<=1000000)(hbl:b.values.length<=1000000):
 aX prog (.func 67) [] [ptr' b2,ptr' b3] [qU b2 a va,qU b3 b vb] [aj ai va a.values,aj ai vb b.values] (λ_:Unit=>iV (dN dx a.values b.values)) (λ_=>[qU b2 a va,qU b3 b vb]) (λ_=>[]) (λ_=>True):=by
 refine gB 67 λB w0=>?_;refine gC (Om hal hbl) λ_ _=>?_;exact eH
def aqQ(hal:a.values.length<=1000000)(hbl:b.values.length<=1000000):
 dZ prog 33 [qC a va,qC b vb] [aj ai va a.values,aj ai vb b.values] (iV (jD a b)):=by
 refine gB 33 λB w0=>?_;refine go ?_;intro b2 b3 b12;refine oh ?_;refine gC (aqN (a:=a) (b:=b)) λ_ _=>?_;refine aO ?_ ?_<;>intro h1
 .refine bF ?_;rw[jD,if_pos h1];rfl
 refine go ?_;refine oh ?_;refine gC (aqO (a:=a) (b:=b)) λ_ _=>?_;refine aO ?_ ?_<;>intro h2
 .refine bF ?_;rw[jD,if_neg h1,if_pos h2];rfl
 refine go ?_;refine oh ?_;refine gC (aqP (a:=a) (b:=b) hal hbl) λ_ _=>?_;refine aO ?_ ?_<;>intro h3
 .refine bF ?_;rw[jD,if_neg h1,if_neg h2];rfl
 refine go ?_;refine oh ?_;refine bF ?_;rw[jD,if_neg h1,if_neg h2,kv.1 h3];rfl
variable{xs ys:ae Clue}
def adn{k:Nat}(hx:k<=xs.length)(hy:k<=ys.length)(h:k=xs.length\/k=ys.length):
 kX (xs.drop k) (ys.drop k)=if xs.length<ys.length then -1 else if ys.length<xs.length then 1 else 0:=by
 rcases h with h|h
 .exact eR
 .exact eK
def aqR(hal:xs.length<=1000000)(hbl:ys.length<=1000000)(hx:short xs)(hy:short ys):
 dZ prog 32 [va,vb,.func (.func 33) #[] #[]] [aj aY va xs,aj aY vb ys] (iV (kX xs ys)):=by
 refine gB 32 λB w0=>?_;refine gN xs.length 13 (λk=>k<=xs.length/\k<=ys.length/\kX xs ys=kX (xs.drop k) (ys.drop k)) ⟨s6,s6,rfl⟩ ?_;rintro k ⟨hkx,xA,nS⟩;refine aO ?_ ?_<;>intro h1
 .refine gX aY λ_ _ x (vx:ah) hxk=>?_;refine go ?_;intro b8;refine p9 rfl ?_ ?_<;>intro h2
  .refine bF ?_;rw[nS,drop_cons hxk,show ys.drop k=[]from vz s6];rfl
  refine gX aY λ_ _ y (vy:ah) hyk=>?_;refine go ?_;intro b9;refine iy (aqQ (a:=x) (b:=y) (hx x (aT hxk)) (hy y (aT hyk))) (next:=λ_ _=>?_);refine aO ?_ ?_<;>intro h3
  .refine bF ?_;rw[nS,drop_cons hxk,drop_cons hyk,kX,dN,if_pos h3];rfl
  refine go ?_;refine aU (k+1) s6 ⟨s6,s6,?_⟩;rw[nS,drop_cons hxk,drop_cons hyk,kX,dN,if_neg (by simpa using h3)]
 refine go ?_;have hkm:k=xs.length:=s6
 refine p9 rfl ?_ ?_<;>intro h3
 .refine bF ?_;rw[nS,adn hkx xA s6,if_pos s6];rfl
 refine bF ?_;rw[nS,adn hkx xA s6,if_neg s6,if_neg s6];rfl
def ado(hal:xs.length<=1000000)(hbl:ys.length<=1000000)(hx:short xs)(hy:short ys):
 dZ prog 12 [.agg ⟨[va]⟩,.agg ⟨[vb]⟩] [aj aY va xs,aj aY vb ys] (.bool (decide (kX xs ys<0))):=by
 refine gB 12 λB w0=>?_;refine go ?_;intro b2 b3;refine iy (aqR hal hbl hx hy) (next:=λ_ _=>?_);exact eH
def adp:fC prog 11 [.agg ⟨[va]⟩] [aj aY va xs] (λb:Bool=>.bool b) (λb=>b=true->xs.length<=60/\∀g∈xs,g.values.length<=20):=by
 refine gB 11 λB w0=>?_;refine go ?_;intro b1;refine gN xs.length 3 (λk=>k<=xs.length/\k<=60/\∀j g,j<k->xs[j]? =some g->g.values.length<=20) ⟨s6,s6,λj g hj=>by omega⟩ ?_;rintro k ⟨hkx,hk6,hall⟩;refine gH ?_ ?_<;>intro h1
 .refine go ?_;refine gQ _ (λh=>?_);have h:=ko h;refine⟨s6,λg hg=>?_⟩;obtain⟨j,hj⟩:=iM hg;exact hall j g (by have:=(aV.1 hj).1;omega) hj
 refine aO ?_ ?_<;>intro h2
 rotate_left
 .refine go ?_;refine gQ _ (λh=>?_);have h:=ko h;omega
 refine gX aY λ_ _ x (vx:ah) hxk=>?_;refine aO ?_ ?_<;>intro h3
 .exact cH
 refine go ?_;refine aU (k+1) s6 ⟨s6,s6,λj g hj hg=>?_⟩;by_cases e:j=k
 .subst e;rw[hxk]at hg;cases hg;omega
 .exact hall j g s6 hg
def aqS{fn:Fn}{first cap:ae ah}{F1:ae aI}{p:ae Int->Bool}{xs:ae (ae Int)}(hl:xs.length<2^63)(hp:∀x∈xs,zM prog fn first cap F1 p x):
 fC prog 56 [va,.func fn ⟨first⟩ ⟨cap⟩] (aj (az ai) va xs::F1) (λ_:Unit=>.bool (xs.any p)) (λ_=>True):=by
 refine gB 56 λB w0=>?_;refine gC (Uu hl hp) λ_ _=>?_;refine bF ?_;have:decide (0<=qh p xs)=xs.any p:=by
  cases e:xs.any p with
  |false=>rw[Ut e];rfl
  |true=>
   cases hf:xs.findIdx? p with
   |none=>
    rw[VZ]at hf;obtain⟨x,hx,hpx⟩:=KU.1 e;rw[hf x hx]at hpx;cases hpx
   |some i=>
    have:qh p xs=(i:Int):=by unfold qh;rw[hf]
    rw[this];exact eT s6
 rw[<- this];rfl
variable{sc st:ah}{s:ae Int}
def aqT{b:Nat}(hs:s.length<2^63)(x:ae Int)(hx:x.length<2^63):zM prog (.func 57) [] [ptr' b] [bW b 0 [sc,st],aj ai sc s] (λx=>decide (x=s)) x:=by
 intro v;rw[cK];refine gB 57 λB w0=>?_;refine gC (vR (xs:=x) (ys:=s) hx) λ_ _=>?_;exact eH
structure Vg(G:List (List Int))(cl s t:List Int):Prop where
 p:bD cl.length t
 c:∀(i:Nat) x,t[i]? =some x->aH cl (i:Int)=aH cl x
 m:s∈G
def adq{G:ae (ae Int)}{cl t:ae Int}{vG ja:ah}(hcl:cl.length<=256)(hG:G.length<2^63)(hGs:∀x∈G,x.length<2^63)(hs:s.length<2^63)(ht:t.length<2^63):
 fC prog 27 [.agg ⟨[vG,ja]⟩,.agg ⟨[sc,st]⟩] [aj (az ai) vG G,aj ai ja cl,aj ai sc s,aj ai st t] (λb:Bool=>.bool b) (λb=>b=true↔Vg G cl s t):=by
 refine gB 27 λB w0=>?_;refine gF ai ja cl λacl ccl Kz=>?_;subst Kz;refine gF ai st t λrP ct et=>?_;subst et;refine go ?_;intro b2 b3;refine gP b2 ?_;refine gP b3 ?_;refine gH ?_ ?_<;>intro h1
 rotate_left
 .refine go ?_;exact gQ false ⟨(λh=>by cases h),λq=>by have:=q.p.len;omega⟩
 refine gC (Uv (xs:=t) (n:=cl.length) hcl ht) λe1 he1=>?_;refine aO ?_ ?_<;>intro h2
 .refine go ?_;exact gQ false ⟨(λh=>by cases h),λq=>absurd (he1.2 q.p) h2⟩
 have hp:=he1.1 (kv.1 h2);have htl:=hp.len;refine gN t.length 23 (λj=>j<=t.length/\∀i',i'<j->∀x,t[i']? =some x->aH cl (i':Int)=aH cl x) ⟨bM _,λi' h=>absurd h (yU _)⟩ ?_;rintro j ⟨hj,hall⟩;refine aO ?_ ?_<;>intro h3
 .refine go ?_;intro _ _ x hx;have mZ:=hp.dJ x (aT hx);obtain⟨i,rfl⟩:=gV mZ.1;refine go ?_;intro _ _ y hy;have e1:=iW hy;refine go ?_;intro _ _ z hz;have e2:=iW hz;refine aO ?_ ?_<;>intro h4
  .refine go ?_;exact gQ false ⟨(λh=>by cases h),λq=>absurd (by have:=q.c j _ hx;rw[e1,e2]at this;exact this) h4⟩
  refine go ?_;refine aU (j+1) s6 ⟨s6,λi' hi' x hx'=>?_⟩;by_cases e:i'=j
  .subst e;rw[hx]at hx';cases hx';rw[e1,e2];exact kv.1 h4
  .exact sg
 have jT:j=t.length:=s6
 subst jT;refine gC (aqS (fn:=.func 57) (first:=[]) (cap:=[ptr' b3]) (F1:=[bW b3 0 [sc,.slice rP t.length ct],aj ai sc s]) (p:=λx=>decide (x=s)) (va:=vG) (xs:=G) hG (λx hx=>aqT hs x (hGs x hx))) λ_ _=>?_;refine go ?_;refine gQ (G.any λx=>decide (x=s)) ⟨λh=>⟨hp,λi x hx=>hall i (aV.1 hx).1 x hx,?_⟩,λq=>KU.2 ⟨s,q.m,eT rfl⟩⟩;obtain⟨x,hx,e⟩:=KU.1 h;rw[<- ko e];exact hx
