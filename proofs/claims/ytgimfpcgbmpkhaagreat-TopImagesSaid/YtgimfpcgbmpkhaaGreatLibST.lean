/- Part. -/
import Derived.Test.YtgimfpcgbmpkhaaGreatLibMT
set_option linter.all false
set_option maxRecDepth 10000
set_option maxHeartbeats 4000000
namespace Go.Proofs.YtgimfpcgbmpkhaaGreat
open Tryz (prog)
open Go.Ideal Kd Canon
def arF{P:Program}{ρ:aB->ah}{x y:aB}{t:aM}{a b:Int}(hx:ρ x=iV a)(hy:ρ y=iV b):Pu P ρ (.bin .add t x y) (iV (IntKind.i64.wrap (a+b))):=λh=>by
 simp only[aR.run,hx,hy];rw[AL (v:=iV (IntKind.i64.wrap (a+b)))];simp only[sP,Rh];rw[MN]
def arG{k:aT}{vh vs vr vc vu gh gc vn vl:ah}(hB:E8 k):fC prog 14 [.agg ⟨jE k vh vs vr vc vu gh gc vn vl⟩] (iO k vh vs vr vc vu gh gc vn vl []) (λb:Bool=>.bool b) (λb=>b=true->ac2 k/\k.grid.cells.length<=16/\k.decl.symbols.length<=4):=by
 obtain⟨l1,l2⟩:=hB.lists;have hcb:=hB.cells;have hsb:=hB.eH;refine gB 14 λB w0=>?_;dsimp only[iO];refine gF (aA (aA aj)) vl k.lists λal cl el=>?_;subst el;refine gF aj gc k.grid.cells λag cg eg=>?_;subst eg;refine gF jO vs k.decl.symbols λjg cs1 es1=>?_;subst es1;refine go ?_;intro b1;refine gL (λx:Nat×Int=>k.lists.length - x.1) (λx=>[(4,iV (x.1:Int)),(3,iV x.2)]) (λ_=>True) (8,0) trivial ?_;rintro⟨i,n⟩ -;dsimp only;refine aK ?_ ?_<;>intro h2
 .refine gX (aA (aA aj)) (xs:=k.lists) (k:=i) λ_ _ x (vx:ah) hx=>?_;have hxl:=l2 x (aV hx);refine gF (aA aj) vx x λax cx ex=>?_;subst ex;refine go ?_;refine(dx rfl rfl (arF rfl rfl)).h ?_;refine go ?_;exact aW (i+1,IntKind.i64.wrap (n+(x.length:Int))) DP trivial
 refine gC (apJ (k:=k) hB) λb hb=>?_;cases b with
 |false=>
  exact cJ
 |true=>
 have hf:=hb rfl;refine gH ?_ ?_<;>intro t1
 .exact cJ
 refine gH ?_ ?_<;>intro t2
 .exact cJ
 refine go ?_;exact gQ (decide (n<=12)) (λ_=>⟨hf,s6,s6⟩)
section
variable {m:Nat} {k:aT} {s t:ae Int} {vh vs vr vc vu gh gc vn vl:ah}
end
def arH{va vb:ah}{xs ys:ae Int}(hl:xs.length<2^63)(hl2:ys.length<2^63):dO prog 172 [va,vb] [ay aj va xs,ay aj vb ys] (iV (eD dB xs ys)):=by
 refine gB 172 λB w0=>?_;refine gF aj va xs λaa ca ea=>?_;subst ea;refine gF aj vb ys λab cb eb=>?_;subst eb;refine gN xs.length 5 (λk=>k<=xs.length/\k<=ys.length/\eD dB xs ys=eD dB (xs.drop k) (ys.drop k)) ⟨bI _,bI _,rfl⟩ ?_;rintro k ⟨hk,hk2,qJ⟩;refine gH ?_ ?_<;>intro h1
 .exact eJ
 refine aK ?_ ?_<;>intro h2
 .refine go ?_;intro _ _ x hx;refine go ?_;intro _ _ y hy;refine go ?_;have hxy:=qJ;rw[drop_cons hx,drop_cons hy,eD]at hxy;refine rU rfl ?_ ?_<;>intro h3
  .refine aZ ?_;have e:dB x y= -1:=by unfold dB;rw[if_pos h3]
   rw[hxy,e];rfl
  refine go ?_;intro _ _ x2 hx2;rw[hx]at hx2;obtain rfl:x=x2:=Option.some.inj hx2;refine go ?_;intro _ _ y2 hy2;rw[hy]at hy2;obtain rfl:y=y2:=Option.some.inj hy2;refine aK ?_ ?_<;>intro h4
  .refine aZ ?_;have e:dB x y=1:=by unfold dB;rw[if_neg h3,if_pos s6]
   rw[hxy,e];rfl
  refine go ?_;refine aW (k+1) s6 ⟨s6,s6,?_⟩;have e:dB x y=0:=by unfold dB;rw[if_neg h3,if_neg s6]
  rw[hxy,e,if_neg s7]
 exact eJ
structure ad3(xs:List (List Int))(p:List Int)(n:Nat):Prop where
 le:n<=xs.length
 lo:∀(i:Nat) x,i<n->xs[i]? =some x->eD dB x p<0
 hi:∀(i:Nat) x,n<=i->xs[i]? =some x->¬eD dB x p<0
def ad4(xs:ae (ae Int)):Prop:=xs.Pairwise λx y=>¬eD dB y x<0
variable{xs:ae (ae Int)}
def arI(h:ad4 xs){i j:Nat}{x y:ae Int}(hij:i<j)(hx:xs[i]? =some x)(hy:xs[j]? =some y):¬eD dB y x<0:=by
 obtain⟨h1,rfl⟩:=bz.1 hx;obtain⟨h2,rfl⟩:=bz.1 hy;exact zf.1 h i j h1 h2 hij
def ad3.mem{p:ae Int}{n:Nat}(h:ad3 xs p n)(hs:ad4 xs):p∈xs↔xs[n]? =some p:=by
 have o:=vU uH;constructor
 .intro hp;obtain⟨j,hj⟩:=gT hp;have hjl:=(bz.1 hj).1;have hj0:eD dB p p=0:=(o.zero p p).2 rfl;have hnj:n<=j:=Classical.byContradiction λq=>by have:=h.lo j p s6 hj;omega
  have hn:n<xs.length:=s6
  have hx:xs[n]? =some xs[n]:=bN hn;have h1:=h.hi n _ (bG _) hx;by_cases e:n=j
  .rw[e];exact hj
  .have h2:=arI hs (show n<j by omega) hx hj;have:xs[n]=p:=by
    refine(o.zero _ _).1 ?_;have h3:=o.neg p xs[n];have h4:¬0<eD dB xs[n] p:=λq=>h2 (h3.2 q);omega
   rw[hx,this]
 .exact aV
end Go.Proofs.YtgimfpcgbmpkhaaGreat
namespace Go.Proofs.YtgimfpcgbmpkhaaGreat
open Tryz (prog)
open Go.Ideal Kd Canon
variable{va vb:ah}{xs ys:ae Int}
def arJ(hl:xs.length<2^63)(hl2:ys.length<2^63):fC prog 172 [va,vb] [ay aj va xs,ay aj vb ys] (λo:Int=>iV o) (λo=>o=0↔xs=ys):=λB w s=>
 .vQ _ (arH hl hl2 B w s) (by
  rintro r pm h' ⟨h1,w',y,e1,st,e2,e3⟩;exact⟨h1,w',eD dB xs ys,e1,st,e2,(vU uH).zero _ _⟩)
def arK(hl:xs.length<2^63)(hl2:ys.length<2^63):dO prog 63 [va,vb] [ay aj va xs,ay aj vb ys] (.bool (decide (xs=ys))):=by
 refine gB 63 λB w0=>?_;refine gC (arJ (xs:=xs) (ys:=ys) hl hl2) λo ho=>?_;refine aZ ?_;exact congrArg Value.bool (nZ.2 ho)
end Go.Proofs.YtgimfpcgbmpkhaaGreat
namespace Go.Proofs.YtgimfpcgbmpkhaaGreat
open Tryz (prog)
open Go.Ideal Kd Canon
def arL{v:ah}{xs:ae Int}{n:Nat}(hn:n<=1000000)(hl:xs.length<2^63):fC prog 62 [v,iV (n:Int)] [ay aj v xs] (λb:Bool=>.bool b) (λb=>b=true↔bM n xs):=by
 refine gB 62 λB w0=>?_;refine gF aj v xs λav cv ev=>?_;subst ev;refine aK ?_ ?_<;>intro h1
 .refine go ?_;exact gQ false ⟨(λh=>by cases h),λq=>by have:=q.len;omega⟩
 have MI:xs.length=n:=s6
 refine go ?_;refine qA n ⟨s6,s6,s6⟩ λb5=>?_;rw[anS];refine go ?_;refine dL (λk=>n - k) (λk:Nat=>[(6,iV (k:Int))]) (λk=>[pt b5 (.cells (wE n (xs.take k)))]) (λ_=>[]) (λk=>k<=n/\(∀x∈xs.take k,0<=x/\x<(n:Int))/\(xs.take k).Nodup) 0 ⟨bI _,s7,s7⟩ (hk:=tc) (body:=?_);rintro k ⟨hk,hin,hnd⟩;refine aK ?_ ?_<;>intro h1
 .refine go ?_;intro _ _ x hx;have hxm:=aV hx;have htk:=fq hx;have hno:¬(0<=x/\x<(n:Int))->∀b:Bool,b=false->(b=true↔bM n xs):=λh b hb=>⟨(λe=>by rw[hb]at e;cases e),λq=>absurd (q.dJ x hxm) h⟩
  refine gH ?_ ?_<;>intro h2
  rotate_left
  .exact ju
  refine go ?_;intro _ _ x2 hx2;rw[hx]at hx2;obtain rfl:x=x2:=Option.some.inj hx2;refine gH ?_ ?_<;>intro h3
  rotate_left
  .exact ju
  obtain⟨m,rfl⟩:=dW (by omega:0<=x);refine go ?_;intro _ _ x3 hx3;rw[hx]at hx3;obtain rfl:(m:Int)=x3:=Option.some.inj hx3;refine go ?_;refine oN (b:=b5) (o:=0+m*1) (cs:=wE n (xs.take k)) (.bool (decide ((m:Int)∈xs.take k))) (anQ s6) ?_;refine aK ?_ ?_<;>intro h4
  .exact hJ
  refine go ?_;intro _ _ x4 hx4;rw[hx]at hx4;obtain rfl:(m:Int)=x4:=Option.some.inj hx4;refine go ?_;refine jN (b:=b5) (o:=0+m*1) (cs:=wE n (xs.take k)) (v:=.bool true) (cs':=wE n (xs.take (k+1))) (by rw[anR s6,htk]) (by rw[aco];omega) ?_;exact ff
 have hke:k=n:=s6
 subst hke;rw[Ag s6]at hin hnd;refine go ?_;exact gQ true ⟨λ_=>⟨MI,hin,hnd⟩,λ_=>rfl⟩
structure avu(n:Nat)(L:List (List Int))(s:List Int)(f:Int):Prop where
 fM:qf n L f
 ps:bM n s
 nd:∀l∈L,l.Nodup
def bD.nodup{k:aT}(h:bD k){i:Nat}{L:ae (ae Int)}(hL:k.lists[i]? =some L):∀l∈L,l.Nodup:=by
 have hm:=aV hL;rw[h.lists]at hm;exact Ub h.bJ (λr hr=>(h.typ.wH r hr).1.2) L hm
structure arM(G:List (List Int))(cl s t:List Int):Prop where
 p:bM cl.length t
 c:∀(i:Nat) x,t[i]? =some x->aU cl (i:Int)=aU cl x
 m:s∈G
def arN{sc st:ah}{s t:ae Int}:fC prog 15 [.agg ⟨[sc,st]⟩] [ay aj sc s,ay aj st t] (λb:Bool=>.bool b) (λb=>b=true->s.length<=40/\t.length<=40):=by
 refine gB 15 λB w0=>?_;refine go ?_;intro b1;refine gH ?_ ?_<;>intro h1
 .exact cJ
 refine go ?_;refine gQ (decide ((t.length:Int)<=40)) (λh=>?_);have h:=jI h;exact⟨s6,s6⟩
def arO{n:Nat}(hn:n<=4096):aY prog (.func 17) [iV (n:Int)] [] [] [] (λv:ah=>v) (λ_=>[]) (λv=>[ay aj v (upTo' n)]) (λ_=>True):=by
 refine gB 17 λB w0=>?_;refine go ?_;intro b0;refine SK aj aD.here ?_;refine dL (λy:Nat×ah=>n - y.1) (λy=>[(4,iV (y.1:Int)),(3,y.2)]) (λy=>[ap aj y.2 (upTo' y.1)]) (λ_=>[]) (λy=>y.1<=n) (0,.slice (some ⟨b0,0,some 0⟩) 0 0) (bI _) (hk:=tc) (body:=?_);rintro⟨i,v⟩ hi;dsimp only at hi⊢;have hil:=kK i;refine aK ?_ ?_<;>intro h1
 .refine go ?_;intro b50;exact fp
 obtain rfl:i=n:=s6
 refine mI (A:=ap aj v (upTo' i)) (fs:=[ay aj v (upTo' i)]) ja (h:=?_);exact sg
def arP{G:ae (ae Int)}{cl s t:ae Int}{vG BA sc st:ah}(hcl:cl.length<=256)(hG:G.length<2^63)(hGs:∀x∈G,x.length<2^63)(hs:s.length<2^63)(ht:t.length<2^63):
 fC prog 18 [.agg ⟨[vG,BA]⟩,.agg ⟨[sc,st]⟩] [ay (aA aj) vG G,ay aj BA cl,ay aj sc s,ay aj st t] (λb:Bool=>.bool b) (λb=>b=true↔arM G cl s t):=by
 refine gB 18 λB w0=>?_;refine gF aj BA cl λacl ccl ecl=>?_;subst ecl;refine gF aj st t λuK ct et=>?_;subst et;refine gF (aA aj) vG G λaG cG eG=>?_;subst eG;refine go ?_;intro b2 b3;refine gP b2 ?_;refine gP b3 ?_;refine gC (arL (xs:=t) (n:=cl.length) s6 ht) λe1 he1=>?_;cases e1 with
 |false=>
  refine go ?_;exact gQ false ⟨(λh=>by cases h),λq=>by have:=he1.2 q.p;cases this⟩
 |true=>
 have hp:=he1.1 rfl;have htl:=hp.len;refine gN cl.length 5 (λj=>j<=cl.length/\∀i',i'<j->∀x,t[i']? =some x->aU cl (i':Int)=aU cl x) ⟨bI _,λi' h=>absurd h (Cc _)⟩ ?_;rintro j ⟨hj,hall⟩;refine aK ?_ ?_<;>intro h3
 .refine go ?_;intro _ _ y hy;have e1:=jF hy;have htx:t[j]? =some t[j]:=bN s6;generalize t[j]=x0 at htx;have hx0:=hp.dJ x0 (aV htx);obtain⟨i,rfl⟩:=dW hx0.1;refine go ?_;intro _ _ x hx;rw[htx]at hx;obtain rfl:(i:Int)=x:=Option.some.inj hx;refine go ?_;intro _ _ z hz;have e2:=jF hz;refine aK ?_ ?_<;>intro h4
  .refine go ?_;exact gQ false ⟨(λh=>by cases h),λq=>absurd (by have:=q.c j _ htx;rw[e1,e2]at this;exact this) h4⟩
  refine go ?_;refine aW (j+1) s6 ⟨s6,λi' hi' x hx'=>?_⟩;by_cases e:i'=j
  .subst e;rw[htx]at hx';cases hx';rw[e1,e2];exact j6.1 h4
  .exact sv
 have iH:j=cl.length:=s6
 subst iH;have hc:∀(i:Nat) x,t[i]? =some x->aU cl (i:Int)=aU cl x:=λi x hx=>hall i (by have:=(bz.1 hx).1;omega) x hx;refine gN G.length 6 (λj=>j<=G.length/\s∉G.take j) ⟨bI _,s7⟩ ?_;rintro j ⟨hj,hno⟩;refine aK ?_ ?_<;>intro h3
 .refine gX (aA aj) (xs:=G) λ_ _ x (vx:ah) hx=>?_;have hxm:=aV hx;refine gC (arK (xs:=x) (ys:=s) (hGs x hxm) hs) λ_ _=>?_;by_cases e:x=s
  .rw[eB e];refine go ?_;exact gQ true ⟨λ_=>⟨hp,hc,e▸hxm⟩,λ_=>rfl⟩
  .rw[dA e];refine go ?_;refine aW (j+1) (by show G.length - (j+1)<G.length - j;omega) ⟨s6,λq=>?_⟩;rw[fq hx]at q;rcases fU.1 q with q|q
   .exact hno q
   .exact e (bR.1 q).symm
 have iH:j=G.length:=s6
 subst iH;rw[dK]at hno;refine go ?_;exact gQ false ⟨(λh=>by cases h),λq=>absurd q.m hno⟩
def arS(n:Int):∃m:Nat,IntKind.u64.wrap n=(m:Int):=⟨(n%18446744073709551616).toNat,by
 show n%18446744073709551616=_;omega⟩
