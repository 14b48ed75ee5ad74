/- Part. -/
import Derived.Test.YtignbinlipkmfaaGreatDoorLibMK
import Derived.Test.YtignbinlipkmfaaGreatDoorLibAAK
set_option linter.all false
set_option maxRecDepth 10000
set_option maxHeartbeats 4000000
namespace Go.Proofs.YtignbinlipkmfaaGreatDoor
open Tryz (prog)
open Go.Ideal Kd Canon
variable{va:ah}{xs:ae Int}
def YU{z:Int}(hl:xs.length<2^63):dL prog 216 [va,iV z] [aj ai va xs] (.bool (decide (z∈xs))):=by
 refine gB 216 λB w0=>?_;refine gN xs.length 5 (λk=>k<=xs.length/\¬z∈xs.take k) ⟨bP _,tt⟩ ?_;rintro k ⟨hk,hno⟩;refine aB ?_ ?_<;>intro h1
 .refine go ?_;intro _ _ x hx;refine aB ?_ ?_<;>intro h2
  .refine aM ?_;rw[eB (by rw[<- h2];exact aS hx)];rfl
  refine go ?_;refine aQ (k+1) tr ⟨tr,?_⟩;rw[cB hx,dY,bK];rintro(h|h)
  .exact hno h
  .exact h2 h.symm
 have hke:k=xs.length:=tr
 subst hke;rw[bM]at hno;refine aM ?_;rw[aY hno];rfl
def sH(xs ys:ae Int):Bool:=decide ((∀x∈xs,x∈ys)/\xs.length=ys.length)
variable{vb:ah}
def LQ{ys:ae Int}(hl:xs.length<2^63)(hl2:ys.length<2^63):dL prog 274 [va,vb] [aj ai va xs,aj ai vb ys] (.bool (sH xs ys)):=by
 refine gB 274 λB w0=>?_;refine gN xs.length 5 (λk=>k<=xs.length/\∀x∈xs.take k,x∈ys) ⟨bP _,tt⟩ ?_;rintro k ⟨hk,hno⟩;refine aB ?_ ?_<;>intro h1
 .refine go ?_;intro _ _ x hx;refine gC (YU (xs:=ys) (z:=x) hl2) λ_ _=>?_;refine go ?_;refine fu rfl (λh2=>?_) (λh2=>?_)
  .refine aM ?_;unfold sH;rw[aY (λq=>h2 (q.1 x (aS hx)))];rfl
  refine go ?_;refine aQ (k+1) tr ⟨tr,?_⟩;rw[cB hx];intro y hy;rcases dY.1 hy with hy|hy
  .exact hno y hy
  .rw[bK.1 hy];exact h2
 have hke:k=xs.length:=tr
 subst hke;rw[bM]at hno;refine aM ?_;unfold sH;refine congrArg Value.bool (pJ.2 ⟨λq=>⟨hno,tr⟩,λq=>by have:=q.2;omega⟩)
def YV{n:Nat}{s l:ae Int}(hs:s.length=n)(hl:nU n l)(hn:n<=1000000)(hll:l.length<=1000000):UF prog 214 [va,vb] [aj ai va s,aj ai vb l] ai (img s l):=by
 refine gB 214 λB w0=>?_;refine go ?_;intro b0;refine JB ai aD.here ?_;refine dX (λy:Nat×ah=>l.length - y.1) (λy=>[(6,iV (y.1:Int)),(5,y.2)]) (λy=>[ap ai y.2 (img s (l.take y.1))]) (λ_=>[]) (λy=>y.1<=l.length) (0,.slice (some ⟨b0,0,some 0⟩) 0 0) (bP _) (hk:=tx) (body:=?_);rintro⟨q,v5⟩ hq;dsimp only at hq⊢;have YW:(img s (l.take q)).length=q:=by rw[GD,iY];omega
 refine aB ?_ ?_<;>intro h2
 .refine go ?_;intro _ _ x hx;have mX:=hl x (aS hx);obtain⟨xn,rfl⟩:=iO mX.1;refine go ?_;intro _ _ z hz;have hzg:=kX hz;have htk:img s (l.take (q+1))=img s (l.take q)++[z]:=by
   unfold img;rw[cB hx,fG,sN,hzg]
  refine go ?_;intro YX;refine go ?_;refine fI (xs:=img s (l.take q)) ai z () tr (next:=λad=>?_);rw[<- htk];refine go ?_;exact aQ (q+1,.slice ad ((img s (l.take q)).length+1) ((img s (l.take q)).length+1)) (by show l.length - (q+1)<l.length - q;omega) (by show q+1<=_;omega)
 have hqe:q=l.length:=tr
 subst hqe;rw[bM]at YW⊢;refine tu (A:=ap ai v5 (img s l)) (fs:=[aj ai v5 (img s l)]) gI (h:=?_);refine go ?_;exact gQ v5 trivial
def al7(hl:xs.length<=1000000):UF prog 215 [va] [aj ai va xs] ai xs.reverse:=by
 refine gB 215 λB w0=>?_;refine go ?_;intro b0;refine JB ai aD.here ?_;refine go ?_;refine dX (λy:Nat×ah=>xs.length - y.1) (λy=>[(4,iV ((xs.length:Int) - 1 - (y.1:Int))),(3,y.2)]) (λy=>[ap ai y.2 (xs.reverse.take y.1)]) (λ_=>[]) (λy=>y.1<=xs.length) (0,.slice (some ⟨b0,0,some 0⟩) 0 0) (bP _) (hl:=CD) (hk:=tx) (body:=?_);rintro⟨q,v5⟩ hq;dsimp only at hq⊢;have YW:(xs.reverse.take q).length=q:=by rw[iY,Ia];omega
 refine aB ?_ ?_<;>intro h2
 .have hj:((xs.length:Int) - 1 - (q:Int))=((xs.length - 1 - q:Nat):Int):=by omega
  have hlt:xs.length - 1 - q<xs.length:=tr
  rw[hj];generalize hjj:xs.length - 1 - q=j at hj hlt⊢;refine go ?_;intro _ _ x hx;have htk:xs.reverse.take (q+1)=xs.reverse.take q++[x]:=cB (by rw[List.getElem?_reverse tr,hjj];exact hx);refine go ?_;intro YX;refine go ?_;refine fI (xs:=xs.reverse.take q) ai x () tr (next:=λad=>?_);rw[<- htk];refine go ?_;exact aQ (q+1,.slice ad ((xs.reverse.take q).length+1) ((xs.reverse.take q).length+1)) (by show xs.length - (q+1)<xs.length - q;omega) (by show q+1<=_;omega) (hl:=by dsimp only;rw[show(xs.length:Int) - 1 - ((q+1:Nat):Int)=(j:Int) - 1 by omega];repeat (first|exact trivial|refine⟨rfl,?_⟩))
 have hqe:q=xs.length:=tr
 subst hqe;rw[show xs.reverse.take xs.length=xs.reverse by rw[vM (by rw[Ia];exact bQ _)]];refine tu (A:=ap ai v5 xs.reverse) (fs:=[aj ai v5 xs.reverse]) gI (h:=?_);refine go ?_;exact gQ v5 trivial
end Go.Proofs.YtignbinlipkmfaaGreatDoor
namespace Go.Proofs.YtignbinlipkmfaaGreatDoor
open Tryz (prog)
open Go.Ideal Kd Canon
section
variable {m:Nat} {k:bN} {s t:ae Int} {vh vs vr vc vu gh gc vn vl:ah}
variable{vt:ah}
def al8(hm:k.decl.symbols.length=m)(ht:bW m t)(hl:m<=4096):dL prog 128 [.agg ⟨mM k vh vs vr vc vu gh gc vn vl⟩,vt] ([aj ai vt t,aj eT vs k.decl.symbols]) (.bool (kY (kQ k) t)):=by
 have htl:=ht.len;refine gB 128 λB w0=>?_;refine gF ai vt t λpY ct et=>?_;subst et;refine gF eT vs k.decl.symbols λpg cs1 es1=>?_;subst es1;refine go ?_;intro b2;refine gP b2 ?_;refine gN t.length 5 (λj=>j<=t.length/\∀i',i'<j->∀x,t[i']? =some x->aT (kQ k) (i':Int)=aT (kQ k) x) ⟨bP _,λi' h=>absurd h (x9 _)⟩ ?_;rintro j ⟨hj,hall⟩;refine aB ?_ ?_<;>intro h1
 .refine gX eT (xs:=k.decl.symbols) (k:=j) λ_ _ y (_:Unit) hy=>?_;have e1:=Lx hy;refine go ?_;intro _ _ x hx;have mX:=ht.dQ x (aS hx);obtain⟨i,rfl⟩:=iO mX.1;refine gX eT (xs:=k.decl.symbols) (k:=i) λ_ _ z (_:Unit) hz=>?_;have e2:=Lx hz;refine aB ?_ ?_<;>intro h2
  .exact eJ
  exact fk
 exact hU
def al9{n:Nat}(hN:tO n k.aK)(hs:bW n s)(hl:n<=1000000)(hll:∀l∈k.aK,l.length<=1000000):dL prog 129 [.agg ⟨mM k vh vs vr vc vu gh gc vn vl⟩,vt] ([aj ai vt s,aj (aA ai) vn k.aK]) (.bool (j5 k.aK s)):=by
 have hsl:=hs.len;have hnl:=hN.1;refine gB 129 λB w0=>?_;refine gF ai vt s λQK QL esc=>?_;subst esc;refine gF (aA ai) vn k.aK λan cn en=>?_;subst en;refine go ?_;intro b2;refine gP b2 ?_;refine gN k.aK.length 5 (λj=>j<=k.aK.length/\∀i',i'<j->∀l,k.aK[i']? =some l->∀b∈l,aT s b∈k.aK.getD (aT s (i':Int)).toNat []) ⟨bP _,λi' h=>absurd h (x9 _)⟩ ?_;rintro j ⟨hj,hall⟩;refine aB ?_ ?_<;>intro h1
 .obtain⟨l,hl2⟩:∃l,k.aK[j]? =some l:=⟨_,bX tr⟩
  have hlm:=aS hl2;have hlr:=hN.2 l hlm;have hlen:=hll l hlm;refine gN l.length 6 (λi=>i<=l.length/\∀b∈l.take i,aT s b∈k.aK.getD (aT s (j:Int)).toNat []) ⟨bP _,tt⟩ ?_;rintro i ⟨hi,Cs⟩;refine gX (aA ai) (xs:=k.aK) (k:=j) λ_ _ lx (Cq:ah) hlx=>?_;rw[hl2]at hlx;obtain rfl:l=lx:=Option.some.inj hlx;refine aB ?_ ?_<;>intro h2
  .refine go ?_;intro _ _ u hu;have QM:=kX hu;have hur:=hs.dQ u (aS hu);obtain⟨un,rfl⟩:=iO hur.1;refine gX (aA ai) (xs:=k.aK) (k:=un) λ_ _ l2 (QN:ah) hl3=>?_;have akD:=hll l2 (aS hl3);refine gX (aA ai) (xs:=k.aK) (k:=j) λ_ _ ly (YS:ah) YY=>?_;rw[hl2]at YY;obtain rfl:l=ly:=Option.some.inj YY;refine go ?_;intro _ _ b hb;have hbr:=hlr b (aS hb);obtain⟨bn,rfl⟩:=iO hbr.1;refine go ?_;intro _ _ z hz;have hzg:=kX hz;refine gC (YU (xs:=l2) (z:=z) tr) λ_ _=>?_;have hd:k.aK.getD (aT s (j:Int)).toNat []=l2:=by rw[QM,fQ];exact iC hl3
   refine go ?_;refine fu rfl (λh3=>?_) (λh3=>?_)
   .exact ee
   refine go ?_;refine aQ (i+1) tr ⟨tr,?_⟩;rw[cB hb];intro y hy;rcases dY.1 hy with hy|hy
   .exact Cs y hy
   .rw[bK.1 hy,hd,hzg];exact h3
  have hie:i=l.length:=tr
  subst hie;rw[bM]at Cs;refine go ?_;refine aQ (j+1) tr ⟨tr,λi' hi' l' hl'=>?_⟩;exact ox
 exact fp
end
def pE(L:ae (ae Int))(s:ae Int)(f:Int)(l:ae Int)(j:Nat):Int:=
 if jA f then(if sH (L.getD (aT s (j:Int)).toNat []) (img s l)then aT s (j:Int)else -1)else oK (λx=>sH x (img s l)) L
def ama{n:Nat}{k:bN}{s:ae Int}{r:bE}{L:ae (ae Int)}{l:ae Int}{f j:Nat}{vh vs vr vc vu gh gc vn vl vt:ah}(hf:r.family=(f:Int))(H:AB n k s r L)(hl:L[j]? =some l):
 dL prog 213 [.agg ⟨mM k vh vs vr vc vu gh gc vn vl⟩,vt,iV (f:Int),iV (j:Int)] [aj ai vt s,aj (aA (aA ai)) vl k.lists] (iV (pE L s (f:Int) l j)):=by
 have hsl:=H.ps.len;have hn1:=H.n1;have hll:=H.len;have qU:=H.lens;have H':=H;have AC:k.lists[f]? =some L:=C0
 have hfl:=(bC.1 AC).1;have hjl:=(bC.1 hl).1;have hlr:=H.jq.dQ l (aS hl);have hlen:=qU l (aS hl);have hil:(img s l).length=l.length:=GD s l;obtain⟨rn,ro,rk,rf,di,dm,Lu,Lv,iK,iL,iM,iN⟩:=r;dsimp only at hf;subst hf;refine gB 213 λB w0=>?_;refine gF ai vt s λQK QL esc=>?_;subst esc;refine go ?_;intro b4;refine gP b4 ?_;refine gX (aA (aA ai)) (xs:=k.lists) (k:=f) λ_ _ L2 (vL:ah) hL2=>?_;rw[AC]at hL2;obtain rfl:L=L2:=Option.some.inj hL2;refine gF (aA ai) vL L λaL cL eL=>?_;subst eL;refine gX (aA ai) (xs:=L) (k:=j) λ_ _ l2 (Cq:ah) hl2=>?_;rw[hl]at hl2;obtain rfl:l=l2:=Option.some.inj hl2;refine gC (YV (s:=s) (l:=l) hsl hlr hn1 hlen) λvi _=>?_;refine gH ?_ ?_<;>intro c0
 rotate_left
 .have hjs:j<s.length:=by
   have:=H.jq.len x6;omega
  have hby:jA (f:Int)=true:=x6
  exact bp
 refine gH ?_ ?_<;>intro c4
 rotate_left
 .have hjs:j<s.length:=by
   have:=H.jq.len x7;omega
  have hby:jA (f:Int)=true:=x7
  exact bp
 refine aB ?_ ?_<;>intro c5
 .have hjs:j<s.length:=by
   have:=H.jq.len ya;omega
  have hby:jA (f:Int)=true:=ya
  exact bp
 have hby:¬jA (f:Int)=true:=by unfold jA;rw[qZ,qZ,lu,lu,lu];omega
 have hr:pE L s (f:Int) l j=oK (λx=>sH x (img s l)) L:=by unfold pE;rw[if_neg hby]
 refine gN L.length 11 (λq=>q<=L.length/\(L.take q).any (λx=>sH x (img s l))=false) ⟨bP _,tt⟩ ?_;rintro q ⟨hq,hno⟩;refine aB ?_ ?_<;>intro h1
 .refine gX (aA ai) (xs:=L) λ_ _ x (vx:ah) hx=>?_;have hxl:=qU x (aS hx);refine gC (LQ (xs:=x) (ys:=img s l) tr (by rw[hil];omega)) λ_ _=>?_;refine go ?_;refine jS rfl (λh2=>?_) (λh2=>?_)
  .refine aM ?_;rw[hr,X0 hno hx h2];rfl
  .refine go ?_;refine aQ (q+1) tr ⟨tr,?_⟩;rw[cB hx,List.any_append,hno];simpa using h2
 have hke:q=L.length:=tr
 subst hke;rw[bM]at hno;refine aM ?_;rw[hr,Qw hno];rfl
variable{xs ys:ae Int}{va vb:ah}
def amb(hl:xs.length<2^63)(hl2:ys.length<2^63):fC prog 56 [va,vb] [aj ai va xs,aj ai vb ys] (λo:Int=>iV o) (λo=>o=0↔xs=ys):=by
 refine gB 56 λB w0=>?_;refine gF ai va xs λaa ca ea=>?_;subst ea;refine gF ai vb ys λab cb eb=>?_;subst eb;refine gN xs.length 5 (λk=>k<=xs.length/\k<=ys.length/\xs.take k=ys.take k) ⟨bP _,bP _,tt⟩ ?_;rintro k ⟨hk,hk2,hno⟩;refine gH ?_ ?_<;>intro h1
 .have hke:k=xs.length:=by omega
  subst hke;rw[bM]at hno;refine go ?_;have key:xs=ys↔xs.length=ys.length:=⟨λe=>by rw[e],λe=>by rw[hno,e,bM]⟩
  exact c7
 refine aB ?_ ?_<;>intro h2
 .refine go ?_;intro _ _ x hx;refine go ?_;intro _ _ y hy;have hne:x≠y->¬xs=ys:=λh e=>by subst e;rw[hx]at hy;exact h (Option.some.inj hy)
  refine aB ?_ ?_<;>intro h3
  .refine go ?_;exact gQ (-1) ⟨λh=>by omega,λh=>absurd h (hne tr)⟩
  refine go ?_;intro _ _ x2 hx2;rw[hx]at hx2;obtain rfl:x=x2:=Option.some.inj hx2;refine go ?_;intro _ _ y2 hy2;rw[hy]at hy2;obtain rfl:y=y2:=Option.some.inj hy2;refine aB ?_ ?_<;>intro h4
  .refine go ?_;exact gQ 1 ⟨λh=>by omega,λh=>absurd h (hne tr)⟩
  refine go ?_;refine aQ (k+1) tr ⟨tr,tr,?_⟩;rw[cB hx,cB hy,hno,show x=y by omega]
 have hke:k=ys.length:=tr
 subst hke;rw[bM]at hno;refine go ?_;have key:xs=ys↔xs.length=ys.length:=⟨λe=>by rw[e],λe=>by rw[<- hno,<- e,bM]⟩
 exact c7
def Q9(hl:xs.length<2^63)(hl2:ys.length<2^63):dL prog 44 [va,vb] [aj ai va xs,aj ai vb ys] (.bool (decide (xs=ys))):=by
 refine gB 44 λB w0=>?_;refine gC (amb (xs:=xs) (ys:=ys) hl hl2) λo ho=>?_;refine aM ?_;exact congrArg Value.bool (pJ.2 ho)
def wR(L:ae (ae Int))(s:ae Int)(f:Int)(ord l8:Bool)(l:ae Int)(j:Nat):Bool:=
 decide (0<=pE L s f l j)&&(!ord||(decide (L.getD (pE L s f l j).toNat []=img s l)||(l8&&decide (L.getD (pE L s f l j).toNat []=(img s l).reverse))))
def vz(L:ae (ae Int))(s:ae Int)(f:Int)(ord l8:Bool):Bool:=L.zipIdx.all λx=>wR L s f ord l8 x.1 x.2
variable{L:ae (ae Int)}{s l:ae Int}{ord l8:Bool}{j:Nat}
def Ra{f:Int}(hl:L[j]? =some l)(h:wR L s f ord l8 l j=false):vz L s f ord l8=false:=by
 cases e:vz L s f ord l8 with
 |false=>rfl
 |true=>
  unfold vz at e;exact pN
variable{n:Nat}{k:bN}{r:bE}
def amc(H:AB n k s r L)(hl:L[j]? =some l)(h:0<=pE L s r.family l j):∃(i:Nat) (l':ae Int),pE L s r.family l j=(i:Int)/\L[i]? =some l':=by
 obtain⟨i,hi⟩:=iO h;have hjl:=(bC.1 hl).1;refine⟨i,L[i]'?_,hi,bX _⟩;unfold pE at hi;split at hi
 .rename_i hb;have hLn:=H.jq.len hb;split at hi
  .have:=H.ps.at_ (c:=(j:Int)) tr tr;omega
  .omega
 .unfold oK at hi;split at hi
  .rename_i q hq;rw[aaV]at hq;obtain⟨h1,_⟩:=hq;omega
  .omega
def amd{vh vs vr vc vu gh gc vn vl vt v1 v2:ah}(H:AB n k s r L):
 dL prog 127 [.agg ⟨mM k vh vs vr vc vu gh gc vn vl⟩,vt,.agg ⟨kL r v1 v2⟩,.bool ord,.bool l8] [aj ai vt s,aj (aA (aA ai)) vl k.lists] (.bool (vz L s r.family ord l8)):=by
 have hsl:=H.ps.len;have hn1:=H.n1;have hll:=H.len;have qU:=H.lens;have hf0:0<=r.family:=H.f0;obtain⟨f,hf⟩:=iO hf0;have AC:k.lists[f]? =some L:=C0
 have hfl:=(bC.1 AC).1;have YZ:=λ(j:Nat) (l:ae Int) (hl:L[j]? =some l)=>amc H hl;have him:=λ(vt:ah) (j:Nat) (l:ae Int) (hl:L[j]? =some l)=>ama (vh:=vh) (vs:=vs) (vr:=vr) (vc:=vc) (vu:=vu) (gh:=gh) (gc:=gc) (vn:=vn) (vl:=vl) (vt:=vt) hf H hl;have Y0:=H.jq;clear H;obtain⟨rn,ro,rk,rf,di,dm,Lu,Lv,iK,iL,iM,iN⟩:=r;dsimp only at hf YZ Y0⊢;subst hf;refine gB 127 λB w0=>?_;refine go ?_;intro b5 b7;refine gP b5 ?_;refine gP b7 ?_;refine gX (aA (aA ai)) (xs:=k.lists) (k:=f) λ_ _ L2 (vL:ah) hL2=>?_;rw[AC]at hL2;obtain rfl:L=L2:=Option.some.inj hL2;refine gN L.length 12 (λj=>j<=L.length/\∀i',i'<j->∀x,L[i']? =some x->wR L s (f:Int) ord l8 x i'=true) ⟨bP _,λi' h=>absurd h (x9 _)⟩ ?_;rintro j ⟨hj,hall⟩;refine aB ?_ ?_<;>intro h1
 rotate_left
 .have iJ:j=L.length:=by omega
  subst iJ;refine aM ?_;have:vz L s (f:Int) ord l8=true:=by
   unfold vz;rw[mJ];exact λi x hx=>hall i (bC.1 hx).1 x hx
  rw[this];rfl
 obtain⟨l,hl⟩:∃l,L[j]? =some l:=⟨_,bX tr⟩
 have hlr:=Y0.dQ l (aS hl);have hlen:=qU l (aS hl);have hil:(img s l).length=l.length:=GD s l;refine gC (him vt j l hl) λ_ _=>?_;have hneg:¬0<=pE L s (f:Int) l j->vz L s (f:Int) ord l8=false:=λh=>Ra hl (by unfold wR;rw[aY h];rfl);refine aB ?_ ?_<;>intro h2
 .refine aM ?_;rw[hneg tr];rfl
 obtain⟨i,l',Ag,hl'⟩:=YZ j l hl tr;have qV:=qU l' (aS hl');have apk:=(bC.1 hl').1;rw[Ag];refine gX (aA ai) (xs:=L) (k:=j) λ_ _ l2 (Cq:ah) hl2=>?_;rw[hl]at hl2;obtain rfl:l=l2:=Option.some.inj hl2;refine gC (YV (s:=s) (l:=l) hsl hlr hn1 hlen) λvi _=>?_;cases ord with
 |false=>
  refine go ?_;refine go ?_;exact aQ (j+1) A5 ⟨tr,λi' hi' x hx=>(by
   by_cases e:i'=j
   .subst e;rw[hl]at hx;cases hx;unfold wR;rw[Ag,fQ,iC hl'];simp[]
   .exact hall i' tr x hx)⟩
 |true=>
 refine gX (aA ai) (xs:=L) (k:=i) λ_ _ l3 (QN:ah) hl3=>?_;rw[hl']at hl3;obtain rfl:l'=l3:=Option.some.inj hl3;refine gC (Q9 (xs:=l') (ys:=img s l) tr tr) λ_ _=>?_;refine gH ?_ ?_<;>intro hs
 .refine go ?_;refine go ?_;exact aQ (j+1) A5 ⟨tr,λi' hi' x hx=>(by
   by_cases e:i'=j
   .subst e;rw[hl]at hx;cases hx;unfold wR;rw[Ag,fQ,iC hl'];simp[hs]
   .exact hall i' tr x hx)⟩
 cases l8 with
 |false=>
  refine aM ?_;rw[Ra hl (by unfold wR;rw[Ag,fQ,iC hl',aY hs];simp)];rfl
 |true=>
 refine gX (aA ai) (xs:=L) (k:=i) λ_ _ l4 (YS:ah) hl4=>?_;rw[hl']at hl4;obtain rfl:l'=l4:=Option.some.inj hl4;refine gC (al7 (xs:=img s l) tr) λvb _=>?_;refine gC (Q9 (xs:=l') (ys:=(img s l).reverse) tr (by rw[Ia];omega)) λ_ _=>?_;refine go ?_;refine fu rfl (λh5=>?_) (λh5=>?_)
 .refine aM ?_;rw[Ra hl (by unfold wR;rw[Ag,fQ,iC hl',aY hs,aY h5];simp)];rfl
 refine go ?_;refine go ?_;exact aQ (j+1) A5 ⟨tr,λi' hi' x hx=>(by
  by_cases e:i'=j
  .subst e;rw[hl]at hx;cases hx;unfold wR;rw[Ag,fQ,iC hl'];simp[h5]
  .exact hall i' tr x hx)⟩
end Go.Proofs.YtignbinlipkmfaaGreatDoor
namespace Go.Proofs.YtignbinlipkmfaaGreatDoor
open Tryz (prog)
open Go.Ideal Kd Canon
variable{n:Nat}
def Rb{v:ah}{xs:ae Int}(hn:n<=1000000)(hl:xs.length<2^63):fC prog 49 [v,iV (n:Int)] [aj ai v xs] (λb:Bool=>.bool b) (λb=>b=true↔bW n xs):=by
 refine gB 49 λB w0=>?_;refine gF ai v xs λav cv ev=>?_;subst ev;refine aB ?_ ?_<;>intro h1
 .refine go ?_;exact gQ false ⟨(λh=>by cases h),λq=>by have:=q.len;omega⟩
 have lU:xs.length=n:=tr
 refine go ?_;refine F6 n ⟨tr,tr,tr⟩ λb5=>?_;rw[aiV];refine go ?_;refine dX (λk=>n - k) (λk:Nat=>[(6,iV (k:Int))]) (λk=>[pt b5 (.cells (tX n (xs.take k)))]) (λ_=>[]) (λk=>k<=n/\(∀x∈xs.take k,0<=x/\x<(n:Int))/\(xs.take k).Nodup) 0 ⟨bP _,tt,tt⟩ (hk:=tx) (body:=?_);rintro k ⟨hk,hin,hnd⟩;refine aB ?_ ?_<;>intro h1
 .refine go ?_;intro _ _ x hx;have hxm:=aS hx;have htk:=cB hx;have hno:¬(0<=x/\x<(n:Int))->∀b:Bool,b=false->(b=true↔bW n xs):=λh b hb=>⟨(λe=>by rw[hb]at e;cases e),λq=>absurd (q.dQ x hxm) h⟩
  refine gH ?_ ?_<;>intro h2
  rotate_left
  .exact jn
  refine go ?_;intro _ _ x2 hx2;rw[hx]at hx2;obtain rfl:x=x2:=Option.some.inj hx2;refine gH ?_ ?_<;>intro h3
  rotate_left
  .exact jn
  obtain⟨m,rfl⟩:=iO (by omega:0<=x);refine go ?_;intro _ _ x3 hx3;rw[hx]at hx3;obtain rfl:(m:Int)=x3:=Option.some.inj hx3;refine go ?_;refine tH (b:=b5) (o:=0+m*1) (cs:=tX n (xs.take k)) (.bool (decide ((m:Int)∈xs.take k))) (aiT tr) ?_;refine aB ?_ ?_<;>intro h4
  .exact gO
  refine go ?_;intro _ _ x4 hx4;rw[hx]at hx4;obtain rfl:(m:Int)=x4:=Option.some.inj hx4;refine go ?_;refine qJ (b:=b5) (o:=0+m*1) (cs:=tX n (xs.take k)) (v:=.bool true) (cs':=tX n (xs.take (k+1))) (by rw[aiU tr,htk]) (by rw[XG];omega) ?_;exact ew
 have hke:k=n:=tr
 subst hke;rw[vM tr]at hin hnd;refine go ?_;exact gQ true ⟨λ_=>⟨lU,hin,hnd⟩,λ_=>rfl⟩
def Y1(t:ae Int)(n o:Nat):Prop:=∀b:Nat,o.testBit b=true↔∃j:Nat,t[j]? =some (b:Int)/\n.testBit j=true
def toNat_one{b:Bool}:((b.toNat:Nat):Int)=1↔b=true:=by cases b<;>decide
variable{m:Nat}{t:ae Int}
def Y2{vt:ah}(ht:bW m t)(hm:m<=16)(hn:n<2^63):
 fC prog 126 [vt,iV (n:Int)] [aj ai vt t] (λo:Nat=>iV (o:Int)) (Y1 t n):=by
 have htl:=ht.len;refine gB 126 λB w0=>?_;refine gL (λy:Nat×Nat=>t.length - y.1) (λy=>[(6,iV (y.1:Int)),(5,iV (y.2:Int))]) (λy=>y.1<=t.length/\y.2<2^16/\∀b:Nat,y.2.testBit b=true↔∃j:Nat,j<y.1/\t[j]? =some (b:Int)/\n.testBit j=true) (0,0) ⟨bP _,by dsimp only;omega,λb=>by simp⟩ ?_;rintro⟨k,o⟩ ⟨hk,ho,hb⟩;dsimp only at hk ho hb⊢;refine aB ?_ ?_<;>intro h1
 .refine go ?_;refine(fo rfl rfl (F3 (a:=n) (b:=k) rfl rfl tr)).h ?_;refine(fo rfl rfl (F4 (a:=n>>>k) (b:=1) rfl rfl (HZ (MH _ _) hn) tr)).h ?_;rw[G6 n k];refine go ?_;have htx:t[k]? =some t[k]:=bX tr;generalize t[k]=x0 at htx;have hx0:=ht.dQ x0 (aS htx);obtain⟨i0,rfl⟩:=iO hx0.1;refine jC rfl ?_ ?_<;>intro h2
  .have h2:=toNat_one.1 h2;refine go ?_;intro _ _ x hx;rw[htx]at hx;obtain rfl:(i0:Int)=x:=Option.some.inj hx;have hsh:1<<<i0<2^16:=by
    rw[Mt,zy];exact kB
   refine go ?_;refine(fo rfl rfl (OJ (a:=1) (b:=i0) rfl rfl tr tr)).h ?_;refine(fo rfl rfl (OL (a:=o) (b:=1<<<i0) rfl rfl tr tr)).h ?_;refine go ?_;refine aQ (k+1,o|||1<<<i0) C1 ⟨by dsimp only;omega,Mv (n:=16) ho hsh,λb=>?_⟩;dsimp only;rw[Nat.testBit_or,Nat.one_shiftLeft,Nat.testBit_two_pow,qZ,lu,hb b];constructor
   .rintro(⟨j,q1,q2⟩|q)
    .exact⟨j,tr,q2⟩
    .subst q;exact⟨k,tr,htx,h2⟩
   .rintro⟨j,q1,q2,q3⟩;by_cases e:j=k
    .subst e;rw[htx]at q2;have:=Option.some.inj q2;right;omega
    .exact .inl ⟨j,tr,q2,q3⟩
  .have h2:¬n.testBit k=true:=λh=>h2 (toNat_one.2 h);refine go ?_;refine aQ (k+1,o) C1 ⟨by dsimp only;omega,ho,λb=>?_⟩;dsimp only;rw[hb b];constructor
   .rintro⟨j,q1,q2⟩;exact⟨j,tr,q2⟩
   .rintro⟨j,q1,q2,q3⟩;by_cases e:j=k
    .subst e;exact absurd q3 h2
    .exact⟨j,tr,q2,q3⟩
 have hke:k=t.length:=tr
 subst hke;refine go ?_;refine gQ o (λb=>?_);rw[hb b];constructor
 .rintro⟨j,_,q⟩;exact⟨j,q⟩
 .rintro⟨j,q1,q2⟩;exact⟨j,(bC.1 q1).1,q1,q2⟩
def Y3{o:Nat}(ht:bW m t)(hn:n<2^m)(ho:Y1 t n o):o=n↔∀(i:Nat) x,t[i]? =some x->n.testBit i=n.testBit x.toNat:=by
 constructor
 .intro e i x hx;subst e;have mX:=ht.dQ x (aS hx);obtain⟨b,rfl⟩:=iO mX.1;rw[fQ,um,ho b];constructor
  .intro h;exact⟨i,hx,h⟩
  .rintro⟨j,h1,h2⟩;have:=BX ht.nd hx h1;subst this;exact h2
 .intro h;apply Nat.eq_of_testBit_eq;intro b;rw[um,ho b];constructor
  .rintro⟨j,h1,h2⟩;have:=h j _ h1;rw[fQ]at this;rw[<- this];exact h2
  .intro hb;have IG:b<m:=by
    apply Classical.byContradiction;intro hge;rw[Nat.testBit_lt_two_pow (mY hn (Nat.pow_le_pow_right tr tr))]at hb;cases hb
   obtain⟨j,hj⟩:=jM (ht.mem (y:=(b:Int)) tr tr);refine⟨j,hj,?_⟩;have:=h j _ hj;rw[fQ]at this;rw[this];exact hb
def Rc{a b:Nat}:l6 a b t=true↔(∀(i:Nat) x,t[i]? =some x->a.testBit i=a.testBit x.toNat)/\∀(i:Nat) x,t[i]? =some x->b.testBit i=b.testBit x.toNat:=by
 unfold l6;rw[mJ];constructor
 .intro h;refine⟨λi x hx=>?_,λi x hx=>?_⟩<;>(have:=h i x hx;simp only[dI,lu]at this)
  .exact this.1
  .exact this.2
 .rintro⟨h1,h2⟩ i x hx;simp only[dI,lu];exact⟨h1 i x hx,h2 i x hx⟩
def Y4{a b:ae Int}(ha:a.Nodup)(hb:b.Nodup):sH a b=jw a b:=by
 rw[um,Ao];unfold sH;rw[lu];constructor
 .rintro⟨h1,h2⟩;refine(List.perm_ext_iff_of_nodup ha hb).2 λx=>⟨h1 x,λhx=>Classical.byContradiction λhn=>?_⟩
  have:=Gz (l:=x::a) (m:=b) (xY.2 ⟨hn,ha⟩) (λy hy=>by
   rcases bT.1 hy with e|e
   .rw[e];exact hx
   .exact h1 y e)
  rw[oh]at this;omega
 .intro h;exact⟨λx hx=>h.mem_iff.1 hx,h.length_eq⟩
def any_congr{α:Type}{p q:α->Bool}:∀{L:ae α},(∀x∈L,p x=q x)->L.findIdx? p=L.findIdx? q
 |[],_=>rfl
 |a::L,h=>by
  rw[List.findIdx?_cons,List.findIdx?_cons,h a (fT ..),any_congr λx hx=>h x (fO _ hx)]
structure Eu(n:Nat)(L:List (List Int))(s:List Int)(f:Int):Prop where
 jq:qd n L f
 ps:bW n s
 nd:∀l∈L,l.Nodup
variable{L:ae (ae Int)}{s:ae Int}{f:Int}
def ame{l:ae Int}{j:Nat}(H:Eu n L s f)(hl:L[j]? =some l):
 pE L s f l j=if 0<=jv L s f (j:Int)/\jw (L.getD (jv L s f (j:Int)).toNat []) (img s l)=true then jv L s f (j:Int)else -1:=by
 have hlm:=aS hl;have hjl:=(bC.1 hl).1;have hin:=WN H.ps (H.jq.dQ l hlm) (H.nd l hlm);unfold pE jv;by_cases hb:jA f=true
 .have hLn:=H.jq.len hb;have hr:=H.ps.at_ (c:=(j:Int)) tr tr;rw[if_pos hb,if_pos hb];have hm:L.getD (aT s (j:Int)).toNat []∈L:=by
   have:L[(aT s (j:Int)).toNat]? =some L[(aT s (j:Int)).toNat]:=bX tr;rw[iC this];exact aS this
  rw[Y4 (H.nd _ hm) hin];by_cases e:jw (L.getD (aT s (j:Int)).toNat []) (img s l)=true
  .rw[if_pos e,if_pos ⟨hr.1,e⟩]
  .rw[if_neg e,if_neg (λq=>e q.2)]
 .rw[if_neg hb,if_neg hb,fQ,iC hl];have hi:oK (λx=>sH x (img s l)) L=qM L (img s l):=by
   rw[<- Qx];unfold oK;rw[any_congr (p:=λx=>sH x (img s l)) (q:=λx=>decide (bR x=bR (img s l))) λx hx=>Y4 (H.nd x hx) hin]
  rw[hi];by_cases e:0<=qM L (img s l)
  .obtain⟨l',h1,h2⟩:=KW e;rw[iC h1,if_pos ⟨e,Ao.2 h2⟩]
  .rw[if_neg (λq=>e q.1)];unfold qM at e⊢;split at e
   .omega
   .rfl
def Re(H:Eu n L s f)(ord l8:Bool)(eq:ae Int->ae Int->Bool)
 (he:∀a b,jw a b=true->eq a b=(!ord||(decide (a=b)||(l8&&decide (a=b.reverse))))):vz L s f ord l8=jl L s f eq:=by
 rw[um];unfold vz jl;rw[mJ,mJ];have key:∀(j:Nat) l,L[j]? =some l->wR L s f ord l8 l j=nV L s f eq l j:=λj l hl=>by
  unfold wR nV;rw[ame H hl];by_cases h1:0<=jv L s f (j:Int)
  .by_cases h2:jw (L.getD (jv L s f (j:Int)).toNat []) (img s l)=true
   .rw[if_pos ⟨h1,h2⟩,h2,he _ _ h2,Mk]
   .rw[if_neg (λq=>h2 q.2)];have h2:jw (L.getD (jv L s f (j:Int)).toNat []) (img s l)=false:=by simpa using h2
    rw[h2,MB,Bool.and_false];rfl
  .rw[if_neg (λq=>h1 q.1),aY h1,MB];rfl
 constructor
 .intro h j l hl;exact(key j l hl)▸h j l hl
 .intro h j l hl;exact(key j l hl).symm▸h j l hl
def Y5(H:Eu n L s f)(l8:Bool):vz L s f false l8=jl L s f jw:=
 Re H false l8 jw λa b h=>by rw[h];rfl
def amf(H:Eu n L s f):vz L s f true false=jl L s f rX:=
 Re H true false rX λa b h=>by unfold rX;simp
def amg(H:Eu n L s f):vz L s f true true=jl L s f qN:=
 Re H true true qN λa b h=>by unfold qN;simp
def eY.nodup{k:bN}(h:eY k){i:Nat}{L:ae (ae Int)}(hL:k.lists[i]? =some L):∀l∈L,l.Nodup:=by
 have hm:=aS hL;rw[h.lists]at hm;exact ahm h.cO (λr hr=>(h.typ.Av r hr).1.2) L hm
end Go.Proofs.YtignbinlipkmfaaGreatDoor
namespace Go.Proofs.YtignbinlipkmfaaGreatDoor
open Tryz (prog)
open Go.Ideal Kd Canon
variable{k:bN}{s t:ae Int}{vh vs vr vc vu gh gc vn vl sc st:ah}
def amh{r:bE}{v1 v2:ah}(hK:eY k)(hr:r∈k.decl.rules)(H:QR k s t r):
 dL prog 81 [.agg ⟨mM k vh vs vr vc vu gh gc vn vl⟩,.agg ⟨[sc,st]⟩,.agg ⟨kL r v1 v2⟩] (En k s t vs vn vl sc st) (.bool (keepR k s t r)):=by
 have hL:=H.LC;have hm:=H.m1;have hn:=H.n1;have hkd:=H.kind;obtain⟨sn,hs1,hs2⟩:=(hK.rf hr).s1;obtain⟨on,ho1,ho2⟩:=(hK.rf hr).s2;have hsb:=H.st;have Y6:=H.ot;have hD:Eu k.grid.cells.length (k.lists.getD r.family.toNat []) s r.family:=⟨hL.jq,H.ps,hK.nodup hL.hL⟩
 have Hg:=λ(ord l8:Bool)=>amd (ord:=ord) (l8:=l8) (vh:=vh) (vs:=vs) (vr:=vr) (vc:=vc) (vu:=vu) (gh:=gh) (gc:=gc) (vn:=vn) (vl:=vl) (vt:=sc) (v1:=v1) (v2:=v2) hL;have hval:=al8 (vh:=vh) (vs:=vs) (vr:=vr) (vc:=vc) (vu:=vu) (gh:=gh) (gc:=gc) (vn:=vn) (vl:=vl) (vt:=st) (k:=k) (t:=t) rfl H.pt tr;have Y7:=al9 (vh:=vh) (vs:=vs) (vr:=vr) (vc:=vc) (vu:=vu) (gh:=gh) (gc:=gc) (vn:=vn) (vl:=vl) (vt:=sc) (k:=k) (s:=s) H.aK H.ps tr H.Yl;have hkeep:keepR k s t r=(l6 sn on t&&kR k s t r):=by unfold keepR;rw[hs1,ho1,fQ,fQ]
 rw[hkeep];have hpt:=H.pt;rw[hs1,fQ]at hsb;rw[ho1,fQ]at Y6;clear H hL hkeep hr;unfold kR;obtain⟨rn,ro,rk,rf,di,dm,Lu,Lv,iK,iL,iM,iN⟩:=r;dsimp only at hs1 ho1 hkd hD Hg⊢;subst hs1 ho1;refine gB 81 λB w0=>?_;dsimp only[En];refine go ?_;intro b3 b4 b5;refine gP b3 ?_;refine gP b4 ?_;refine gP b5 ?_;refine gC (Y2 (m:=k.decl.symbols.length) (n:=sn) (t:=t) hpt hm hsb.2) λo1 hi1=>?_;have e1:=Y3 hpt hs2 hi1;refine gH ?_ ?_<;>intro h1
 rotate_left
 .have:l6 sn on t=false:=by
   cases e:l6 sn on t with
   |false=>rfl
   |true=>exact absurd (congrArg (λx:Nat=>(x:Int)) (e1.2 (Rc.1 e).1)) h1
  rw[this,MB];exact fH
 have h1:(o1:Int)=(sn:Int):=iD.1 h1;refine gC (Y2 (m:=k.decl.symbols.length) (n:=on) (t:=t) hpt hm Y6.2) λo2 hi2=>?_;have e2:=Y3 hpt ho2 hi2;refine aB ?_ ?_<;>intro h2
 .have:l6 sn on t=false:=by
   cases e:l6 sn on t with
   |false=>rfl
   |true=>exact absurd (congrArg (λx:Nat=>(x:Int)) (e2.2 (Rc.1 e).2)) h2
  rw[this,MB];exact fH
 have h2:(o2:Int)=(on:Int):=iD.1 h2;have:l6 sn on t=true:=Rc.2 ⟨e1.1 tr,e2.1 tr⟩;rw[this,Mk];refine go ?_;by_cases k1:rk=1\/rk=2
 .iterate 8 (all_goals (first|(exfalso;omega)|(refine jC rfl (λhh=>?_) (λhh=>?_)<;>try dsimp only at hh)|(refine go ?_)))
  all_goals (
   refine eO (Hg false false) (next:=λ_ _=>?_);refine aM ?_;rw[if_pos k1,Y5 hD];rfl)
 by_cases k3:rk=3
 .iterate 8 (all_goals (first|(exfalso;omega)|(refine jC rfl (λhh=>?_) (λhh=>?_)<;>try dsimp only at hh)|(refine go ?_)))
  refine eO (Hg false false) (next:=λ_ _=>?_);rw[Y5 hD,if_neg k1,if_pos k3];cases hb:jl (k.lists.getD rf.toNat []) s rf jw with
  |false=>
   exact fH
  |true=>
  refine gC hval λ_ _=>?_;exact fH
 by_cases k4:rk=4
 .iterate 10 (all_goals (first|(exfalso;omega)|(refine jC rfl (λhh=>?_) (λhh=>?_)<;>try dsimp only at hh)|(refine go ?_)))
  refine eO (Hg true false) (next:=λ_ _=>?_);rw[amf hD,if_neg k1,if_neg k3,if_pos k4];cases hb:jl (k.lists.getD rf.toNat []) s rf rX with
  |false=>
   exact fH
  |true=>
  refine gC hval λ_ _=>?_;exact fH
 by_cases k5:rk=5
 .iterate 12 (all_goals (first|(exfalso;omega)|(refine jC rfl (λhh=>?_) (λhh=>?_)<;>try dsimp only at hh)|(refine go ?_)))
  refine eO (Hg true true) (next:=λ_ _=>?_);refine aM ?_;rw[if_neg k1,if_neg k3,if_neg k4,if_pos k5,amg hD];rfl
 by_cases k7:rk=7
 .iterate 20 (all_goals (first|(exfalso;omega)|(refine jC rfl (λhh=>?_) (λhh=>?_)<;>try dsimp only at hh)|(refine go ?_)))
  refine eO Y7 (next:=λ_ _=>?_);rw[if_neg k1,if_neg k3,if_neg k4,if_neg k5,if_pos k7];cases hb:j5 k.aK s with
  |false=>
   exact fH
  |true=>
  refine gC hval λ_ _=>?_;exact fH
 rw[if_neg k1,if_neg k3,if_neg k4,if_neg k5,if_neg k7];by_cases k6:rk=6\/rk=8\/rk=9\/rk=10
 .rw[if_pos k6];iterate 20 (all_goals (first|(exfalso;omega)|(refine jC rfl (λhh=>?_) (λhh=>?_)<;>try dsimp only at hh)|(refine go ?_)))
  all_goals (
   refine eO Y7 (next:=λ_ _=>?_);exact fH)
 rw[if_neg k6];iterate 22 (all_goals (first|(exfalso;omega)|(refine jC rfl (λhh=>?_) (λhh=>?_)<;>try dsimp only at hh)|(refine go ?_)))
 exact gQ () trivial
def ami(hK:eY k)(hs:s.length<2^63)(ht:t.length<2^63):
 fC prog 42 [.agg ⟨mM k vh vs vr vc vu gh gc vn vl⟩,.agg ⟨[sc,st]⟩] (aj ai sc s::aj ai st t::lN k vh vs vr vc vu gh gc vn vl []) (λb:Bool=>.bool b) (λb=>b=true↔oL k s t):=by
 have hn:=hK.Ap;have hm:=hK.typ.lim.s1;have xO:=hK.typ.lim.u;refine gB 42 λB w0=>?_;dsimp only[lN];refine gF ai gc k.grid.cells λag cg eg=>?_;subst eg;refine gF eT vs k.decl.symbols λpg cs1 es1=>?_;subst es1;refine gF bz vu k.decl.rules λau cu eu=>?_;subst eu;refine go ?_;intro b2 b3;refine gP b2 ?_;refine gP b3 ?_;refine gC (Rb (xs:=s) (n:=k.grid.cells.length) tr hs) λe1 he1=>?_;cases e1 with
 |false=>
  refine go ?_;exact gQ false ⟨(λh=>by cases h),λh=>by have:=he1.2 h.pc;cases this⟩
 |true=>
 have hps:=he1.1 rfl;refine gC (Rb (xs:=t) (n:=k.decl.symbols.length) tr ht) λe2 he2=>?_;cases e2 with
 |false=>
  refine go ?_;exact gQ false ⟨(λh=>by cases h),λh=>by have:=he2.2 h.ps;cases this⟩
 |true=>
 have hpt:=he2.1 rfl;refine gN k.decl.rules.length 5 (λj=>j<=k.decl.rules.length/\∀r∈k.decl.rules.take j,keepR k s t r=true) ⟨bP _,tt⟩ ?_;rintro j ⟨hj,hall⟩;refine aB ?_ ?_<;>intro h3
 .refine gX bz (xs:=k.decl.rules) λ_ _ r (w:ah×ah) hr=>?_;have hrm:=aS hr;have H:=hK.Yp hps hpt hrm;refine gC (amh (vh:=vh) (vs:=.slice pg k.decl.symbols.length cs1) (vr:=vr) (vc:=vc) (vu:=.slice au k.decl.rules.length cu) (gh:=gh) (gc:=.slice ag k.grid.cells.length cg) (vn:=vn) (vl:=vl) (sc:=sc) (st:=st) (v1:=w.1) (v2:=w.2) hK hrm H) λ_ _=>?_;cases hkr:keepR k s t r with
  |false=>
   refine go ?_;exact gQ false ⟨(λe=>by cases e),λq=>by have:=q.oH r hrm;rw[hkr]at this;cases this⟩
  |true=>
  refine go ?_;refine aQ (j+1) CM ⟨tr,λx hx=>?_⟩;rw[cB hr]at hx;rcases dY.1 hx with hx|hx
  .exact hall x hx
  .rw[bK.1 hx];exact hkr
 have iJ:j=k.decl.rules.length:=tr
 subst iJ;rw[bM]at hall;refine go ?_;exact gQ true ⟨λ_=>⟨hps,hpt,hall⟩,λ_=>rfl⟩
def amj(hS:ug k)(hs:s.length<2^63)(ht:t.length<2^63):
 fC prog 19 [.agg ⟨mM k vh vs vr vc vu gh gc vn vl⟩,.agg ⟨[sc,st]⟩] (aj ai sc s::aj ai st t::lN k vh vs vr vc vu gh gc vn vl []) (λy:Bool×Int=>.tuple ⟨[.bool y.1,iV y.2]⟩) (G8 k s t):=by
 refine gB 19 λB w0=>?_;dsimp only[lN];refine go ?_;intro b2 b3;refine gC (YQ (k:=k) (vh:=vh) (vs:=vs) (vr:=vr) (vc:=vc) (vu:=vu) (gh:=gh) (gc:=gc) (vn:=vn) (vl:=vl) hS) λb hb=>?_;cases b with
 |false=>
  exact ju
 |true=>
 have hK:=hb.1 rfl;dsimp only[cond];refine gC (ami (k:=k) (s:=s) (t:=t) (vh:=vh) (vs:=vs) (vr:=vr) (vc:=vc) (vu:=vu) (gh:=gh) (gc:=gc) (vn:=vn) (vl:=vl) (sc:=sc) (st:=st) hK hs ht) λc hc=>?_;refine go ?_;exact gQ (c,0) ⟨λh=>absurd hK h,λ_=>⟨rfl,hc⟩⟩
