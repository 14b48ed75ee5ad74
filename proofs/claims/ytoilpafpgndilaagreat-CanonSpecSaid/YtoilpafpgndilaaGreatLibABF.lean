/- Part. -/
import Derived.Test.YtoilpafpgndilaaGreatLibAAF
import Derived.Test.YtoilpafpgndilaaGreatLibQF
set_option linter.all false
set_option maxRecDepth 10000
set_option maxHeartbeats 4000000
namespace Go.Proofs.YtoilpafpgndilaaGreat
open Tryz (prog)
open Go.Ideal Kd Canon
variable{va:vI}{xs:kI Int}
def aop{z:Int}(hl:xs.length<2^63):dD prog 356 [va,iV z] [ai ae va xs] (.bool (decide (z∈xs))):=by
 refine gB 356 λB w0=>?_;refine gN xs.length 5 (λk=>k<=xs.length/\¬z∈xs.take k) ⟨bR _,An⟩ ?_;rintro k ⟨hk,hno⟩;refine gIf ?_ ?_<;>intro h1
 .refine go ?_;intro _ _ x hx;refine gIf ?_ ?_<;>intro h2
  .refine acM ?_;rw[dK (by rw[<- h2];exact aZ hx)];rfl
  refine go ?_;refine aN (k+1) z7 ⟨z7,?_⟩;rw[bZ hx,dX,bM];rintro(h|h)
  .exact hno h
  .exact h2 h.symm
 have hke:k=xs.length:=z7
 subst hke;rw[bU]at hno;refine acM ?_;rw[aR hno];rfl
def eqL(xs ys:kI Int):Bool:=decide ((∀x∈xs,x∈ys)/\xs.length=ys.length)
variable{vb:vI}
def amF{ys:kI Int}(hl:xs.length<2^63)(hl2:ys.length<2^63):dD prog 373 [va,vb] [ai ae va xs,ai ae vb ys] (.bool (eqL xs ys)):=by
 refine gB 373 λB w0=>?_;refine gN xs.length 5 (λk=>k<=xs.length/\∀x∈xs.take k,x∈ys) ⟨bR _,An⟩ ?_;rintro k ⟨hk,hno⟩;refine gIf ?_ ?_<;>intro h1
 .refine go ?_;intro _ _ x hx;refine gC (aop (xs:=ys) (z:=x) hl2) λ_ _=>?_;refine go ?_;refine fq rfl (λh2=>?_) (λh2=>?_)
  .exact tW
  exact mC
 have hke:k=xs.length:=z7
 subst hke;rw[bU]at hno;refine acM ?_;unfold eqL;refine congrArg Value.bool (nO.2 ⟨λq=>⟨hno,z7⟩,λq=>by have:=q.2;omega⟩)
def aoq{n:Nat}{s l:kI Int}(hs:s.length=n)(hl:iP n l)(hn:n<=1000000)(hll:l.length<=1000000):FnS prog 353 [va,vb] [ai ae va s,ai ae vb l] ae (img s l):=by
 refine gB 353 λB w0=>?_;refine go ?_;intro b0;refine Sg ae az.here ?_;refine aU (λy:Nat×vI=>l.length - y.1) (λy=>[(6,iV (y.1:Int)),(5,y.2)]) (λy=>[ap ae y.2 (img s (l.take y.1))]) (λ_=>[]) (λy=>y.1<=l.length) (0,.slice (some ⟨b0,0,some 0⟩) 0 0) (bR _) (hk:=As) (body:=?_);rintro⟨q,v5⟩ hq;dsimp only at hq⊢;have hql:(img s (l.take q)).length=q:=Hi
 exact zc
def arf(hl:xs.length<=1000000):FnS prog 355 [va] [ai ae va xs] ae xs.reverse:=by
 refine gB 355 λB w0=>?_;refine go ?_;intro b0;refine Sg ae az.here ?_;refine go ?_;refine aU (λy:Nat×vI=>xs.length - y.1) (λy=>[(4,iV ((xs.length:Int) - 1 - (y.1:Int))),(3,y.2)]) (λy=>[ap ae y.2 (xs.reverse.take y.1)]) (λ_=>[]) (λy=>y.1<=xs.length) (0,.slice (some ⟨b0,0,some 0⟩) 0 0) (bR _) (hl:=Hh) (hk:=As) (body:=?_);rintro⟨q,v5⟩ hq;dsimp only at hq⊢;have hql:(xs.reverse.take q).length=q:=by rw[gT,akP];omega
 exact cD
end Go.Proofs.YtoilpafpgndilaaGreat
namespace Go.Proofs.YtoilpafpgndilaaGreat
open Tryz (prog)
open Go.Ideal Kd Canon
section
variable {m:Nat} {k:bD} {s t:kI Int} {vh vs vr vc vu gh gc vn vl:vI}
variable{vt:vI}
def arh(hm:k.decl.symbols.length=m)(ht:dF m t)(hl:m<=4096):dD prog 316 [.agg ⟨kZ k vh vs vr vc vu gh gc vn vl⟩,vt] ([ai ae vt t,ai fF vs k.decl.symbols]) (.bool (qL (su k) t)):=by
 have htl:=ht.len;refine gB 316 λB w0=>?_;refine gF ae vt t λuS ct et=>?_;subst et;refine gF fF vs k.decl.symbols λkY cs1 es1=>?_;subst es1;refine go ?_;intro b2;refine gP b2 ?_;refine gN t.length 5 (λj=>j<=t.length/\∀i',i'<j->∀x,t[i']? =some x->aB (su k) (i':Int)=aB (su k) x) ⟨bR _,λi' h=>absurd h (ak5 _)⟩ ?_;rintro j ⟨hj,hall⟩;refine gIf ?_ ?_<;>intro h1
 .refine gX fF (xs:=k.decl.symbols) (k:=j) λ_ _ y (_:Unit) hy=>?_;have e1:=amz hy;refine go ?_;intro _ _ x hx;have Dh:=ht.fG x (aZ hx);obtain⟨i,rfl⟩:=jA Dh.1;refine gX fF (xs:=k.decl.symbols) (k:=i) λ_ _ z (_:Unit) hz=>?_;have e2:=amz hz;refine gIf ?_ ?_<;>intro h2
  .exact gv
  exact jp
 exact lR
def ari{n:Nat}(hN:wC n k.aQ)(hs:dF n s)(hl:n<=1000000)(hll:∀l∈k.aQ,l.length<=1000000):dD prog 317 [.agg ⟨kZ k vh vs vr vc vu gh gc vn vl⟩,vt] ([ai ae vt s,ai (ak ae) vn k.aQ]) (.bool (pI k.aQ s)):=by
 have hsl:=hs.len;have hnl:=hN.1;refine gB 317 λB w0=>?_;refine gF ae vt s λasc csc esc=>?_;subst esc;refine gF (ak ae) vn k.aQ λan cn en=>?_;subst en;refine go ?_;intro b2;refine gP b2 ?_;refine gN k.aQ.length 5 (λj=>j<=k.aQ.length/\∀i',i'<j->∀l,k.aQ[i']? =some l->∀b∈l,aB s b∈k.aQ.getD (aB s (i':Int)).toNat []) ⟨bR _,λi' h=>absurd h (ak5 _)⟩ ?_;rintro j ⟨hj,hall⟩;refine gIf ?_ ?_<;>intro h1
 .obtain⟨l,hl2⟩:∃l,k.aQ[j]? =some l:=⟨_,bP z7⟩
  have hlm:=aZ hl2;have hlr:=hN.2 l hlm;have hlen:=hll l hlm;refine gN l.length 6 (λi=>i<=l.length/\∀b∈l.take i,aB s b∈k.aQ.getD (aB s (j:Int)).toNat []) ⟨bR _,An⟩ ?_;rintro i ⟨hi,FV⟩;refine gX (ak ae) (xs:=k.aQ) (k:=j) λ_ _ lx (vl2:vI) hlx=>?_;rw[hl2]at hlx;obtain rfl:l=lx:=Option.some.inj hlx;refine gIf ?_ ?_<;>intro h2
  .refine go ?_;intro _ _ u hu;have Pw:=ji hu;have hur:=hs.fG u (aZ hu);obtain⟨un,rfl⟩:=jA hur.1;refine gX (ak ae) (xs:=k.aQ) (k:=un) λ_ _ l2 (vl3:vI) hl3=>?_;have aqJ:=hll l2 (aZ hl3);refine gX (ak ae) (xs:=k.aQ) (k:=j) λ_ _ ly (vl4:vI) hly=>?_;rw[hl2]at hly;obtain rfl:l=ly:=Option.some.inj hly;refine go ?_;intro _ _ b hb;have hbr:=hlr b (aZ hb);obtain⟨bn,rfl⟩:=jA hbr.1;refine go ?_;intro _ _ z hz;have hzg:=ji hz;refine gC (aop (xs:=l2) (z:=z) z7) λ_ _=>?_;have hd:k.aQ.getD (aB s (j:Int)).toNat []=l2:=by rw[Pw,kJ];exact j5 hl3
   refine go ?_;refine fq rfl (λh3=>?_) (λh3=>?_)
   .exact fh
   refine go ?_;refine aN (i+1) z7 ⟨z7,?_⟩;rw[bZ hb];intro y hy;rcases dX.1 hy with hy|hy
   .exact FV y hy
   .rw[bM.1 hy,hd,hzg];exact h3
  have hie:i=l.length:=z7
  subst hie;rw[bU]at FV;refine go ?_;refine aN (j+1) z7 ⟨z7,λi' hi' l' hl'=>?_⟩;exact sg
 exact j7
end
def rIm(L:kI (kI Int))(s:kI Int)(f:Int)(l:kI Int)(j:Nat):Int:=
 if u7 f then(if eqL (L.getD (aB s (j:Int)).toNat []) (img s l)then aB s (j:Int)else -1)else ajB (λx=>eqL x (img s l)) L
def arj{n:Nat}{k:bD}{s:kI Int}{r:bN}{L:kI (kI Int)}{l:kI Int}{f j:Nat}{vh vs vr vc vu gh gc vn vl vt:vI}(hf:r.family=(f:Int))(H:alj n k s r L)(hl:L[j]? =some l):
 dD prog 352 [.agg ⟨kZ k vh vs vr vc vu gh gc vn vl⟩,vt,iV (f:Int),iV (j:Int)] [ai ae vt s,ai (ak (ak ae)) vl k.lists] (iV (rIm L s (f:Int) l j)):=by
 have hsl:=H.ps.len;have hn1:=H.n1;have hll:=H.len;have ai0:=H.lens;have H':=H;have hLf:k.lists[f]? =some L:=JT
 have hfl:=(bq.1 hLf).1;have hjl:=(bq.1 hl).1;have hlr:=H.kE.fG l (aZ hl);have hlen:=ai0 l (aZ hl);have hil:(img s l).length=l.length:=NG s l;obtain⟨rn,ro,rk,rf,dA,dB,amx,amy,iD,iE,iF,iG⟩:=r;dsimp only at hf;subst hf;refine gB 352 λB w0=>?_;refine gF ae vt s λasc csc esc=>?_;subst esc;refine go ?_;intro b4;refine gP b4 ?_;refine gX (ak (ak ae)) (xs:=k.lists) (k:=f) λ_ _ L2 (vL:vI) hL2=>?_;rw[hLf]at hL2;obtain rfl:L=L2:=Option.some.inj hL2;refine gF (ak ae) vL L λaL cL eL=>?_;subst eL;refine gX (ak ae) (xs:=L) (k:=j) λ_ _ l2 (vl2:vI) hl2=>?_;rw[hl]at hl2;obtain rfl:l=l2:=Option.some.inj hl2;refine gC (aoq (s:=s) (l:=l) hsl hlr hn1 hlen) λvi _=>?_;refine gH ?_ ?_<;>intro c0
 rotate_left
 .have hjs:j<s.length:=by
   have:=H.kE.len C0;omega
  have hby:u7 (f:Int)=true:=C0
  exact cq
 refine gH ?_ ?_<;>intro c4
 rotate_left
 .have hjs:j<s.length:=by
   have:=H.kE.len C1;omega
  have hby:u7 (f:Int)=true:=C1
  exact cq
 refine gIf ?_ ?_<;>intro c5
 .have hjs:j<s.length:=by
   have:=H.kE.len C2;omega
  have hby:u7 (f:Int)=true:=C2
  exact cq
 have hby:¬u7 (f:Int)=true:=J0
 have hr:rIm L s (f:Int) l j=ajB (λx=>eqL x (img s l)) L:=by unfold rIm;rw[if_neg hby]
 refine gN L.length 11 (λq=>q<=L.length/\(L.take q).any (λx=>eqL x (img s l))=false) ⟨bR _,An⟩ ?_;rintro q ⟨hq,hno⟩;refine gIf ?_ ?_<;>intro h1
 .refine gX (ak ae) (xs:=L) λ_ _ x (vx:vI) hx=>?_;have hxl:=ai0 x (aZ hx);refine gC (amF (xs:=x) (ys:=img s l) z7 C3) λ_ _=>?_;refine go ?_;refine kw rfl (λh2=>?_) (λh2=>?_)
  .refine acM ?_;rw[hr,am9 hno hx h2];rfl
  .exact r7
 have hke:q=L.length:=z7
 subst hke;rw[bU]at hno;refine acM ?_;rw[hr,ana hno];rfl
variable{xs ys:kI Int}{va vb:vI}
def ark(hl:xs.length<2^63)(hl2:ys.length<2^63):fC prog 374 [va,vb] [ai ae va xs,ai ae vb ys] (λo:Int=>iV o) (λo=>o=0↔xs=ys):=by
 refine gB 374 λB w0=>?_;refine gF ae va xs λaa ca ea=>?_;subst ea;refine gF ae vb ys λab cb eb=>?_;subst eb;refine gN xs.length 5 (λk=>k<=xs.length/\k<=ys.length/\xs.take k=ys.take k) ⟨bR _,bR _,An⟩ ?_;rintro k ⟨hk,hk2,hno⟩;refine gH ?_ ?_<;>intro h1
 .have hke:k=xs.length:=by omega
  subst hke;rw[bU]at hno;refine go ?_;have key:xs=ys↔xs.length=ys.length:=⟨λe=>by rw[e],λe=>by rw[hno,e,bU]⟩
  exact eR
 refine gIf ?_ ?_<;>intro h2
 .refine go ?_;intro _ _ x hx;refine go ?_;intro _ _ y hy;have hne:x≠y->¬xs=ys:=λh e=>by subst e;rw[hx]at hy;exact h (Option.some.inj hy)
  refine gIf ?_ ?_<;>intro h3
  .refine go ?_;exact gQ (-1) ⟨λh=>by omega,λh=>absurd h (hne z7)⟩
  refine go ?_;intro _ _ x2 hx2;rw[hx]at hx2;obtain rfl:x=x2:=Option.some.inj hx2;refine go ?_;intro _ _ y2 hy2;rw[hy]at hy2;obtain rfl:y=y2:=Option.some.inj hy2;refine gIf ?_ ?_<;>intro h4
  .refine go ?_;exact gQ 1 ⟨λh=>by omega,λh=>absurd h (hne z7)⟩
  refine go ?_;refine aN (k+1) z7 ⟨z7,z7,?_⟩;rw[bZ hx,bZ hy,hno,show x=y by omega]
 have hke:k=ys.length:=z7
 subst hke;rw[bU]at hno;refine go ?_;have key:xs=ys↔xs.length=ys.length:=⟨λe=>by rw[e],λe=>by rw[<- hno,<- e,bU]⟩
 exact eR
def aos(hl:xs.length<2^63)(hl2:ys.length<2^63):dD prog 354 [va,vb] [ai ae va xs,ai ae vb ys] (.bool (decide (xs=ys))):=by
 refine gB 354 λB w0=>?_;refine gC (ark (xs:=xs) (ys:=ys) hl hl2) λo ho=>?_;refine acM ?_;exact congrArg Value.bool (nO.2 ho)
def akY(L:kI (kI Int))(s:kI Int)(f:Int)(ord trn:Bool)(l:kI Int)(j:Nat):Bool:=
 decide (0<=rIm L s f l j)&&(!ord||(decide (L.getD (rIm L s f l j).toNat []=img s l)||(trn&&decide (L.getD (rIm L s f l j).toNat []=(img s l).reverse))))
def akR(L:kI (kI Int))(s:kI Int)(f:Int)(ord trn:Bool):Bool:=L.zipIdx.all λx=>akY L s f ord trn x.1 x.2
variable{L:kI (kI Int)}{s l:kI Int}{ord trn:Bool}{j:Nat}
def anl{f:Int}(hl:L[j]? =some l)(h:akY L s f ord trn l j=false):akR L s f ord trn=false:=by
 cases e:akR L s f ord trn with
 |false=>rfl
 |true=>
  unfold akR at e;exact tv
variable{n:Nat}{k:bD}{r:bN}
def arl(H:alj n k s r L)(hl:L[j]? =some l)(h:0<=rIm L s r.family l j):∃(i:Nat) (l':kI Int),rIm L s r.family l j=(i:Int)/\L[i]? =some l':=by
 obtain⟨i,hi⟩:=jA h;have hjl:=(bq.1 hl).1;refine⟨i,L[i]'?_,hi,bP _⟩;unfold rIm at hi;split at hi
 .rename_i hb;have hLn:=H.kE.len hb;split at hi
  .have:=H.ps.at_ (c:=(j:Int)) z7 z7;omega
  .omega
 .unfold ajB at hi;split at hi
  .rename_i q hq;rw[aoV]at hq;obtain⟨h1,_⟩:=hq;omega
  .omega
def arn{vh vs vr vc vu gh gc vn vl vt v1 v2:vI}(H:alj n k s r L):
 dD prog 315 [.agg ⟨kZ k vh vs vr vc vu gh gc vn vl⟩,vt,.agg ⟨lV r v1 v2⟩,.bool ord,.bool trn] [ai ae vt s,ai (ak (ak ae)) vl k.lists] (.bool (akR L s r.family ord trn)):=by
 have hsl:=H.ps.len;have hn1:=H.n1;have hll:=H.len;have ai0:=H.lens;have hf0:0<=r.family:=H.f0;obtain⟨f,hf⟩:=jA hf0;have hLf:k.lists[f]? =some L:=JT
 have hfl:=(bq.1 hLf).1;have aot:=λ(j:Nat) (l:kI Int) (hl:L[j]? =some l)=>arl H hl;have him:=λ(vt:vI) (j:Nat) (l:kI Int) (hl:L[j]? =some l)=>arj (vh:=vh) (vs:=vs) (vr:=vr) (vc:=vc) (vu:=vu) (gh:=gh) (gc:=gc) (vn:=vn) (vl:=vl) (vt:=vt) hf H hl;have akQ:=H.kE;clear H;obtain⟨rn,ro,rk,rf,dA,dB,amx,amy,iD,iE,iF,iG⟩:=r;dsimp only at hf aot akQ⊢;subst hf;refine gB 315 λB w0=>?_;refine go ?_;intro b5 b7;refine gP b5 ?_;refine gP b7 ?_;refine gX (ak (ak ae)) (xs:=k.lists) (k:=f) λ_ _ L2 (vL:vI) hL2=>?_;rw[hLf]at hL2;obtain rfl:L=L2:=Option.some.inj hL2;refine gN L.length 12 (λj=>j<=L.length/\∀i',i'<j->∀x,L[i']? =some x->akY L s (f:Int) ord trn x i'=true) ⟨bR _,λi' h=>absurd h (ak5 _)⟩ ?_;rintro j ⟨hj,hall⟩;refine gIf ?_ ?_<;>intro h1
 rotate_left
 .have iR:j=L.length:=by omega
  subst iR;refine acM ?_;have:akR L s (f:Int) ord trn=true:=by
   unfold akR;rw[Da];exact λi x hx=>hall i (bq.1 hx).1 x hx
  rw[this];rfl
 obtain⟨l,hl⟩:∃l,L[j]? =some l:=⟨_,bP z7⟩
 have hlr:=akQ.fG l (aZ hl);have hlen:=ai0 l (aZ hl);have hil:(img s l).length=l.length:=NG s l;refine gC (him vt j l hl) λ_ _=>?_;have hneg:¬0<=rIm L s (f:Int) l j->akR L s (f:Int) ord trn=false:=λh=>anl hl (by unfold akY;rw[aR h];rfl);refine gIf ?_ ?_<;>intro h2
 .refine acM ?_;rw[hneg z7];rfl
 obtain⟨i,l',hri,hl'⟩:=aot j l hl z7;have akH:=ai0 l' (aZ hl');have anh:=(bq.1 hl').1;rw[hri];refine gX (ak ae) (xs:=L) (k:=j) λ_ _ l2 (vl2:vI) hl2=>?_;rw[hl]at hl2;obtain rfl:l=l2:=Option.some.inj hl2;refine gC (aoq (s:=s) (l:=l) hsl hlr hn1 hlen) λvi _=>?_;cases ord with
 |false=>
  refine go ?_;refine go ?_;exact aN (j+1) E4 ⟨z7,λi' hi' x hx=>(by
   by_cases e:i'=j
   .subst e;rw[hl]at hx;cases hx;unfold akY;rw[hri,kJ,j5 hl'];simp[]
   .exact hall i' z7 x hx)⟩
 |true=>
 refine gX (ak ae) (xs:=L) (k:=i) λ_ _ l3 (vl3:vI) hl3=>?_;rw[hl']at hl3;obtain rfl:l'=l3:=Option.some.inj hl3;refine gC (aos (xs:=l') (ys:=img s l) z7 z7) λ_ _=>?_;refine gH ?_ ?_<;>intro hs
 .refine go ?_;refine go ?_;exact aN (j+1) E4 ⟨z7,λi' hi' x hx=>(by
   by_cases e:i'=j
   .subst e;rw[hl]at hx;cases hx;unfold akY;rw[hri,kJ,j5 hl'];simp[hs]
   .exact hall i' z7 x hx)⟩
 cases trn with
 |false=>
  refine acM ?_;rw[anl hl (by unfold akY;rw[hri,kJ,j5 hl',aR hs];simp)];rfl
 |true=>
 refine gX (ak ae) (xs:=L) (k:=i) λ_ _ l4 (vl4:vI) hl4=>?_;rw[hl']at hl4;obtain rfl:l'=l4:=Option.some.inj hl4;refine gC (arf (xs:=img s l) z7) λvb _=>?_;refine gC (aos (xs:=l') (ys:=(img s l).reverse) z7 (by rw[akP];omega)) λ_ _=>?_;refine go ?_;refine fq rfl (λh5=>?_) (λh5=>?_)
 .refine acM ?_;rw[anl hl (by unfold akY;rw[hri,kJ,j5 hl',aR hs,aR h5];simp)];rfl
 refine go ?_;refine go ?_;exact aN (j+1) E4 ⟨z7,λi' hi' x hx=>(by
  by_cases e:i'=j
  .subst e;rw[hl]at hx;cases hx;unfold akY;rw[hri,kJ,j5 hl'];simp[h5]
  .exact hall i' z7 x hx)⟩
end Go.Proofs.YtoilpafpgndilaaGreat
namespace Go.Proofs.YtoilpafpgndilaaGreat
open Tryz (prog)
open Go.Ideal Kd Canon
variable{n:Nat}
def aou{v:vI}{xs:kI Int}(hn:n<=1000000)(hl:xs.length<2^63):fC prog 224 [v,iV (n:Int)] [ai ae v xs] (λb:Bool=>.bool b) (λb=>b=true↔dF n xs):=by
 refine gB 224 λB w0=>?_;refine gF ae v xs λav cv ev=>?_;subst ev;refine gIf ?_ ?_<;>intro h1
 .refine go ?_;exact gQ false ⟨(λh=>by cases h),λq=>by have:=q.len;omega⟩
 have lQ:xs.length=n:=z7
 refine go ?_;refine IK n ⟨z7,z7,z7⟩ λb5=>?_;rw[VP];refine go ?_;refine aU (λk=>n - k) (λk:Nat=>[(6,iV (k:Int))]) (λk=>[pt b5 (.cells (jv n (xs.take k)))]) (λ_=>[]) (λk=>k<=n/\(∀x∈xs.take k,0<=x/\x<(n:Int))/\(xs.take k).Nodup) 0 ⟨bR _,An,An⟩ (hk:=As) (body:=?_);rintro k ⟨hk,hin,hnd⟩;refine gIf ?_ ?_<;>intro h1
 .refine go ?_;intro _ _ x hx;have hxm:=aZ hx;have htk:=bZ hx;have hno:¬(0<=x/\x<(n:Int))->∀b:Bool,b=false->(b=true↔dF n xs):=λh b hb=>⟨(λe=>by rw[hb]at e;cases e),λq=>absurd (q.fG x hxm) h⟩
  refine gH ?_ ?_<;>intro h2
  rotate_left
  .exact nt
  refine go ?_;intro _ _ x2 hx2;rw[hx]at hx2;obtain rfl:x=x2:=Option.some.inj hx2;refine gH ?_ ?_<;>intro h3
  rotate_left
  .exact nt
  obtain⟨m,rfl⟩:=jA (by omega:0<=x);refine go ?_;intro _ _ x3 hx3;rw[hx]at hx3;obtain rfl:(m:Int)=x3:=Option.some.inj hx3;refine go ?_;refine qh (b:=b5) (o:=0+m*1) (cs:=jv n (xs.take k)) (.bool (decide ((m:Int)∈xs.take k))) (VO z7) ?_;refine gIf ?_ ?_<;>intro h4
  .exact lz
  refine go ?_;intro _ _ x4 hx4;rw[hx]at hx4;obtain rfl:(m:Int)=x4:=Option.some.inj hx4;refine go ?_;refine qI (b:=b5) (o:=0+m*1) (cs:=jv n (xs.take k)) (v:=.bool true) (cs':=jv n (xs.take (k+1))) (by rw[afQ z7,htk]) (by rw[JL];omega) ?_;exact fL
 have hke:k=n:=z7
 subst hke;rw[ry z7]at hin hnd;refine go ?_;exact gQ true ⟨λ_=>⟨lQ,hin,hnd⟩,λ_=>rfl⟩
def ImS(t:kI Int)(n o:Nat):Prop:=∀b:Nat,o.testBit b=true↔∃j:Nat,t[j]? =some (b:Int)/\n.testBit j=true
def toNat_one{b:Bool}:((b.toNat:Nat):Int)=1↔b=true:=by cases b<;>decide
variable{m:Nat}{t:kI Int}
def aow{vt:vI}(ht:dF m t)(hm:m<=16)(hn:n<2^63):
 fC prog 314 [vt,iV (n:Int)] [ai ae vt t] (λo:Nat=>iV (o:Int)) (ImS t n):=by
 have htl:=ht.len;refine gB 314 λB w0=>?_;refine gL (λy:Nat×Nat=>t.length - y.1) (λy=>[(6,iV (y.1:Int)),(5,iV (y.2:Int))]) (λy=>y.1<=t.length/\y.2<2^16/\∀b:Nat,y.2.testBit b=true↔∃j:Nat,j<y.1/\t[j]? =some (b:Int)/\n.testBit j=true) (0,0) ⟨bR _,by dsimp only;omega,λb=>by simp⟩ ?_;rintro⟨k,o⟩ ⟨hk,ho,hb⟩;dsimp only at hk ho hb⊢;refine gIf ?_ ?_<;>intro h1
 .refine go ?_;refine(fA rfl rfl (alZ (a:=n) (b:=k) rfl rfl z7)).h ?_;refine(fA rfl rfl (al0 (a:=n>>>k) (b:=1) rfl rfl (ami (amQ _ _) hn) z7)).h ?_;rw[al8 n k];refine go ?_;have htx:t[k]? =some t[k]:=bP z7;generalize t[k]=x0 at htx;have hx0:=ht.fG x0 (aZ htx);obtain⟨i0,rfl⟩:=jA hx0.1;refine aA rfl ?_ ?_<;>intro h2
  .have h2:=toNat_one.1 h2;refine go ?_;intro _ _ x hx;rw[htx]at hx;obtain rfl:(i0:Int)=x:=Option.some.inj hx;have hsh:1<<<i0<2^16:=by
    rw[amL,BL];exact ox
   refine go ?_;refine(fA rfl rfl (Sy (a:=1) (b:=i0) rfl rfl z7 z7)).h ?_;refine(fA rfl rfl (SA (a:=o) (b:=1<<<i0) rfl rfl z7 z7)).h ?_;refine go ?_;refine aN (k+1,o|||1<<<i0) J1 ⟨by dsimp only;omega,amM (n:=16) ho hsh,λb=>?_⟩;dsimp only;rw[Nat.testBit_or,Nat.one_shiftLeft,Nat.testBit_two_pow,vG,lM,hb b];constructor
   .rintro(⟨j,q1,q2⟩|q)
    .exact⟨j,z7,q2⟩
    .subst q;exact⟨k,z7,htx,h2⟩
   .rintro⟨j,q1,q2,q3⟩;by_cases e:j=k
    .subst e;rw[htx]at q2;have:=Option.some.inj q2;right;omega
    .exact .inl ⟨j,z7,q2,q3⟩
  .have h2:¬n.testBit k=true:=λh=>h2 (toNat_one.2 h);refine go ?_;refine aN (k+1,o) J1 ⟨by dsimp only;omega,ho,λb=>?_⟩;dsimp only;rw[hb b];constructor
   .rintro⟨j,q1,q2⟩;exact⟨j,z7,q2⟩
   .rintro⟨j,q1,q2,q3⟩;by_cases e:j=k
    .subst e;exact absurd q3 h2
    .exact⟨j,z7,q2,q3⟩
 have hke:k=t.length:=z7
 subst hke;refine go ?_;refine gQ o (λb=>?_);rw[hb b];constructor
 .rintro⟨j,_,q⟩;exact⟨j,q⟩
 .rintro⟨j,q1,q2⟩;exact⟨j,(bq.1 q1).1,q1,q2⟩
def aox{o:Nat}(ht:dF m t)(hn:n<2^m)(ho:ImS t n o):o=n↔∀(i:Nat) x,t[i]? =some x->n.testBit i=n.testBit x.toNat:=by
 constructor
 .intro e i x hx;subst e;have Dh:=ht.fG x (aZ hx);obtain⟨b,rfl⟩:=jA Dh.1;rw[kJ,zP,ho b];constructor
  .intro h;exact⟨i,hx,h⟩
  .rintro⟨j,h1,h2⟩;have:=C9 ht.nd hx h1;subst this;exact h2
 .intro h;apply Nat.eq_of_testBit_eq;intro b;rw[zP,ho b];constructor
  .rintro⟨j,h1,h2⟩;have:=h j _ h1;rw[kJ]at this;rw[<- this];exact h2
  .intro hb;have K9:b<m:=by
    apply Classical.byContradiction;intro hge;rw[Nat.testBit_lt_two_pow (mM hn (Nat.pow_le_pow_right z7 z7))]at hb;cases hb
   obtain⟨j,hj⟩:=jS (ht.mem (y:=(b:Int)) z7 z7);refine⟨j,hj,?_⟩;have:=h j _ hj;rw[kJ]at this;rw[this];exact hb
def anm{a b:Nat}:xW a b t=true↔(∀(i:Nat) x,t[i]? =some x->a.testBit i=a.testBit x.toNat)/\∀(i:Nat) x,t[i]? =some x->b.testBit i=b.testBit x.toNat:=by
 unfold xW;rw[Da];constructor
 .intro h;refine⟨λi x hx=>?_,λi x hx=>?_⟩<;>(have:=h i x hx;simp only[afD,lM]at this)
  .exact this.1
  .exact this.2
 .rintro⟨h1,h2⟩ i x hx;simp only[afD,lM];exact⟨h1 i x hx,h2 i x hx⟩
def ann{a b:kI Int}(ha:a.Nodup)(hb:b.Nodup):eqL a b=xV a b:=by
 rw[zP,Bd];unfold eqL;rw[lM];constructor
 .rintro⟨h1,h2⟩;refine(List.perm_ext_iff_of_nodup ha hb).2 λx=>⟨h1 x,λhx=>Classical.byContradiction λhn=>?_⟩
  have:=Nz (l:=x::a) (m:=b) (yD.2 ⟨hn,ha⟩) (λy hy=>by
   rcases dx.1 hy with e|e
   .rw[e];exact hx
   .exact h1 y e)
  rw[oP]at this;omega
 .intro h;exact⟨λx hx=>h.mem_iff.1 hx,h.length_eq⟩
def any_congr{α:Type}{p q:α->Bool}:∀{L:kI α},(∀x∈L,p x=q x)->L.findIdx? p=L.findIdx? q
 |[],_=>rfl
 |a::L,h=>by
  rw[List.findIdx?_cons,List.findIdx?_cons,h a (cB ..),any_congr λx hx=>h x (cO _ hx)]
structure alR(n:Nat)(L:List (List Int))(s:List Int)(f:Int):Prop where
 kE:pJ n L f
 ps:dF n s
 nd:∀l∈L,l.Nodup
variable{L:kI (kI Int)}{s:kI Int}{f:Int}
def aro{l:kI Int}{j:Nat}(H:alR n L s f)(hl:L[j]? =some l):
 rIm L s f l j=if 0<=lH L s f (j:Int)/\xV (L.getD (lH L s f (j:Int)).toNat []) (img s l)=true then lH L s f (j:Int)else -1:=by
 have hlm:=aZ hl;have hjl:=(bq.1 hl).1;have hin:=aeC H.ps (H.kE.fG l hlm) (H.nd l hlm);unfold rIm lH;by_cases hb:u7 f=true
 .have hLn:=H.kE.len hb;have hr:=H.ps.at_ (c:=(j:Int)) z7 z7;rw[if_pos hb,if_pos hb];have hm:L.getD (aB s (j:Int)).toNat []∈L:=by
   have:L[(aB s (j:Int)).toNat]? =some L[(aB s (j:Int)).toNat]:=bP z7;rw[j5 this];exact aZ this
  rw[ann (H.nd _ hm) hin];by_cases e:xV (L.getD (aB s (j:Int)).toNat []) (img s l)=true
  .rw[if_pos e,if_pos ⟨hr.1,e⟩]
  .rw[if_neg e,if_neg (λq=>e q.2)]
 .rw[if_neg hb,if_neg hb,kJ,j5 hl];have hi:ajB (λx=>eqL x (img s l)) L=zo L (img s l):=by
   rw[<- amu];unfold ajB;rw[any_congr (p:=λx=>eqL x (img s l)) (q:=λx=>decide (bW x=bW (img s l))) λx hx=>ann (H.nd x hx) hin]
  rw[hi];by_cases e:0<=zo L (img s l)
  .obtain⟨l',h1,h2⟩:=UU e;rw[j5 h1,if_pos ⟨e,Bd.2 h2⟩]
  .rw[if_neg (λq=>e q.1)];unfold zo at e⊢;split at e
   .omega
   .rfl
def ano(H:alR n L s f)(ord trn:Bool)(eq:kI Int->kI Int->Bool)
 (he:∀a b,xV a b=true->eq a b=(!ord||(decide (a=b)||(trn&&decide (a=b.reverse))))):akR L s f ord trn=mZ L s f eq:=by
 rw[zP];unfold akR mZ;rw[Da,Da];have key:∀(j:Nat) l,L[j]? =some l->akY L s f ord trn l j=NI L s f eq l j:=λj l hl=>by
  unfold akY NI;rw[aro H hl];by_cases h1:0<=lH L s f (j:Int)
  .by_cases h2:xV (L.getD (lH L s f (j:Int)).toNat []) (img s l)=true
   .rw[if_pos ⟨h1,h2⟩,h2,he _ _ h2,amK]
   .rw[if_neg (λq=>h2 q.2)];have h2:xV (L.getD (lH L s f (j:Int)).toNat []) (img s l)=false:=by simpa using h2
    rw[h2,amN,Bool.and_false];rfl
  .rw[if_neg (λq=>h1 q.1),aR h1,amN];rfl
 constructor
 .intro h j l hl;exact(key j l hl)▸h j l hl
 .intro h j l hl;exact(key j l hl).symm▸h j l hl
def aoy(H:alR n L s f)(trn:Bool):akR L s f false trn=mZ L s f xV:=
 ano H false trn xV λa b h=>by rw[h];rfl
def arp(H:alR n L s f):akR L s f true false=mZ L s f Bb:=
 ano H true false Bb λa b h=>by unfold Bb;simp
def arq(H:alR n L s f):akR L s f true true=mZ L s f Bc:=
 ano H true true Bc λa b h=>by unfold Bc;simp
def dH.nodup{k:bD}(h:dH k){i:Nat}{L:kI (kI Int)}(hL:k.lists[i]? =some L):∀l∈L,l.Nodup:=by
 have hm:=aZ hL;rw[h.lists]at hm;exact apD h.cZ (λr hr=>(h.typ.Dl r hr).1.2) L hm
end Go.Proofs.YtoilpafpgndilaaGreat
namespace Go.Proofs.YtoilpafpgndilaaGreat
open Tryz (prog)
open Go.Ideal Kd Canon
variable{k:bD}{s t:kI Int}{vh vs vr vc vu gh gc vn vl sc st:vI}
def ars{r:bN}{v1 v2:vI}(hK:dH k)(hr:r∈k.decl.rules)(H:anf k s t r):
 dD prog 225 [.agg ⟨kZ k vh vs vr vc vu gh gc vn vl⟩,.agg ⟨[sc,st]⟩,.agg ⟨lV r v1 v2⟩] (ckF k s t vs vn vl sc st) (.bool (keepR k s t r)):=by
 have hL:=H.lst;have hm:=H.m1;have hn:=H.n1;have hkd:=H.kind;obtain⟨sn,hs1,hs2⟩:=(hK.rf hr).s1;obtain⟨on,ho1,ho2⟩:=(hK.rf hr).s2;have hsb:=H.st;have hob:=H.ot;have hD:alR k.grid.cells.length (k.lists.getD r.family.toNat []) s r.family:=⟨hL.kE,H.ps,hK.nodup hL.hL⟩
 have amc:=λ(ord trn:Bool)=>arn (ord:=ord) (trn:=trn) (vh:=vh) (vs:=vs) (vr:=vr) (vc:=vc) (vu:=vu) (gh:=gh) (gc:=gc) (vn:=vn) (vl:=vl) (vt:=sc) (v1:=v1) (v2:=v2) hL;have hval:=arh (vh:=vh) (vs:=vs) (vr:=vr) (vc:=vc) (vu:=vu) (gh:=gh) (gc:=gc) (vn:=vn) (vl:=vl) (vt:=st) (k:=k) (t:=t) rfl H.pt z7;have aoA:=ari (vh:=vh) (vs:=vs) (vr:=vr) (vc:=vc) (vu:=vu) (gh:=gh) (gc:=gc) (vn:=vn) (vl:=vl) (vt:=sc) (k:=k) (s:=s) H.aQ H.ps z7 H.nbl;have hkeep:keepR k s t r=(xW sn on t&&Dq k s t r):=by unfold keepR;rw[hs1,ho1,kJ,kJ]
 rw[hkeep];have hpt:=H.pt;rw[hs1,kJ]at hsb;rw[ho1,kJ]at hob;clear H hL hkeep hr;unfold Dq;obtain⟨rn,ro,rk,rf,dA,dB,amx,amy,iD,iE,iF,iG⟩:=r;dsimp only at hs1 ho1 hkd hD amc⊢;subst hs1 ho1;refine gB 225 λB w0=>?_;dsimp only[ckF];refine go ?_;intro b3 b4 b5;refine gP b3 ?_;refine gP b4 ?_;refine gP b5 ?_;refine gC (aow (m:=k.decl.symbols.length) (n:=sn) (t:=t) hpt hm hsb.2) λo1 hi1=>?_;have e1:=aox hpt hs2 hi1;refine gH ?_ ?_<;>intro h1
 rotate_left
 .have:xW sn on t=false:=by
   cases e:xW sn on t with
   |false=>rfl
   |true=>exact absurd (congrArg (λx:Nat=>(x:Int)) (e1.2 (anm.1 e).1)) h1
  rw[this,amN];exact afN
 have h1:(o1:Int)=(sn:Int):=ic.1 h1;refine gC (aow (m:=k.decl.symbols.length) (n:=on) (t:=t) hpt hm hob.2) λo2 hi2=>?_;have e2:=aox hpt ho2 hi2;refine gIf ?_ ?_<;>intro h2
 .have:xW sn on t=false:=by
   cases e:xW sn on t with
   |false=>rfl
   |true=>exact absurd (congrArg (λx:Nat=>(x:Int)) (e2.2 (anm.1 e).2)) h2
  rw[this,amN];exact afN
 have h2:(o2:Int)=(on:Int):=ic.1 h2;have:xW sn on t=true:=anm.2 ⟨e1.1 z7,e2.1 z7⟩;rw[this,amK];refine go ?_;by_cases k1:rk=1\/rk=2
 .iterate 8 (all_goals (first|(exfalso;omega)|(refine aA rfl (λhh=>?_) (λhh=>?_)<;>try dsimp only at hh)|(refine go ?_)))
  all_goals (
   refine ay (amc false false) (next:=λ_ _=>?_);refine acM ?_;rw[if_pos k1,aoy hD];rfl)
 by_cases k3:rk=3
 .iterate 8 (all_goals (first|(exfalso;omega)|(refine aA rfl (λhh=>?_) (λhh=>?_)<;>try dsimp only at hh)|(refine go ?_)))
  refine ay (amc false false) (next:=λ_ _=>?_);rw[aoy hD,if_neg k1,if_pos k3];cases hb:mZ (k.lists.getD rf.toNat []) s rf xV with
  |false=>
   exact afN
  |true=>
  refine gC hval λ_ _=>?_;exact afN
 by_cases k4:rk=4
 .iterate 10 (all_goals (first|(exfalso;omega)|(refine aA rfl (λhh=>?_) (λhh=>?_)<;>try dsimp only at hh)|(refine go ?_)))
  refine ay (amc true false) (next:=λ_ _=>?_);rw[arp hD,if_neg k1,if_neg k3,if_pos k4];cases hb:mZ (k.lists.getD rf.toNat []) s rf Bb with
  |false=>
   exact afN
  |true=>
  refine gC hval λ_ _=>?_;exact afN
 by_cases k5:rk=5
 .iterate 12 (all_goals (first|(exfalso;omega)|(refine aA rfl (λhh=>?_) (λhh=>?_)<;>try dsimp only at hh)|(refine go ?_)))
  refine ay (amc true true) (next:=λ_ _=>?_);refine acM ?_;rw[if_neg k1,if_neg k3,if_neg k4,if_pos k5,arq hD];rfl
 by_cases k7:rk=7
 .iterate 20 (all_goals (first|(exfalso;omega)|(refine aA rfl (λhh=>?_) (λhh=>?_)<;>try dsimp only at hh)|(refine go ?_)))
  refine ay aoA (next:=λ_ _=>?_);rw[if_neg k1,if_neg k3,if_neg k4,if_neg k5,if_pos k7];cases hb:pI k.aQ s with
  |false=>
   exact afN
  |true=>
  refine gC hval λ_ _=>?_;exact afN
 rw[if_neg k1,if_neg k3,if_neg k4,if_neg k5,if_neg k7];by_cases k6:rk=6\/rk=8\/rk=9\/rk=10
 .rw[if_pos k6];iterate 20 (all_goals (first|(exfalso;omega)|(refine aA rfl (λhh=>?_) (λhh=>?_)<;>try dsimp only at hh)|(refine go ?_)))
  all_goals (
   refine ay aoA (next:=λ_ _=>?_);exact afN)
 rw[if_neg k6];iterate 22 (all_goals (first|(exfalso;omega)|(refine aA rfl (λhh=>?_) (λhh=>?_)<;>try dsimp only at hh)|(refine go ?_)))
 exact gQ () trivial
def art(hK:dH k)(hs:s.length<2^63)(ht:t.length<2^63):
 fC prog 150 [.agg ⟨kZ k vh vs vr vc vu gh gc vn vl⟩,.agg ⟨[sc,st]⟩] (ai ae sc s::ai ae st t::j6 k vh vs vr vc vu gh gc vn vl []) (λb:Bool=>.bool b) (λb=>b=true↔lc k s t):=by
 have hn:=hK.Vm;have hm:=hK.typ.lim.s1;have yc:=hK.typ.lim.u;refine gB 150 λB w0=>?_;dsimp only[j6];refine gF ae gc k.grid.cells λag cg eg=>?_;subst eg;refine gF fF vs k.decl.symbols λkY cs1 es1=>?_;subst es1;refine gF aY vu k.decl.rules λau cu eu=>?_;subst eu;refine go ?_;intro b2 b3;refine gP b2 ?_;refine gP b3 ?_;refine gC (aou (xs:=s) (n:=k.grid.cells.length) z7 hs) λe1 he1=>?_;cases e1 with
 |false=>
  refine go ?_;exact gQ false ⟨(λh=>by cases h),λh=>by have:=he1.2 h.pc;cases this⟩
 |true=>
 have hps:=he1.1 rfl;refine gC (aou (xs:=t) (n:=k.decl.symbols.length) z7 ht) λe2 he2=>?_;cases e2 with
 |false=>
  refine go ?_;exact gQ false ⟨(λh=>by cases h),λh=>by have:=he2.2 h.ps;cases this⟩
 |true=>
 have hpt:=he2.1 rfl;refine gN k.decl.rules.length 5 (λj=>j<=k.decl.rules.length/\∀r∈k.decl.rules.take j,keepR k s t r=true) ⟨bR _,An⟩ ?_;rintro j ⟨hj,hall⟩;refine gIf ?_ ?_<;>intro h3
 .refine gX aY (xs:=k.decl.rules) λ_ _ r (w:vI×vI) hr=>?_;have hrm:=aZ hr;have H:=hK.aod hps hpt hrm;refine gC (ars (vh:=vh) (vs:=.slice kY k.decl.symbols.length cs1) (vr:=vr) (vc:=vc) (vu:=.slice au k.decl.rules.length cu) (gh:=gh) (gc:=.slice ag k.grid.cells.length cg) (vn:=vn) (vl:=vl) (sc:=sc) (st:=st) (v1:=w.1) (v2:=w.2) hK hrm H) λ_ _=>?_;cases hkr:keepR k s t r with
  |false=>
   refine go ?_;exact gQ false ⟨(λe=>by cases e),λq=>by have:=q.rV r hrm;rw[hkr]at this;cases this⟩
  |true=>
  refine go ?_;refine aN (j+1) I3 ⟨z7,λx hx=>?_⟩;rw[bZ hr]at hx;rcases dX.1 hx with hx|hx
  .exact hall x hx
  .rw[bM.1 hx];exact hkr
 have iR:j=k.decl.rules.length:=z7
 subst iR;rw[bU]at hall;refine go ?_;exact gQ true ⟨λ_=>⟨hps,hpt,hall⟩,λ_=>rfl⟩
def aru(hS:nZ k)(hs:s.length<2^63)(ht:t.length<2^63):
 fC prog 113 [.agg ⟨kZ k vh vs vr vc vu gh gc vn vl⟩,.agg ⟨[sc,st]⟩] (ai ae sc s::ai ae st t::j6 k vh vs vr vc vu gh gc vn vl []) (λy:Bool×Int=>.tuple ⟨[.bool y.1,iV y.2]⟩) (KpP k s t):=by
 refine gB 113 λB w0=>?_;dsimp only[j6];refine go ?_;intro b2 b3;refine gC (aiW (k:=k) (vh:=vh) (vs:=vs) (vr:=vr) (vc:=vc) (vu:=vu) (gh:=gh) (gc:=gc) (vn:=vn) (vl:=vl) hS) λb hb=>?_;cases b with
 |false=>
  exact nB
 |true=>
 have hK:=hb.1 rfl;dsimp only[cond];refine gC (art (k:=k) (s:=s) (t:=t) (vh:=vh) (vs:=vs) (vr:=vr) (vc:=vc) (vu:=vu) (gh:=gh) (gc:=gc) (vn:=vn) (vl:=vl) (sc:=sc) (st:=st) hK hs ht) λc hc=>?_;refine go ?_;exact gQ (c,0) ⟨λh=>absurd hK h,λ_=>⟨rfl,hc⟩⟩
def arv(hS:nZ k)(hs:s.length<2^63)(ht:t.length<2^63):
 fC prog 83 [.agg ⟨kZ k vh vs vr vc vu gh gc vn vl⟩,.agg ⟨[sc,st]⟩] (ai ae sc s::ai ae st t::j6 k vh vs vr vc vu gh gc vn vl []) (λe:Int=>iV e) (aoh k s t):=by
 refine gB 83 λB w0=>?_;dsimp only[j6];refine go ?_;intro b2 b3;refine gC (aiW (k:=k) (vh:=vh) (vs:=vs) (vr:=vr) (vc:=vc) (vu:=vu) (gh:=gh) (gc:=gc) (vn:=vn) (vl:=vl) hS) λb hb=>?_;cases b with
 |false=>
  exact da
 |true=>
 have hK:=hb.1 rfl;dsimp only[cond];refine gC (aru (k:=k) (s:=s) (t:=t) (vh:=vh) (vs:=vs) (vr:=vr) (vc:=vc) (vu:=vu) (gh:=gh) (gc:=gc) (vn:=vn) (vl:=vl) (sc:=sc) (st:=st) hS hs ht) λy hy=>?_;obtain⟨c,e⟩:=y;obtain⟨he,hc⟩:=hy.ok hK;dsimp only at he hc;subst he;refine go ?_;cases c with
 |false=>
  exact nw
 |true=>
  exact sB
end Go.Proofs.YtoilpafpgndilaaGreat
namespace Go.Proofs.YtoilpafpgndilaaGreat
open Tryz (prog)
open Go.Ideal Kd Canon
variable{s l:kI Int}{sc st vb:vI}
def aoB{n:Nat}(hs:s.length=n)(hl:iP n l)(hn:n<=1000000)(hll:l.length<=1000000):FnS prog 115 [.agg ⟨[sc,st]⟩,vb] [ai ae sc s,ai ae vb l] ae (img s l):=by
 refine gB 115 λB w0=>?_;refine go ?_;intro b2;refine gP b2 ?_;refine go ?_;refine af5 ae ?_;refine aU (λy:Nat×vI=>l.length - y.1) (λy=>[(6,iV (y.1:Int)),(5,y.2)]) (λy=>[ap ae y.2 (img s (l.take y.1))]) (λ_=>[]) (λy=>y.1<=l.length) (0,.slice none 0 0) (bR _) (hk:=As) (body:=?_);rintro⟨q,v5⟩ hq;dsimp only at hq⊢;have hql:(img s (l.take q)).length=q:=Hi
 exact zc
variable{xs:kI Int}{va:vI}
def aoC(hl:xs.length<=1000000):FnS prog 116 [va] [ai ae va xs] ae xs.reverse:=by
 refine gB 116 λB w0=>?_;refine gF ae va xs λaa ca ea=>?_;subst ea;refine go ?_;refine af5 ae ?_;refine aU (λy:Nat×vI=>xs.length - y.1) (λy=>[(4,iV ((xs.length:Int) - 1 - (y.1:Int))),(3,y.2)]) (λy=>[ap ae y.2 (xs.reverse.take y.1)]) (λ_=>[]) (λy=>y.1<=xs.length) (0,.slice none 0 0) (bR _) (hl:=Hh) (hk:=As) (body:=?_);rintro⟨q,v5⟩ hq;dsimp only at hq⊢;have hql:(xs.reverse.take q).length=q:=by rw[gT,akP];omega
 exact cD
def arw{ys:kI Int}(hl:xs.length<2^63)(hl2:ys.length<2^63):dD prog 151 [va,vb] [ai ae va xs,ai ae vb ys] (.bool (eqL xs ys)):=by
 refine gB 151 λB w0=>?_;refine gF ae va xs λaa ca ea=>?_;subst ea;refine gF ae vb ys λab cb eb=>?_;subst eb;refine gIf ?_ ?_<;>intro h0
 .refine acM ?_;unfold eqL;rw[aR (λq=>by have:=q.2;omega)];rfl
 refine gN xs.length 5 (λk=>k<=xs.length/\∀x∈xs.take k,x∈ys) ⟨bR _,An⟩ ?_;rintro k ⟨hk,hno⟩;refine gIf ?_ ?_<;>intro h1
 .refine go ?_;intro _ _ x hx;refine gC (ap6 (xs:=ys) (x:=x) hl2) λ_ _=>?_;refine go ?_;refine fq rfl (λh2=>?_) (λh2=>?_)
  .exact tW
  exact mC
 have hke:k=xs.length:=z7
 subst hke;rw[bU]at hno;refine acM ?_;unfold eqL;rw[dK ⟨hno,z7⟩];rfl
structure ClW(k:bD)(s t:List Int)(g:Clue)(c:gW)(L:List (List Int))(j i:Nat)(l l':List Int):Prop where
 g:OT k s t g c L j i l l'
 ps:dF k.grid.cells.length s
 f0:0<=c.family
 n1:k.grid.cells.length<=1000000
 len:L.length<=1000000
 lens:∀l∈L,l.length<=1000000
 nd:∀l∈L,l.Nodup
variable{t:kI Int}{k:bD}
def clW(hK:dH k)(hk:lc k s t){g:Clue}(hg:mY k g):∃c L j i l l',ClW k s t g c L j i l l':=by
 obtain⟨c,L,j,i,l,l',G⟩:=Bw hK hk hg;have aln:∀r∈k.decl.regions,CZ (aT k.decl) r.lists:=λr hr=>(hK.typ.Dl r hr).1.2;have alo:=amZ hK.cZ aln;have hlin:=amW hK.cZ aln;rw[<- hK.lists]at alo hlin;have hn:=hK.Vm;have hLm:=aZ G.hL;exact⟨c,L,j,i,l,l',G,hk.pc,(hK.kE c (aZ G.hc)).1,z7,by have:=alo L hLm;omega,λx hx=>by have:=(hlin L hLm x hx).1;omega,hK.nodup G.hL⟩
variable{l':kI Int}{vh vs vr vc vu gh gc vn vl:vI}{g:Clue}{c:gW}{L:kI (kI Int)}{i j:Nat}
def ary(H:ClW k s t g c L j i l l'):
 dD prog 114 [.agg ⟨kZ k vh vs vr vc vu gh gc vn vl⟩,.agg ⟨[sc,st]⟩,iV c.family,iV (j:Int)] [ai ae sc s,ai (ak (ak ae)) vl k.lists] (iV (i:Int)):=by
 have hsl:=H.ps.len;have hps:=H.ps;have hn1:=H.n1;have hll:=H.len;have ai0:=H.lens;have hnd:=H.nd;have akQ:=H.g.kE;have FJ:=H.g.goes.lH H.g.kE;have hl:=H.g.hl;have hl':=H.g.hl';have hLf:=H.g.hL;have hp:=H.g.perm;obtain⟨f,hf⟩:=jA H.f0;rw[hf,kJ]at hLf;rw[hf]at FJ akQ⊢;clear H;have hfl:=(bq.1 hLf).1;have hjl:=(bq.1 hl).1;have anh:=(bq.1 hl').1;have hlm:=aZ hl;have hlr:=akQ.fG l hlm;have hlen:=ai0 l hlm;have hil:(img s l).length=l.length:=NG s l;refine gB 114 λB w0=>?_;refine gF ae sc s λasc csc esc=>?_;subst esc;refine go ?_;intro b4 b5;refine gP b4 ?_;refine gP b5 ?_;refine gH ?_ ?_<;>intro c0
 rotate_left
 .have hby:u7 (f:Int)=true:=by unfold u7;simp[c0]
  exact dy
 refine gH ?_ ?_<;>intro c4
 rotate_left
 .have hby:u7 (f:Int)=true:=by unfold u7;simp[c4]
  exact dy
 refine gIf ?_ ?_<;>intro c5
 .have hby:u7 (f:Int)=true:=by unfold u7;simp[c5]
  exact dy
 have hby:¬u7 (f:Int)=true:=J0
 have hin:=aeC hps hlr (hnd l hlm);have hidx:ajB (λx=>eqL x (img s l)) L=(i:Int):=by
  unfold lH at FJ;rw[if_neg hby,kJ,j5 hl,<- amu]at FJ;unfold ajB at FJ⊢;rw[any_congr (p:=λx=>eqL x (img s l)) (q:=λx=>decide (bW x=bW (img s l))) λx hx=>ann (hnd x hx) hin];exact FJ
 refine gX (ak (ak ae)) (xs:=k.lists) (k:=f) λ_ _ L2 (vL:vI) hL2=>?_;rw[hLf]at hL2;obtain rfl:L=L2:=Option.some.inj hL2;refine gF (ak ae) vL L λaL cL eL=>?_;subst eL;refine gX (ak ae) (xs:=L) (k:=j) λ_ _ l2 (vl2:vI) hl2=>?_;rw[hl]at hl2;obtain rfl:l=l2:=Option.some.inj hl2;refine gC (aoB (sc:=.slice asc s.length csc) (st:=st) (s:=s) (l:=l) hsl hlr hn1 hlen) λvi _=>?_;refine gN L.length 10 (λq=>q<=L.length/\(L.take q).any (λx=>eqL x (img s l))=false) ⟨bR _,An⟩ ?_;rintro q ⟨hq,hno⟩;refine gX (ak (ak ae)) (xs:=k.lists) (k:=f) λ_ _ L2 (vL2:vI) hL2=>?_;rw[hLf]at hL2;obtain rfl:L=L2:=Option.some.inj hL2;refine gF (ak ae) vL2 L λaL2 cL2 eL2=>?_;subst eL2;refine gIf ?_ ?_<;>intro h1
 .refine gX (ak (ak ae)) (xs:=k.lists) (k:=f) λ_ _ L2 (vL3:vI) hL2=>?_;rw[hLf]at hL2;obtain rfl:L=L2:=Option.some.inj hL2;refine gX (ak ae) (xs:=L) (k:=q) λ_ _ x (vx:vI) hx=>?_;have hxl:=ai0 x (aZ hx);refine gC (arw (xs:=x) (ys:=img s l) z7 C3) λ_ _=>?_;refine go ?_;refine kw rfl (λh2=>?_) (λh2=>?_)
  .refine acM ?_;rw[<- hidx,am9 hno hx h2];rfl
  .exact r7
 have hke:q=L.length:=z7
 subst hke;rw[bU]at hno;have:=ana hno;omega
def arA{vv:vI}(H:ClW k s t g c L j i l l')(hpt:dF k.decl.symbols.length t)(hv1:c.type=1->∃v0:Nat,g.values=[(v0:Int)]/\v0<k.decl.symbols.length)(hvl:g.values.length<=1000000):
 bA prog (.func 84) [.agg ⟨kZ k vh vs vr vc vu gh gc vn vl⟩,.agg ⟨[sc,st]⟩,wy g vv] [] [] [ai ae vv g.values,ai ae sc s,ai ae st t,ai bI vc k.decl.aJ,ai (ak (ak ae)) vl k.lists] (λv:vI=>wy (l8 k s t g) v) (λ_=>[]) (λv=>[ai ae v (l8 k s t g).values]) (λ_=>True):=by
 have hsl:=H.ps.len;have htl:=hpt.len;have hn1:=H.n1;have hll:=H.len;have ai0:=H.lens;have aoE:=ary (vh:=vh) (vs:=vs) (vr:=vr) (vc:=vc) (vu:=vu) (gh:=gh) (gc:=gc) (vn:=vn) (vl:=vl) (sc:=sc) (st:=st) H;have akQ:=H.g.kE;have hl:=H.g.hl;have hl':=H.g.hl';have hLf:=H.g.hL;have hlm:=aZ hl;have hlr:=akQ.fG l hlm;have hlen:=ai0 l hlm;have hlen':=ai0 l' (aZ hl');have hil:(img s l).length=l.length:=NG s l;have hrl:(img s l).reverse.length=l.length:=by rw[akP];exact hil
 have akZ:=H.g.img;obtain⟨f,hf⟩:=jA H.f0;rw[hf,kJ]at hLf;rw[hf]at aoE;have hfl:=(bq.1 hLf).1;have hjl:=(bq.1 hl).1;have anh:=(bq.1 hl').1;have hcl:=H.g.adJ;have hcc:=H.g.hc;have hat:=H.g.at_;clear H;obtain⟨cn,hcn⟩:=jA hcl;rw[hcn,kJ]at hcc;have Xc:=(bq.1 hcc).1;have hgg:wy g vv=.agg ⟨[iV (cn:Int),iV (j:Int),vv]⟩:=by unfold wy;rw[<- hcn,<- hat]
 rw[hgg];rw[hcn]at akZ;refine gB 84 λB w0=>?_;refine gF ae vv g.values λavv cvv evv=>?_;subst evv;refine go ?_;intro b3 b4 b5 b6;refine gP b3 ?_;refine gP b4 ?_;refine gP b5 ?_;refine gX bI (xs:=k.decl.aJ) (k:=cn) λ_ _ c2 (_:Unit) hc2=>?_;rw[hcc]at hc2;obtain rfl:c=c2:=Option.some.inj hc2;refine go ?_;intro b7;refine go ?_;refine gP b7 ?_;refine go ?_;rw[hf];refine ay aoE (next:=λ_ _=>?_);refine go ?_;by_cases t1:c.type=1
 .obtain⟨v0,hv0,hvm⟩:=hv1 t1;rw[hv0];refine aA rfl (λ_=>?_) (λh=>absurd t1 h);refine gX ae (xs:=[(v0:Int)]) (k:=0) (h1:=An) λ_ _ x (_:Unit) hx=>?_;have hx0:(v0:Int)=x:=by simpa using hx
  subst hx0;refine go ?_;intro _ _ zt hzt;have anj:=ji hzt;refine go ?_;intro b38;refine go ?_;refine aA rfl (λh3=>by omega) (λh3=>?_);refine gZ VQ ?_;have hval:(l8 k s t g).values=[zt]:=by
   rw[akZ];dsimp only;unfold yo;rw[if_pos t1,hv0];show[aB t (v0:Int)]=[zt]
   rw[anj]
  refine go ?_;refine eF (ai ae (.slice (some ⟨b38,0,some 0⟩) 1 1) (l8 k s t g).values) (λw hw=>by rw[hval];exact hw (ai ae (.slice (some ⟨b38,0,some 0⟩) 1 1) [zt]) An) ?_;refine ah (.slice (some ⟨b38,0,some 0⟩) 1 1) (hv:=?_) (hp:=trivial);rw[akZ];rfl
 refine aA rfl (λh=>absurd h t1) (λ_=>?_);refine go ?_;by_cases t3:c.type=3
 .refine aA rfl (λ_=>?_) (λh=>absurd t3 h);refine gX (ak (ak ae)) (xs:=k.lists) (k:=f) λ_ _ L2 (vL:vI) hL2=>?_;rw[hLf]at hL2;obtain rfl:L=L2:=Option.some.inj hL2;refine gX (ak ae) (xs:=L) (k:=j) λ_ _ l2 (vl2:vI) hl2=>?_;rw[hl]at hl2;obtain rfl:l=l2:=Option.some.inj hl2;refine gC (aoB (sc:=sc) (st:=st) (s:=s) (l:=l) hsl hlr hn1 hlen) λvi _=>?_;refine gX (ak (ak ae)) (xs:=k.lists) (k:=f) λ_ _ L2 (vL2:vI) hL2=>?_;rw[hLf]at hL2;obtain rfl:L=L2:=Option.some.inj hL2;refine gX (ak ae) (xs:=L) (k:=i) λ_ _ l3 (vl3:vI) hl3=>?_;rw[hl']at hl3;obtain rfl:l'=l3:=Option.some.inj hl3;refine gC (amt (xs:=img s l) (ys:=l') z7) λ_ _=>?_;have htb:oM s l l'=(!decide (img s l=l')&&decide ((img s l).reverse=l')):=rfl;by_cases e0:img s l=l'
  .rw[dK e0];have hval:(l8 k s t g).values=g.values:=by
    rw[akZ];dsimp only;unfold yo;rw[if_neg t1,if_neg (λq=>by have:=q.2;rw[htb,dK e0]at this;cases this)]
   exact eN
  rw[aR e0];refine gX (ak (ak ae)) (xs:=k.lists) (k:=f) λ_ _ L2 (vL4:vI) hL2=>?_;rw[hLf]at hL2;obtain rfl:L=L2:=Option.some.inj hL2;refine gX (ak ae) (xs:=L) (k:=i) λ_ _ l4 (vl4:vI) hl4=>?_;rw[hl']at hl4;obtain rfl:l'=l4:=Option.some.inj hl4;refine gC (aoC (xs:=img s l) z7) λvb _=>?_;refine gC (amt (xs:=(img s l).reverse) (ys:=l') z7) λ_ _=>?_;refine gIf ?_ ?_<;>intro e2
  .refine gC (aoC (xs:=g.values) z7) λOH _=>?_;refine gF ae OH g.values.reverse λavr cvr evr=>?_;subst evr;have hval:(l8 k s t g).values=g.values.reverse:=by
    rw[akZ];dsimp only;unfold yo;rw[if_neg t1,if_pos ⟨t3,by rw[htb,aR e0,dK e2];rfl⟩]
   refine go ?_;refine go ?_;refine eF (ai ae (.slice avr g.values.reverse.length cvr) (l8 k s t g).values) (λw hw=>by rw[hval];exact hw (ai ae (.slice avr g.values.reverse.length cvr) g.values.reverse) An) ?_;refine ah (.slice avr g.values.reverse.length cvr) (hv:=?_) (hp:=trivial);rw[akZ];rfl
  .have hval:(l8 k s t g).values=g.values:=by
    rw[akZ];dsimp only;unfold yo;rw[if_neg t1,if_neg (λq=>by have:=q.2;rw[htb,aR e2,Bool.and_false]at this;cases this)]
   exact eN
 refine aA rfl (λh=>absurd h t3) (λ_=>?_);have hval:(l8 k s t g).values=g.values:=by
  rw[akZ];dsimp only;unfold yo;rw[if_neg t1,if_neg (λq=>t3 q.1)]
 refine go ?_;refine go ?_;refine eF (ai ae (.slice avv g.values.length cvv) (l8 k s t g).values) (λw hw=>by rw[hval];exact hw (ai ae (.slice avv g.values.length cvv) g.values) An) ?_;refine ah (.slice avv g.values.length cvv) (hv:=?_) (hp:=trivial);rw[akZ];rfl
end Go.Proofs.YtoilpafpgndilaaGreat
namespace Go.Proofs.YtoilpafpgndilaaGreat
open Tryz (prog)
open Go.Ideal Kd Canon
def arD{k:bD}{s t:kI Int}{p:kI Clue}{vh vs vr vc vu gh gc vn vl sc st vp:vI}(hS:nZ k)(hP:wK p)(hs:s.length<2^63)(ht:t.length<2^63):
 bA prog (.func 47) [.agg ⟨kZ k vh vs vr vc vu gh gc vn vl⟩,.agg ⟨[sc,st]⟩,.agg ⟨[vp]⟩] [] [] (ai bO vp p::ai ae sc s::ai ae st t::j6 k vh vs vr vc vu gh gc vn vl []) (λy:aoj=>.tuple ⟨[.agg ⟨[y.v]⟩,iV y.e]⟩) (λ_=>[])
  (λy=>[jr (y.e=0) (ai bO y.v y.x)]) (λy=>aoi k s t p y.e/\(y.e=0->l7 (p.map (l8 k s t)) y.x)/\(y.e≠0->y.v=.slice none 0 0)):=by
 refine gB 47 λB w0=>?_;dsimp only[j6];refine gF bO vp p λJS cp ep=>?_;subst ep;refine go ?_;intro b3 b4 b5 b6;refine gP b3 ?_;refine gP b4 ?_;refine gP b5 ?_;refine gC (arv (k:=k) (s:=s) (t:=t) hS hs ht) λe he=>?_;refine gIf (λhne=>?_) (λhz=>?_)
 .refine go ?_;refine jE (c:=e=0) (f:=ai bO (.slice none 0 0) ([]:kI Clue)) hne ?_;exact gQ ⟨.slice none 0 0,[],e⟩ ⟨⟨he.nk,he.ns,λa b _=>absurd (he.ok a b) hne,λa b _=>absurd (he.ok a b) hne⟩,λh=>absurd h hne,λ_=>rfl⟩
 have hz:e=0:=ic.1 hz;subst hz;have hK:dH k:=Classical.byContradiction λh=>by have:=he.nk h;omega
 have hk:lc k s t:=Classical.byContradiction λh=>by have:=he.ns hK h;omega
 clear he;refine gC (aoo (k:=k) (p:=p) hS hP) λe he=>?_;refine gIf (λhne=>?_) (λhz=>?_)
 .refine go ?_;refine jE (c:=e=0) (f:=ai bO (.slice none 0 0) ([]:kI Clue)) hne ?_;exact gQ ⟨.slice none 0 0,[],e⟩ ⟨⟨λh=>absurd hK h,λ_ h=>absurd hk h,λa _ b=>he.2.1 a b,λa _ b=>absurd (he.2.2 a b) hne⟩,λh=>absurd h hne,λ_=>rfl⟩
 have hz:e=0:=ic.1 hz;subst hz;have hQ:age k p:=Classical.byContradiction λh=>by have:=he.2.1 hK h;omega
 clear he;have hpl:=hQ.len;refine go ?_;refine af5 bO ?_;refine aU (λy:Nat×vI=>p.length - y.1) (λy=>[(11,iV (y.1:Int)),(10,y.2)]) (λy=>[ap bO y.2 ((p.take y.1).map (l8 k s t))]) (λ_=>[]) (λy=>y.1<=p.length) (0,.slice none 0 0) (bR _) (hk:=As) (body:=?_);rintro⟨q,v10⟩ hq;dsimp only at hq⊢;have hql:((p.take q).map (l8 k s t)).length=q:=GP
 refine gIf ?_ ?_<;>intro h2
 .refine gX bO (xs:=p) (k:=q) λ_ _ g (vv:vI) hg=>?_;have hgR:=hQ.right g (aZ hg);have hgl:=mY.akz hgR;obtain⟨c,L,j,i,l,l',H⟩:=clW hK hk hgR;have hv1:c.type=1->∃v0:Nat,g.values=[(v0:Int)]/\v0<k.decl.symbols.length:=λt1=>by
   obtain⟨c',L',a1,a2,a3,a4,a5,a6⟩:=hgR;rw[H.g.hc]at a2;cases a2;rcases a6 with⟨a,b,d⟩|⟨a,b,_⟩|⟨a,_,b,_⟩
   .obtain⟨v0,hv0⟩:∃v0,g.values=[v0]:=by
     match g.values,b with
     |[v0],_=>exact⟨v0,rfl⟩
    have:=d v0 (by rw[hv0];exact bM.2 rfl);obtain⟨lJ,rfl⟩:=jA (by omega:0<=v0);exact⟨lJ,hv0,z7⟩
   .omega
   .omega
  refine gC (arA (sc:=sc) (st:=st) (vv:=vv) H hk.ps hv1 z7) λvw _=>?_;refine go ?_;intro b42;refine go ?_;refine fB (xs:=(p.take q).map (l8 k s t)) bO (l8 k s t g) vw z7 (next:=λad=>?_);rw[show(p.take q).map (l8 k s t)++[l8 k s t g]=(p.take (q+1)).map (l8 k s t)by rw[bZ hg,fP,sQ]];refine go ?_;exact aN (q+1,.slice ad (((p.take q).map (l8 k s t)).length+1) (((p.take q).map (l8 k s t)).length+1)) (by show p.length - (q+1)<p.length - q;omega) Hs
 have hqe:q=p.length:=z7
 subst hqe;rw[bU]at hql⊢;refine aie (A:=ap bO v10 (p.map (l8 k s t))) (fs:=[ai bO v10 (p.map (l8 k s t))]) gz (h:=?_);refine gC (aqi (v:=v10) (xs:=p.map (l8 k s t)) z7 (λx hx=>by
  exact ta)) λy hy=>?_
 obtain⟨v2,ys⟩:=y;dsimp only[List.cons_append,List.nil_append]at hy⊢;refine go ?_;refine jP (c:=(0:Int)=0) (f:=ai bO v2 ys) An ?_;exact gQ ⟨v2,ys,0⟩ ⟨⟨λh=>absurd hK h,λ_ h=>absurd hk h,λ_ _ h=>absurd hQ h,λ_ _ _=>rfl⟩,λ_=>hy,λh=>absurd rfl h⟩
