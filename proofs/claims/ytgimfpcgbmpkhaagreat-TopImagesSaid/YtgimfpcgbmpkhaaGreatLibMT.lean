/- Part. -/
import Derived.Test.YtgimfpcgbmpkhaaGreatLibHT
set_option linter.all false
set_option maxRecDepth 10000
set_option maxHeartbeats 4000000
namespace Go.Proofs.YtgimfpcgbmpkhaaGreat
open Tryz (prog)
open Go.Ideal Kd
variable{xs:ae Int}
def VM{v:ah}(hl:xs.length<=1000000):aY prog (.func 66) [v] [] [] [ay aj v xs] (λa:az Addr=>.slice a xs.length xs.length) (λa=>[ap aj (.slice a xs.length xs.length) xs]) (λ_=>[]) (λ_=>True):=by
 refine l7 PM UT λB w0=>?_;refine J6 aj v (xs:=xs) λaF hxy=>?_;have hlen:aF.length=xs.length:=BE
 refine Tu (aF:=aF) (v:=v) (E:=aj) ?_;refine aaq (v:=v) (aF:=aF) aj (λe c ev=>?_) (λe i o f c ev=>?_) (λhne i o f c ev=>?_)
 .subst e ev;have hx:xs=[]:=by rw[<- hxy];rfl
  subst hx;simp only[BP];refine go ?_;refine(dx rfl rfl (GK (e:=3) s8 rfl)).h ?_;refine go ?_;refine kv aj ?_;exact gQ none trivial
 .subst e ev;have hx:xs=[]:=by rw[<- hxy];rfl
  subst hx;simp only[BP];refine go ?_;refine(dx rfl rfl (zK (e:=3) s8 rfl)).h ?_;refine go ?_;intro b;refine go ?_;refine J7 (b:=b) ?_;refine go ?_;refine SK aj aD.here ?_;exact gQ (some ⟨b,0,some 0⟩) trivial
 .subst ev;refine go ?_;refine(dx rfl rfl (zK (e:=3) s8 rfl)).h ?_;refine go ?_;intro b;refine go ?_;refine J8 (b:=b) aj aF hne s6 (λb'=>?_);refine go ?_;refine xz (b:=b') (m:=aF.length) (f:=aj.n) aj (aF:=aF) rfl (.inr rfl) ?_ (hk:=aD.here);refine aad (aF:=aF) hne ?_ (λw h=>h _ s7);rw[hxy,hlen];exact gQ (some ⟨b',0,some aj.n⟩) trivial
def Br(xs zs:ae Int)(k:Nat):Prop:=zs.length=xs.length/\∀i,i<xs.length->zs[i]? =if i<k\/xs.length - 1 - i<k then xs[xs.length - 1 - i]? else xs[i]?
def Br.zero(xs:ae Int):Br xs xs 0:=⟨rfl,λi hi=>by rw[if_neg s6]⟩
variable{zs:ae Int}{k:Nat}
def Br.step{x y:Int}(h:Br xs zs k)(hk:k<xs.length - 1 - k)(hx:zs[k]? =some x)(hy:zs[xs.length - 1 - k]? =some y):Br xs ((zs.set k y).set (xs.length - 1 - k) x) (k+1):=by
 obtain⟨h1,h2⟩:=h;refine⟨by rw[lu,lu];exact h1,λi hi=>?_⟩;have hx':=h2 k s6;have hy':=h2 (xs.length - 1 - k) s6;rw[if_neg s6,hx]at hx';rw[if_neg s6,hy]at hy';rw[rM,lu,h1];by_cases e:xs.length - 1 - k=i
 .rw[if_pos e,if_pos s6,if_pos s6,show xs.length - 1 - i=k by omega,hx']
 .rw[if_neg e,rM,h1];by_cases e2:k=i
  .subst e2;rw[if_pos rfl,if_pos hi,if_pos s6,hy']
  .rw[if_neg e2,h2 i hi];by_cases c:i<k\/xs.length - 1 - i<k
   .rw[if_pos c,if_pos s6]
   .rw[if_neg c,if_neg s6]
def Br.done(h:Br xs zs k)(hk:¬k<xs.length - 1 - k)(hle:2*k<=xs.length+1):zs=xs.reverse:=by
 obtain⟨h1,h2⟩:=h;apply iQ;intro i;by_cases hi:i<xs.length
 .rw[h2 i hi,List.getElem?_reverse hi];by_cases c:i<k\/xs.length - 1 - i<k
  .rw[if_pos c]
  .rw[if_neg c,show xs.length - 1 - i=i by omega]
 .rw[fT s6,fT (by rw[FP];omega)]
variable{a:az Addr}{c:Nat}
def apM:fC prog 67 [.slice a 0 c] [] (λ_:Unit=>.tuple ⟨[]⟩) (λ_=>True):=by
 refine gB 67 λB w0=>?_;refine go ?_;refine qY ?_;exact dH
variable{b:Nat}
def apO{f:Nat}{pre:ae ah}(hl:xs.length<=1000000)(hf:f=0\/f=1):aY prog (.func 67) [.slice (some ⟨b,pre.length,some f⟩) xs.length xs.length] [] [pt b (.cells (pre++xs.map iV))] [] (λ_:Unit=>.tuple ⟨[]⟩) (λ_=>[pt b (.cells (pre++xs.reverse.map iV))]) (λ_=>[]) (λ_=>True):=by
 refine gB 67 λB w0=>?_;refine go ?_;refine dL (λy:Nat×ae Int=>xs.length - y.1) (λy=>[(3,iV ((xs.length:Int) - 1 - (y.1:Int))),(2,iV (y.1:Int))]) (λy=>[pt b (.cells (pre++y.2.map iV))]) (λ_=>[]) (λy=>Br xs y.2 y.1/\2*y.1<=xs.length+1) (0,xs) ⟨Br.zero xs,by show 2*0<=_;omega⟩ (hl:=by dsimp only[Int.natCast_zero];rw[Int.sub_zero];repeat (first|exact trivial|refine⟨rfl,?_⟩)) (hk:=tc) (body:=?_);rintro⟨k,zs⟩ ⟨hR,hle⟩;dsimp only at hR hle⊢;have hzl:=hR.1;refine aK ?_ ?_<;>intro h1
 .have hk1:k<xs.length - 1 - k:=by omega
  have hj:((xs.length:Int) - 1 - (k:Int))=((xs.length - 1 - k:Nat):Int):=s6
  rw[hj];generalize hjj:xs.length - 1 - k=j at hk1 hj⊢;have hx:zs[k]? =some zs[k]:=bN s6;have hy:zs[j]? =some zs[j]:=bN s6;generalize zs[k]=x at hx;generalize zs[j]=z at hy;have hst:=hR.step s6 hx (by rw[hjj];exact hy);rw[hjj]at hst;refine go ?_;refine oN (b:=b) (o:=pre.length+j*1) (cs:=pre++zs.map iV) (iV z) (TH hy) ?_;refine go ?_;refine oN (b:=b) (o:=pre.length+k*1) (cs:=pre++zs.map iV) (iV x) (TH hx) ?_;refine go ?_;refine jN (b:=b) (o:=pre.length+k*1) (cs:=pre++zs.map iV) (v:=iV z) (cs':=pre++(zs.set k z).map iV) TI (by rw[fu,bi];omega) ?_;refine go ?_;refine jN (b:=b) (o:=pre.length+j*1) (cs:=pre++(zs.set k z).map iV) (v:=iV x) (cs':=pre++((zs.set k z).set j x).map iV) TI (by rw[fu,bi,lu];omega) ?_;refine go ?_;refine aW (k+1,(zs.set k z).set j x) zd ⟨hst,by show 2*(k+1)<=_;omega⟩ (hl:=by dsimp only;rw[show(xs.length:Int) - 1 - ((k+1:Nat):Int)=(j:Int) - 1 by omega];repeat (first|exact trivial|refine⟨rfl,?_⟩))
 have hz:=hR.done s6 hle;subst hz;exact dH
def apP{n:Nat}:aY prog (.func 175) [.slice a n c] [] [] [] (λb:Nat=>.func (.func 219) #[] #[ptr' b]) (λ_=>[]) (λb=>[aX b 0 [.slice a n c]]) (λ_=>True):=by
 refine l7 Vl acA λB w0=>?_;refine go ?_;intro b1;refine go ?_;refine gP b1 ?_;exact gQ b1 trivial
def Ij(hl:xs.length<=1000000):aY prog (.func 67) [.slice a xs.length xs.length] [] [ap aj (.slice a xs.length xs.length) xs] [] (λ_:Unit=>.tuple ⟨[]⟩) (λ_=>[ap aj (.slice a xs.length xs.length) xs.reverse]) (λ_=>[]) (λ_=>True):=by
 by_cases hne:0<xs.length
 .exact aY.akV (args:=λa=>[.slice a xs.length xs.length]) (zs:=λ_=>xs.reverse) hne (λ_=>List.length_reverse) λb f pre hf=>apO hl hf
 .obtain rfl:xs=[]:=pU.1 s6;intro B w s;obtain⟨S1,s1,back⟩:=s.Om (k1:=[]) (bA:=[ap aj (.slice a 0 0) []]) (F1:=[]) .nil .nil;refine .vQ _ (apM (a:=a) (c:=0) S1 w s1) ?_;exact n5
def apQ(hl:xs.length<2^63):
 GZ prog (λx:Int=>[jT x]) (.func 219) [] [ptr' b] [ap aj (.slice a xs.length xs.length) xs] [aX b 0 [.slice a xs.length xs.length]] (λys=>ys=xs):=by
 intro S inv ok step s0 oM y1 y2 F' h0 hok hy;rw[bQ,bP];refine l7 Vm acB λB w0=>?_;refine go ?_;refine dL (λy:Nat×S=>xs.length - y.1) (λy=>[(7,iV (y.1:Int))]) (λy=>inv y.2++[ap aj (.slice a xs.length xs.length) xs]) (λ_=>[]) (λy=>y.1<=xs.length/\ok (xs.take y.1) y.2/\cz step y.2 (xs.drop y.1)=cz step s0 xs) (0,s0) ⟨bI _,h0,rfl⟩ (hk:=aJ.all _) (body:=?_);rintro⟨k,s⟩ ⟨hk,hos,hrun⟩;dsimp only at hk hos hrun⊢;refine aK ?_ ?_<;>intro h1
 .have hx:xs[k]? =some xs[k]:=bN s6;generalize xs[k]=x at hx;have hd:xs.drop k=x::xs.drop (k+1):=by
   exact pe
  have hX:xs.take k++x::xs.drop (k+1)=xs:=by rw[<- hd,l5]
  have fQ:=hy _ s _ _ hos hX;rw[hd,cz]at hrun;refine go ?_;refine aar (v:=.slice a xs.length xs.length) (xs:=xs) k x hx (next:=λb0 o0=>?_) (hk:=aD.app .here _);refine go ?_;refine fH fQ (hk:=aJ.self _ _) (next:=λ_ _=>?_);cases hst:(step s x).2 with
  |true=>
   have hs1:step s x=((step s x).1,true):=Prod.ext rfl hst;rw[hs1]at hrun;refine go ?_;refine aW (k+1,(step s x).1) zd ⟨by show k+1<=_;omega,?_,hrun⟩ (hk:=aJ.all _);exact pT
  |false=>
   exact hU
 have hke:k=xs.length:=s6
 subst hke;rw[DY]at hrun;refine go ?_;exact gQ xs rfl (hk:=wq)
variable{fn:Fn}{first captured:ae ah}{F1:ae aI}{A:OA}{X:ae Int->Prop}
def apR(hit:GZ prog (λx:Int=>[jT x]) fn first captured [A] F1 X)(hl:∀xs,X xs->xs.length<=1000000):
 aY prog (.func 184) [.slice none 0 0,.func fn ⟨first⟩ ⟨captured⟩] [] [A] F1 (λy:H9=>y.v) (λy=>[ap aj y.v y.xs,A]) (λ_=>[]) (λy=>X y.xs):=by
 refine zD Pz UB λB w0=>?_;refine go ?_;intro b2;refine kv aj ?_;refine oz (λv:ah=>[pt b2 (.cells [v]),ap aj v ([]:ae Int)]) (.slice none 0 0) (h:=?_);refine akQ (Z:=Nat) (λ(ys:ae Int) (x:Int)=>(ys++[x],Out.normal)) (λys=>[UE aj b2 ys]) (λvs ys=>ys=vs) [] _ (λ_ _=>[]) rfl (λvs s x rest hs hX _=>by rw[hs]) hit Dd ?_ ?_ (λ_ _=>trivial)
 .exact de
 .exact dl
def apS(hit:GZ prog (λx:Int=>[jT x]) fn first captured [A] F1 X)(hl:∀xs,X xs->xs.length<=1000000):
 aY prog (.func 92) [.func fn ⟨first⟩ ⟨captured⟩] [] [A] F1 (λy:H9=>y.v) (λy=>[ap aj y.v y.xs,A]) (λ_=>[]) (λy=>X y.xs):=by
 refine l7 PD UC λB w0=>?_;refine gC (apR hit hl) λy hy=>?_;dsimp only[List.cons_append,List.nil_append];refine go ?_;exact gQ y hy
def apT(hit:GZ prog (λx:Int=>[jT x]) fn first captured [A] F1 X)(hl:∀xs,X xs->xs.length<=1000000):
 aY prog (.func 174) [.func fn ⟨first⟩ ⟨captured⟩] [] [A] F1 (λy:H9=>y.v) (λy=>[ap aj y.v (bW y.xs),A]) (λ_=>[]) (λy=>X y.xs):=by
 refine l7 U7 acp λB w0=>?_;refine gC (apS hit hl) λy hy=>?_;obtain⟨v,xs⟩:=y;dsimp only[List.cons_append,List.nil_append]at hy⊢;have hlen:=hl _ hy;refine EW (E:=aj) (v:=v) (xs:=xs) λa hv=>?_;subst hv;refine gC (KW (a:=a) (zs:=xs) rfl s6) λ_ _=>?_;refine go ?_;exact gQ ⟨.slice a xs.length xs.length,xs⟩ hy
def Dp{vb:ah}{ys:ae Int}(hal:xs.length<2^63):
 aY prog (.func 91) [.slice a xs.length xs.length,vb] [] [ap aj (.slice a xs.length xs.length) xs] [ay aj vb ys] (λ_:Unit=>.bool (decide (xs=ys))) (λ_=>[ap aj (.slice a xs.length xs.length) xs]) (λ_=>[]) (λ_=>True):=by
 refine l7 UD abI λB w0=>?_;refine aK ?_ ?_<;>intro h1
 .exact dr
 have hlen:xs.length=ys.length:=s6
 refine go ?_;refine dL (λk=>xs.length - k) (λk:Nat=>[(13,iV (k:Int))]) (λ_=>[ap aj (.slice a xs.length xs.length) xs]) (λ_=>[]) (λk=>k<=xs.length/\∀j,j<k->xs[j]? =ys[j]?) 0 ⟨s6,λj hj=>by omega⟩ (hk:=tc) (body:=?_);rintro k ⟨hkx,hsame⟩;refine aK ?_ ?_<;>intro h2
 .have hx:xs[k]? =some xs[k]:=bN s6;generalize xs[k]=x at hx;refine go ?_;refine aar (v:=.slice a xs.length xs.length) (xs:=xs) k x hx (next:=λb0 o0=>?_);refine go ?_;intro _ _ y hy;refine aK ?_ ?_<;>intro h3
  .exact da
  exact jp
 refine aZ ?_;have:xs=ys:=by
  exact cQ
 rw[eB this];rfl
def sF(p:ae Int->Bool)(L:ae (ae Int)):Int:=match L.findIdx? p with
 |some i=>(i:Int)
 |none=> -1
variable{p:ae Int->Bool}{L:ae (ae Int)}
def ac4{x:ae Int}(h:(L.take k).any p=false)(hx:L[k]? =some x)(hp:p x=true):sF p L=(k:Int):=by
 have hk:=(bz.1 hx).1;have:L.findIdx? p=some k:=by
  rw[aeQ];refine⟨hk,by rw[(bz.1 hx).2];exact hp,λj hj iD=>?_⟩;have h1:=Ml.1 h L[j] (aV (i:=j) (by rw[wP,if_pos hj];exact bN s6));exact h1 iD
 unfold sF;rw[this]
def ac5(h:L.any p=false):sF p L= -1:=by
 have:L.findIdx? p=none:=by
  rw[aeR];intro x hx;have:=Ml.1 h x hx;simpa using this
 unfold sF;rw[this]
def ac6(L:ae (ae Int))(w:ae Int):sF (λx=>decide (bW x=bW w)) L=xG L w:=rfl
def ac7{cap:ae ah}{va:ah}{xs:ae (ae Int)}(hl:xs.length<2^63)(hp:∀x∈xs,Dk prog fn first cap F1 p x):
 fC prog 161 [va,.func fn ⟨first⟩ ⟨cap⟩] (ay (aA aj) va xs::F1) (λ_:Unit=>iV (sF p xs)) (λ_=>True):=by
 refine l7 PU Vn λB w0=>?_;refine gF (aA aj) va xs λaa ca ea=>?_;subst ea;refine gN xs.length 8 (λk=>k<=xs.length/\(xs.take k).any p=false) ⟨s6,s7⟩ ?_;rintro k ⟨hk,hno⟩;refine aK ?_ ?_<;>intro h1
 .refine gX (aA aj) (xs:=xs) λ_ _ x (u:ah) hx=>?_;refine gC (hp x (aV hx) u) λ_ _=>?_;refine go ?_;refine yA rfl (λh2=>?_) (λh2=>?_)
  .refine aZ ?_;rw[ac4 hno hx h2];rfl
  .exact mw
 have hke:k=xs.length:=s6
 subst hke;rw[dK]at hno;refine aZ ?_;rw[ac5 hno];rfl
end Go.Proofs.YtgimfpcgbmpkhaaGreat
namespace Go.Proofs.YtgimfpcgbmpkhaaGreat
open Tryz (prog)
open Go.Ideal Kd
def vB(xs:ae Int):ae ah:=(List.range 256).map λj:Nat=>.bool (decide ((j:Int)∈xs))
def ac8(xs:ae Int):(vB xs).length=256:=by unfold vB;rw[bi,o8]
variable{j:Nat}{xs:ae Int}
def apU(hj:j<256):(vB xs)[0+j*1]? =some (.bool (decide ((j:Int)∈xs))):=by
 rw[gq,lU];unfold vB;rw[eF,uk hj];rfl
def apV(hj:j<256):(vB xs).set (0+j*1) (.bool true)=vB (xs++[(j:Int)]):=by
 rw[gq,lU];apply iQ;intro i;rw[rM,ac8];unfold vB;by_cases hi:i<256
 .exact mu
 .exact lE
def apW:vB []=List.replicate 256 (.bool false):=by
 unfold vB;apply iQ;intro i;rw[eF,aeS];by_cases hi:i<256
 .rw[uk hi,if_pos hi];simp
 .rw[fT (by rw[o8];omega),if_neg hi];rfl
def apX{B:ae Nat}{w0:Wd}{kl:ae OA}{F:ae aI}{Q:IH->Prop}{A A':OA}(e:A=A')(h:R Q B w0 (A'::kl) F):R Q B w0 (A::kl) F:=by rw[e];exact h
variable{n:Nat}{v:ah}
def VN(hn:n<=256)(hl:xs.length<2^63):fC prog 181 [v,iV (n:Int)] [ay aj v xs] (λb:Bool=>.bool b) (λb=>b=true↔bM n xs):=by
 refine gB 181 λB w0=>?_;refine gF aj v xs λav cv ev=>?_;subst ev;refine go ?_;intro b5;refine apX (A':=pt b5 (.cells (vB []))) (by rw[apW]<;>rfl) ?_;refine go ?_;refine dL (λk=>xs.length - k) (λk:Nat=>[(10,iV (k:Int))]) (λk=>[pt b5 (.cells (vB (xs.take k)))]) (λ_=>[]) (λk=>k<=xs.length/\(∀x∈xs.take k,0<=x/\x<(n:Int))/\(xs.take k).Nodup) 0 ⟨bI _,s7,s7⟩ (hk:=tc) (body:=?_);rintro k ⟨hk,hin,hnd⟩;refine aK ?_ ?_<;>intro h1
 .refine go ?_;intro _ _ x hx;have hxm:=aV hx;have htk:=fq hx;have hno:¬(0<=x/\x<(n:Int))->∀b:Bool,b=false->(b=true↔bM n xs):=λh b hb=>⟨(λe=>by rw[hb]at e;cases e),λq=>absurd (q.dJ x hxm) h⟩
  refine gH ?_ ?_<;>intro h2
  rotate_left
  .exact ju
  refine gH ?_ ?_<;>intro h3
  rotate_left
  .exact ju
  obtain⟨m,rfl⟩:=dW (by omega:0<=x);refine go ?_;refine oN (b:=b5) (o:=0+m*1) (cs:=vB (xs.take k)) (.bool (decide ((m:Int)∈xs.take k))) (apU s6) ?_;refine aK ?_ ?_<;>intro h4
  .exact hJ
  refine go ?_;refine jN (b:=b5) (o:=0+m*1) (cs:=vB (xs.take k)) (v:=.bool true) (cs':=vB (xs.take (k+1))) (by rw[apV s6,htk]) (by rw[ac8];omega) ?_;exact ff
 have hke:k=xs.length:=s6
 subst hke;rw[dK]at hin hnd;refine go ?_;refine gQ (decide ((xs.length:Int)=(n:Int))) ?_;rw[lV];exact⟨λe=>⟨s6,hin,hnd⟩,λq=>by have:=q.len;omega⟩
def ac9(hn:n<=256)(hl:xs.length<2^63):fC prog 162 [v,iV (n:Int)] [ay aj v xs] (λe:Int=>iV e) (λe=>e=0↔bM n xs):=by
 refine gB 162 λB w0=>?_;refine aK ?_ ?_<;>intro h1
 .exfalso;omega
 refine gC (VN (xs:=xs) (n:=n) hn hl) λb hb=>?_;refine go ?_;cases b with
 |false=>
  refine go ?_;exact gQ 110 ⟨(λh=>by cases h),λh=>by have:=hb.2 h;cases this⟩
 |true=>
  refine go ?_;exact gQ 0 ⟨λ_=>hb.1 rfl,λ_=>rfl⟩
def iP(d:ae Int)(n:Nat):ae Int:=d++List.replicate (n - d.length) 0
variable{d:ae Int}
def yP(h:d.length<=n):(iP d n).length=n:=by unfold iP;rw[fu,zg];omega
def E9{k:Nat}{x:Int}(hk:k=d.length)(h:k<n):(iP d n).set k x=iP (d++[x]) n:=by
 subst hk;unfold iP;rw[DU _ _ (bG _),um,show n - d.length=(n - (d.length+1))+1 by omega,wR,List.set_cons_zero,fu,DZ,fo];rfl
def Fa(h:d.length=n):iP d n=d:=by unfold iP;rw[h,um];simp
def ada(n:Nat):iP [] n=List.replicate n 0:=by unfold iP;simp
def Dq(n:Nat):zeros [iV 0] n=(iP [] n).map iV:=by
 rw[ada];exact rI
def apY{va vb:ah}{a b:ae Int}(ha:a.length=n)(hb:kz n b)(hl:b.length<=1000000):aY prog (.func 169) [va,vb] [] [] [ay aj va a,ay aj vb b] (λbm:Nat=>.slice (some ⟨bm,0,some 0⟩) b.length b.length) (λbm=>[pt bm (.cells ((dF a b).map iV))]) (λ_=>[]) (λ_=>True):=by
 refine gB 169 λB w0=>?_;refine gF aj va a λaa ca ea=>?_;subst ea;refine gF aj vb b λab cb eb=>?_;subst eb;refine go ?_;refine qA b.length ⟨s6,s6,s6⟩ λbm=>?_;rw[Dq];refine go ?_;refine dL (λk=>b.length - k) (λk:Nat=>[(13,iV (k:Int))]) (λk=>[pt bm (.cells ((iP (dF a (b.take k)) b.length).map iV))]) (λ_=>[]) (λk=>k<=b.length) 0 (bI _) (hk:=tc) (body:=?_);intro k hk;have hcl:(dF a (b.take k)).length=k:=by unfold dF;rw[bi,gW];omega
 refine aK ?_ ?_<;>intro h1
 .refine go ?_;intro _ _ x hx;have nA:=hb x (aV hx);obtain⟨m,rfl⟩:=dW nA.1;refine go ?_;intro _ _ z hz;have hzg:=jF hz;have htk:dF a (b.take (k+1))=dF a (b.take k)++[z]:=by
   unfold dF;rw[fq hx,bZ,kg,hzg]
  refine go ?_;refine jN (b:=bm) (o:=0+k*1) (cs:=(iP (dF a (b.take k)) b.length).map iV) (v:=iV z) (cs':=(iP (dF a (b.take (k+1))) b.length).map iV) Fm Fc ?_;exact nB
 have hke:k=b.length:=s6
 subst hke;rw[dK]at hcl⊢;rw[Fa hcl];refine go ?_;exact gQ bm trivial
def yQ(p:ae Int):Prop:=p.length<=256/\bM p.length p
variable{p:ae Int}
def apZ{zs:ae Int}(h:bM p.length p)(hl:zs.length=p.length)(hz:∀(i:Nat) x,p[i]? =some x->zs[x.toNat]? =some (i:Int)):zs=bX p:=by
 apply iQ;intro j;by_cases hj:j<p.length
 .obtain⟨c,c0,c1,hc⟩:=h.onto (y:=(j:Int)) s6 s6;have h1:=qd (p:=p) c0 s6;rw[hc]at h1;have h2:=hz _ _ h1;rw[fI,rR c0]at h2;have h3:=qd (p:=bX p) (c:=(j:Int)) s6 (by rw[xD];omega);rw[<- hc,h.wz c0 c1,hc,fI]at h3;rw[h2,h3]
 .rw[fT s6,fT (by rw[xD];omega)]
def adb{vp:ah}(hp:p.length<2^63):aY prog (.func 71) [vp] [] [] [ay aj vp p] (λy:ah×Int=>.tuple ⟨[y.1,iV y.2]⟩) (λ_=>[])
 (λy=>[lc (y.2=0) (ay aj y.1 (bX p))]) (λy=>(y.2=0↔yQ p)/\(y.2≠0->y=(.slice none 0 0,110))):=by
 have hend:¬yQ p->((110:Int)=0↔yQ p)/\((110:Int)≠0->((Value.slice none 0 0,(110:Int)):ah×Int)=(.slice none 0 0,110)):=λh=>⟨⟨(λe=>by cases e),λe=>absurd e h⟩,λ_=>rfl⟩
 refine gB 71 λB w0=>?_;refine gF aj vp p λaa ca ea=>?_;subst ea;refine gH ?_ ?_<;>intro h1
 rotate_left
 .refine go ?_;refine tZ (c:=(110:Int)=0) (f:=ay aj (.slice none 0 0) (bX p)) s7 ?_;exact gQ (.slice none 0 0,110) (hend λh=>by have:=h.1;omega)
 have hpl:p.length<=256:=s6
 refine gC (VN (xs:=p) (n:=p.length) hpl hp) λc hc=>?_;refine go ?_;cases c with
 |false=>
  refine go ?_;refine tZ (c:=(110:Int)=0) (f:=ay aj (.slice none 0 0) (bX p)) s7 ?_;exact gQ (.slice none 0 0,110) (hend λh=>by have:=hc.2 h.2;cases this)
 |true=>
 have zX:=hc.1 rfl;refine go ?_;refine qA p.length ⟨s6,s6,s6⟩ λbm=>?_;rw[Dq];refine go ?_;refine dL (λy:Nat×ae Int=>p.length - y.1) (λy=>[(21,iV (y.1:Int))]) (λy=>[pt bm (.cells (y.2.map iV))]) (λ_=>[]) (λy=>y.1<=p.length/\y.2.length=p.length/\∀(i:Nat) x,i<y.1->p[i]? =some x->y.2[x.toNat]? =some (i:Int)) (0,iP [] p.length) ⟨bI _,yP (bI _),λi x hi=>absurd hi (Cc _)⟩ (hk:=tc) (body:=?_);rintro⟨k,zs⟩ ⟨hk,hzl,hz⟩;dsimp only at hk hzl hz⊢;refine aK ?_ ?_<;>intro h2
 .refine go ?_;intro _ _ x hx;have nA:=zX.dJ x (aV hx);obtain⟨m,rfl⟩:=dW nA.1;refine go ?_;refine jN (b:=bm) (o:=0+m*1) (cs:=zs.map iV) (v:=iV (k:Int)) (cs':=(zs.set m (k:Int)).map iV) (by rw[gq,lU,qo]) vj ?_;refine go ?_;refine aW (k+1,zs.set m (k:Int)) (by show p.length - (k+1)<p.length - k;omega) ⟨by dsimp only;omega,by rw[lu];exact hzl,λi z hi hpi=>?_⟩;dsimp only at hi⊢;by_cases e:i=k
  .subst e;rw[hx]at hpi;cases hpi;rw[fI,rM,if_pos rfl,if_pos s6]
  .have:=hz i z s6 hpi;rw[rM,if_neg (λq=>e ?_)]
   .exact this
   .have hzr:=zX.dJ z (aV hpi);have Re:z=(m:Int):=by omega
    subst Re;exact Hl zX.nd hpi hx
 have hke:k=p.length:=s6
 subst hke;have hfin:zs=bX p:=apZ zX hzl λi x hx=>hz i x (bz.1 hx).1 hx;subst hfin;refine mI (A:=pt bm (.cells ((bX p).map iV))) (fs:=[ay aj (.slice (some ⟨bm,0,some 0⟩) p.length p.length) (bX p)]) (by have:=uJ (b:=bm) (f:=0) (c:=p.length) (xs:=bX p) (hc:=by rw[xD];exact bG _);rw[xD]at this;exact this) (h:=?_);refine go ?_;refine uY (c:=(0:Int)=0) (f:=ay aj (.slice (some ⟨bm,0,some 0⟩) p.length p.length) (bX p)) s7 ?_;exact gQ (.slice (some ⟨bm,0,some 0⟩) p.length p.length,0) ⟨⟨λ_=>⟨hpl,zX⟩,λ_=>rfl⟩,λh=>absurd rfl h⟩
end Go.Proofs.YtgimfpcgbmpkhaaGreat
namespace Go.Proofs.YtgimfpcgbmpkhaaGreat
open Tryz (prog)
open Go.Ideal Kd Canon Gph
def mR(k:aT)(s t:ae Int)(r:bF):Bool:=
 if r.kind=1\/r.kind=2 then kZ (k.lists.getD r.family.toNat []) s r.family kY
 else if r.kind=3 then kZ (k.lists.getD r.family.toNat []) s r.family kY&&pM (gJ k) t
 else if r.kind=4 then kZ (k.lists.getD r.family.toNat []) s r.family zR&&pM (gJ k) t
 else if r.kind=5 then kZ (k.lists.getD r.family.toNat []) s r.family wB
 else if r.kind=7 then mQ k.aH s&&pM (gJ k) t
 else if r.kind=6\/r.kind=8\/r.kind=9\/r.kind=10 then mQ k.aH s
 else true
def keepR(k:aT)(s t:ae Int)(r:bF):Bool:=sj r.set.toNat r.other.toNat t&&mR k s t r
structure eU(k:aT)(s t:List Int):Prop where
 pc:bM k.grid.cells.length s
 ps:bM k.decl.symbols.length t
 qc:∀r∈k.decl.rules,keepR k s t r=true
variable{k:aT}
def bD.Lc(h:bD k){f:Nat}{L:ae (ae Int)}(hL:k.lists[f]? =some L):qf k.grid.cells.length L (f:Int):=by
 rw[h.lists]at hL;rw[h.grid];exact amm h.bJ (λr hr=>⟨(h.typ.wH r hr).1.2,(h.typ.wH r hr).2⟩) hL
def bD.Bt(h:bD k):uW k.grid.cells.length k.aH:=by
 rw[h.aH,h.grid];exact⟨yF _,λl hl=>(O7 l hl).2⟩
def bD.adf(h:bD k):nQ k.aH:=by
 rw[h.aH];intro i l hl n hn;obtain⟨j,hj⟩:=gT hn;obtain⟨a,b,_,_,c⟩:=Ua h.bJ i l hl j n hj;exact⟨⟨a,b⟩,c⟩
def bD.ndk(h:bD k):∀l∈k.aH,l.Nodup:=by
 rw[h.aH];intro l hl;unfold gI at hl;obtain⟨p,_,rfl⟩:=cO.1 hl;exact Pb h.bJ p
def bD.kinds(h:bD k){r:bF}(hr:r∈k.decl.rules):1<=r.kind/\r.kind<=11:=by
 refine VI ?_;have:=h.typ.read;exact eA
def Bu(c:jA)(r:bF):Prop:=((r.kind=2\/r.kind=3)/\c.type=2/\c.family=r.family)\/(r.kind=5/\c.type=3/\c.family=r.family)\/(r.kind=11/\c.type=1/\c.family=0)
def bD.adh(h:bD k){r:bF}(hr:r∈k.decl.rules):(r.aN= -1/\r.kind≠5/\r.kind≠11)\/∃c,0<=r.aN/\k.decl.bT[r.aN.toNat]? =some c/\Bu c r:=by
 have hkd:=h.kinds hr;have hx:=(h.typ.form.oP r hr).K4 _ rfl;have hcp:=λc (hc:k.decl.bT[r.aN.toNat]? =some c)=>(h.typ.form.ny _ c hc).2;have VO:r.kind=1\/r.kind=2\/r.kind=3\/r.kind=4\/r.kind=5\/r.kind=6\/r.kind=7\/r.kind=8\/r.kind=9\/r.kind=10\/r.kind=11:=s6
 have key:∀need:Int,need=(if(iU r.kind).op=true/\r.fV≠qI then 2 else(iU r.kind).aN)->(need=0->r.kind≠5/\r.kind≠11)/\(need=2->r.kind=2\/r.kind=3)/\(need=3->r.kind=5)/\(need=1->r.kind=11)/\(need=0\/need=1\/need=2\/need=3):=by
  intro need hn;rcases VO with e|e|e|e|e|e|e|e|e|e|e;all_goals (rw[e]at hn⊢;simp[iU]at hn;(try split at hn)<;>(refine⟨λh=>?_,λh=>?_,λh=>?_,λh=>?_,?_⟩<;>omega))
 obtain⟨k0,k2,k3,k1,kk⟩:=key _ rfl;generalize(if(iU r.kind).op=true/\r.fV≠qI then 2 else(iU r.kind).aN:Int)=need at hx k0 k1 k2 k3 kk;rcases hx with⟨a,_,b⟩|⟨a,b,_,c,c1,c2,c3⟩
 .exact .inl ⟨b,k0 a⟩
 .refine .inr ⟨c,b,c1,?_⟩;rcases kk with e|e|e|e
  .exact absurd e a
  .have:=hcp c c1;unfold u7 at this;exact .inr (.inr ⟨k1 e,s6,s6⟩)
  .exact .inl ⟨k2 e,s6,s6⟩
  .exact .inr (.inl ⟨k3 e,s6,s6⟩)
def bD.ap0(h:bD k){i:Nat}{c:jA}(hc:k.decl.bT[i]? =some c):∃r∈k.decl.rules,r.aN=(i:Int)/\Bu c r:=by
 have h1:=(h.typ.form.ny i c hc).1;have hm:(i:Int)∈k.decl.rules.map (·.aN):=QS.1 s6;obtain⟨r,hr,e⟩:=cO.1 hm;rcases h.adh hr with⟨a,_⟩|⟨c',b1,b2,b3⟩
 .omega
 .rw[e,fI,hc]at b2;cases b2;exact⟨r,hr,e,b3⟩
def xK(c:jA):ae Int->ae Int->Bool:=if c.type=3 then wB else kY
variable{s t:ae Int}
def eU.rule(h:eU k s t){r:bF}(hr:r∈k.decl.rules):sj r.set.toNat r.other.toNat t=true/\
 ((r.kind=1\/r.kind=2\/r.kind=3)->kZ (k.lists.getD r.family.toNat []) s r.family kY=true)/\((r.kind=3\/r.kind=4\/r.kind=7)->pM (gJ k) t=true)/\
 (r.kind=4->kZ (k.lists.getD r.family.toNat []) s r.family zR=true)/\(r.kind=5->kZ (k.lists.getD r.family.toNat []) s r.family wB=true)/\((6<=r.kind/\r.kind<=10)->mQ k.aH s=true):=by
 have h1:=h.qc r hr;unfold keepR mR at h1;rw[gV]at h1;refine⟨h1.1,?_⟩;have h2:=h1.2;refine⟨λe=>?_,λe=>?_,λe=>?_,λe=>?_,λe=>?_⟩
 .rcases e with e|e|e
  .rw[if_pos (.inl e)]at h2;exact h2
  .rw[if_pos (.inr e)]at h2;exact h2
  .rw[if_neg s6,if_pos e,gV]at h2;exact h2.1
 .rcases e with e|e|e
  .rw[if_neg s6,if_pos e,gV]at h2;exact h2.2
  .rw[if_neg s6,if_neg s6,if_pos e,gV]at h2;exact h2.2
  .rw[if_neg s6,if_neg s6,if_neg s6,if_neg s6,if_pos e,gV]at h2;exact h2.2
 .rw[if_neg s6,if_neg s6,if_pos e,gV]at h2;exact h2.1
 .rw[if_neg s6,if_neg s6,if_neg s6,if_pos e]at h2;exact h2
 .rw[if_neg s6,if_neg s6,if_neg s6,if_neg s6]at h2;by_cases e7:r.kind=7
  .rw[if_pos e7,gV]at h2;exact h2.1
  .rw[if_neg e7,if_pos s6]at h2;exact h2
def ap2(hK:bD k)(hk:eU k s t){i:Nat}{c:jA}(hc:k.decl.bT[i]? =some c):∃L,k.lists[c.family.toNat]? =some L/\qf k.grid.cells.length L c.family/\∀j,j<L.length->∃i,Goes L s c.family (xK c) j i:=by
 have hf:=hK.fM c (aV hc);have hL:k.lists[c.family.toNat]? =some (k.lists[c.family.toNat]'(s6)):=bN _;have jH:=hK.Lc hL;rw[rR hf.1]at jH;refine⟨_,hL,jH,?_⟩;obtain⟨r,hr,e,hcr⟩:=hK.ap0 hc;obtain⟨_,k1,_,_,k5,_⟩:=hk.rule hr;unfold xK;rcases hcr with⟨a,b,d⟩|⟨a,b,d⟩|⟨a,b,d⟩
 .rw[if_neg s6];have:=k1 s6;rw[<- d,fK hL]at this;exact(xH jH hk.pc).1 this
 .rw[if_pos b];have:=k5 a;rw[<- d,fK hL]at this;exact(xH jH hk.pc).1 this
 .rw[if_neg s6];intro j hj;have hl0:k.lists[c.family.toNat]? =some (l9 k.grid.cells.length):=by
   rw[d,hK.lists,hK.grid];rfl
  rw[hL]at hl0;have hl0:=Option.some.inj hl0;have hn:(l9 k.grid.cells.length).length=k.grid.cells.length:=TS _;rw[hl0]at hj⊢;have hr2:=hk.pc.at_ (c:=(j:Int)) s6 s6;have hget:∀m,m<k.grid.cells.length->(l9 k.grid.cells.length)[m]? =some [(m:Int)]:=λm hm=>by
   unfold l9;rw[eF,uk hm];rfl
  refine⟨(aU s (j:Int)).toNat,_,_,hget j s6,hget _ s6,?_,?_,λ_=>rR hr2.1⟩
  .rw[rR hr2.1];exact List.Perm.refl _
  .rw[rR hr2.1];exact ER.2 (List.Perm.refl _)
def iI(s l l':ae Int):Bool:=!decide (img s l=l')&&decide ((img s l).reverse=l')
def sG(c:jA)(s t l l' v:ae Int):ae Int:=if c.type=1 then img t v else if c.type=3/\iI s l l'=true then v.reverse else v
def gK(k:aT)(s t:ae Int)(g:Clue):Clue:=
 match k.decl.bT[g.aN.toNat]? with
 |none=>g
 |some c=>⟨g.aN,jc (k.lists.getD c.family.toNat []) s c.family g.at_,sG c s t ((k.lists.getD c.family.toNat []).getD g.at_.toNat []) ((k.lists.getD c.family.toNat []).getD (jc (k.lists.getD c.family.toNat []) s c.family g.at_).toNat []) g.values⟩
structure Ik(k:aT)(s t:List Int)(g:Clue)(c:jA)(L:List (List Int))(j i:Nat)(l l':List Int):Prop where
 aN:0<=g.aN
 hc:k.decl.bT[g.aN.toNat]? =some c
 hL:k.lists[c.family.toNat]? =some L
 fM:qf k.grid.cells.length L c.family
 at_:g.at_=(j:Int)
 hl:L[j]? =some l
 hl':L[i]? =some l'
 goes:Goes L s c.family (xK c) j i
 perm:l'.Perm (img s l)
 eq:xK c l' (img s l)=true
 img:gK k s t g=⟨g.aN,(i:Int),sG c s t l l' g.values⟩
 cells:kL k g=l
 cells':kL k (gK k s t g)=l'
def xL(hK:bD k)(hk:eU k s t){g:Clue}(hg:mO k g):∃c L j i l l',Ik k s t g c L j i l l':=by
 obtain⟨c,L,l,h1,h2,h3,h4,h5,h6,h7⟩:=hg.cells;obtain⟨L',hL',jH,hgo⟩:=ap2 hK hk h1;rw[h2]at hL';cases hL';obtain⟨j,hj⟩:=dW h5;rw[hj,fI]at h3;obtain⟨i,hgi⟩:=hgo j s6;have hw:=hgi.jc jH;have ap3:=hgi;obtain⟨l0,l',a1,a2,a3,a4,a5⟩:=hgi;rw[h3]at a1;cases a1;have him:gK k s t g=⟨g.aN,(i:Int),sG c s t l l' g.values⟩:=by
  unfold gK;rw[h1];dsimp only;rw[fK h2,hj,hw,fI,fI,fK h3,fK a2]
 refine⟨c,L,j,i,l,l',h4,h1,h2,jH,hj,h3,a2,ap3,a3,a4,him,h7,?_⟩;rw[him];unfold kL TY;dsimp only;rw[h1];dsimp only;rw[fK h2,fI,fK a2]
def Qa(hK:bD k)(hk:eU k s t){g:Clue}(hg:mO k g):mO k (gK k s t g):=by
 obtain⟨c,L,j,i,l,l',G⟩:=xL hK hk hg;obtain⟨c',L',h1,h2,h3,h4,h5,h6⟩:=hg;rw[G.hc]at h2;cases h2;rw[G.img];have hi:=(bz.1 G.hl').1;refine⟨c,L,h1,G.hc,G.hL,by show(0:Int)<=(i:Int);omega,by show(i:Int)<_;omega,?_⟩;unfold sG;dsimp only;rcases h6 with⟨a,b,d⟩|⟨a,b,d⟩|⟨a,a2,b,d⟩
 .refine .inl ⟨a,?_⟩;rw[if_pos a,Hq];refine⟨b,λx hx=>?_⟩;obtain⟨v,hv,rfl⟩:=cO.1 hx;have:=d v hv;have:=hk.ps.at_ (c:=v) s6 s6;omega
 .refine .inr (.inl ⟨a,?_⟩);rw[if_neg s6,if_neg s6];exact⟨b,d⟩
 .refine .inr (.inr ⟨a,a2,?_⟩);rw[if_neg a];split
  .rw[FP];exact⟨b,λx hx=>d x (List.mem_reverse.1 hx)⟩
  .exact⟨b,d⟩
def ap4(hK:bD k)(hk:eU k s t){a b:Clue}(ha:mO k a)(hb:mO k b)(e:dV (gK k s t a) (gK k s t b)=0):dV a b=0:=by
 obtain⟨c,L,j,i,l,l',G⟩:=xL hK hk ha;obtain⟨c2,L2,j2,i2,l2,l2',G2⟩:=xL hK hk hb;rw[si,G.img,G2.img]at e;obtain⟨e1,e2⟩:=e;dsimp only at e1 e2;have h1:=G.hc;rw[e1,G2.hc]at h1;cases h1;have h2:=G.hL;rw[G2.hL]at h2;cases h2;have hii:i=i2:=s6
 subst hii;have:=G.goes.inj G.fM hk.pc G2.goes;rw[si,G.at_,G2.at_];exact⟨e1,s6⟩
variable{p x:ae Clue}
def Qb(hK:bD k)(hk:eU k s t)(hQ:fE k p)(hx:jG (p.map (gK k s t)) x):∀g,g∈x↔g∈p.map (gK k s t):=by
 intro g;refine⟨hx.sub g,λhg=>?_⟩;obtain⟨a,ha,rfl⟩:=cO.1 hg;obtain⟨r,hr,hp,_⟩:=hx.all _ hg;obtain⟨b,hb,rfl⟩:=cO.1 (hx.sub r hr);have h0:=si.1 (ap4 hK hk (hQ.right a ha) (hQ.right b hb) hp);have:=Uc hQ ha hb h0.1 h0.2;subst this;exact hr
def ap5(h:x.Pairwise λa b=>dV a b<0):∀(i:Nat) a b,x[i]? =some a->x[i+1]? =some b->dV a b<0:=by
 intro i a b ha hb;obtain⟨h1,h2⟩:=bz.1 ha;obtain⟨h3,h4⟩:=bz.1 hb;rw[<- h2,<- h4];exact zf.1 h i (i+1) h1 h3 s6
def Ld(hK:bD k)(hk:eU k s t)(hQ:fE k p)(hx:jG (p.map (gK k s t)) x):fE k x:=by
 refine⟨?_,λg hg=>?_,ap5 hx.inc⟩
 .have:=alP hx;rw[bi]at this;have:=hQ.len;omega
 .obtain⟨a,ha,rfl⟩:=cO.1 (hx.sub g hg);exact Qa hK hk (hQ.right a ha)
def adi(h:fE k p):p.Pairwise λa b=>dV a b<0:=by
 rw[zf];intro i j hi hj hij;have:=Db h (j - (i+1)) i p[i] p[j] (bN hi) (by rw[show i+1+(j - (i+1))=j by omega];exact bN hj);exact this
end Go.Proofs.YtgimfpcgbmpkhaaGreat
namespace Go.Proofs.YtgimfpcgbmpkhaaGreat
open Tryz (prog)
open Go.Ideal Kd Canon Gph
def jQ(s t grid:ae Int):ae Int:=img t (dF grid (bX s))
structure jm(n m:Nat)(s t grid y:List Int):Prop where
 ps:bM n s
 pt:bM m t
 len:grid.length=n
 Bv:y.length=n
 jB:∀x∈grid,0<=x/\x<(m:Int)
 at_:∀c,0<=c->c<(n:Int)->aU y (aU s c)=aU t (aU grid c)
variable{s t grid:ae Int}
def ap6:(jQ s t grid).length=s.length:=by unfold jQ dF;rw[Hq,bi,xD]
def ap7{n m:Nat}(hs:bM n s)(ht:bM m t)(hl:grid.length=n)(hg:∀x∈grid,0<=x/\x<(m:Int)):jm n m s t grid (jQ s t grid):=by
 refine⟨hs,ht,hl,by rw[ap6];exact hs.len,hg,λc c0 c1=>?_⟩;have hr:=hs.at_ c0 c1;unfold jQ;have h1:(bX s).length=n:=by rw[xD];exact hs.len
 have h2:=yH (a:=grid) (b:=bX s) (c:=aU s c) hr.1 (by rw[h1];exact hr.2);rw[hs.wz c0 c1]at h2;have h3:(dF grid (bX s)).length=n:=by unfold dF;rw[bi];exact h1
 have h4:dF t (dF grid (bX s))=img t (dF grid (bX s)):=rfl;rw[<- h4,yH hr.1 (by rw[h3];exact hr.2),h2]
section
variable {n m:Nat} {s t grid y:ae Int}
def jm.dJ(h:jm n m s t grid y){c:Int}(c0:0<=c)(c1:c<(n:Int)):0<=aU grid c/\aU grid c<(m:Int):=h.jB _ (Ur c0 (by rw[h.len];exact c1))
def jm.mem(h:jm n m s t grid y){d:Int}(hd:d∈y):0<=d/\d<(m:Int):=by
 obtain⟨i,hi⟩:=gT hd;have hl:=(bz.1 hi).1;obtain⟨c,c0,c1,hc⟩:=h.ps.onto (y:=(i:Int)) s6 (by have:=h.Bv;omega);have h1:=h.at_ c c0 c1;rw[hc,jF hi]at h1;rw[h1];have:=h.dJ c0 c1;exact h.pt.at_ this.1 this.2
def Lf(grid:ae Int)(c:Int):sy grid c=(aU grid c).toNat:=rfl
def jm.sy(h:jm n m s t grid y){c:Int}(c0:0<=c)(c1:c<(n:Int)):sy y (aU s c)=(aU t (aU grid c)).toNat:=by rw[Lf,h.at_ c c0 c1]
def Qc{α:Type}{f g:Int->α}:∀{l:ae Int},kz n l->(∀c,0<=c->c<(n:Int)->f (aU s c)=g c)->(img s l).map f=l.map g:=by
 intro l hl h;unfold img;rw[rO];exact yZ λc hc=>h c (hl c hc).1 (hl c hc).2
def jm.Bj(h:jm n m s t grid y){l l':ae Int}(hl:kz n l)(hp:l'.Perm (img s l)):Bj y l'=Bj grid l:=by
 unfold Go.Proofs.YtgimfpcgbmpkhaaGreat.Bj;refine nZ.2 ?_;rw[(hp.map (Go.Proofs.YtgimfpcgbmpkhaaGreat.sy y)).nodup_iff,Qc (g:=λc=>(aU t (aU grid c)).toNat) hl (λc c0 c1=>h.sy c0 c1)];unfold List.Nodup;rw[zi,zi];have key:∀a,a∈l->∀b,b∈l->((aU t (aU grid a)).toNat=(aU t (aU grid b)).toNat↔Go.Proofs.YtgimfpcgbmpkhaaGreat.sy grid a=Go.Proofs.YtgimfpcgbmpkhaaGreat.sy grid b):=λa ha b hb=>by
  have ra:=h.dJ (hl a ha).1 (hl a ha).2;have rb:=h.dJ (hl b hb).1 (hl b hb).2;have ta:=h.pt.at_ ra.1 ra.2;have tb:=h.pt.at_ rb.1 rb.2;rw[Lf,Lf];constructor
  .intro e;rw[h.pt.inj ra.1 ra.2 rb.1 rb.2 s6]
  .intro e;rw[show aU grid a=aU grid b by omega]
 exact⟨λq=>List.Pairwise.imp_of_mem (λ{a b} ha hb hne e=>hne ((key a ha b hb).2 e)) q,λq=>List.Pairwise.imp_of_mem (λ{a b} ha hb hne e=>hne ((key a ha b hb).1 e)) q⟩
def qj(m:Nat)(t:ae Int)(set:Nat):Prop:=∀v:Int,0<=v->v<(m:Int)->set.testBit (aU t v).toNat=set.testBit v.toNat
variable{set:Nat}
def Lg{other:Nat}(ht:bM m t)(h:sj set other t=true):qj m t set/\qj m t other:=by
 unfold sj at h;rw[tQ]at h;constructor;all_goals (
  intro v v0 v1;have h1:=h v.toNat _ (qd v0 (by rw[ht.len];exact v1));dsimp only at h1;rw[gV,lV,lV]at h1)
 .exact h1.1.symm
 .exact h1.2.symm
def vC(m:Nat)(t vals:ae Int):Prop:=∀v:Int,0<=v->v<(m:Int)->aU vals (aU t v)=aU vals v
def Fb{vals:ae Int}(ht:bM m t)(h:pM vals t=true):vC m t vals:=by
 unfold pM at h;rw[tQ]at h;intro v v0 v1;have h1:=jI (h v.toNat _ (qd v0 (by rw[ht.len];exact v1)));dsimp only at h1;rw[rR v0]at h1;exact h1.symm
def jm.bit(h:jm n m s t grid y){set:Nat}(hS:qj m t set){c:Int}(c0:0<=c)(c1:c<(n:Int)):set.testBit (Go.Proofs.YtgimfpcgbmpkhaaGreat.sy y (aU s c))=set.testBit (Go.Proofs.YtgimfpcgbmpkhaaGreat.sy grid c):=by
 have r:=h.dJ c0 c1;rw[h.sy c0 c1,hS _ r.1 r.2,Lf]
def jm.cnt(h:jm n m s t grid y){set:Nat}(hS:qj m t set){l l':ae Int}(hl:kz n l)(hp:l'.Perm (img s l)):Go.Proofs.YtgimfpcgbmpkhaaGreat.cnt y set l'=Go.Proofs.YtgimfpcgbmpkhaaGreat.cnt grid set l:=by
 unfold Go.Proofs.YtgimfpcgbmpkhaaGreat.cnt;rw[(hp.filter _).length_eq];exact Pw hl λc c0 c1=>h.bit hS c0 c1
def jm.va(h:jm n m s t grid y){vals:ae Int}(hV:vC m t vals){c:Int}(c0:0<=c)(c1:c<(n:Int)):va vals y (aU s c)=va vals grid c:=by
 have r:=h.dJ c0 c1;have:=hV _ r.1 r.2;unfold Go.Proofs.YtgimfpcgbmpkhaaGreat.va;rw[h.sy c0 c1,Lf];exact this
def ap8{a b:ae Int}(h:a.Perm b):a.sum=b.sum:=by
 induction h with
 |nil=>rfl
 |cons x _ ih=>rw[FJ,FJ,ih]
 |swap x y l=>rw[FJ,FJ,FJ,FJ];omega
 |trans _ _ ih1 ih2=>rw[ih1,ih2]
def jm.qG(h:jm n m s t grid y){vals:ae Int}(hV:vC m t vals){l l':ae Int}(hl:kz n l)(hp:l'.Perm (img s l)):qG vals y l'=qG vals grid l:=by
 unfold Go.Proofs.YtgimfpcgbmpkhaaGreat.qG;rw[ap8 (hp.map (Go.Proofs.YtgimfpcgbmpkhaaGreat.va vals y)),Qc (g:=Go.Proofs.YtgimfpcgbmpkhaaGreat.va vals grid) hl (λc c0 c1=>h.va hV c0 c1)]
def jm.Bl(h:jm n m s t grid y){vals:ae Int}(hV:vC m t vals){l:ae Int}(hl:kz n l):Bl vals y (img s l)=Bl vals grid l:=by
 unfold Go.Proofs.YtgimfpcgbmpkhaaGreat.Bl;rw[Qc (g:=Go.Proofs.YtgimfpcgbmpkhaaGreat.va vals grid) hl (λc c0 c1=>h.va hV c0 c1)]
def Il(grid:ae Int)(set:Nat):∀(l:ae Int) (k:Nat),rn grid set k l=su k (l.map λc=>set.testBit (sy grid c))
 |[],k=>rfl
 |c::l,k=>by
  rw[rn,iX];cases hb:set.testBit (sy grid c)with
  |true=>rw[if_pos rfl,abr,Il grid set l (k+1)]
  |false=>rw[if_neg s7,Ps,Il grid set l 0]
def jm.rn(h:jm n m s t grid y){set:Nat}(hS:qj m t set){l:ae Int}(hl:kz n l):rn y set 0 (img s l)=rn grid set 0 l:=by
 rw[Il,Il,Qc (g:=λc=>set.testBit (Go.Proofs.YtgimfpcgbmpkhaaGreat.sy grid c)) hl (λc c0 c1=>h.bit hS c0 c1)]
def ap9(grid:ae Int)(set:Nat)(l:ae Int):rn grid set 0 l.reverse=(rn grid set 0 l).reverse:=by
 rw[Il,Il,List.map_reverse,Uw _ _ (bG _)]
def adj{aH:ae (ae Int)}{grid:ae Int}{c:Int->Int->Bool}:qD aH grid c=true↔∀a b,Nb aH a b->c (aU grid a) (aU grid b)=true:=by
 unfold qD;rw[tQ];constructor
 .rintro h a b ⟨l,h0,h1,h2⟩;have:=h _ _ h1;rw[jU]at this;have:=this b h2;dsimp only at this;rw[rR h0]at this;exact this
 .intro h i l hl;rw[jU];intro b hb;exact h (i:Int) b ⟨l,s6,by rw[fI];exact hl,hb⟩
def jm.VP(h:jm n m s t grid y){aH:ae (ae Int)}(hN:uW n aH)(hk:mQ aH s=true){c c':Int->Int->Bool}(hc:∀a b:Int,0<=a->a<(m:Int)->0<=b->b<(m:Int)->c' (aU t a) (aU t b)=c a b):qD aH y c'=qD aH grid c:=by
 have hk:=(De hN h.ps).1 hk;have one:∀a b,Nb aH a b->c' (aU y (aU s a)) (aU y (aU s b))=c (aU grid a) (aU grid b):=λa b hab=>by
  have hr:=hab.dJ hN;have ra:=h.dJ hr.1.1 hr.1.2;have rb:=h.dJ hr.2.1 hr.2.2;rw[h.at_ a hr.1.1 hr.1.2,h.at_ b hr.2.1 hr.2.2];exact hc _ _ ra.1 ra.2 rb.1 rb.2
 rw[wM,adj,adj];constructor
 .intro q a b hab;rw[<- one a b hab];exact q _ _ (hk a b hab)
 .intro q a b hab;obtain⟨x,z,hxz,rfl,rfl⟩:=Pq hN h.ps hk hab;rw[one x z hxz];exact q _ _ hxz
def adk(grid:ae Int)(set:Nat):∀k,k<=grid.length->∀i:Nat,i<grid.length->(nS grid set (upTo' k)).getD i false=(decide (i<k)&&set.testBit (sy grid (i:Int)))
 |0,_,i,hi=>by
  unfold nS upTo';simp[List.getD,hi]
 |k+1,hk,i,hi=>by
  have ih:=adk grid set k s6 i hi;have e:nS grid set (upTo' (k+1))=(nS grid set (upTo' k)).set k (set.testBit (sy grid (k:Int))):=by
   unfold nS;rw[EO,vJ];rfl
  have hl:=abO grid set (upTo' k);rw[e];simp only[List.getD,rM]at ih⊢;by_cases e:k=i
  .subst e;simp[hl,hi]
  .rw[if_neg e,ih];by_cases h2:i<k
   .simp[h2,show i<k+1 by omega]
   .simp[h2,show¬i<k+1 by omega]
def adl{grid:ae Int}{c:Int}(c0:0<=c)(c1:c<(grid.length:Int)):dU (nS grid set (upTo' grid.length)) c=set.testBit (sy grid c):=by
 obtain⟨i,rfl⟩:=dW c0;have:=adk grid set grid.length (bG _) i s6;unfold dU;rw[fI,this,eB s6,L8]
def jm.iso(h:jm n m s t grid y){g:ae (ae Int)}(hS:Gph.nQ g)(hN:uW n g)(hnd:∀l∈g,l.Nodup)(hk:mQ g s=true){set:Nat}(hs:qj m t set):oF n g s (nS grid set (upTo' grid.length)) (nS y set (upTo' y.length)):=by
 refine⟨hS,hN,hnd,h.ps,λc c0 c1=>?_,(De hN h.ps).1 hk⟩;have hr:=h.ps.at_ c0 c1;rw[adl hr.1 (by rw[h.Bv];exact hr.2),adl c0 (by rw[h.len];exact c1),h.bit hs c0 c1]
def oF.join{g:ae (ae Int)}{mk mk':ae Bool}(h:oF n g s mk mk')(loop:Bool):yJ g mk' loop=yJ g mk loop:=by
 unfold yJ;have h1:=h.few;have h2:=h.zero;have h3:=h.ring;rw[h3];by_cases e:(fD g mk g.length).2=0
 .have e':=h2.1 e;rw[e,e']
 .have e':(fD g mk' g.length).2≠0:=λq=>e (h2.2 q);cases loop with
  |true=>rw[if_pos ⟨rfl,e'⟩,if_pos ⟨rfl,e⟩]
  |false=>
   rw[if_neg s7,if_neg s7];exact nZ.2 h1.symm
end
end Go.Proofs.YtgimfpcgbmpkhaaGreat
namespace Go.Proofs.YtgimfpcgbmpkhaaGreat
open Tryz (prog)
open Go.Ideal Kd Canon Gph
variable{s t:ae Int}{k:aT}{p x:ae Clue}{r:bF}
def Im{C C':ae Int×ae Int->Bool}(hx:∀g,g∈x↔g∈p.map (gK k s t))
 (h0:r.aN<0->(k.lists.getD r.family.toNat []).all (λl=>C' (l,[r.n]))=(k.lists.getD r.family.toNat []).all (λl=>C (l,[r.n])))
 (h1:0<=r.aN->∀g∈p,g.aN=r.aN->C' (kL k (gK k s t g),(gK k s t g).values)=C (kL k g,g.values))
 (hcl:∀g∈p,(gK k s t g).aN=g.aN):(ik k x r).all C'=(ik k p r).all C:=by
 unfold ik;by_cases hc:r.aN<0
 .rw[if_pos hc,if_pos hc,List.all_map,List.all_map];exact h0 hc
 .rw[if_neg hc,if_neg hc,List.all_map,List.all_map,wM,jU,jU];constructor
  .intro h g hg;obtain⟨g1,g2⟩:=qm.1 hg;have g2:g.aN=r.aN:=jI g2;have:=h (gK k s t g) (qm.2 ⟨(hx _).2 (cO.2 ⟨g,g1,rfl⟩),eB ((hcl g g1).trans g2)⟩);show C (kL k g,g.values)=true;rw[<- h1 s6 g g1 g2];exact this
  .intro h g' hg';obtain⟨g1,g2⟩:=qm.1 hg';have g2:g'.aN=r.aN:=jI g2;obtain⟨g,hg,rfl⟩:=cO.1 ((hx _).1 g1);have e:=(hcl g hg).symm.trans g2;have:=h g (qm.2 ⟨hg,eB e⟩);show C' (kL k (gK k s t g),(gK k s t g).values)=true;rw[h1 s6 g hg e];exact this
def Qd{n:Nat}{L:ae (ae Int)}{f:Int}{eq:ae Int->ae Int->Bool}{c c':ae Int->Bool}(hK:qf n L f)(hs:bM n s)(h:∀j,j<L.length->∃i,Goes L s f eq j i)
 (hc:∀l l',kz n l->l'.Perm (img s l)->eq l' (img s l)=true->c' l'=c l):L.all c'=L.all c:=by
 rw[wM,jU,jU];constructor
 .intro q l hl;obtain⟨j,hj⟩:=gT hl;obtain⟨i,l0,l',h1,h2,h3,h4,_⟩:=h j (bz.1 hj).1;rw[hj]at h1;cases h1;rw[<- hc l l' (hK.dJ l hl) h3 h4];exact q l' (aV h2)
 .intro q l' hl';obtain⟨i,hi⟩:=gT hl';obtain⟨j,l,l0,h1,h2,h3,h4,_⟩:=abq hK hs h (bz.1 hi).1;rw[hi]at h2;cases h2;rw[hc l l' (hK.dJ l (aV h1)) h3 h4];exact q l (aV h1)
def aqa{g:Clue}:(gK k s t g).aN=g.aN:=by
 unfold gK;split<;>rfl
variable{grid y:ae Int}
def aqb(hK:bD k)(hk:eU k s t)(hG:jm k.grid.cells.length k.decl.symbols.length s t grid y)(hQ:fE k p)(hx:jG (p.map (gK k s t)) x)(hr:r∈k.decl.rules):E5 k x y r=E5 k p grid r:=by
 have hxm:=Qb hK hk hQ hx;obtain⟨k0,k1,k3,k4,k5,k6⟩:=hk.rule hr;obtain⟨s1,s2⟩:=Lg hk.ps k0;have hkd:=hK.kinds hr;have hin:=(hK.inr hr).fM;have hL:k.lists[r.family.toNat]? =some (k.lists[r.family.toNat]'(s6)):=bN _;have jH:=hK.Lc hL;rw[rR hin.1]at jH;rw[fK hL]at k1 k4 k5;generalize hLe:k.lists[r.family.toNat]'(s6)=L at hL jH k1 k4 k5;have hcl:∀g∈p,(gK k s t g).aN=g.aN:=λg _=>aqa;have hrc:=hK.adh hr;have Io:∀g∈p,g.aN=r.aN->0<=r.aN->∃c L' j i l l',Ik k s t g c L' j i l l'/\Bu c r/\kz k.grid.cells.length l:=λg hg e h0=>by
  obtain⟨c,L',j,i,l,l',G⟩:=xL hK hk (hQ.right g hg);refine⟨c,L',j,i,l,l',G,?_,G.fM.dJ l (aV G.hl)⟩;rcases hrc with a|⟨c',b1,b2,b3⟩
  .omega
  .rw[<- e,G.hc]at b2;cases b2;exact b3
 show rD k x y r r.set.toNat r.other.toNat=rD k p grid r r.set.toNat r.other.toNat
 unfold rD;by_cases e1:r.kind=1
 .rw[if_pos e1,if_pos e1];refine Im hxm (λh0=>?_) (λh0 g hg e=>?_) hcl
  .rw[fK hL];exact Qd jH hk.pc ((xH jH hk.pc).1 (k1 (.inl e1))) λl l' hl hp _=>hG.Bj hl hp
  .exact pw
 rw[if_neg e1,if_neg e1];by_cases e2:r.kind=2
 .rw[if_pos e2,if_pos e2];refine Im hxm (λh0=>?_) (λh0 g hg e=>?_) hcl
  .rw[fK hL];refine Qd jH hk.pc ((xH jH hk.pc).1 (k1 (.inr (.inl e2)))) λl l' hl hp _=>?_;unfold cB;rw[hG.cnt s1 hl hp]
  .obtain⟨c,L',j,i,l,l',G,hcr,hl⟩:=Io g hg e h0;have ht:c.type=2:=by unfold Bu at hcr;omega
   rw[G.cells,G.cells',G.img];unfold cB sG;dsimp only;rw[if_neg s6,if_neg s6,hG.cnt s1 hl G.perm]
 rw[if_neg e2,if_neg e2];by_cases e3:r.kind=3
 .have hV:=Fb hk.ps (k3 (.inl e3));rw[if_pos e3,if_pos e3];refine Im hxm (λh0=>?_) (λh0 g hg e=>?_) hcl
  .rw[fK hL];refine Qd jH hk.pc ((xH jH hk.pc).1 (k1 (.inr (.inr e3)))) λl l' hl hp _=>?_;unfold cC;rw[hG.qG hV hl hp]
  .obtain⟨c,L',j,i,l,l',G,hcr,hl⟩:=Io g hg e h0;have ht:c.type=2:=by unfold Bu at hcr;omega
   rw[G.cells,G.cells',G.img];unfold cC sG;dsimp only;rw[if_neg s6,if_neg s6,hG.qG hV hl G.perm]
 rw[if_neg e3,if_neg e3];by_cases e4:r.kind=4
 .have hV:=Fb hk.ps (k3 (.inr (.inl e4)));rw[if_pos e4,if_pos e4];refine Im hxm (λh0=>?_) (λh0 g hg e=>?_) hcl
  .rw[fK hL];refine Qd jH hk.pc ((xH jH hk.pc).1 (k4 e4)) λl l' hl _ he=>?_;unfold cD;dsimp only;rw[show l'=img s l from jI he,hG.Bl hV hl]
  .exact pw
 rw[if_neg e4,if_neg e4];by_cases e5:r.kind=5
 .rw[if_pos e5,if_pos e5];refine Im hxm (λh0=>?_) (λh0 g hg e=>?_) hcl
  .omega
  .obtain⟨c,L',j,i,l,l',G,hcr,hl⟩:=Io g hg e h0;have ht:c.type=3:=by unfold Bu at hcr;omega
   have he:=G.eq;rw[G.cells,G.cells',G.img];unfold xK at he;rw[if_pos ht]at he;unfold wB at he;rw[IV,lV,lV]at he;unfold cE sG iI;dsimp only;rw[if_neg s6];by_cases e0:img s l=l'
   .rw[if_neg (by simp[e0]),<- e0,hG.rn s1 hl]
   .have he:=he.resolve_left (λq=>e0 q.symm);have e0':(img s l).reverse=l':=he.symm;rw[if_pos (by simp[ht,e0,e0']),he,ap9,hG.rn s1 hl];refine nZ.2 ⟨λq=>?_,λq=>by rw[q]⟩;have:=congrArg List.reverse q
    rwa [FQ,FQ]at this
 rw[if_neg e5,if_neg e5];have hn:mQ k.aH s=true\/r.kind=11:=by
  by_cases e11:r.kind=11
  .exact .inr e11
  .exact .inl (k6 s6)
 by_cases e6:r.kind=6
 .rw[if_pos e6,if_pos e6];refine hG.VP hK.Bt (hn.resolve_right s6) λa b a0 a1 b0 b1=>?_;unfold nF;refine nZ.2 ⟨λq e=>q (by rw[e]),λq e=>q (hk.ps.inj a0 a1 b0 b1 e)⟩
 rw[if_neg e6,if_neg e6];by_cases e7:r.kind=7
 .have hV:=Fb hk.ps (k3 (.inr (.inr e7)));rw[if_pos e7,if_pos e7];refine hG.VP hK.Bt (hn.resolve_right s6) λa b a0 a1 b0 b1=>?_;unfold nG;rw[hV a a0 a1,hV b b0 b1]
 rw[if_neg e7,if_neg e7];by_cases e8:r.kind=8
 .rw[if_pos e8,if_pos e8];refine hG.VP hK.Bt (hn.resolve_right s6) λa b a0 a1 b0 b1=>?_;unfold nH;rw[s1 a a0 a1,s2 b b0 b1]
 rw[if_neg e8,if_neg e8];by_cases e9:r.kind=9
 .rw[if_pos e9,if_pos e9];exact oF.join (hG.iso hK.adf hK.Bt hK.ndk (hn.resolve_right s6) s1) false
 rw[if_neg e9,if_neg e9];by_cases e10:r.kind=10
 .rw[if_pos e10,if_pos e10];exact oF.join (hG.iso hK.adf hK.Bt hK.ndk (hn.resolve_right s6) s1) true
 rw[if_neg e10,if_neg e10];refine Im hxm (λh0=>?_) (λh0 g hg e=>?_) hcl
 .omega
 .obtain⟨c,L',j,i,l,l',G,hcr,hl⟩:=Io g hg e h0;have ht:c.type=1/\c.family=0:=by unfold Bu at hcr;omega
  have OH:=hQ.right g hg;rw[G.cells,G.cells',G.img];obtain⟨c',L2,h1,h2,h3,h4,h5,h6⟩:=OH;rw[G.hc]at h2;cases h2;have hv:g.values.length=1/\∀x∈g.values,0<=x/\x<=(k.decl.symbols.length:Int) - 1:=by
   rcases h6 with⟨a,b⟩|⟨a,_⟩|⟨a,_⟩
   .exact b
   .omega
   .omega
  unfold cK sG;dsimp only;rw[if_pos ht.1];have hl0:L'=l9 k.grid.cells.length:=by
   have:=G.hL;rw[ht.2,hK.lists]at this;exact(Option.some.inj this).symm.trans (by rw[hK.grid];rfl)
  have hjl:=(bz.1 G.hl).1;have hll:l=[(j:Int)]:=by
   have:=G.hl;rw[hl0]at this;unfold l9 at this;rw[eF]at this;obtain⟨q,hq,e⟩:=lT.1 this;have:=bz.1 hq;obtain⟨a,b⟩:=this;rw[List.getElem_range]at b;rw[<- e,b]
  have aqd:l'=[aU s (j:Int)]:=by
   have:=G.perm;rw[hll]at this;exact List.perm_singleton.1 this
  have hjr:(j:Int)<(k.grid.cells.length:Int):=by
   have:=hl (j:Int) (by rw[hll];exact bR.2 rfl);exact this.2
  obtain⟨v,CL⟩:∃v,g.values=[v]:=by
   match hgv:g.values,hv.1 with
   |[v],_=>exact⟨v,rfl⟩
  have oL:=hv.2 v (by rw[CL];exact bR.2 rfl);rw[hll,aqd,CL];show decide (aU y (aU s (j:Int))=aU t v)=decide (aU grid (j:Int)=v);rw[hG.at_ _ s6 hjr];have hgr:=hG.dJ (by omega:(0:Int)<=(j:Int)) hjr;exact nZ.2 ⟨λq=>hk.ps.inj hgr.1 hgr.2 oL.1 s6 q,λq=>by rw[q]⟩
def adn{α β:Type}{f g:α->az β}:∀{xs:ae α},(∀a∈xs,f a=g a)->xs.filterMap f=xs.filterMap g
 |[],_=>rfl
 |a::xs,h=>by rw[Af,Af,h a eX,adn λb hb=>h b (fP _ hb)]
def ado(hK:bD k)(hk:eU k s t)(hG:jm k.grid.cells.length k.decl.symbols.length s t grid y)(hQ:fE k p)(hx:jG (p.map (gK k s t)) x):jZ k x y k.decl.rules=jZ k p grid k.decl.rules:=by
 unfold jZ;refine adn λa ha=>?_;have hm:a.1∈k.decl.rules:=aV (xQ.1 (show(a.1,a.2)∈_ from ha));rw[aqb hK hk hG hQ hx hm]
end Go.Proofs.YtgimfpcgbmpkhaaGreat
namespace Go.Proofs.YtgimfpcgbmpkhaaGreat
open Tryz (prog)
open Go.Ideal Kd Canon Gph
structure zY(eq:List Int->List Int->Bool):Prop where
 symm:∀a b,eq a b=true->eq b a=true
 trans:∀a b c,eq a b=true->eq b c=true->eq a c=true
 img:∀s a b,eq a b=true->eq (img s a) (img s b)=true
def Lh:zY kY:=by
 refine⟨λa b h=>?_,λa b c h1 h2=>?_,λs a b h=>?_⟩
 .rw[ER]at h⊢;exact h.symm
 .rw[ER]at h1 h2⊢;exact h1.trans h2
 .rw[ER]at h⊢;exact Hr s h
def adp:zY zR:=by
 refine⟨λa b h=>?_,λa b c h1 h2=>?_,λs a b h=>?_⟩
 .unfold zR at h⊢;rw[lV]at h⊢;exact h.symm
 .unfold zR at h1 h2⊢;rw[lV]at h1 h2⊢;exact h1.trans h2
 .unfold zR at h⊢;rw[lV]at h⊢;rw[h]
def VQ:zY wB:=by
 refine⟨λa b h=>?_,λa b c h1 h2=>?_,λs a b h=>?_⟩
 .rw[Ht]at h⊢;rcases h with rfl|rfl
  .exact .inl rfl
  .exact .inr (by rw[FQ])
 .rw[Ht]at h1 h2⊢;rcases h1 with rfl|rfl
  .exact h2
  .rcases h2 with rfl|rfl
   .exact .inr rfl
   .exact .inl (by rw[FQ])
 .rw[Ht]at h⊢;rcases h with rfl|rfl
  .exact .inl rfl
  .exact .inr (Pn s b)
def adq(c:jA):zY (xK c):=by
 unfold xK;split
 .exact VQ
 .exact Lh
section
variable {n m:Nat} {s t s2 t2:ae Int} {L:ae (ae Int)} {f:Int} {eq:ae Int->ae Int->Bool}
def adr(hR:zY eq)(hK:qf n L f)(hs:bM n s){j i:Nat}(h:Goes L s f eq j i):Goes L (bX s) f eq i j:=by
 obtain⟨l,l',h1,h2,h3,h4,h5⟩:=h;have hl:=hK.dJ l (aV h1);refine⟨l',l,h2,h1,?_,?_,λhb=>?_⟩
 .have:=Hr (bX s) h3;rw[EQ hs hl]at this;exact this.symm
 .have:=hR.img (bX s) _ _ h4;rw[EQ hs hl]at this;exact hR.symm _ _ this
 .have hn:=hK.len hb;have:=(bz.1 h1).1;rw[h5 hb,hs.wz s6 s6]
def aqe(hR:zY eq)(hK:qf n L f)(hs:bM n s)(h:kZ L s f eq=true):kZ L (bX s) f eq=true:=by
 have h:=(xH hK hs).1 h;refine(xH hK hs.inv).2 λi hi=>?_;obtain⟨j,hj⟩:=abq hK hs h hi;exact⟨j,adr hR hK hs hj⟩
def ads(hR:zY eq)(hK:qf n L f)(hs:bM n s)(hs2:bM n s2){j i i2:Nat}(h:Goes L s f eq j i)(h2:Goes L s2 f eq i i2):Goes L (dF s2 s) f eq j i2:=by
 obtain⟨l,l',a1,a2,a3,a4,a5⟩:=h;obtain⟨l0,l2,b1,b2,b3,b4,b5⟩:=h2;rw[a2]at b1;cases b1;have hl:=hK.dJ l (aV a1);have hc:img (dF s2 s) l=img s2 (img s l):=Pm (by rw[hs.len];exact hl);refine⟨l,l2,a1,b2,?_,?_,λhb=>?_⟩
 .rw[hc];exact b3.trans (Hr s2 a3)
 .rw[hc];exact hR.trans _ _ _ b4 (hR.img s2 _ _ a4)
 .have hn:=hK.len hb;have:=(bz.1 a1).1;rw[b5 hb,a5 hb,yH s6 (by rw[hs.len];omega)]
def aqf(hR:zY eq)(hK:qf n L f)(hs:bM n s)(hs2:bM n s2)(h:kZ L s f eq=true)(h2:kZ L s2 f eq=true):kZ L (dF s2 s) f eq=true:=by
 have h:=(xH hK hs).1 h;have h2:=(xH hK hs2).1 h2;refine(xH hK (hs2.comp hs)).2 λj hj=>?_;obtain⟨i,hi⟩:=h j hj;obtain⟨i2,hi2⟩:=h2 i hi.lt.2;exact⟨i2,ads hR hK hs hs2 hi hi2⟩
variable{set:Nat}
def VS{other:Nat}(ht:bM m t)(h1:qj m t set)(h2:qj m t other):sj set other t=true:=by
 unfold sj;rw[tQ];intro i x hx;have hl:=(bz.1 hx).1;have hlen:=ht.len;have e:=jF hx;have a:=h1 (i:Int) s6 s6;have b:=h2 (i:Int) s6 s6;rw[e,fI]at a b;dsimp only;rw[gV,lV,lV];exact⟨a.symm,b.symm⟩
variable{vals:ae Int}
def VT(ht:bM m t)(h:vC m t vals):pM vals t=true:=by
 unfold pM;rw[tQ];intro i x hx;have hl:=(bz.1 hx).1;have hlen:=ht.len;have a:=h (i:Int) s6 s6;rw[jF hx]at a;exact eB a.symm
def qj.inv(ht:bM m t)(h:qj m t set):qj m (bX t) set:=by
 exact nq
def vC.inv(ht:bM m t)(h:vC m t vals):vC m (bX t) vals:=by
 exact nq
def qj.comp(ht:bM m t)(h:qj m t set)(h2:qj m t2 set):qj m (dF t2 t) set:=by
 exact nt
def vC.comp(ht:bM m t)(h:vC m t vals)(h2:vC m t2 vals):vC m (dF t2 t) vals:=by
 exact nt
variable{aH:ae (ae Int)}
def aqg(hN:uW n aH)(hs:bM n s)(h:mQ aH s=true):mQ aH (bX s)=true:=by
 have h:=(De hN hs).1 h;refine(De hN hs.inv).2 λa b hab=>?_;obtain⟨c,d,hcd,rfl,rfl⟩:=Pq hN hs h hab;have hr:=hcd.dJ hN;rw[hs.wz hr.1.1 hr.1.2,hs.wz hr.2.1 hr.2.2];exact hcd
def aqh(hN:uW n aH)(hs:bM n s)(hs2:bM n s2)(h:mQ aH s=true)(h2:mQ aH s2=true):mQ aH (dF s2 s)=true:=by
 have h:=(De hN hs).1 h;have h2:=(De hN hs2).1 h2;refine(De hN (hs2.comp hs)).2 λa b hab=>?_;have hr:=hab.dJ hN;have hl:=hs.len;rw[yH hr.1.1 s6,yH hr.2.1 s6];exact h2 _ _ (h _ _ hab)
end
variable{s t:ae Int}{k:aT}
def aqi{s' t':ae Int}{r:bF}(hS:sj r.set.toNat r.other.toNat t=true->sj r.set.toNat r.other.toNat t'=true)
 (hL:∀eq,zY eq->kZ (k.lists.getD r.family.toNat []) s r.family eq=true->kZ (k.lists.getD r.family.toNat []) s' r.family eq=true)
 (hV:pM (gJ k) t=true->pM (gJ k) t'=true) (hN:mQ k.aH s=true->mQ k.aH s'=true) (h:keepR k s t r=true):keepR k s' t' r=true:=by
 unfold keepR mR at h⊢;rw[gV]at h⊢;refine⟨hS h.1,?_⟩;have h2:=h.2;split at h2
 .rename_i e;rw[if_pos e];exact hL _ Lh h2
 rename_i e;rw[if_neg e];split at h2
 .rename_i e;rw[if_pos e];rw[gV]at h2⊢;exact⟨hL _ Lh h2.1,hV h2.2⟩
 rename_i e;rw[if_neg e];split at h2
 .rename_i e;rw[if_pos e];rw[gV]at h2⊢;exact⟨hL _ adp h2.1,hV h2.2⟩
 rename_i e;rw[if_neg e];split at h2
 .rename_i e;rw[if_pos e];exact hL _ VQ h2
 rename_i e;rw[if_neg e];split at h2
 .rename_i e;rw[if_pos e];rw[gV]at h2⊢;exact⟨hN h2.1,hV h2.2⟩
 rename_i e;rw[if_neg e];split at h2
 .rename_i e;rw[if_pos e];exact hN h2
 rename_i e;rw[if_neg e]
def bD.VU(hK:bD k){r:bF}(hr:r∈k.decl.rules):qf k.grid.cells.length (k.lists.getD r.family.toNat []) r.family:=by
 have hin:=(hK.inr hr).fM;have hL:k.lists[r.family.toNat]? =some (k.lists[r.family.toNat]'(s6)):=bN _;have jH:=hK.Lc hL;rw[rR hin.1]at jH;rw[fK hL];exact jH
def eU.inv(hK:bD k)(h:eU k s t):eU k (bX s) (bX t):=by
 refine⟨h.pc.inv,h.ps.inv,λr hr=>?_⟩;refine aqi (λa=>?_) (λeq hR a=>aqe hR (hK.VU hr) h.pc a) (λa=>VT h.ps.inv (vC.inv h.ps (Fb h.ps a))) (λa=>aqg hK.Bt h.pc a) (h.qc r hr);obtain⟨b,c⟩:=Lg h.ps a;exact VS h.ps.inv (qj.inv h.ps b) (qj.inv h.ps c)
variable{s2 t2:ae Int}
def eU.comp(hK:bD k)(h:eU k s t)(h2:eU k s2 t2):eU k (dF s2 s) (dF t2 t):=by
 refine⟨h2.pc.comp h.pc,h2.ps.comp h.ps,λr hr=>?_⟩;have g2:=h2.qc r hr;have k2:=h2.rule hr;unfold keepR mR at g2⊢;have g1:=h.qc r hr;unfold keepR mR at g1;rw[gV]at g1 g2⊢;have jH:=hK.VU hr;have L1:∀eq,zY eq->kZ (k.lists.getD r.family.toNat []) s r.family eq=true->kZ (k.lists.getD r.family.toNat []) s2 r.family eq=true->kZ (k.lists.getD r.family.toNat []) (dF s2 s) r.family eq=true:=λeq hR a b=>aqf hR jH h.pc h2.pc a b;have V1:pM (gJ k) t=true->pM (gJ k) t2=true->pM (gJ k) (dF t2 t)=true:=λa b=>VT (h2.ps.comp h.ps) (vC.comp h.ps (Fb h.ps a) (Fb h2.ps b));have N1:mQ k.aH s=true->mQ k.aH s2=true->mQ k.aH (dF s2 s)=true:=λa b=>aqh hK.Bt h.pc h2.pc a b;obtain⟨b,c⟩:=Lg h.ps g1.1;obtain⟨b2,c2⟩:=Lg h2.ps g2.1;refine⟨VS (h2.ps.comp h.ps) (qj.comp h.ps b b2) (qj.comp h.ps c c2),?_⟩;have g1:=g1.2;have g2:=g2.2;split at g1
 .rename_i e;rw[if_pos e]at g2⊢;exact L1 _ Lh g1 g2
 rename_i e;rw[if_neg e]at g2⊢;split at g1
 .rename_i e;rw[if_pos e]at g2⊢;rw[gV]at g1 g2⊢;exact⟨L1 _ Lh g1.1 g2.1,V1 g1.2 g2.2⟩
 rename_i e;rw[if_neg e]at g2⊢;split at g1
 .rename_i e;rw[if_pos e]at g2⊢;rw[gV]at g1 g2⊢;exact⟨L1 _ adp g1.1 g2.1,V1 g1.2 g2.2⟩
 rename_i e;rw[if_neg e]at g2⊢;split at g1
 .rename_i e;rw[if_pos e]at g2⊢;exact L1 _ VQ g1 g2
 rename_i e;rw[if_neg e]at g2⊢;split at g1
 .rename_i e;rw[if_pos e]at g2⊢;rw[gV]at g1 g2⊢;exact⟨N1 g1.1 g2.1,V1 g1.2 g2.2⟩
 rename_i e;rw[if_neg e]at g2⊢;split at g1
 .rename_i e;rw[if_pos e]at g2⊢;exact N1 g1 g2
 rename_i e;rw[if_neg e]
variable{l l':ae Int}{c:jA}
def VV(h3:c.type=3)(he:xK c l' (img s l)=true)(h:iI s l l'=false):l'=img s l:=by
 unfold xK at he;rw[if_pos h3,Ht]at he;rcases he with e|e
 .exact e
 .unfold iI at h;rw[e]at h;simp at h;rw[e];exact h.symm
def VW(h:iI s l l'=true):img s l≠l'/\(img s l).reverse=l':=by
 unfold iI at h;simp at h;exact h
def adt(h1:img s l≠l')(h2:(img s l).reverse=l'):iI s l l'=true:=by
 unfold iI;simp[h1,h2]
def VX:iI s l (img s l)=false:=by
 unfold iI;simp
def Ik.vals{g:Clue}{L:ae (ae Int)}{j i:Nat}(G:Ik k s t g c L j i l l')(hR:mO k g):c.type=1->∀x∈g.values,0<=x/\x<(k.decl.symbols.length:Int):=by
 intro h1 x hx;obtain⟨c',L',a1,a2,a3,a4,a5,a6⟩:=hR;rw[G.hc]at a2;cases a2;rcases a6 with⟨_,_,b⟩|⟨b,_⟩|⟨b,_⟩
 .have:=b x hx;omega
 .omega
 .omega
def Qe(hK:bD k)(hk:eU k s t){g:Clue}(hg:mO k g):gK k (bX s) (bX t) (gK k s t g)=g:=by
 obtain⟨c,L,j,i,l,l',G⟩:=xL hK hk hg;have hg2:=Qa hK hk hg;obtain⟨c2,L2,i2,j2,m',m,G2⟩:=xL hK (hk.inv hK) hg2;have h1:=G2.hc;rw[G.img]at h1;dsimp only at h1;rw[G.hc]at h1;cases h1;have h2:=G2.hL;rw[G.hL]at h2;cases h2;have h3:=G2.at_;rw[G.img]at h3;dsimp only at h3;have hii:i2=i:=s6
 subst hii;have hgi:=adr (adq c) G.fM hk.pc G.goes;have h4:=hgi.jc G.fM;have h5:=G2.goes.jc G.fM;have hjj:j2=j:=s6
 subst hjj;have h6:=G2.hl;rw[G.hl']at h6;cases h6;have h7:=G2.hl';rw[G.hl]at h7;cases h7;have hl:=G.fM.dJ l (aV G.hl);rw[G2.img,G.img];dsimp only;have hval:sG c (bX s) (bX t) l' l (sG c s t l l' g.values)=g.values:=by
  unfold sG;by_cases t1:c.type=1
  .rw[if_pos t1,if_pos t1,EQ hk.ps (G.vals hg t1)]
  .rw[if_neg t1,if_neg t1];by_cases t3:c.type=3
   .cases hT:iI s l l' with
    |false=>
     have e:=VV t3 G.eq hT;have:iI (bX s) l' l=false:=by
      have e2:img (bX s) l'=l:=by rw[e,EQ hk.pc hl]
      have:=VX (s:=bX s) (l:=l');rw[e2]at this;exact this
     rw[this,if_neg s7,if_neg s7]
    |true=>
     obtain⟨a,b⟩:=VW hT;have hrev:(img (bX s) l').reverse=l:=by rw[<- b,Pn,FQ,EQ hk.pc hl]
     have:iI (bX s) l' l=true:=by
      refine adt (λe=>a ?_) hrev;rw[<- e,amb hk.pc];exact G.fM.dJ l' (aV G.hl')
     rw[this,if_pos ⟨t3,rfl⟩,if_pos ⟨t3,rfl⟩,FQ]
   .rw[if_neg (λq=>t3 q.1),if_neg (λq=>t3 q.1)]
 rw[hval];obtain⟨gc,ga,gv⟩:=g;have:=G.at_;dsimp only at this⊢;rw[this]
def adu(hK:bD k)(hk:eU k s t)(hk2:eU k s2 t2){g:Clue}(hg:mO k g):gK k s2 t2 (gK k s t g)=gK k (dF s2 s) (dF t2 t) g:=by
 obtain⟨c,L,j,i,l,l',G⟩:=xL hK hk hg;have hg2:=Qa hK hk hg;obtain⟨c2,L2,i2,j2,m',m,G2⟩:=xL hK hk2 hg2;obtain⟨c3,L3,j3,j4,m3,m4,G3⟩:=xL hK (hk.comp hK hk2) hg;have h1:=G2.hc;rw[G.img]at h1;dsimp only at h1;rw[G.hc]at h1;cases h1;have h1:=G3.hc;rw[G.hc]at h1;cases h1;have h2:=G2.hL;rw[G.hL]at h2;cases h2;have h2:=G3.hL;rw[G.hL]at h2;cases h2;have h3:=G2.at_;rw[G.img]at h3;dsimp only at h3;have hii:i2=i:=s6
 subst hii;have h3:=G3.at_;rw[G.at_]at h3;have hjj:j3=j:=s6
 subst hjj;have hgc:=ads (adq c) G.fM hk.pc hk2.pc G.goes G2.goes;have h4:=hgc.jc G.fM;have h5:=G3.goes.jc G.fM;have hjj:j4=j2:=s6
 subst hjj;have h6:=G2.hl;rw[G.hl']at h6;cases h6;have h6:=G3.hl;rw[G.hl]at h6;cases h6;have h7:=G3.hl';rw[G2.hl']at h7;cases h7;have hl:=G.fM.dJ l (aV G.hl);have hl':=G.fM.dJ l' (aV G.hl');have hcc:img (dF s2 s) l=img s2 (img s l):=Pm (by rw[hk.pc.len];exact hl);rw[G2.img,G3.img,G.img];dsimp only;have hval:sG c s2 t2 l' m (sG c s t l l' g.values)=sG c (dF s2 s) (dF t2 t) l m g.values:=by
  unfold sG;by_cases t1:c.type=1
  .rw[if_pos t1,if_pos t1,if_pos t1,Pm (by rw[hk.ps.len];exact G.vals hg t1)]
  .rw[if_neg t1,if_neg t1,if_neg t1];by_cases t3:c.type=3
   .cases hT:iI s l l' with
    |false=>
     have e:=VV t3 G.eq hT;have:iI (dF s2 s) l m=iI s2 l' m:=by
      unfold iI;rw[hcc,<- e]
     rw[this,if_neg (by simp:¬(c.type=3/\false=true))]
    |true=>
     obtain⟨a,b⟩:=VW hT;rw[if_pos (⟨t3,rfl⟩:c.type=3/\true=true)];have e2:img s2 l'=(img (dF s2 s) l).reverse:=by rw[<- b,Pn,hcc]
     have hsl:=kz.img hk.pc hl;have hne:img (dF s2 s) l≠(img (dF s2 s) l).reverse:=λq=>a (by
      rw[hcc,<- Pn]at q;rw[<- b];exact abn hk2.pc hsl (λx hx=>hsl x (List.mem_reverse.1 hx)) q)
     cases Ib:iI s2 l' m with
     |false=>
      have e:=VV t3 G2.eq Ib;have:iI (dF s2 s) l m=true:=by
       refine adt ?_ ?_
       .rw[e,e2];exact hne
       .rw[e,e2]
      rw[this,if_neg s7,if_pos ⟨t3,rfl⟩]
     |true=>
      obtain⟨a2,b2⟩:=VW Ib;have e3:m=img (dF s2 s) l:=by rw[<- b2,e2,FQ]
      have:iI (dF s2 s) l m=false:=by rw[e3];exact VX
      rw[this,if_pos ⟨t3,rfl⟩,if_neg s7,FQ]
   .rw[if_neg (λq=>t3 q.1),if_neg (λq=>t3 q.1),if_neg (λq=>t3 q.1)]
 rw[hval]
def adv{p x a:ae Clue}(hK:bD k)(hk:eU k s t)(hQ:fE k p)(hx:jG (p.map (gK k s t)) x)(ha:jG (x.map (gK k (bX s) (bX t))) a):a=p:=by
 have hxm:=Qb hK hk hQ hx;have h1:jG p a:=by
  refine ha.Ue λg=>?_;rw[cO];constructor
  .intro hg;exact⟨gK k s t g,(hxm _).2 (cO.2 ⟨g,hg,rfl⟩),Qe hK hk (hQ.right g hg)⟩
  .rintro⟨y,hy,rfl⟩;obtain⟨g,hg,rfl⟩:=cO.1 ((hxm _).1 hy);rw[Qe hK hk (hQ.right g hg)];exact hg
 have h2:jG p p:=⟨adi hQ,λ_ h=>h,λx hx=>⟨x,hx,by rw[si];exact⟨rfl,rfl⟩,yb⟩⟩
 exact h1.uniq h2
def aqj{n:Nat}{a b:ae Int}(ha:a.length=n)(hb:b.length=n)(h:∀c:Int,0<=c->c<(n:Int)->aU a c=aU b c):a=b:=by
 apply iQ;intro i;by_cases hi:i<n
 .have h1:=qd (p:=a) (c:=(i:Int)) s6 s6;have h2:=qd (p:=b) (c:=(i:Int)) s6 s6;rw[fI]at h1 h2;rw[h1,h2,h _ s6 s6]
 .rw[fT s6,fT s6]
section
variable {n m:Nat} {s t s2 t2 grid y z:ae Int}
def jm.uniq(h:jm n m s t grid y)(h2:jm n m s t grid z):y=z:=by
 refine aqj h.Bv h2.Bv λd d0 d1=>?_;obtain⟨c,c0,c1,rfl⟩:=h.ps.onto d0 d1;rw[h.at_ c c0 c1,h2.at_ c c0 c1]
def jm.back(h:jm n m s t grid y):jm n m (bX s) (bX t) y grid:=by
 refine⟨h.ps.inv,h.pt.inv,h.Bv,h.len,λx hx=>h.mem hx,λd d0 d1=>?_⟩;obtain⟨c,c0,c1,rfl⟩:=h.ps.onto d0 d1;have r:=h.dJ c0 c1;rw[h.ps.wz c0 c1,h.at_ c c0 c1,h.pt.wz r.1 r.2]
def jm.comp(h:jm n m s t grid y)(h2:jm n m s2 t2 y z):jm n m (dF s2 s) (dF t2 t) grid z:=by
 refine⟨h2.ps.comp h.ps,h2.pt.comp h.pt,h.len,h2.Bv,h.jB,λc c0 c1=>?_⟩;have r:=h.ps.at_ c0 c1;have g:=h.dJ c0 c1;rw[yH c0 (by rw[h.ps.len];exact c1),h2.at_ _ r.1 r.2,h.at_ c c0 c1,yH g.1 (by rw[h.pt.len];exact g.2)]
end
end Go.Proofs.YtgimfpcgbmpkhaaGreat
namespace Go.Proofs.YtgimfpcgbmpkhaaGreat
open Tryz (prog)
open Go.Ideal Kd Canon Gph
def oU(k:aT)(a b:Int):Prop:=∀r∈k.decl.rules,r.set.toNat.testBit a.toNat=r.set.toNat.testBit b.toNat/\r.other.toNat.testBit a.toNat=r.other.toNat.testBit b.toNat/\((r.kind=3\/r.kind=4\/r.kind=7)->aU (gJ k) a=aU (gJ k) b)
def oU.refl(k:aT)(a:Int):oU k a a:=λ_ _=>⟨rfl,rfl,λ_=>rfl⟩
variable{k:aT}{a b:Int}
def oU.symm(h:oU k a b):oU k b a:=λr hr=>⟨(h r hr).1.symm,(h r hr).2.1.symm,λe=>((h r hr).2.2 e).symm⟩
def oU.trans{c:Int}(h:oU k a b)(h2:oU k b c):oU k a c:=λr hr=>⟨(h r hr).1.trans (h2 r hr).1,(h r hr).2.1.trans (h2 r hr).2.1,λe=>((h r hr).2.2 e).trans ((h2 r hr).2.2 e)⟩
variable{n:Nat}
def VY{l:ae Int}(h:kz n l):img (upTo' n) l=l:=by
 unfold img;conv=>rhs;rw[<- BV l]
 exact yZ λc hc=>xE (h c hc).1 (h c hc).2
def Qf{L:ae (ae Int)}{f:Int}{eq:ae Int->ae Int->Bool}(hr:∀l,eq l l=true)(hK:qf n L f):kZ L (upTo' n) f eq=true:=by
 refine(xH hK (bM.ident n)).2 λj hj=>⟨j,L[j],L[j],bN hj,bN hj,?_,?_,λhb=>?_⟩
 .rw[VY (hK.dJ _ (rG hj))]
 .rw[VY (hK.dJ _ (rG hj))];exact hr _
 .have:=hK.len hb;rw[xE s6 s6]
def aqk{aH:ae (ae Int)}(hN:uW n aH):mQ aH (upTo' n)=true:=by
 refine(De hN (bM.ident n)).2 λa b hab=>?_;have hr:=hab.dJ hN;rw[xE hr.1.1 hr.1.2,xE hr.2.1 hr.2.2];exact hab
def VZ(l:ae Int):kY l l=true:=ER.2 (List.Perm.refl _)
def aql(l:ae Int):zR l l=true:=eB rfl
def adw(l:ae Int):wB l l=true:=Ht.2 (.inl rfl)
def V3(hK:bD k){t:ae Int}:eU k (upTo' k.grid.cells.length) t↔bM k.decl.symbols.length t/\∀v:Int,0<=v->v<(k.decl.symbols.length:Int)->oU k v (aU t v):=by
 constructor
 .intro h;refine⟨h.ps,λv v0 v1 r hr=>?_⟩;obtain⟨k0,_,k3,_⟩:=h.rule hr;obtain⟨s1,s2⟩:=Lg h.ps k0;exact⟨(s1 v v0 v1).symm,(s2 v v0 v1).symm,λe=>(Fb h.ps (k3 e) v v0 v1).symm⟩
 .rintro⟨ht,h⟩;refine⟨bM.ident _,ht,λr hr=>?_⟩;have jH:=hK.VU hr;have hset:sj r.set.toNat r.other.toNat t=true:=VS ht (λv v0 v1=>(h v v0 v1 r hr).1.symm) (λv v0 v1=>(h v v0 v1 r hr).2.1.symm);have hval:(r.kind=3\/r.kind=4\/r.kind=7)->pM (gJ k) t=true:=λe=>VT ht λv v0 v1=>((h v v0 v1 r hr).2.2 e).symm;have hn:=aqk hK.Bt;unfold keepR mR;rw[hset,L8];split
  .exact Qf VZ jH
  split
  .rename_i e;rw[Qf VZ jH,hval (.inl e)];rfl
  split
  .rename_i e;rw[Qf aql jH,hval (.inr (.inl e))];rfl
  split
  .exact Qf adw jH
  split
  .rename_i e;rw[hn,hval (.inr (.inr e))];rfl
  split
  .exact hn
  .rfl
def aqm(hK:bD k){s t:ae Int}(hs:eU k s (upTo' k.decl.symbols.length))(ht:eU k (upTo' k.grid.cells.length) t):eU k s t:=by
 have h:=hs.comp hK ht;have e1:dF (upTo' k.grid.cells.length) s=s:=Hw hs.pc;have e2:dF t (upTo' k.decl.symbols.length)=t:=abE ht.ps
 rwa [e1,e2]at h
def yR(m:Nat)(i j:Nat):ae Int:=((upTo' m).set i (j:Int)).set j (i:Int)
variable{m i j:Nat}
def Li(hi:i<m)(hj:j<m){v:Int}(v0:0<=v)(v1:v<(m:Int)):aU (yR m i j) v=if v=(j:Int)then(i:Int)else if v=(i:Int)then(j:Int)else v:=by
 unfold yR;have hl:=kK m;have h1:=Px (l:=(upTo' m).set i (j:Int)) (s:=(j:Int)) (x:=(i:Int)) (u:=v) s6 (by rw[lu];omega) v0;rw[fI]at h1;rw[h1];split
 .rfl
 .have h2:=Px (l:=upTo' m) (s:=(i:Int)) (x:=(j:Int)) (u:=v) s6 s6 v0;rw[fI]at h2;rw[h2,xE v0 v1]
def aqn(hi:i<m)(hj:j<m):bM m (yR m i j):=by
 have hl:(yR m i j).length=m:=by unfold yR;rw[lu,lu,kK]
 refine⟨hl,λx hx=>?_,?_⟩
 .obtain⟨a,ha⟩:=gT hx;have hal:=(bz.1 ha).1;have h:=Li hi hj (v:=(a:Int)) s6 s6;rw[jF ha]at h;rw[h];split
  .omega
  .split<;>omega
 .unfold List.Nodup;rw[zf];intro a b ha hb hab e;have h1:=Li hi hj (v:=(a:Int)) s6 s6;have h2:=Li hi hj (v:=(b:Int)) s6 s6;rw[jF (bN ha)]at h1;rw[jF (bN hb)]at h2;rw[h1,h2]at e;split at e<;>split at e<;>(try split at e)<;>(try split at e)<;>omega
def aqo(hK:bD k){i j:Nat}(hi:i<k.decl.symbols.length)(hj:j<k.decl.symbols.length):eU k (upTo' k.grid.cells.length) (yR k.decl.symbols.length i j)↔oU k (i:Int) (j:Int):=by
 rw[V3 hK];constructor
 .rintro⟨_,h⟩;have:=h (j:Int) s6 s6;rw[Li hi hj s6 s6,if_pos rfl]at this;exact this.symm
 .intro h;refine⟨aqn hi hj,λv v0 v1=>?_⟩;rw[Li hi hj v0 v1];split
  .rename_i e;rw[e];exact h.symm
  .split
   .rename_i e;rw[e];exact h
   .exact oU.refl _ _
structure Fe(k:aT)(cl:List Int):Prop where
 len:cl.length=k.decl.symbols.length
 at_:∀j:Nat,j<k.decl.symbols.length->∃i:Nat,aU cl (j:Int)=(i:Int)/\i<=j/\oU k (i:Int) (j:Int)/\∀u:Nat,u<i->¬oU k (u:Int) (j:Int)
variable{cl:ae Int}
def Fe.same(h:Fe k cl){a b:Nat}(ha:a<k.decl.symbols.length)(hb:b<k.decl.symbols.length):aU cl (a:Int)=aU cl (b:Int)↔oU k (a:Int) (b:Int):=by
 obtain⟨i,h1,h2,h3,h4⟩:=h.at_ a ha;obtain⟨j,k1,k2,k3,k4⟩:=h.at_ b hb;rw[h1,k1];constructor
 .intro e;have:i=j:=by omega
  subst this;exact h3.symm.trans k3
 .intro e;rcases QN i j with hl|hl|hl
  .exact absurd (h3.trans e) (k4 i hl)
  .rw[hl]
  .exact absurd (k3.trans e.symm) (h4 j hl)
def Fe.ok(h:Fe k cl):amn k.decl.symbols.length cl:=by
 refine⟨h.len,λa ha=>?_⟩;obtain⟨i,h1,h2,h3,h4⟩:=h.at_ a ha;refine⟨s6,s6,?_⟩;have e:=(h.same (by omega:i<k.decl.symbols.length) ha).2 h3;rw[h1]at e⊢;exact e
def Fe.keeps(hK:bD k)(h:Fe k cl){t:ae Int}:xI k.decl.symbols.length cl t↔eU k (upTo' k.grid.cells.length) t:=by
 rw[V3 hK];constructor
 .intro ht;refine⟨ht.p,λv v0 v1=>?_⟩;have r:=ht.p.at_ v0 v1;have:=ht.c v v0 v1;obtain⟨a,rfl⟩:=dW v0;obtain⟨b,hb⟩:=dW r.1;rw[hb]at this r⊢;exact((h.same s6 s6).1 this).symm
 .rintro⟨ht,hc⟩;refine⟨ht,λv v0 v1=>?_⟩;have r:=ht.at_ v0 v1;have:=hc v v0 v1;obtain⟨a,rfl⟩:=dW v0;obtain⟨b,hb⟩:=dW r.1;rw[hb]at this r⊢;exact((h.same s6 s6).2 this).symm
end Go.Proofs.YtgimfpcgbmpkhaaGreat
namespace Go.Proofs.YtgimfpcgbmpkhaaGreat
open Tryz (prog)
open Go.Ideal Kd Canon Gph
def zZ(k:aT)(c:Int):Bool:=match k.decl.bT[c.toNat]? with
 |some x=>decide (x.type=1)
 |none=>false
variable{k:aT}
def adx{g:Clue}{c:jA}(h:k.decl.bT[g.aN.toNat]? =some c):zZ k g.aN=decide (c.type=1):=by unfold zZ;rw[h]
variable{p:ae Clue}
def fE.jB(h:fE k p):Py (zZ k) k.decl.symbols.length p:=by
 intro g hg hs;obtain⟨c,L,h1,h2,h3,h4,h5,h6⟩:=h.right g hg;rw[adx h2,lV]at hs;rcases h6 with⟨_,a,b⟩|⟨a,_⟩|⟨a,_⟩
 .match hgv:g.values,a with
  |[v],_=>
   have:=b v (by rw[hgv];exact bR.2 rfl);exact⟨v,rfl,s6,s6⟩
 .omega
 .omega
def aqp(hK:bD k){t:ae Int}(hk:eU k (upTo' k.grid.cells.length) t){g:Clue}(hg:mO k g):gK k (upTo' k.grid.cells.length) t g=Uz (zZ k) t g:=by
 obtain⟨c,L,j,i,l,l',G⟩:=xL hK hk hg;have hl:=G.fM.dJ l (aV G.hl);have e1:=VY hl;have hr:∀a,xK c a a=true:=λa=>by
  unfold xK;split
  .exact adw a
  .exact VZ a
 have hjl:=(bz.1 G.hl).1;have hgo:Goes L (upTo' k.grid.cells.length) c.family (xK c) j j:=by
  refine⟨l,l,G.hl,G.hl,by rw[e1],by rw[e1];exact hr l,λhb=>?_⟩;have:=G.fM.len hb;rw[xE s6 s6]
 have hij:i=j:=by
  have h1:=hgo.jc G.fM;have h2:=G.goes.jc G.fM;omega
 subst hij;have hll:l'=l:=by
  have h1:=G.hl';rw[G.hl]at h1;exact(Option.some.inj h1).symm
 subst hll;rw[G.img];unfold Uz sG;rw[adx G.hc,<- G.at_];by_cases h1:c.type=1
 .rw[if_pos h1,if_pos (by simp[h1])]
 .have:iI (upTo' k.grid.cells.length) l' l'=false:=by
   have h2:=VX (s:=upTo' k.grid.cells.length) (l:=l');rw[e1]at h2;exact h2
  rw[if_neg h1,this,if_neg (show¬(c.type=3/\false=true)from λq=>by cases q.2),if_neg (show¬(decide (c.type=1)=true)by simp[h1])]
def aqr{sy:Int->Bool}{t:ae Int}(h:p.Pairwise λa b=>dV a b<0):(ES sy t p).Pairwise λa b=>dV a b<0:=by
 unfold ES;rw[zi];exact h.imp λ{a b} hab=>by rw[tL]at hab⊢;exact hab
def aqs(h:p.Pairwise λa b=>dV a b<0):jG p p:=⟨h,λ_ h=>h,λx hx=>⟨x,hx,by rw[si];exact⟨rfl,rfl⟩,yb⟩⟩
def aqt(hK:bD k){t:ae Int}{p:ae Clue}(hk:eU k (upTo' k.grid.cells.length) t)(hQ:fE k p):p.map (gK k (upTo' k.grid.cells.length) t)=ES (zZ k) t p:=yZ λg hg=>aqp hK hk (hQ.right g hg)
def aqu(hK:bD k){s t:ae Int}{p x:ae Clue}(hs:eU k s (upTo' k.decl.symbols.length))(ht:eU k (upTo' k.grid.cells.length) t)(hQ:fE k p)(hx:jG (p.map (gK k s (upTo' k.decl.symbols.length))) x):jG (p.map (gK k s t)) (ES (zZ k) t x):=by
 have xM:=Ld hK hs hQ hx;have h1:jG (x.map (gK k (upTo' k.grid.cells.length) t)) (ES (zZ k) t x):=by
  rw[aqt hK ht xM];exact aqs (aqr hx.inc)
 have hxm:=Qb hK hs hQ hx;have e1:dF (upTo' k.grid.cells.length) s=s:=Hw hs.pc;have e2:dF t (upTo' k.decl.symbols.length)=t:=abE ht.ps;refine h1.Ue λg=>?_;rw[cO,cO];constructor
 .rintro⟨a,ha,rfl⟩;refine⟨gK k s (upTo' k.decl.symbols.length) a,(hxm _).2 (cO.2 ⟨a,ha,rfl⟩),?_⟩;rw[adu hK hs ht (hQ.right a ha),e1,e2]
 .rintro⟨y,hy,rfl⟩;obtain⟨a,ha,rfl⟩:=cO.1 ((hxm _).1 hy);refine⟨a,ha,?_⟩;rw[adu hK hs ht (hQ.right a ha),e1,e2]
def ady(k:aT)(cl s:ae Int)(p y:ae Clue):Prop:=∃x,jG (p.map (gK k s (upTo' k.decl.symbols.length))) x/\y=ES (zZ k) (ams (zZ k) cl x) x
structure V4(k:aT)(G:List (List Int))(cl:List Int)(p y:List Clue):Prop where
 mem:∃s∈G,ady k cl s p y
 least:∀s∈G,∀z,ady k cl s p z->¬Nk z y<0
def V4.uniq{G:ae (ae Int)}{cl:ae Int}{y z:ae Clue}(h:V4 k G cl p y)(h2:V4 k G cl p z):y=z:=by
 obtain⟨s,hs,hy⟩:=h.mem;obtain⟨s2,hs2,hz⟩:=h2.mem;exact amt (h2.least s hs y hy) (h.least s2 hs2 z hz)
structure Ip(k:aT)(G:List (List Int))(cl:List Int):Prop where
 Hy:KN k.grid.cells.length G
 keep:∀s∈G,eU k s (upTo' k.decl.symbols.length)
 KI:Fe k cl
section
variable {k:aT} {G:ae (ae Int)} {cl:ae Int} {p x y:ae Clue} {s t:ae Int}
def Ip.both(h:Ip k G cl)(hK:bD k)(hs:s∈G)(ht:xI k.decl.symbols.length cl t):eU k s t:=aqm hK (h.keep s hs) ((h.KI.keeps hK).1 ht)
def Ip.img(h:Ip k G cl)(hK:bD k)(hQ:fE k p)(hs:s∈G)(ht:xI k.decl.symbols.length cl t)(hx:jG (p.map (gK k s (upTo' k.decl.symbols.length))) x)(hy:jG (p.map (gK k s t)) y):y=ES (zZ k) t x:=
 hy.uniq (aqu hK (h.keep s hs) ((h.KI.keeps hK).1 ht) hQ hx)
end
end Go.Proofs.YtgimfpcgbmpkhaaGreat
namespace Go.Proofs.YtgimfpcgbmpkhaaGreat
open Tryz (prog)
open Go.Ideal Kd Canon
structure Iq(k:aT)(j i:Nat):Prop where
 le:i<=j
 cnd:oU k (i:Int) (j:Int)
 least:∀u:Nat,u<i->¬oU k (u:Int) (j:Int)
variable{k:aT}
def aqv(hK:bD k):eU k (upTo' k.grid.cells.length) (upTo' k.decl.symbols.length):=
 (V3 hK).2 ⟨bM.ident _,λv v0 v1=>by rw[xE v0 v1];exact oU.refl _ _⟩
def aqw(hK:bD k){gU l G:ae (ae Int)}{cl:ae Int}(hgm:∀x∈gU,eU k x (upTo' k.decl.symbols.length))(hC:qg k.grid.cells.length gU l l.length)(hperm:G.Perm l)(Dr:cl.length=k.decl.symbols.length)(hcls:∀u:Nat,u<k.decl.symbols.length->∃i:Nat,cl[u]? =some (i:Int)/\Iq k u i):Ip k G cl where
 Hy:=by
  have h:=hC.Hy;exact⟨λa ha=>h.perm a (hperm.mem_iff.1 ha),hperm.mem_iff.2 h.one,λa ha b hb=>hperm.mem_iff.2 (h.comp a (hperm.mem_iff.1 ha) b (hperm.mem_iff.1 hb)),λa ha=>hperm.mem_iff.2 (h.inv a (hperm.mem_iff.1 ha))⟩
 keep:=λs hs=>hC.all (P:=λs=>eU k s (upTo' k.decl.symbols.length)) (aqv hK) (λg hg q _ hq=>by
  have:=hq.comp hK (hgm g hg)
  rwa [show dF (upTo' k.decl.symbols.length) (upTo' k.decl.symbols.length)=upTo' k.decl.symbols.length from Hw (bM.ident _)]at this) s (hperm.mem_iff.1 hs)
 KI:=⟨Dr,λj hj=>by
  obtain⟨i,h1,h2⟩:=hcls j hj;exact⟨i,jF h1,h2.le,h2.cnd,h2.least⟩⟩
end Go.Proofs.YtgimfpcgbmpkhaaGreat
namespace Go.Proofs.YtgimfpcgbmpkhaaGreat
open Tryz (prog)
open Go.Ideal Kd Canon
section
variable {P:Program} {B:ae Nat} {w0:Wd} {kl kl':ae OA} {F:ae aI} {K:KO} {ds:ae Tmp} {rest:ae bV} {n:Nat} {l:qr} {D:ae Deferred} {pm:az FrameMode} {ro:az Nat} {d:Nat} {g:az (Tmp×Bool)}
def Ff{x:aB}{b:Nat}{cs:ae ah}{v:ah}(j:Nat)
 (next:R (λh=>aO P ds rest (act n ((d,v)::l) D pm ro) h K) B w0 kl F)
 (hx:ev l x=.pointer (some ⟨b,0+j,none⟩):=by rfl) (hk:aX b 0 cs∈F:=by exact iN) (hv:lW cs j=some v:=by rfl) (hn:Nat.blt d n=true:=by rfl) (hg:bJ l g=true:=by rfl):
 R (λh=>aO P ds (⟨⟨some d,g,.fG x⟩,[]⟩::rest) (act n l D pm ro) h K) B w0 kl F:=(JQ hn hg hx hk hv).h next
end
def adz{v:ah}{xs:ae Int}(hl:xs.length<=1000000):aY prog (.func 311) [v] [] [] [ay aj v xs] (λv':ah=>v') (λ_=>[]) (λv'=>[ay aj v' (bW xs)]) (λ_=>True):=by
 refine gB 311 λB w0=>?_;refine gC (VM (xs:=xs) hl) λa _=>?_;refine gC (KW (a:=a) (zs:=xs) rfl s6) λ_ _=>?_;refine gZ (ja (E:=aj) (v:=.slice a xs.length xs.length) (xs:=bW xs)) ?_;refine go ?_;exact gQ (.slice a xs.length xs.length) trivial
variable{a b:ae Int}{va vb:ah}
def adA(ha:a.length<=1000000)(hb:b.length<=1000000):dO prog 249 [va,vb] [ay aj va a,ay aj vb b] (.bool (kY a b)):=by
 have hsl:=AX a;refine gB 249 λB w0=>?_;refine gC (adz (xs:=a) ha) λv1 _=>?_;refine gC (adz (xs:=b) hb) λv2 _=>?_;refine gC (wC (xs:=bW a) (ys:=bW b) s6) λ_ _=>?_;exact dH
def aqx(ha:a.length<=1000000)(hb:b.length<=1000000):dO prog 250 [va,vb] [ay aj va a,ay aj vb b] (.bool (wB a b)):=by
 have hrl:b.reverse.length=b.length:=FP;refine gB 250 λB w0=>?_;refine gC (VM (xs:=b) hb) λc _=>?_;refine gC (Ij (a:=c) (xs:=b) hb) λ_ _=>?_;refine mI (A:=ap aj (.slice c b.length b.length) b.reverse) (fs:=[ay aj (.slice c b.length b.length) b.reverse]) ja (h:=?_);refine gC (wC (xs:=a) (ys:=b) s6) λ_ _=>?_;refine gH ?_ ?_<;>intro h1
 rotate_left
 .refine aZ ?_;rw[Ht.2 (.inl h1)];rfl
 refine gC (wC (xs:=a) (ys:=b.reverse) s6) λ_ _=>?_;refine aZ ?_;unfold wB;rw[dA h1,QG];rfl
abbrev V5(k:aT)(vh vs vr vc vu gh gc vn vl sc st:ah):ae ah:=[.string k.decl.name,iV k.decl.version,iV k.decl.shape,iV k.decl.w,iV k.decl.h,vh,vs,vr,vc,vu,iV k.grid.shape,iV k.grid.w,iV k.grid.h,gh,gc,vn,vl,sc,st]
abbrev Qg(k:aT)(s t:ae Int)(vs vn vl sc st:ah):ae aI:=[ay aj sc s,ay aj st t,ay jO vs k.decl.symbols,ay (aA aj) vn k.aH,ay (aA (aA aj)) vl k.lists]
variable{w:ae Int}
def Lj{b:Nat}{vw:ah}(hw:w.length<=1000000)(x:ae Int)(hx:x.length<=1000000):Dk prog (.func 310) [] [ptr' b] [aX b 0 [vw],ay aj vw w] (λx=>kY x w) x:=by
 intro v;rw[bP];refine gB 310 λB w0=>?_;refine gC (adA (a:=x) (b:=w) hx hw) λ_ _=>?_;exact dH
abbrev Qh(P:Program)(fe:Fn)(eq:ae Int->ae Int->Bool):Prop:=∀(va vb:ah) (a b:ae Int),a.length<=1000000->b.length<=1000000->aY P fe [va,vb] [] [] [ay aj va a,ay aj vb b] (λ_:Unit=>.bool (eq a b)) (λ_=>[]) (λ_=>[]) (λ_=>True)
structure Ll(n:Nat)(k:aT)(s:List Int)(r:bF)(L:List (List Int)):Prop where
 f0:0<=r.family
 hL:k.lists[r.family.toNat]? =some L
 fM:qf n L r.family
 ps:bM n s
 n0:0<n
 n1:n<=1000000
 len:L.length<=1000000
 lens:∀l∈L,l.length<=1000000
variable{L:ae (ae Int)}{s l:ae Int}{eq:ae Int->ae Int->Bool}{f:Int}{j:Nat}
def Bw(hl:L[j]? =some l)(h:qF L s f eq l j=false):kZ L s f eq=false:=by
 cases e:kZ L s f eq with
 |false=>rfl
 |true=>
  unfold kZ at e;rw[tQ]at e;have:=e j l hl;dsimp only at this;rw[h]at this;cases this
def Bz{i:Int}(hi:jc L s f (j:Int)=i)(h:qF L s f eq l j=true):0<=i/\kY (L.getD i.toNat []) (img s l)=true/\eq (L.getD i.toNat []) (img s l)=true:=by
 unfold qF at h;rw[hi,gV,gV,lV]at h;exact h
def Qi{m:Nat}{l':ae Int}(hi:jc L s f (j:Int)=(m:Int))(hl':L[m]? =some l')(h1:kY l' (img s l)=true)(h2:eq l' (img s l)=true):qF L s f eq l j=true:=by
 unfold qF;rw[hi,fI,fK hl',h1,h2];simp
def aqy(h:0<=xG L w):(xG L w).toNat<L.length:=by
 obtain⟨l,h1,_⟩:=Uu h;exact(bz.1 h1).1
def V6{n:Nat}{k:aT}{t:ae Int}{r:bF}{fe:Fn}{vh vs vr vc vu gh gc vn vl sc st v1 v2:ah}(H:Ll n k s r L)(he:Qh prog fe eq):
 fC prog 248 [.agg ⟨V5 k vh vs vr vc vu gh gc vn vl sc st⟩,.agg ⟨jf r v1 v2⟩,.func fe ⟨[]⟩ ⟨[]⟩] (Qg k s t vs vn vl sc st) (λ_:Unit=>.bool (kZ L s r.family eq)) (λ_=>True):=by
 have hsl:=H.ps.len;have hn0:=H.n0;have hn1:=H.n1;have hll:=H.len;have Ir:=H.lens;obtain⟨rn,ro,rk,rf,rns,ros,aqB,aqC,rop,rnn,rby,rcl⟩:=r;have hf0:0<=rf:=H.f0;obtain⟨f,rfl⟩:=dW hf0;have Lm:k.lists[f]? =some L:=by have:=H.hL;rwa [fI]at this
 refine gB 248 λB w0=>?_;refine gF aj sc s λV7 V8 esc=>?_;subst esc;refine go ?_;intro b3 b4;refine gP b3 ?_;refine gP b4 ?_;have hfl:=(bz.1 Lm).1;refine gX (aA (aA aj)) (xs:=k.lists) λ_ _ L2 (vL:ah) hL2=>?_;rw[Lm]at hL2;obtain rfl:L=L2:=Option.some.inj hL2;refine gF (aA aj) vL L λaL cL eL=>?_;subst eL;generalize hrf:(f:Int)=rf at *;refine gN L.length 24 (λj=>j<=L.length/\∀i',i'<j->∀x,L[i']? =some x->qF L s rf eq x i'=true) ⟨bI _,λi' h=>absurd h (Cc _)⟩ ?_;rintro j ⟨hj,hall⟩;refine aK ?_ ?_<;>intro h1
 .refine gX (aA aj) (xs:=L) λ_ _ l (wI:ah) hl=>?_;have hlm:=aV hl;have hlr:=H.fM.dJ l hlm;have hlen:=Ir l hlm;have hil:(img s l).length=l.length:=Hq s l;refine gF aj wI l λal cl el=>?_;subst el;refine go ?_;refine qA l.length ⟨s6,s6,s6⟩ λbw=>?_;rw[Dq];refine go ?_;intro b10;refine go ?_;refine dL (λi:Nat=>l.length - i) (λi=>[(34,iV (i:Int))]) (λi=>[pt bw (.cells ((iP (img s (l.take i)) l.length).map iV)),pt b10 (.cells [.slice (some ⟨bw,0,some 0⟩) l.length l.length])]) (λ_=>[]) (λi=>i<=l.length) 0 (bI _) (hk:=tc) (body:=?_);intro i hi;have hcl:(img s (l.take i)).length=i:=by rw[Hq,gW];omega
  refine aK ?_ ?_<;>intro h2
  .refine go ?_;intro _ _ x hx;have nA:=hlr x (aV hx);obtain⟨m,rfl⟩:=dW nA.1;refine go ?_;refine Ff 17 ?_;refine go ?_;intro _ _ z hz;have hzg:=jF hz;have htk:img s (l.take (i+1))=img s (l.take i)++[z]:=by
    unfold img;rw[fq hx,bZ,kg,hzg]
   refine go ?_;refine jN (b:=bw) (o:=0+i*1) (cs:=(iP (img s (l.take i)) l.length).map iV) (v:=iV z) (cs':=(iP (img s (l.take (i+1))) l.length).map iV) Fm Fc ?_;refine go ?_;exact aW (i+1) Bx uv
  have hie:i=l.length:=s6
  subst hie;rw[dK]at hcl⊢;rw[Fa hcl];refine mI (A:=pt bw (.cells ((img s l).map iV))) (fs:=[ay aj (.slice (some ⟨bw,0,some 0⟩) l.length l.length) (img s l)]) (by have:=uJ (b:=bw) (f:=0) (c:=l.length) (xs:=img s l) (hc:=by rw[hil];exact bG _);rw[hil]at this;exact this) (h:=?_);refine gP b10 ?_;refine go ?_;refine Ff 17 ?_;refine go ?_;intro _ _ z0 hz0;refine aK ?_ ?_<;>intro c0
  .refine aK (λ_=>?_) (λh=>absurd c0 h);dsimp only at c0;have hjs:j<s.length:=by
    have:=H.fM.len BW;omega
   refine go ?_;refine Ff 17 ?_;refine go ?_;intro _ _ i hi;have hig:=jF hi;have nC:jc L s rf (j:Int)=i:=by unfold jc;rw[if_pos BW];exact hig
   have hi0:0<=i:=(H.ps.dJ i (aV hi)).1;have V9:i<(L.length:Int):=by
    have h1:=(H.ps.dJ i (aV hi)).2;have h2:=H.fM.len BW;omega
   exact cj
  refine aK ?_ ?_<;>intro c4
  .refine aK (λ_=>?_) (λh=>absurd c4 h);dsimp only at c4;have hjs:j<s.length:=by
    have:=H.fM.len BY;omega
   refine go ?_;refine Ff 17 ?_;refine go ?_;intro _ _ i hi;have hig:=jF hi;have nC:jc L s rf (j:Int)=i:=by unfold jc;rw[if_pos BY];exact hig
   have hi0:0<=i:=(H.ps.dJ i (aV hi)).1;have V9:i<(L.length:Int):=by
    have h1:=(H.ps.dJ i (aV hi)).2;have h2:=H.fM.len BY;omega
   exact cj
  refine aK ?_ ?_<;>intro c5
  .dsimp only at c5;have hjs:j<s.length:=by
    have:=H.fM.len B0;omega
   refine go ?_;refine Ff 17 ?_;refine go ?_;intro _ _ i hi;have hig:=jF hi;have nC:jc L s rf (j:Int)=i:=by unfold jc;rw[if_pos B0];exact hig
   have hi0:0<=i:=(H.ps.dJ i (aV hi)).1;have V9:i<(L.length:Int):=by
    have h1:=(H.ps.dJ i (aV hi)).2;have h2:=H.fM.len B0;omega
   exact cj
  dsimp only at c0 c4 c5;refine gC (ac7 (fn:=.func 310) (first:=[]) (cap:=[ptr' b10]) (F1:=[aX b10 0 [.slice (some ⟨bw,0,some 0⟩) l.length l.length],ay aj (.slice (some ⟨bw,0,some 0⟩) l.length l.length) (img s l)]) (p:=λx=>kY x (img s l)) (va:=.slice aL L.length cL) (xs:=L) s6 (λx hx=>Lj B7 x (Ir x hx))) λ_ _=>?_;have nC:jc L s rf (j:Int)=sF (λx=>kY x (img s l)) L:=by
   unfold jc;rw[if_neg (by unfold lM;simp[c0,c4,c5]),fI,fK hl];exact(ac6 L (img s l)).symm
  have hlt:0<=sF (λx=>kY x (img s l)) L->sF (λx=>kY x (img s l)) L<(L.length:Int):=λh=>by
   have:=aqy (L:=L) (w:=img s l) h;have e:sF (λx=>kY x (img s l)) L=xG L (img s l):=ac6 L (img s l);omega
  generalize sF (λx=>kY x (img s l)) L=i at nC hlt⊢;by_cases hi0:0<=i
  .have V9:=hlt hi0;exact cj
  .refine gH ?_ ?_<;>intro hneg
   .exact absurd hneg s6
   refine aZ ?_;rw[Bw hl (by
    cases e:qF L s rf eq l j with
    |false=>rfl
    |true=>exact absurd (Bz nC e).1 hi0)];rfl
 have iH:j=L.length:=s6
 subst iH;refine aZ ?_;have:kZ L s rf eq=true:=by
  unfold kZ;rw[tQ];exact λi x hx=>hall i (bz.1 hx).1 x hx
 rw[this];rfl
abbrev Fg(P:Program)(fn:Fn)(k:aT)(s t:ae Int)(r:bF)(vh vs vr vc vu gh gc vn vl sc st v1 v2:ah)(c:Bool):Prop:=
 aY P fn [.agg ⟨V5 k vh vs vr vc vu gh gc vn vl sc st⟩,.agg ⟨jf r v1 v2⟩] [] [] (Qg k s t vs vn vl sc st) (λ_:Unit=>.bool c) (λ_=>[]) (λ_=>[]) (λ_=>True)
section
variable {n:Nat} {k:aT} {s t:ae Int} {r:bF} {L:ae (ae Int)} {vh vs vr vc vu gh gc vn vl sc st v1 v2:ah}
def aqH(H:Ll n k s r L):Fg prog (.func 210) k s t r vh vs vr vc vu gh gc vn vl sc st v1 v2 (kZ L s r.family kY):=by
 have he:Qh prog (.func 249) kY:=λva vb a b ha hb=>adA ha hb;refine gB 210 λB w0=>?_;refine go ?_;intro b2 b3;refine gC (V6 (t:=t) (eq:=kY) (sc:=sc) (st:=st) (v1:=v1) (v2:=v2) H he) λ_ _=>?_;exact dH
def aqI(H:Ll n k s r L):Fg prog (.func 212) k s t r vh vs vr vc vu gh gc vn vl sc st v1 v2 (kZ L s r.family zR):=by
 have he:Qh prog (.func 91) zR:=λva vb a b ha hb=>wC s6;refine gB 212 λB w0=>?_;refine go ?_;intro b2 b3;refine gC (V6 (t:=t) (eq:=zR) (sc:=sc) (st:=st) (v1:=v1) (v2:=v2) H he) λ_ _=>?_;exact dH
def aqJ(H:Ll n k s r L):Fg prog (.func 213) k s t r vh vs vr vc vu gh gc vn vl sc st v1 v2 (kZ L s r.family wB):=by
 have he:Qh prog (.func 250) wB:=λva vb a b ha hb=>aqx ha hb;refine gB 213 λB w0=>?_;refine go ?_;intro b2 b3;refine gC (V6 (t:=t) (eq:=wB) (sc:=sc) (st:=st) (v1:=v1) (v2:=v2) H he) λ_ _=>?_;exact dH
end
end Go.Proofs.YtgimfpcgbmpkhaaGreat
namespace Go.Proofs.YtgimfpcgbmpkhaaGreat
open Tryz (prog)
open Go.Ideal Kd Canon
variable{k:aT}
def adB{i:Nat}{x:nQ}(h:k.decl.symbols[i]? =some x):aU (gJ k) (i:Int)=x.value:=by
 apply jF;unfold gJ;rw[eF,h];rfl
section
variable {m:Nat} {k:aT} {s t:ae Int} {r:bF} {vh vs vr vc vu gh gc vn vl sc st v1 v2:ah}
def aqK(hm:k.decl.symbols.length=m)(ht:bM m t)(hl:m<=4096):Fg prog (.func 211) k s t r vh vs vr vc vu gh gc vn vl sc st v1 v2 (pM (gJ k) t):=by
 have htl:=ht.len;refine gB 211 λB w0=>?_;refine gF aj st t λuK ct et=>?_;subst et;refine gF jO vs k.decl.symbols λjg cs1 es1=>?_;subst es1;refine go ?_;intro b2 b3;refine gP b2 ?_;refine gN t.length 11 (λj=>j<=t.length/\∀i',i'<j->∀x,t[i']? =some x->aU (gJ k) (i':Int)=aU (gJ k) x) ⟨bI _,λi' h=>absurd h (Cc _)⟩ ?_;rintro j ⟨hj,hall⟩;refine aK ?_ ?_<;>intro h1
 .refine go ?_;intro _ _ x hx;have nA:=ht.dJ x (aV hx);obtain⟨i,rfl⟩:=dW nA.1;refine gX jO (xs:=k.decl.symbols) (k:=j) λ_ _ y (_:Unit) hy=>?_;have e1:=adB hy;refine gX jO (xs:=k.decl.symbols) (k:=i) λ_ _ z (_:Unit) hz=>?_;have e2:=adB hz;refine aK ?_ ?_<;>intro h2
  .refine aZ ?_;have:pM (gJ k) t=false:=by
    cases e:pM (gJ k) t with
    |false=>rfl
    |true=>
     unfold pM at e;rw[tQ]at e;have:=jI (e j _ hx);dsimp only at this;rw[e1,e2]at this;exact absurd this h2
   rw[this];rfl
  refine go ?_;refine aW (j+1) s6 ⟨s6,λi' hi' x hx'=>?_⟩;by_cases e:i'=j
  .subst e;rw[hx]at hx';cases hx';rw[e1,e2];exact j6.1 h2
  .exact sv
 have iH:j=t.length:=s6
 subst iH;refine aZ ?_;have:pM (gJ k) t=true:=by
  unfold pM;rw[tQ];exact λi x hx=>eB (hall i (bz.1 hx).1 x hx)
 rw[this];rfl
def Qj(set i:Nat):set>>>i&&&1=(set.testBit i).toNat:=by
 rw[Nat.and_one_is_mod,Me,Nat.toNat_testBit]
def Qk{a b:Bool}:((a.toNat:Nat):Int)=((b.toNat:Nat):Int)↔a=b:=by cases a<;>cases b<;>decide
def aqL{set other:Nat}(hs:r.set=(set:Int)/\set<2^63)(ho:r.other=(other:Int)/\other<2^63)(ht:bM m t)(hl:m<=60):Fg prog (.func 165) k s t r vh vs vr vc vu gh gc vn vl sc st v1 v2 (sj set other t):=by
 have htl:=ht.len;obtain⟨hs1,hs2⟩:=hs;obtain⟨ho1,ho2⟩:=ho;obtain⟨rn,ro,rk,rf,rns,ros,aqB,aqC,rop,rnn,rby,rcl⟩:=r;dsimp only at hs1 ho1;subst hs1 ho1;refine gB 165 λB w0=>?_;refine gF aj st t λuK ct et=>?_;subst et;refine go ?_;intro b2 b3;refine gP b2 ?_;refine gP b3 ?_;refine gN t.length 11 (λj=>j<=t.length/\∀i',i'<j->∀x,t[i']? =some x->set.testBit i'=set.testBit x.toNat/\other.testBit i'=other.testBit x.toNat) ⟨bI _,λi' h=>absurd h (Cc _)⟩ ?_;rintro j ⟨hj,hall⟩;refine aK ?_ ?_<;>intro h1
 .refine go ?_;intro _ _ x hx;have nA:=ht.dJ x (aV hx);obtain⟨i,rfl⟩:=dW nA.1;have hno:¬(set.testBit j=set.testBit i/\other.testBit j=other.testBit i)->sj set other t=false:=λh=>by
   cases e:sj set other t with
   |false=>rfl
   |true=>
    unfold sj at e;rw[tQ]at e;have:=e j _ hx;dsimp only at this;rw[fI,gV,lV,lV]at this;exact absurd this h
  refine go ?_;refine(dx rfl rfl (J2 (a:=set) (b:=j) rfl rfl s6)).h ?_;refine(dx rfl rfl (J3 (a:=set>>>j) (b:=1) rfl rfl (IY (QO _ _) hs2) s6)).h ?_;rw[Qj set j];refine go ?_;refine(dx rfl rfl (J2 (a:=set) (b:=i) rfl rfl s6)).h ?_;refine(dx rfl rfl (J3 (a:=set>>>i) (b:=1) rfl rfl (IY (QO _ _) hs2) s6)).h ?_;rw[Qj set i];refine gH ?_ ?_<;>intro h2
  rotate_left
  .refine aZ ?_;rw[hno (λq=>h2 (Qk.2 q.1))];rfl
  have h2:=Qk.1 (j6.1 h2);refine go ?_;refine(dx rfl rfl (J2 (a:=other) (b:=j) rfl rfl s6)).h ?_;refine(dx rfl rfl (J3 (a:=other>>>j) (b:=1) rfl rfl (IY (QO _ _) ho2) s6)).h ?_;rw[Qj other j];refine go ?_;refine(dx rfl rfl (J2 (a:=other) (b:=i) rfl rfl s6)).h ?_;refine(dx rfl rfl (J3 (a:=other>>>i) (b:=1) rfl rfl (IY (QO _ _) ho2) s6)).h ?_;rw[Qj other i];refine aK ?_ ?_<;>intro h3
  .refine aZ ?_;rw[hno (λq=>h3 (Qk.2 q.2))];rfl
  have h3:=Qk.1 (j6.1 h3);refine go ?_;refine aW (j+1) s6 ⟨s6,λi' hi' x hx'=>?_⟩;by_cases e:i'=j
  .subst e;rw[hx]at hx';cases hx';rw[fI];exact⟨h2,h3⟩
  .exact sv
 have iH:j=t.length:=s6
 subst iH;refine aZ ?_;have:sj set other t=true:=by
  unfold sj;rw[tQ];intro i x hx;have:=hall i (bz.1 hx).1 x hx;dsimp only;rw[this.1,this.2];simp
 rw[this];rfl
def aqM{n:Nat}(hN:uW n k.aH)(hs:bM n s)(hl:n<=1000000)(hll:∀l∈k.aH,l.length<=1000000):Fg prog (.func 214) k s t r vh vs vr vc vu gh gc vn vl sc st v1 v2 (mQ k.aH s):=by
 have hsl:=hs.len;have hnl:=hN.1;refine gB 214 λB w0=>?_;refine gF aj sc s λV7 V8 esc=>?_;subst esc;refine gF (aA aj) vn k.aH λan cn en=>?_;subst en;refine go ?_;intro b2 b3;refine gP b2 ?_;refine gN k.aH.length 13 (λj=>j<=k.aH.length/\∀i',i'<j->∀l,k.aH[i']? =some l->∀b∈l,aU s b∈k.aH.getD (aU s (i':Int)).toNat []) ⟨bI _,λi' h=>absurd h (Cc _)⟩ ?_;rintro j ⟨hj,hall⟩;refine aK ?_ ?_<;>intro h1
 .refine gX (aA aj) (xs:=k.aH) λ_ _ l (wI:ah) hl2=>?_;have hlm:=aV hl2;have hlr:=hN.2 l hlm;have hlen:=hll l hlm;refine gF aj wI l λal cl el=>?_;subst el;refine gN l.length 20 (λi=>i<=l.length/\∀b∈l.take i,aU s b∈k.aH.getD (aU s (j:Int)).toNat []) ⟨bI _,s7⟩ ?_;rintro i ⟨hi,vz⟩;refine aK ?_ ?_<;>intro h2
  .refine go ?_;intro _ _ b hb;have hbr:=hlr b (aV hb);obtain⟨bn,rfl⟩:=dW hbr.1;refine go ?_;refine Ff 17 ?_;refine go ?_;intro _ _ u hu;have hug:=jF hu;have hur:=hs.dJ u (aV hu);obtain⟨un,rfl⟩:=dW hur.1;refine gX (aA aj) (xs:=k.aH) (k:=un) λ_ _ l2 (Lb:ah) hl3=>?_;have avp:=hll l2 (aV hl3);refine go ?_;refine Ff 17 ?_;refine go ?_;intro _ _ z hz;have hzg:=jF hz;refine gC (UG (xs:=l2) (z:=z) s6) λ_ _=>?_;have hd:k.aH.getD (aU s (j:Int)).toNat []=l2:=by rw[hug,fI];exact fK hl3
   refine go ?_;refine qW rfl (λh3=>?_) (λh3=>?_)
   .refine aZ ?_;have:mQ k.aH s=false:=by
     cases e:mQ k.aH s with
     |false=>rfl
     |true=>
      unfold mQ at e;rw[tQ]at e;have:=e j l hl2;rw[jU]at this;have:=jI (this _ (aV hb));dsimp only at this;rw[hd,hzg]at this;exact absurd this h3
    rw[this];rfl
   refine go ?_;refine aW (i+1) Bx ⟨s6,λb hb'=>?_⟩;rw[fq hb]at hb';rcases fU.1 hb' with hb'|hb'
   .exact vz b hb'
   .rw[bR.1 hb',hd,hzg];exact h3
  have hie:i=l.length:=s6
  subst hie;rw[dK]at vz;refine go ?_;refine aW (j+1) DM ⟨s6,λi' hi' l' hl'=>?_⟩;by_cases e:i'=j
  .subst e;rw[hl2]at hl';cases hl';exact vz
  .exact hall i' s6 l' hl'
 have iH:j=k.aH.length:=s6
 subst iH;refine aZ ?_;have:mQ k.aH s=true:=by
  unfold mQ;rw[tQ];intro i l hl';rw[jU];exact λb hb=>eB (hall i (bz.1 hl').1 l hl' b hb)
 rw[this];rfl
end
abbrev fv(f:gy):ah:=.func (.func f) ⟨[]⟩ ⟨[]⟩
structure Ql where
 b1:Nat
 b2:Nat
 b3:Nat
 b4:Nat
 b5:Nat
 b6:Nat
 b7:Nat
 b8:Nat
 b9:Nat
 b10:Nat
abbrev We(y:Ql):ae ah:=[.slice none 0 0,.slice (some ⟨y.b1,0,some 0⟩) 1 1,.slice (some ⟨y.b2,0,some 0⟩) 1 1,.slice (some ⟨y.b3,0,some 0⟩) 2 2,.slice (some ⟨y.b4,0,some 0⟩) 2 2,.slice (some ⟨y.b5,0,some 0⟩) 1 1,.slice (some ⟨y.b6,0,some 0⟩) 1 1,.slice (some ⟨y.b7,0,some 0⟩) 2 2,.slice (some ⟨y.b8,0,some 0⟩) 1 1,.slice (some ⟨y.b9,0,some 0⟩) 1 1,.slice (some ⟨y.b10,0,some 0⟩) 1 1,.slice none 0 0]
abbrev z8(y:Ql):ae aI:=[aX y.b1 0 [fv 210],aX y.b2 0 [fv 210],aX y.b3 0 [fv 210,fv 211],aX y.b4 0 [fv 212,fv 211],aX y.b5 0 [fv 213],aX y.b6 0 [fv 214],aX y.b7 0 [fv 214,fv 211],aX y.b8 0 [fv 214],aX y.b9 0 [fv 214],aX y.b10 0 [fv 214]]
def aqO:aY prog (.func 163) [] [] [] [] (λy:Ql=>.agg ⟨We y⟩) (λ_=>[]) (λy=>z8 y) (λ_=>True):=by
 refine gB 163 λB w0=>?_;refine go ?_;intro b0 b1 b2 b3 b4 b5 b6 b7 b8 b9 b10;refine go ?_;refine gP b1 ?_;refine gP b2 ?_;refine gP b3 ?_;refine gP b4 ?_;refine gP b5 ?_;refine gP b6 ?_;refine gP b7 ?_;refine gP b8 ?_;refine gP b9 ?_;refine gP b10 ?_;exact gQ ⟨b1,b2,b3,b4,b5,b6,b7,b8,b9,b10⟩ trivial
section
variable {k:aT} {s t:ae Int} {r:bF} {vh vs vr vc vu gh gc vn vl sc st v1 v2:ah} {bc br:Nat}
abbrev yU(k:aT)(s t:ae Int)(r:bF)(vh vs vr vc vu gh gc vn vl sc st v1 v2:ah)(bc br:Nat):ae aI:=aX bc 0 (V5 k vh vs vr vc vu gh gc vn vl sc st)::aX br 0 (jf r v1 v2)::Qg k s t vs vn vl sc st
def Lp{f:gy}{c:Bool}(h:Fg prog (.func f) k s t r vh vs vr vc vu gh gc vn vl sc st v1 v2 c):aY prog (.func 164) [fv f] [ptr' bc,ptr' br] [] (yU k s t r vh vs vr vc vu gh gc vn vl sc st v1 v2 bc br) (λ_:Unit=>.bool (!c)) (λ_=>[]) (λ_=>[]) (λ_=>True):=by
 refine gB 164 λB w0=>?_;refine gC h λ_ _=>?_;exact dH
variable{fn:Fn}{first cap fs:ae ah}{F1:ae aI}{b:Nat}{p:Nat->Bool}
def aqP(hl:fs.length<=100)(hp:∀i f,fs[i]? =some f->aY prog fn (first++[f]) cap [] F1 (λ_:Unit=>.bool (p i)) (λ_=>[]) (λ_=>[]) (λ_=>True)):
 fC prog 215 [.slice (some ⟨b,0,some 0⟩) fs.length fs.length,.func fn ⟨first⟩ ⟨cap⟩] (aX b 0 fs::F1) (λx:Int=>iV x) (λx=>0<=x↔∃i,i<fs.length/\p i=true):=by
 refine gB 215 λB w0=>?_;refine gN fs.length 8 (λj=>j<=fs.length/\∀i,i<j->p i=false) ⟨bI _,λi h=>absurd h (Cc _)⟩ ?_;rintro j ⟨hj,hall⟩;refine aK ?_ ?_<;>intro h1
 .have hf:fs[j]? =some fs[j]:=bN s6;generalize fs[j]=f at hf;refine go ?_;refine(JQ (b:=b) (o:=0) (j:=j*1) (cs:=fs) (v:=f) rfl rfl rfl (eX ..) (by rw[uE,lU];exact hf)).h ?_;refine gC (hp j f hf) λ_ _=>?_;refine go ?_;refine yA rfl (λh2=>?_) (λh2=>?_)
  .refine go ?_;exact gQ (j:Int) ⟨λ_=>⟨j,s6,h2⟩,λ_=>by omega⟩
  refine go ?_;refine aW (j+1) s6 ⟨s6,λi hi=>?_⟩;by_cases e:i=j
  .subst e;exact h2
  .exact hall i s6
 refine go ?_;exact gQ (-1) ⟨λh=>by omega,λ⟨i,hi,h⟩=>by rw[hall i s6]at h;cases h⟩
def adC(hl:fs.length<=100)(hp:∀i f,fs[i]? =some f->aY prog fn (first++[f]) cap [] F1 (λ_:Unit=>.bool (p i)) (λ_=>[]) (λ_=>[]) (λ_=>True)):
 fC prog 166 [.slice (some ⟨b,0,some 0⟩) fs.length fs.length,.func fn ⟨first⟩ ⟨cap⟩] (aX b 0 fs::F1) (λc:Bool=>.bool c) (λc=>c=true↔∃i,i<fs.length/\p i=true):=by
 refine gB 166 λB w0=>?_;refine gC (aqP (b:=b) hl hp) λx hx=>?_;refine go ?_;refine gQ (decide (0<=x)) ?_;rw[lV];exact hx
def aqQ:fC prog 166 [.slice none 0 0,.func fn ⟨first⟩ ⟨cap⟩] F1 (λc:Bool=>.bool c) (λc=>c=false):=by
 have h0:fC prog 215 [.slice none 0 0,.func fn ⟨first⟩ ⟨cap⟩] F1 (λ_:Unit=>iV (-1)) (λ_=>True):=by
  refine gB 215 λB w0=>?_;refine go ?_;refine qY ?_;exact dH
 refine gB 166 λB w0=>?_;refine gC h0 λ_ _=>?_;refine go ?_;exact gQ false rfl
structure adD(k:aT)(s t:List Int)(r:bF):Prop where
 ps:bM k.grid.cells.length s
 pt:bM k.decl.symbols.length t
 n1:k.grid.cells.length<=256
 m1:k.decl.symbols.length<=16
 aH:uW k.grid.cells.length k.aH
 nbl:∀l∈k.aH,l.length<=1000000
 kind:1<=r.kind/\r.kind<=11
 Wh:Ll k.grid.cells.length k s r (k.lists.getD r.family.toNat [])
 st:r.set=((r.set.toNat:Nat):Int)/\r.set.toNat<2^63
 ot:r.other=((r.other.toNat:Nat):Int)/\r.other.toNat<2^63
def adE(H:adD k s t r)(y:Ql):∃v,(We y)[r.kind.toNat]? =some v/\fC prog 166 [v,.func (.func 164) ⟨[]⟩ ⟨[ptr' bc,ptr' br]⟩] (z8 y++yU k s t r vh vs vr vc vu gh gc vn vl sc st v1 v2 bc br) (λc:Bool=>.bool c) (λc=>c=true↔mR k s t r=false):=by
 have hF:=Lp (bc:=bc) (br:=br) (aqH (t:=t) (vh:=vh) (vs:=vs) (vr:=vr) (vc:=vc) (vu:=vu) (gh:=gh) (gc:=gc) (vn:=vn) (vl:=vl) (sc:=sc) (st:=st) (v1:=v1) (v2:=v2) H.Wh);have hO:=Lp (bc:=bc) (br:=br) (aqI (t:=t) (vh:=vh) (vs:=vs) (vr:=vr) (vc:=vc) (vu:=vu) (gh:=gh) (gc:=gc) (vn:=vn) (vl:=vl) (sc:=sc) (st:=st) (v1:=v1) (v2:=v2) H.Wh);have hL:=Lp (bc:=bc) (br:=br) (aqJ (t:=t) (vh:=vh) (vs:=vs) (vr:=vr) (vc:=vc) (vu:=vu) (gh:=gh) (gc:=gc) (vn:=vn) (vl:=vl) (sc:=sc) (st:=st) (v1:=v1) (v2:=v2) H.Wh);have hV:=Lp (bc:=bc) (br:=br) (aqK (s:=s) (r:=r) (vh:=vh) (vs:=vs) (vr:=vr) (vc:=vc) (vu:=vu) (gh:=gh) (gc:=gc) (vn:=vn) (vl:=vl) (sc:=sc) (st:=st) (v1:=v1) (v2:=v2) rfl H.pt (by have:=H.m1;omega));have hB:=Lp (bc:=bc) (br:=br) (aqM (t:=t) (r:=r) (vh:=vh) (vs:=vs) (vr:=vr) (vc:=vc) (vu:=vu) (gh:=gh) (gc:=gc) (vn:=vn) (vl:=vl) (sc:=sc) (st:=st) (v1:=v1) (v2:=v2) H.aH H.ps (by have:=H.n1;omega) H.nbl);have one:∀(b:Nat) (f:gy) (c:Bool),aY prog (.func 164) [fv f] [ptr' bc,ptr' br] [] (yU k s t r vh vs vr vc vu gh gc vn vl sc st v1 v2 bc br) (λ_:Unit=>.bool (!c)) (λ_=>[]) (λ_=>[]) (λ_=>True)->aX b 0 [fv f]∈z8 y->mR k s t r=c->
  fC prog 166 [.slice (some ⟨b,0,some 0⟩) 1 1,.func (.func 164) ⟨[]⟩ ⟨[ptr' bc,ptr' br]⟩] (z8 y++yU k s t r vh vs vr vc vu gh gc vn vl sc st v1 v2 bc br) (λc:Bool=>.bool c) (λc=>c=true↔mR k s t r=false):=λb f c h hm hc=>by
  have h1:=adC (b:=b) (fs:=[fv f]) (p:=λ_=>!c) (fn:=.func 164) (first:=[]) (cap:=[ptr' bc,ptr' br]) s7 (λi g hg=>by
   match i,hg with
   |0,hg=>cases hg;exact h
   |i+1,hg=>simp at hg)
  refine((h1.facts (F2:=z8 y++yU k s t r vh vs vr vc vu gh gc vn vl sc st v1 v2 bc br) (λf hf=>?_))).weak λc' hc'=>?_
  .exact rL
  .rw[hc',hc];constructor
   .rintro⟨_,_,e⟩;simpa using e
   .intro e;exact⟨0,s7,tx⟩
 have two:∀(b:Nat) (f g:gy) (c d:Bool),aY prog (.func 164) [fv f] [ptr' bc,ptr' br] [] (yU k s t r vh vs vr vc vu gh gc vn vl sc st v1 v2 bc br) (λ_:Unit=>.bool (!c)) (λ_=>[]) (λ_=>[]) (λ_=>True)->aY prog (.func 164) [fv g] [ptr' bc,ptr' br] [] (yU k s t r vh vs vr vc vu gh gc vn vl sc st v1 v2 bc br) (λ_:Unit=>.bool (!d)) (λ_=>[]) (λ_=>[]) (λ_=>True)->aX b 0 [fv f,fv g]∈z8 y->mR k s t r=(c&&d)->
  fC prog 166 [.slice (some ⟨b,0,some 0⟩) 2 2,.func (.func 164) ⟨[]⟩ ⟨[ptr' bc,ptr' br]⟩] (z8 y++yU k s t r vh vs vr vc vu gh gc vn vl sc st v1 v2 bc br) (λc:Bool=>.bool c) (λc=>c=true↔mR k s t r=false):=λb f g c d h h2 hm hc=>by
  have h1:=adC (b:=b) (fs:=[fv f,fv g]) (p:=λi=>if i=0 then !c else !d) (fn:=.func 164) (first:=[]) (cap:=[ptr' bc,ptr' br]) s7 (λi g hg=>by
   match i,hg with
   |0,hg=>cases hg;exact h
   |1,hg=>cases hg;exact h2
   |i+2,hg=>simp at hg)
  refine((h1.facts (F2:=z8 y++yU k s t r vh vs vr vc vu gh gc vn vl sc st v1 v2 bc br) (λf hf=>?_))).weak λc' hc'=>?_
  .exact rL
  .rw[hc',hc];constructor
   .rintro⟨i,hi,e⟩;by_cases e0:i=0
    .rw[if_pos e0]at e;cases c<;>simp_all
    .rw[if_neg e0]at e;cases d<;>simp_all
   .intro e;cases hcc:c with
    |false=>exact⟨0,s7,rfl⟩
    |true=>
     rw[hcc,L8]at e;exact⟨1,s7,tx⟩
 have hk:=H.kind;obtain⟨kn,hkn⟩:=dW (by omega:0<=r.kind);have VO:kn=1\/kn=2\/kn=3\/kn=4\/kn=5\/kn=6\/kn=7\/kn=8\/kn=9\/kn=10\/kn=11:=s6
 rcases VO with rfl|rfl|rfl|rfl|rfl|rfl|rfl|rfl|rfl|rfl|rfl
 .exact⟨_,by rw[hkn];rfl,one y.b1 _ _ hF s7 (by unfold mR;rw[if_pos (.inl hkn)])⟩
 .exact⟨_,by rw[hkn];rfl,one y.b2 _ _ hF s7 (by unfold mR;rw[if_pos (.inr hkn)])⟩
 .exact⟨_,by rw[hkn];rfl,two y.b3 _ _ _ _ hF hV s7 (by unfold mR;rw[if_neg s6,if_pos s6])⟩
 .exact⟨_,by rw[hkn];rfl,two y.b4 _ _ _ _ hO hV s7 (by unfold mR;rw[if_neg s6,if_neg s6,if_pos s6])⟩
 .exact⟨_,by rw[hkn];rfl,one y.b5 _ _ hL s7 (by unfold mR;rw[if_neg s6,if_neg s6,if_neg s6,if_pos s6])⟩
 .exact⟨_,by rw[hkn];rfl,one y.b6 _ _ hB s7 Fk⟩
 .exact⟨_,by rw[hkn];rfl,two y.b7 _ _ _ _ hB hV s7 (by unfold mR;rw[if_neg s6,if_neg s6,if_neg s6,if_neg s6,if_pos s6])⟩
 .exact⟨_,by rw[hkn];rfl,one y.b8 _ _ hB s7 Fk⟩
 .exact⟨_,by rw[hkn];rfl,one y.b9 _ _ hB s7 Fk⟩
 .exact⟨_,by rw[hkn];rfl,one y.b10 _ _ hB s7 Fk⟩
 .refine⟨.slice none 0 0,by rw[hkn];rfl,?_⟩;refine(aqQ (F1:=z8 y++yU k s t r vh vs vr vc vu gh gc vn vl sc st v1 v2 bc br)).weak λc' hc'=>?_;have:mR k s t r=true:=by unfold mR;rw[if_neg s6,if_neg s6,if_neg s6,if_neg s6,if_neg s6,if_neg s6]
  rw[hc',this];simp
end
def bD.set(h:bD k){r:bF}(hr:r∈k.decl.rules):(r.set=((r.set.toNat:Nat):Int)/\r.set.toNat<2^63)/\(r.other=((r.other.toNat:Nat):Int)/\r.other.toNat<2^63):=by
 obtain⟨q,hq,hre⟩:=h.qc hr;have hro:=h.b.rs.qc q hq;have hsl:=h.typ.lim.s1;have K9:r.set=((kI (iR k.decl) q.names:Nat):Int):=u9
 have La:r.other=((kI (iR k.decl) q.others:Nat):Int):=u9
 have hsn:(iR k.decl).length<=16:=by unfold iR;rw[bi];exact hsl
 have hl1:=P7 hsn q.names hro.names;have hl2:=P7 hsn q.others hro.others;refine⟨⟨by rw[K9];omega,by rw[K9];omega⟩,⟨by rw[La];omega,by rw[La];omega⟩⟩
def bD.tT(h:bD k):k.grid.cells.length<=256:=by
 have:=h.bJ.len;rw[h.grid];exact this
def bD.npos(h:bD k):0<k.grid.cells.length:=by
 rw[h.grid];exact aa3 h.bJ
def bD.aqS(h:bD k){s t:ae Int}(hs:bM k.grid.cells.length s)(ht:bM k.decl.symbols.length t){r:bF}(hr:r∈k.decl.rules):adD k s t r:=by
 have hin:=(h.inr hr).fM;have hL:k.lists[r.family.toNat]? =some (k.lists[r.family.toNat]'(s6)):=bN _;have jH:=h.Lc hL;rw[rR hin.1]at jH;have Lr:∀r∈k.decl.regions,uT (bO k.decl) r.lists:=λr hr=>(h.typ.wH r hr).1.2;have Ls:=KG h.bJ Lr;have hlin:=O8 h.bJ Lr;rw[<- h.lists]at Ls hlin;have hn:=h.tT;refine⟨hs,ht,h.tT,h.typ.lim.s1,h.Bt,λl hl=>?_,h.kinds hr,⟨hin.1,?_,?_,hs,h.npos,s6,?_,?_⟩,(h.set hr).1,(h.set hr).2⟩
 .rw[h.aH]at hl;have:=Ku l hl;omega
 .rw[fK hL];exact hL
 .rw[fK hL];exact jH
 .rw[fK hL];have:=Ls _ (aV hL);omega
 .rw[fK hL];intro l hl;have:=(hlin _ (aV hL) l hl).1;omega
variable{s t:ae Int}{vh vs vr vc vu gh gc vn vl sc st:ah}
def Wi(hK:bD k)(hs:s.length<2^63)(ht:t.length<2^63):
 fC prog 59 [.agg ⟨jE k vh vs vr vc vu gh gc vn vl⟩,.agg ⟨[sc,st]⟩] (ay aj sc s::ay aj st t::iO k vh vs vr vc vu gh gc vn vl []) (λb:Bool=>.bool b) (λb=>b=true↔eU k s t):=by
 have hn:=hK.tT;have hm:=hK.typ.lim.s1;have pO:=hK.typ.lim.u;refine gB 59 λB w0=>?_;dsimp only[iO];refine gF aj gc k.grid.cells λag cg eg=>?_;subst eg;refine gF jO vs k.decl.symbols λjg cs1 es1=>?_;subst es1;refine gF di vu k.decl.rules λau cu eu=>?_;subst eu;refine go ?_;intro b2 b3;refine gP b2 ?_;refine gP b3 ?_;refine gC (ac9 (xs:=s) (n:=k.grid.cells.length) hn hs) λe1 he1=>?_;refine gH ?_ ?_<;>intro h1
 rotate_left
 .refine go ?_;exact gQ false ⟨(λh=>by cases h),λh=>absurd (he1.2 h.pc) h1⟩
 have hps:=he1.1 (j6.1 h1);refine gC (ac9 (xs:=t) (n:=k.decl.symbols.length) s6 ht) λe2 he2=>?_;refine aK ?_ ?_<;>intro h2
 .refine go ?_;exact gQ false ⟨(λh=>by cases h),λh=>absurd (he2.2 h.ps) h2⟩
 have hpt:=he2.1 (j6.1 h2);refine go ?_;intro b5 b6;refine fH aqO (next:=λy _=>?_);refine go ?_;refine gP b5 ?_;refine gP b6 ?_;refine gN k.decl.rules.length 36 (λj=>j<=k.decl.rules.length/\∀r∈k.decl.rules.take j,keepR k s t r=true) ⟨bI _,s7⟩ ?_;rintro j ⟨hj,hall⟩;refine aK ?_ ?_<;>intro h3
 .refine gX di (xs:=k.decl.rules) λ_ _ r (w:ah×ah) hr=>?_;have hrm:=aV hr;have H:=hK.aqS hps hpt hrm;have hkd:=H.kind;have hno:keepR k s t r=false->∀b:Bool,b=false->(b=true↔eU k s t):=λh b hb=>⟨(λe=>by rw[hb]at e;cases e),λq=>by have:=q.qc r hrm;rw[h]at this;cases this⟩
  obtain⟨vk,hvk,hcon⟩:=adE (bc:=b5) (br:=0) (vh:=vh) (vs:=.slice jg k.decl.symbols.length cs1) (vr:=vr) (vc:=vc) (vu:=.slice au k.decl.rules.length cu) (gh:=gh) (gc:=.slice ag k.grid.cells.length cg) (vn:=vn) (vl:=vl) (sc:=sc) (st:=st) (v1:=w.1) (v2:=w.2) H y;clear hcon;refine go ?_;intro b8;obtain⟨vk2,adG,hcon⟩:=adE (bc:=b5) (br:=b8) (vh:=vh) (vs:=.slice jg k.decl.symbols.length cs1) (vr:=vr) (vc:=vc) (vu:=.slice au k.decl.rules.length cu) (gh:=gh) (gc:=.slice ag k.grid.cells.length cg) (vn:=vn) (vl:=vl) (sc:=sc) (st:=st) (v1:=w.1) (v2:=w.2) H y;obtain rfl:vk2=vk:=by rw[hvk]at adG;exact(Option.some.inj adG).symm
  refine go ?_;refine gP b8 ?_;refine gC (aqL (k:=k) (s:=s) (r:=r) (set:=r.set.toNat) (other:=r.other.toNat) (vh:=vh) (vs:=.slice jg k.decl.symbols.length cs1) (vr:=vr) (vc:=vc) (vu:=.slice au k.decl.rules.length cu) (gh:=gh) (gc:=.slice ag k.grid.cells.length cg) (vn:=vn) (vl:=vl) (sc:=sc) (st:=st) (v1:=w.1) (v2:=w.2) H.st H.ot hpt s6) λ_ _=>?_;cases hset:sj r.set.toNat r.other.toNat t with
  |false=>
   refine go ?_;exact gQ false (hno (by unfold keepR;rw[hset];rfl) _ rfl)
  |true=>
  obtain⟨kn,hkn⟩:=dW (by omega:0<=r.kind);rw[hkn,fI]at hvk;rw[hkn];refine go ?_;refine(JQ (b:=b6) (o:=0) (j:=kn*1) (cs:=We y) (v:=vk2) rfl rfl rfl DS (by rw[uE,lU];exact hvk)).h ?_;rw[<- hkn];refine go ?_;dsimp only[z8,yU,Qg,List.cons_append,List.nil_append]at hcon;refine fH hcon (hF:=by repeat (first|exact Sub.nil|(apply Sub.cons;(focus (repeat (first|exact eX .. |apply fP)))))) (next:=λc hc=>?_);refine go ?_;cases c with
  |true=>
   refine go ?_;exact gQ false (hno (by unfold keepR;rw[hc.1 rfl,Bool.and_false]) _ rfl)
  |false=>
  have hcd:mR k s t r=true:=by
   cases e:mR k s t r with
   |true=>rfl
   |false=>exact absurd (hc.2 e) s7
  refine go ?_;refine aW (j+1) By ⟨s6,λx hx=>?_⟩;rw[fq hr]at hx;rcases fU.1 hx with hx|hx
  .exact hall x hx
  .rw[bR.1 hx];unfold keepR;rw[hset,hcd];rfl
 have iH:j=k.decl.rules.length:=s6
 subst iH;rw[dK]at hall;refine go ?_;exact gQ true ⟨λ_=>⟨hps,hpt,hall⟩,λ_=>rfl⟩
structure KpP(k:aT)(s t:List Int)(y:Bool×Int):Prop where
 nk:¬bD k->y=(false,180)
 ok:bD k->y.2=0/\(y.1=true↔eU k s t)
def Wj(hS:nU k)(hs:s.length<2^63)(ht:t.length<2^63):
 fC prog 19 [.agg ⟨jE k vh vs vr vc vu gh gc vn vl⟩,.agg ⟨[sc,st]⟩] (ay aj sc s::ay aj st t::iO k vh vs vr vc vu gh gc vn vl []) (λy:Bool×Int=>.tuple ⟨[.bool y.1,iV y.2]⟩) (KpP k s t):=by
 refine gB 19 λB w0=>?_;dsimp only[iO];refine go ?_;intro b2 b3;refine gC (Ic (k:=k) (vh:=vh) (vs:=vs) (vr:=vr) (vc:=vc) (vu:=vu) (gh:=gh) (gc:=gc) (vn:=vn) (vl:=vl) hS) λb hb=>?_;cases b with
 |false=>
  have hno:¬bD k:=λh=>by have:=hb.2 h;cases this
  dsimp only[cond];refine go ?_;exact gQ (false,180) ⟨λ_=>rfl,λh=>absurd h hno⟩
 |true=>
 have hK:=hb.1 rfl;dsimp only[cond];refine gC (Wi (k:=k) (s:=s) (t:=t) (vh:=vh) (vs:=vs) (vr:=vr) (vc:=vc) (vu:=vu) (gh:=gh) (gc:=gc) (vn:=vn) (vl:=vl) (sc:=sc) (st:=st) hK hs ht) λc hc=>?_;refine go ?_;exact gQ (c,0) ⟨λh=>absurd hK h,λ_=>⟨rfl,hc⟩⟩
structure aqU(k:aT)(s t:List Int)(e:Int):Prop where
 nk:¬bD k->e=180
 ns:bD k->¬eU k s t->e=230
 ok:bD k->eU k s t->e=0
def adH(hS:nU k)(hs:s.length<2^63)(ht:t.length<2^63):
 fC prog 64 [.agg ⟨jE k vh vs vr vc vu gh gc vn vl⟩,.agg ⟨[sc,st]⟩] (ay aj sc s::ay aj st t::iO k vh vs vr vc vu gh gc vn vl []) (λe:Int=>iV e) (aqU k s t):=by
 refine gB 64 λB w0=>?_;dsimp only[iO];refine go ?_;intro b2 b3;refine gC (Ic (k:=k) (vh:=vh) (vs:=vs) (vr:=vr) (vc:=vc) (vu:=vu) (gh:=gh) (gc:=gc) (vn:=vn) (vl:=vl) hS) λb hb=>?_;cases b with
 |false=>
  exact eK
 |true=>
 have hK:=hb.1 rfl;dsimp only[cond];refine gC (Wj (k:=k) (s:=s) (t:=t) (vh:=vh) (vs:=vs) (vr:=vr) (vc:=vc) (vu:=vu) (gh:=gh) (gc:=gc) (vn:=vn) (vl:=vl) (sc:=sc) (st:=st) hS hs ht) λy hy=>?_;obtain⟨c,e⟩:=y;obtain⟨he,hc⟩:=hy.ok hK;dsimp only at he hc;subst he;refine go ?_;cases c with
 |false=>
  have hno:¬eU k s t:=λh=>by have:=hc.2 h;cases this
  refine go ?_;exact gQ 230 ⟨λh=>absurd hK h,λ_ _=>rfl,λ_ h=>absurd h hno⟩
 |true=>
  refine go ?_;exact gQ 0 ⟨λh=>absurd hK h,λ_ h=>absurd (hc.1 rfl) h,λ_ _=>rfl⟩
end Go.Proofs.YtgimfpcgbmpkhaaGreat
namespace Go.Proofs.YtgimfpcgbmpkhaaGreat
open Tryz (prog)
open Go.Ideal Kd Canon
def adI{x:ae Clue}(h:x.Pairwise λa b=>dV a b<0):x.Nodup:=h.imp λ{a b} hab e=>by
 subst e;have:=(si (a:=a) (b:=a)).2 ⟨rfl,rfl⟩;omega
def Hr{k:aT}{s t:ae Int}{a b:ae Clue}(hK:bD k)(hk:eU k s t)(hQ:fE k a)(hb:jG (a.map (gK k s t)) b):b.Perm (a.map (gK k s t)):=by
 have hm:=Qb hK hk hQ hb;have hi:∀x∈a,∀y∈a,gK k s t x=gK k s t y->x=y:=λx hx y hy e=>by
  have:=congrArg (gK k (bX s) (bX t)) e
  rwa [Qe hK hk (hQ.right x hx),Qe hK hk (hQ.right y hy)]at this
 have hnd:(a.map (gK k s t)).Nodup:=by
  have h1:=adI (adi hQ);rw[List.nodup_iff_pairwise_ne]at *;rw[zi];exact h1.imp_of_mem λ{x y} hx hy hne e=>hne (hi x hx y hy e)
 exact(List.perm_ext_iff_of_nodup (adI hb.inc) hnd).2 hm
