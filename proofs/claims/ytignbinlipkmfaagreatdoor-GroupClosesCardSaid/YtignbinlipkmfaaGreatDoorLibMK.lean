/- Part. -/
import Derived.Test.YtignbinlipkmfaaGreatDoorIdealPK
import Derived.Test.YtignbinlipkmfaaGreatDoorLibHK
set_option linter.all false
set_option maxRecDepth 10000
set_option maxHeartbeats 4000000
namespace Go.Proofs.YtignbinlipkmfaaGreatDoor
open Tryz (prog)
open Go.Ideal Kd
variable{xs:ae Int}
def XZ{v:ah}(hl:xs.length<=1000000):cK prog (.func 173) [v] [] [] [aj ai v xs] (λa:ak Addr=>.slice a xs.length xs.length) (λa=>[ap ai (.slice a xs.length xs.length) xs]) (λ_=>[]) (λ_=>True):=by
 refine jH K5 Qb λB w0=>?_;refine J3 ai v (xs:=xs) λaN hxy=>?_;have hlen:aN.length=xs.length:=by rw[<- hxy,bZ]
 refine Vk (aN:=aN) (v:=v) (E:=ai) ?_;refine agO (v:=v) (aN:=aN) ai (λe c ev=>?_) (λe i o f c ev=>?_) (λhne i o f c ev=>?_)
 .subst e ev;have hx:xs=[]:=by rw[<- hxy];rfl
  subst hx;simp only[EC];refine go ?_;refine(fo rfl rfl (Gg (e:=3) tv rfl)).h ?_;refine go ?_;refine iy ai ?_;exact gQ none trivial
 .subst e ev;have hx:xs=[]:=by rw[<- hxy];rfl
  subst hx;simp only[EC];refine go ?_;refine(fo rfl rfl (Ae (e:=3) tv rfl)).h ?_;refine go ?_;intro b;refine go ?_;refine J5 (b:=b) ?_;refine go ?_;refine JB ai aD.here ?_;exact gQ (some ⟨b,0,some 0⟩) trivial
 .subst ev;refine go ?_;refine(fo rfl rfl (Ae (e:=3) tv rfl)).h ?_;refine go ?_;intro b;refine go ?_;refine J6 (b:=b) ai aN hne tr (λb'=>?_);refine go ?_;refine uR (b:=b') (m:=aN.length) (f:=ai.n) ai (aN:=aN) rfl (.inr rfl) ?_ (hk:=aD.here);refine VJ (aN:=aN) hne ?_ (λw h=>h _ tt);rw[hxy,hlen];exact gQ (some ⟨b',0,some ai.n⟩) trivial
def zg(xs zs:ae Int)(k:Nat):Prop:=zs.length=xs.length/\∀i,i<xs.length->zs[i]? =if i<k\/xs.length - 1 - i<k then xs[xs.length - 1 - i]? else xs[i]?
def zg.zero(xs:ae Int):zg xs xs 0:=⟨rfl,λi hi=>by rw[if_neg tr]⟩
variable{zs:ae Int}{k:Nat}
def zg.step{x y:Int}(h:zg xs zs k)(hk:k<xs.length - 1 - k)(hx:zs[k]? =some x)(hy:zs[xs.length - 1 - k]? =some y):zg xs ((zs.set k y).set (xs.length - 1 - k) x) (k+1):=by
 obtain⟨h1,h2⟩:=h;refine⟨by rw[ry,ry];exact h1,λi hi=>?_⟩;have hx':=h2 k tr;have hy':=h2 (xs.length - 1 - k) tr;rw[if_neg tr,hx]at hx';rw[if_neg tr,hy]at hy';rw[nI,ry,h1];by_cases e:xs.length - 1 - k=i
 .rw[if_pos e,if_pos tr,if_pos tr,show xs.length - 1 - i=k by omega,hx']
 .rw[if_neg e,nI,h1];by_cases e2:k=i
  .subst e2;rw[if_pos rfl,if_pos hi,if_pos tr,hy']
  .rw[if_neg e2,h2 i hi];by_cases c:i<k\/xs.length - 1 - i<k
   .rw[if_pos c,if_pos tr]
   .rw[if_neg c,if_neg tr]
def zg.done(h:zg xs zs k)(hk:¬k<xs.length - 1 - k)(hle:2*k<=xs.length+1):zs=xs.reverse:=by
 obtain⟨h1,h2⟩:=h;apply jW;intro i;by_cases hi:i<xs.length
 .rw[h2 i hi,List.getElem?_reverse hi];by_cases c:i<k\/xs.length - 1 - i<k
  .rw[if_pos c]
  .rw[if_neg c,show xs.length - 1 - i=i by omega]
 .rw[iq tr,iq (by rw[Ia];omega)]
variable{a:ak Addr}
def aj4{c:Nat}:fC prog 267 [.slice a 0 c] [] (λ_:Unit=>.tuple ⟨[]⟩) (λ_=>True):=by
 refine gB 267 λB w0=>?_;refine go ?_;refine qa ?_;exact fH
def aj5{b f:Nat}{pre:ae ah}(hl:xs.length<=1000000)(hf:f=0\/f=1):cK prog (.func 267) [.slice (some ⟨b,pre.length,some f⟩) xs.length xs.length] [] [pt b (.cells (pre++xs.map iV))] [] (λ_:Unit=>.tuple ⟨[]⟩) (λ_=>[pt b (.cells (pre++xs.reverse.map iV))]) (λ_=>[]) (λ_=>True):=by
 refine gB 267 λB w0=>?_;refine go ?_;refine dX (λy:Nat×ae Int=>xs.length - y.1) (λy=>[(3,iV ((xs.length:Int) - 1 - (y.1:Int))),(2,iV (y.1:Int))]) (λy=>[pt b (.cells (pre++y.2.map iV))]) (λ_=>[]) (λy=>zg xs y.2 y.1/\2*y.1<=xs.length+1) (0,xs) ⟨zg.zero xs,by show 2*0<=_;omega⟩ (hl:=CD) (hk:=tx) (body:=?_);rintro⟨k,zs⟩ ⟨hR,hle⟩;dsimp only at hR hle⊢;have hzl:=hR.1;refine aB ?_ ?_<;>intro h1
 .have hk1:k<xs.length - 1 - k:=by omega
  have hj:((xs.length:Int) - 1 - (k:Int))=((xs.length - 1 - k:Nat):Int):=tr
  rw[hj];generalize hjj:xs.length - 1 - k=j at hk1 hj⊢;have hx:zs[k]? =some zs[k]:=bX tr;have hy:zs[j]? =some zs[j]:=bX tr;generalize zs[k]=x at hx;generalize zs[j]=z at hy;have hst:=hR.step tr hx (by rw[hjj];exact hy);rw[hjj]at hst;refine go ?_;refine tH (b:=b) (o:=pre.length+j*1) (cs:=pre++zs.map iV) (iV z) (aj6 hy) ?_;refine go ?_;refine tH (b:=b) (o:=pre.length+k*1) (cs:=pre++zs.map iV) (iV x) (aj6 hx) ?_;refine go ?_;refine qJ (b:=b) (o:=pre.length+k*1) (cs:=pre++zs.map iV) (v:=iV z) (cs':=pre++(zs.set k z).map iV) aj7 (by rw[ik,bZ];omega) ?_;refine go ?_;refine qJ (b:=b) (o:=pre.length+j*1) (cs:=pre++(zs.set k z).map iV) (v:=iV x) (cs':=pre++((zs.set k z).set j x).map iV) aj7 (by rw[ik,bZ,ry];omega) ?_;refine go ?_;refine aQ (k+1,(zs.set k z).set j x) CC ⟨hst,by show 2*(k+1)<=_;omega⟩ (hl:=by dsimp only;rw[show(xs.length:Int) - 1 - ((k+1:Nat):Int)=(j:Int) - 1 by omega];repeat (first|exact trivial|refine⟨rfl,?_⟩))
 have hz:=hR.done tr hle;subst hz;exact fH
def aj8(hl:xs.length<=1000000):cK prog (.func 267) [.slice a xs.length xs.length] [] [ap ai (.slice a xs.length xs.length) xs] [] (λ_:Unit=>.tuple ⟨[]⟩) (λ_=>[ap ai (.slice a xs.length xs.length) xs.reverse]) (λ_=>[]) (λ_=>True):=by
 by_cases hne:0<xs.length
 .exact cK.ape (args:=λa=>[.slice a xs.length xs.length]) (zs:=λ_=>xs.reverse) hne (λ_=>List.length_reverse) λb f pre hf=>aj5 hl hf
 .obtain rfl:xs=[]:=jX.1 tr;intro B w s;obtain⟨S1,s1,back⟩:=s.JX (k1:=[]) (bD:=[ap ai (.slice a 0 0) []]) (F1:=[]) .nil .nil;refine .kv _ (aj4 (a:=a) (c:=0) S1 w s1) ?_;exact oA
def oK(p:ae Int->Bool)(L:ae (ae Int)):Int:=match L.findIdx? p with
 |some i=>(i:Int)
 |none=> -1
variable{p:ae Int->Bool}{L:ae (ae Int)}
def X0{x:ae Int}(h:(L.take k).any p=false)(hx:L[k]? =some x)(hp:p x=true):oK p L=(k:Int):=by
 have hk:=(bC.1 hx).1;have:L.findIdx? p=some k:=by
  rw[aaV];refine⟨hk,by rw[(bC.1 hx).2];exact hp,λj hj fZ=>?_⟩;have h1:=List.any_eq_false.1 h L[j] (aS (i:=j) (by rw[vF,if_pos hj];exact bX tr));exact h1 fZ
 unfold oK;rw[this]
def Qw(h:L.any p=false):oK p L= -1:=by
 have:L.findIdx? p=none:=by
  rw[aaW];intro x hx;have:=List.any_eq_false.1 h x hx;simpa using this
 unfold oK;rw[this]
def Qx(L:ae (ae Int))(w:ae Int):oK (λx=>decide (bR x=bR w)) L=qM L w:=rfl
def X3{fn:Fn}{first cap:ae ah}{F1:ae aP}{va:ah}{xs:ae (ae Int)}(hl:xs.length<2^63)(hp:∀x∈xs,Cj prog fn first cap F1 p x):
 fC prog 72 [va,.func fn ⟨first⟩ ⟨cap⟩] (aj (aA ai) va xs::F1) (λ_:Unit=>iV (oK p xs)) (λ_=>True):=by
 refine jH Qp XP λB w0=>?_;refine gF (aA ai) va xs λaa ca ea=>?_;subst ea;refine gN xs.length 8 (λk=>k<=xs.length/\(xs.take k).any p=false) ⟨tr,tt⟩ ?_;rintro k ⟨hk,hno⟩;refine aB ?_ ?_<;>intro h1
 .refine gX (aA ai) (xs:=xs) λ_ _ x (u:ah) hx=>?_;refine gC (hp x (aS hx) u) λ_ _=>?_;refine go ?_;refine jS rfl (λh2=>?_) (λh2=>?_)
  .refine aM ?_;rw[X0 hno hx h2];rfl
  .refine go ?_;refine aQ (k+1) tr ⟨tr,?_⟩;rw[cB hx,List.any_append,hno];simpa using h2
 have hke:k=xs.length:=tr
 subst hke;rw[bM]at hno;refine aM ?_;rw[Qw hno];rfl
end Go.Proofs.YtignbinlipkmfaaGreatDoor
namespace Go.Proofs.YtignbinlipkmfaaGreatDoor
open Tryz (prog)
open Go.Ideal Kd
def su(xs:ae Int):ae ah:=(List.range 256).map λj:Nat=>.bool (decide ((j:Int)∈xs))
def X4(xs:ae Int):(su xs).length=256:=by unfold su;rw[bZ,qm]
variable{j:Nat}{xs:ae Int}
def aj9(hj:j<256):(su xs)[0+j*1]? =some (.bool (decide ((j:Int)∈xs))):=by
 rw[fq,uu];unfold su;rw[dN,ru hj];rfl
def aka(hj:j<256):(su xs).set (0+j*1) (.bool true)=su (xs++[(j:Int)]):=by
 rw[fq,uu];apply jW;intro i;rw[nI,X4];unfold su;by_cases hi:i<256
 .exact me
 .exact lj
def akb:su []=List.replicate 256 (.bool false):=by
 unfold su;apply jW;intro i;rw[dN,HV];by_cases hi:i<256
 .rw[ru hi,if_pos hi];simp
 .rw[iq (by rw[qm];omega),if_neg hi];rfl
def akc{B:ae Nat}{w0:Wd}{kl:ae OA}{F:ae aP}{Q:IH->Prop}{A A':OA}(e:A=A')(h:R Q B w0 (A'::kl) F):R Q B w0 (A::kl) F:=by rw[e];exact h
variable{n:Nat}{v:ah}
def Lg(hn:n<=256)(hl:xs.length<2^63):fC prog 57 [v,iV (n:Int)] [aj ai v xs] (λb:Bool=>.bool b) (λb=>b=true↔bW n xs):=by
 refine gB 57 λB w0=>?_;refine gF ai v xs λav cv ev=>?_;subst ev;refine go ?_;intro b5;refine akc (A':=pt b5 (.cells (su []))) (by rw[akb]<;>rfl) ?_;refine go ?_;refine dX (λk=>xs.length - k) (λk:Nat=>[(10,iV (k:Int))]) (λk=>[pt b5 (.cells (su (xs.take k)))]) (λ_=>[]) (λk=>k<=xs.length/\(∀x∈xs.take k,0<=x/\x<(n:Int))/\(xs.take k).Nodup) 0 ⟨bP _,tt,tt⟩ (hk:=tx) (body:=?_);rintro k ⟨hk,hin,hnd⟩;refine aB ?_ ?_<;>intro h1
 .refine go ?_;intro _ _ x hx;have hxm:=aS hx;have htk:=cB hx;have hno:¬(0<=x/\x<(n:Int))->∀b:Bool,b=false->(b=true↔bW n xs):=λh b hb=>⟨(λe=>by rw[hb]at e;cases e),λq=>absurd (q.dQ x hxm) h⟩
  refine gH ?_ ?_<;>intro h2
  rotate_left
  .exact jn
  refine gH ?_ ?_<;>intro h3
  rotate_left
  .exact jn
  obtain⟨m,rfl⟩:=iO (by omega:0<=x);refine go ?_;refine tH (b:=b5) (o:=0+m*1) (cs:=su (xs.take k)) (.bool (decide ((m:Int)∈xs.take k))) (aj9 tr) ?_;refine aB ?_ ?_<;>intro h4
  .exact gO
  refine go ?_;refine qJ (b:=b5) (o:=0+m*1) (cs:=su (xs.take k)) (v:=.bool true) (cs':=su (xs.take (k+1))) (by rw[aka tr,htk]) (by rw[X4];omega) ?_;exact ew
 have hke:k=xs.length:=tr
 subst hke;rw[bM]at hin hnd;refine go ?_;refine gQ (decide ((xs.length:Int)=(n:Int))) ?_;rw[lu];exact⟨λe=>⟨tr,hin,hnd⟩,λq=>by have:=q.len;omega⟩
def Qy(hn:n<=256)(hl:xs.length<2^63):fC prog 45 [v,iV (n:Int)] [aj ai v xs] (λe:Int=>iV e) (λe=>e=0↔bW n xs):=by
 refine gB 45 λB w0=>?_;refine aB ?_ ?_<;>intro h1
 .exfalso;omega
 refine gC (Lg (xs:=xs) (n:=n) hn hl) λb hb=>?_;refine go ?_;cases b with
 |false=>
  refine go ?_;exact gQ 110 ⟨(λh=>by cases h),λh=>by have:=hb.2 h;cases this⟩
 |true=>
  refine go ?_;exact gQ 0 ⟨λ_=>hb.1 rfl,λ_=>rfl⟩
def qi(d:ae Int)(n:Nat):ae Int:=d++List.replicate (n - d.length) 0
variable{d:ae Int}
def Qz(h:d.length<=n):(qi d n).length=n:=by unfold qi;rw[ik,List.length_replicate];omega
def X5{k:Nat}{x:Int}(hk:k=d.length)(h:k<n):(qi d n).set k x=qi (d++[x]) n:=by
 subst hk;unfold qi;rw[RH _ _ (bQ _),xZ,show n - d.length=(n - (d.length+1))+1 by omega,Hz,List.set_cons_zero,ik,vI,gz];rfl
def X6(h:d.length=n):qi d n=d:=by unfold qi;rw[h,xZ];simp
def akd(n:Nat):qi [] n=List.replicate n 0:=by unfold qi;simp
def QA(n:Nat):zeros [iV 0] n=(qi [] n).map iV:=by
 rw[akd];induction n with
 |zero=>rfl
 |succ n ih=>rw[Hz,iQ,<- ih];rfl
variable{a b:ae Int}{va vb:ah}
def ake(ha:a.length=n)(hb:nU n b)(hl:b.length<=1000000):cK prog (.func 58) [va,vb] [] [] [aj ai va a,aj ai vb b] (λbm:Nat=>.slice (some ⟨bm,0,some 0⟩) b.length b.length) (λbm=>[pt bm (.cells ((eX a b).map iV))]) (λ_=>[]) (λ_=>True):=by
 refine gB 58 λB w0=>?_;refine gF ai va a λaa ca ea=>?_;subst ea;refine gF ai vb b λab cb eb=>?_;subst eb;refine go ?_;refine F6 b.length ⟨tr,tr,tr⟩ λbm=>?_;rw[QA];refine go ?_;refine dX (λk=>b.length - k) (λk:Nat=>[(13,iV (k:Int))]) (λk=>[pt bm (.cells ((qi (eX a (b.take k)) b.length).map iV))]) (λ_=>[]) (λk=>k<=b.length) 0 (bP _) (hk:=tx) (body:=?_);intro k hk;have hcl:(eX a (b.take k)).length=k:=by unfold eX;rw[bZ,iY];omega
 refine aB ?_ ?_<;>intro h1
 .refine go ?_;intro _ _ x hx;have mX:=hb x (aS hx);obtain⟨m,rfl⟩:=iO mX.1;refine go ?_;intro _ _ z hz;have hzg:=kX hz;have htk:eX a (b.take (k+1))=eX a (b.take k)++[z]:=by
   unfold eX;rw[cB hx,fG,sN,hzg]
  refine go ?_;refine qJ (b:=bm) (o:=0+k*1) (cs:=(qi (eX a (b.take k)) b.length).map iV) (v:=iV z) (cs':=(qi (eX a (b.take (k+1))) b.length).map iV) Dd (by rw[bZ,Qz tr];omega) ?_;refine go ?_;exact aQ (k+1) tr tr
 have hke:k=b.length:=tr
 subst hke;rw[bM]at hcl⊢;rw[X6 hcl];refine go ?_;exact gQ bm trivial
def akf{bm:Nat}:sZ (pt bm (.cells ((eX a b).map iV))) [aj ai (.slice (some ⟨bm,0,some 0⟩) b.length b.length) (eX a b)]:=by
 have hl:(eX a b).length=b.length:=by unfold eX;rw[bZ]
 have:=BB (b:=bm) (f:=0) (c:=b.length) (xs:=eX a b) (hc:=by rw[hl];exact bQ _);rw[hl]at this;exact this
def QB(a b:ae Int):Prop:=a.length<=256/\bW a.length a/\bW a.length b
def X7(ha:a.length<2^63)(hb:b.length<2^63):cK prog (.func 28) [va,vb] [] [] [aj ai va a,aj ai vb b] (λy:ah×Int=>.tuple ⟨[y.1,iV y.2]⟩) (λ_=>[])
 (λy=>[kZ (y.2=0) (aj ai y.1 (eX a b))]) (λy=>(y.2=0↔QB a b)/\(y.2≠0->y=(.slice none 0 0,110))):=by
 have hend:¬QB a b->((110:Int)=0↔QB a b)/\((110:Int)≠0->((Value.slice none 0 0,(110:Int)):ah×Int)=(.slice none 0 0,110)):=λh=>⟨⟨(λe=>by cases e),λe=>absurd e h⟩,λ_=>rfl⟩
 refine gB 28 λB w0=>?_;refine gF ai va a λaa ca ea=>?_;subst ea;refine gH ?_ ?_<;>intro h1
 rotate_left
 .refine go ?_;refine lc (c:=(110:Int)=0) (f:=aj ai (.slice none 0 0) (eX a b)) tt ?_;exact qT
 have hal:a.length<=256:=tr
 refine gC (Lg (xs:=a) (n:=a.length) hal ha) λc hc=>?_;refine go ?_;cases c with
 |false=>
  refine go ?_;refine lc (c:=(110:Int)=0) (f:=aj ai (.slice none 0 0) (eX a b)) tt ?_;exact gQ (.slice none 0 0,110) (hend λh=>by have:=hc.2 h.2.1;cases this)
 |true=>
 have hpa:=hc.1 rfl;refine gC (Lg (xs:=b) (n:=a.length) hal hb) λc2 hc2=>?_;refine go ?_;cases c2 with
 |false=>
  refine go ?_;refine lc (c:=(110:Int)=0) (f:=aj ai (.slice none 0 0) (eX a b)) tt ?_;exact gQ (.slice none 0 0,110) (hend λh=>by have:=hc2.2 h.2.2;cases this)
 |true=>
 have hpb:=hc2.1 rfl;refine gC (ake (a:=a) (b:=b) (n:=a.length) rfl hpb.dQ (by have:=hpb.len;omega)) λbm _=>?_;refine gZ (akf (bm:=bm) (a:=a) (b:=b)) ?_;refine go ?_;refine lK (c:=(0:Int)=0) (f:=aj ai (.slice (some ⟨bm,0,some 0⟩) b.length b.length) (eX a b)) tt ?_;exact gQ (.slice (some ⟨bm,0,some 0⟩) b.length b.length,0) ⟨⟨λ_=>⟨hal,hpa,hpb⟩,λ_=>rfl⟩,λh=>absurd rfl h⟩
def QC(p:ae Int):Prop:=p.length<=256/\bW p.length p
variable{p:ae Int}
def akh{zs:ae Int}(h:bW p.length p)(hl:zs.length=p.length)(hz:∀(i:Nat) x,p[i]? =some x->zs[x.toNat]? =some (i:Int)):zs=iH p:=by
 apply jW;intro j;by_cases hj:j<p.length
 .obtain⟨c,c0,c1,hc⟩:=h.onto (y:=(j:Int)) tr tr;have h1:=xK (p:=p) c0 tr;rw[hc]at h1;have h2:=hz _ _ h1;rw[fQ,CL c0]at h2;have h3:=xK (p:=iH p) (c:=(j:Int)) tr (by rw[D8];omega);rw[<- hc,h.wI c0 c1,hc,fQ]at h3;rw[h2,h3]
 .rw[iq tr,iq (by rw[D8];omega)]
def X8{vp:ah}(hp:p.length<2^63):cK prog (.func 29) [vp] [] [] [aj ai vp p] (λy:ah×Int=>.tuple ⟨[y.1,iV y.2]⟩) (λ_=>[])
 (λy=>[kZ (y.2=0) (aj ai y.1 (iH p))]) (λy=>(y.2=0↔QC p)/\(y.2≠0->y=(.slice none 0 0,110))):=by
 have hend:¬QC p->((110:Int)=0↔QC p)/\((110:Int)≠0->((Value.slice none 0 0,(110:Int)):ah×Int)=(.slice none 0 0,110)):=λh=>⟨⟨(λe=>by cases e),λe=>absurd e h⟩,λ_=>rfl⟩
 refine gB 29 λB w0=>?_;refine gF ai vp p λaa ca ea=>?_;subst ea;refine gH ?_ ?_<;>intro h1
 rotate_left
 .refine go ?_;refine lc (c:=(110:Int)=0) (f:=aj ai (.slice none 0 0) (iH p)) tt ?_;exact qT
 have hpl:p.length<=256:=tr
 refine gC (Lg (xs:=p) (n:=p.length) hpl hp) λc hc=>?_;refine go ?_;cases c with
 |false=>
  refine go ?_;refine lc (c:=(110:Int)=0) (f:=aj ai (.slice none 0 0) (iH p)) tt ?_;exact gQ (.slice none 0 0,110) (hend λh=>by have:=hc.2 h.2;cases this)
 |true=>
 have GZ:=hc.1 rfl;refine go ?_;refine F6 p.length ⟨tr,tr,tr⟩ λbm=>?_;rw[QA];refine go ?_;refine dX (λy:Nat×ae Int=>p.length - y.1) (λy=>[(21,iV (y.1:Int))]) (λy=>[pt bm (.cells (y.2.map iV))]) (λ_=>[]) (λy=>y.1<=p.length/\y.2.length=p.length/\∀(i:Nat) x,i<y.1->p[i]? =some x->y.2[x.toNat]? =some (i:Int)) (0,qi [] p.length) ⟨bP _,Qz (bP _),λi x hi=>absurd hi (x9 _)⟩ (hk:=tx) (body:=?_);rintro⟨k,zs⟩ ⟨hk,hzl,hz⟩;dsimp only at hk hzl hz⊢;refine aB ?_ ?_<;>intro h2
 .refine go ?_;intro _ _ x hx;have mX:=GZ.dQ x (aS hx);obtain⟨m,rfl⟩:=iO mX.1;refine go ?_;refine qJ (b:=bm) (o:=0+m*1) (cs:=zs.map iV) (v:=iV (k:Int)) (cs':=(zs.set m (k:Int)).map iV) (by rw[fq,uu,List.map_set]) (by rw[bZ];omega) ?_;refine go ?_;refine aQ (k+1,zs.set m (k:Int)) (by show p.length - (k+1)<p.length - k;omega) ⟨by dsimp only;omega,by rw[ry];exact hzl,λi z hi hpi=>?_⟩;dsimp only at hi⊢;by_cases e:i=k
  .subst e;rw[hx]at hpi;cases hpi;rw[fQ,nI,if_pos rfl,if_pos tr]
  .have:=hz i z tr hpi;rw[nI,if_neg (λq=>e ?_)]
   .exact this
   .have hzr:=GZ.dQ z (aS hpi);have M6:z=(m:Int):=by omega
    subst M6;exact BX GZ.nd hpi hx
 have hke:k=p.length:=tr
 subst hke;have hfin:zs=iH p:=akh GZ hzl λi x hx=>hz i x (bC.1 hx).1 hx;subst hfin;refine tu (A:=pt bm (.cells ((iH p).map iV))) (fs:=[aj ai (.slice (some ⟨bm,0,some 0⟩) p.length p.length) (iH p)]) (by have:=BB (b:=bm) (f:=0) (c:=p.length) (xs:=iH p) (hc:=by rw[D8];exact bQ _);rw[D8]at this;exact this) (h:=?_);refine go ?_;refine lK (c:=(0:Int)=0) (f:=aj ai (.slice (some ⟨bm,0,some 0⟩) p.length p.length) (iH p)) tt ?_;exact gQ (.slice (some ⟨bm,0,some 0⟩) p.length p.length,0) ⟨⟨λ_=>⟨hpl,GZ⟩,λ_=>rfl⟩,λh=>absurd rfl h⟩
end Go.Proofs.YtignbinlipkmfaaGreatDoor
namespace Go.Proofs.YtignbinlipkmfaaGreatDoor
open Tryz (prog)
open Go.Ideal Kd Canon Gph
def kR(k:bN)(s t:ae Int)(r:bE):Bool:=
 if r.kind=1\/r.kind=2 then jl (k.lists.getD r.family.toNat []) s r.family jw
 else if r.kind=3 then jl (k.lists.getD r.family.toNat []) s r.family jw&&kY (kQ k) t
 else if r.kind=4 then jl (k.lists.getD r.family.toNat []) s r.family rX&&kY (kQ k) t
 else if r.kind=5 then jl (k.lists.getD r.family.toNat []) s r.family qN
 else if r.kind=7 then j5 k.aK s&&kY (kQ k) t
 else if r.kind=6\/r.kind=8\/r.kind=9\/r.kind=10 then j5 k.aK s
 else true
def keepR(k:bN)(s t:ae Int)(r:bE):Bool:=l6 r.set.toNat r.other.toNat t&&kR k s t r
structure oL(k:bN)(s t:List Int):Prop where
 pc:bW k.grid.cells.length s
 ps:bW k.decl.symbols.length t
 oH:∀r∈k.decl.rules,keepR k s t r=true
variable{k:bN}
def eY.X9(h:eY k){f:Nat}{L:ae (ae Int)}(hL:k.lists[f]? =some L):qd k.grid.cells.length L (f:Int):=by
 rw[h.lists]at hL;rw[h.grid];exact ahY h.cO (λr hr=>⟨(h.typ.Av r hr).1.2,(h.typ.Av r hr).2⟩) hL
def eY.Lh(h:eY k):tO k.grid.cells.length k.aK:=by
 rw[h.aK,h.grid];exact⟨wE _,λl hl=>(Gv l hl).2⟩
def eY.kinds(h:eY k){r:bE}(hr:r∈k.decl.rules):1<=r.kind/\r.kind<=11:=by
 refine XW ?_;have:=h.typ.read;exact gg
def Ya(c:jo):ae Int->ae Int->Bool:=if c.type=3 then qN else jw
def oL.rule{s t:ae Int}(h:oL k s t){r:bE}(hr:r∈k.decl.rules):l6 r.set.toNat r.other.toNat t=true/\
 ((r.kind=1\/r.kind=2\/r.kind=3)->jl (k.lists.getD r.family.toNat []) s r.family jw=true)/\((r.kind=3\/r.kind=4\/r.kind=7)->kY (kQ k) t=true)/\
 (r.kind=4->jl (k.lists.getD r.family.toNat []) s r.family rX=true)/\(r.kind=5->jl (k.lists.getD r.family.toNat []) s r.family qN=true)/\((6<=r.kind/\r.kind<=10)->j5 k.aK s=true):=by
 have h1:=h.oH r hr;unfold keepR kR at h1;rw[dI]at h1;refine⟨h1.1,?_⟩;have h2:=h1.2;refine⟨λe=>?_,λe=>?_,λe=>?_,λe=>?_,λe=>?_⟩
 .rcases e with e|e|e
  .rw[if_pos (.inl e)]at h2;exact h2
  .rw[if_pos (.inr e)]at h2;exact h2
  .rw[if_neg tr,if_pos e,dI]at h2;exact h2.1
 .rcases e with e|e|e
  .rw[if_neg tr,if_pos e,dI]at h2;exact h2.2
  .rw[if_neg tr,if_neg tr,if_pos e,dI]at h2;exact h2.2
  .rw[if_neg tr,if_neg tr,if_neg tr,if_neg tr,if_pos e,dI]at h2;exact h2.2
 .rw[if_neg tr,if_neg tr,if_pos e,dI]at h2;exact h2.1
 .rw[if_neg tr,if_neg tr,if_neg tr,if_pos e]at h2;exact h2
 .rw[if_neg tr,if_neg tr,if_neg tr,if_neg tr]at h2;by_cases e7:r.kind=7
  .rw[if_pos e7,dI]at h2;exact h2.1
  .rw[if_neg e7,if_pos tr]at h2;exact h2
def aki(s l l':ae Int):Bool:=!decide (img s l=l')&&decide ((img s l).reverse=l')
def Yb(c:jo)(s t l l' v:ae Int):ae Int:=if c.type=1 then img t v else if c.type=3/\aki s l l'=true then v.reverse else v
def Yc(k:bN)(s t:ae Int)(g:Clue):Clue:=
 match k.decl.aR[g.aX.toNat]? with
 |none=>g
 |some c=>⟨g.aX,jv (k.lists.getD c.family.toNat []) s c.family g.at_,Yb c s t ((k.lists.getD c.family.toNat []).getD g.at_.toNat []) ((k.lists.getD c.family.toNat []).getD (jv (k.lists.getD c.family.toNat []) s c.family g.at_).toNat []) g.values⟩
structure Yd(k:bN)(s t:List Int)(g:Clue)(c:jo)(L:List (List Int))(j i:Nat)(l l':List Int):Prop where
 aX:0<=g.aX
 hc:k.decl.aR[g.aX.toNat]? =some c
 hL:k.lists[c.family.toNat]? =some L
 jq:qd k.grid.cells.length L c.family
 at_:g.at_=(j:Int)
 hl:L[j]? =some l
 hl':L[i]? =some l'
 goes:Goes L s c.family (Ya c) j i
 perm:l'.Perm (img s l)
 eq:Ya c l' (img s l)=true
 img:Yc k s t g=⟨g.aX,(i:Int),Yb c s t l l' g.values⟩
 cells:oO k g=l
 cells':oO k (Yc k s t g)=l'
end Go.Proofs.YtignbinlipkmfaaGreatDoor
namespace Go.Proofs.YtignbinlipkmfaaGreatDoor
open Tryz (prog)
open Go.Ideal Kd Canon Gph
structure nE(n m:Nat)(s t grid y:List Int):Prop where
 ps:bW n s
 pt:bW m t
 len:grid.length=n
 QD:y.length=n
 xL:∀x∈grid,0<=x/\x<(m:Int)
 at_:∀c,0<=c->c<(n:Int)->aT y (aT s c)=aT t (aT grid c)
section
variable {n m:Nat} {s t grid y:ae Int}
def nE.dQ(h:nE n m s t grid y){c:Int}(c0:0<=c)(c1:c<(n:Int)):0<=aT grid c/\aT grid c<(m:Int):=h.xL _ (PO c0 (by rw[h.len];exact c1))
def nE.mem(h:nE n m s t grid y){d:Int}(hd:d∈y):0<=d/\d<(m:Int):=by
 obtain⟨i,hi⟩:=jM hd;have hl:=(bC.1 hi).1;obtain⟨c,c0,c1,hc⟩:=h.ps.onto (y:=(i:Int)) tr (by have:=h.QD;omega);have h1:=h.at_ c c0 c1;rw[hc,kX hi]at h1;rw[h1];have:=h.dQ c0 c1;exact h.pt.at_ this.1 this.2
def QE(grid:ae Int)(c:Int):sy grid c=(aT grid c).toNat:=rfl
def nE.sy(h:nE n m s t grid y){c:Int}(c0:0<=c)(c1:c<(n:Int)):sy y (aT s c)=(aT t (aT grid c)).toNat:=by rw[QE,h.at_ c c0 c1]
def akj{α:Type}{f g:Int->α}:∀{l:ae Int},nU n l->(∀c,0<=c->c<(n:Int)->f (aT s c)=g c)->(img s l).map f=l.map g:=by
 intro l hl h;unfold img;rw[uy];exact wY λc hc=>h c (hl c hc).1 (hl c hc).2
def pq(m:Nat)(t:ae Int)(set:Nat):Prop:=∀v:Int,0<=v->v<(m:Int)->set.testBit (aT t v).toNat=set.testBit v.toNat
def Li{set other:Nat}(ht:bW m t)(h:l6 set other t=true):pq m t set/\pq m t other:=by
 unfold l6 at h;rw[mJ]at h;constructor;all_goals (
  intro v v0 v1;have h1:=h v.toNat _ (xK v0 (by rw[ht.len];exact v1));dsimp only at h1;rw[dI,lu,lu]at h1)
 .exact h1.1.symm
 .exact h1.2.symm
def u7(m:Nat)(t vals:ae Int):Prop:=∀v:Int,0<=v->v<(m:Int)->aT vals (aT t v)=aT vals v
def Lj{vals:ae Int}(ht:bW m t)(h:kY vals t=true):u7 m t vals:=by
 unfold kY at h;rw[mJ]at h;intro v v0 v1;have h1:=gT (h v.toNat _ (xK v0 (by rw[ht.len];exact v1)));dsimp only at h1;rw[CL v0]at h1;exact h1.symm
def nE.bit(h:nE n m s t grid y){set:Nat}(hS:pq m t set){c:Int}(c0:0<=c)(c1:c<(n:Int)):set.testBit (Go.Proofs.YtignbinlipkmfaaGreatDoor.sy y (aT s c))=set.testBit (Go.Proofs.YtignbinlipkmfaaGreatDoor.sy grid c):=by
 have r:=h.dQ c0 c1;rw[h.sy c0 c1,hS _ r.1 r.2,QE]
def nE.cnt(h:nE n m s t grid y){set:Nat}(hS:pq m t set){l l':ae Int}(hl:nU n l)(hp:l'.Perm (img s l)):Go.Proofs.YtignbinlipkmfaaGreatDoor.cnt y set l'=Go.Proofs.YtignbinlipkmfaaGreatDoor.cnt grid set l:=by
 unfold Go.Proofs.YtignbinlipkmfaaGreatDoor.cnt;rw[(hp.filter _).length_eq];exact PT hl λc c0 c1=>h.bit hS c0 c1
def nE.va(h:nE n m s t grid y){vals:ae Int}(hV:u7 m t vals){c:Int}(c0:0<=c)(c1:c<(n:Int)):va vals y (aT s c)=va vals grid c:=by
 have r:=h.dQ c0 c1;have:=hV _ r.1 r.2;unfold Go.Proofs.YtignbinlipkmfaaGreatDoor.va;rw[h.sy c0 c1,QE];exact this
def Ll(grid:ae Int)(set:Nat):∀(l:ae Int) (k:Nat),rn grid set k l=y7 k (l.map λc=>set.testBit (sy grid c))
 |[],k=>rfl
 |c::l,k=>by
  rw[rn,iQ];cases hb:set.testBit (sy grid c)with
  |true=>rw[if_pos rfl,ahP,Ll grid set l (k+1)]
  |false=>rw[if_neg tt,ahQ,Ll grid set l 0]
def nE.rn(h:nE n m s t grid y){set:Nat}(hS:pq m t set){l:ae Int}(hl:nU n l):rn y set 0 (img s l)=rn grid set 0 l:=by
 rw[Ll,Ll,akj (g:=λc=>set.testBit (Go.Proofs.YtignbinlipkmfaaGreatDoor.sy grid c)) hl (λc c0 c1=>h.bit hS c0 c1)]
end
structure zh(eq:List Int->List Int->Bool):Prop where
 symm:∀a b,eq a b=true->eq b a=true
 trans:∀a b c,eq a b=true->eq b c=true->eq a c=true
 img:∀s a b,eq a b=true->eq (img s a) (img s b)=true
def Lm:zh jw:=by
 refine⟨λa b h=>?_,λa b c h1 h2=>?_,λs a b h=>?_⟩
 .rw[Ao]at h⊢;exact h.symm
 .rw[Ao]at h1 h2⊢;exact h1.trans h2
 .rw[Ao]at h⊢;exact KS s h
def Ye:zh rX:=by
 refine⟨λa b h=>?_,λa b c h1 h2=>?_,λs a b h=>?_⟩
 .unfold rX at h⊢;rw[lu]at h⊢;exact h.symm
 .unfold rX at h1 h2⊢;rw[lu]at h1 h2⊢;exact h1.trans h2
 .unfold rX at h⊢;rw[lu]at h⊢;rw[h]
def Yf:zh qN:=by
 refine⟨λa b h=>?_,λa b c h1 h2=>?_,λs a b h=>?_⟩
 .rw[GG]at h⊢;rcases h with rfl|rfl
  .exact .inl rfl
  .exact .inr (by rw[List.reverse_reverse])
 .rw[GG]at h1 h2⊢;rcases h1 with rfl|rfl
  .exact h2
  .rcases h2 with rfl|rfl
   .exact .inr rfl
   .exact .inl (by rw[List.reverse_reverse])
 .rw[GG]at h⊢;rcases h with rfl|rfl
  .exact .inl rfl
  .exact .inr (ahM s b)
section
variable {n m:Nat} {s t s2 t2:ae Int} {L:ae (ae Int)} {f:Int} {eq:ae Int->ae Int->Bool}
def akk(hR:zh eq)(hK:qd n L f)(hs:bW n s){j i:Nat}(h:Goes L s f eq j i):Goes L (iH s) f eq i j:=by
 obtain⟨l,l',h1,h2,h3,h4,h5⟩:=h;have hl:=hK.dQ l (aS h1);refine⟨l',l,h2,h1,?_,?_,λhb=>?_⟩
 .have:=KS (iH s) h3;rw[KQ hs hl]at this;exact this.symm
 .have:=hR.img (iH s) _ _ h4;rw[KQ hs hl]at this;exact hR.symm _ _ this
 .have hn:=hK.len hb;have:=(bC.1 h1).1;rw[h5 hb,hs.wI tr tr]
def akl(hR:zh eq)(hK:qd n L f)(hs:bW n s)(h:jl L s f eq=true):jl L (iH s) f eq=true:=by
 have h:=(D9 hK hs).1 h;refine(D9 hK hs.inv).2 λi hi=>?_;obtain⟨j,hj⟩:=ahO hK hs h hi;exact⟨j,akk hR hK hs hj⟩
def akm(hR:zh eq)(hK:qd n L f)(hs:bW n s)(hs2:bW n s2){j i i2:Nat}(h:Goes L s f eq j i)(h2:Goes L s2 f eq i i2):Goes L (eX s2 s) f eq j i2:=by
 obtain⟨l,l',a1,a2,a3,a4,a5⟩:=h;obtain⟨l0,l2,b1,b2,b3,b4,b5⟩:=h2;rw[a2]at b1;cases b1;have hl:=hK.dQ l (aS a1);have hc:img (eX s2 s) l=img s2 (img s l):=WM (by rw[hs.len];exact hl);refine⟨l,l2,a1,b2,?_,?_,λhb=>?_⟩
 .rw[hc];exact b3.trans (KS s2 a3)
 .rw[hc];exact hR.trans _ _ _ b4 (hR.img s2 _ _ a4)
 .have hn:=hK.len hb;have:=(bC.1 a1).1;rw[b5 hb,a5 hb,y5 tr (by rw[hs.len];omega)]
def akn(hR:zh eq)(hK:qd n L f)(hs:bW n s)(hs2:bW n s2)(h:jl L s f eq=true)(h2:jl L s2 f eq=true):jl L (eX s2 s) f eq=true:=by
 have h:=(D9 hK hs).1 h;have h2:=(D9 hK hs2).1 h2;refine(D9 hK (hs2.comp hs)).2 λj hj=>?_;obtain⟨i,hi⟩:=h j hj;obtain⟨i2,hi2⟩:=h2 i hi.lt.2;exact⟨i2,akm hR hK hs hs2 hi hi2⟩
variable{set:Nat}
def QF{other:Nat}(ht:bW m t)(h1:pq m t set)(h2:pq m t other):l6 set other t=true:=by
 unfold l6;rw[mJ];intro i x hx;have hl:=(bC.1 hx).1;have hlen:=ht.len;have e:=kX hx;have a:=h1 (i:Int) tr tr;have b:=h2 (i:Int) tr tr;rw[e,fQ]at a b;dsimp only;rw[dI,lu,lu];exact⟨a.symm,b.symm⟩
variable{vals:ae Int}
def QG(ht:bW m t)(h:u7 m t vals):kY vals t=true:=by
 unfold kY;rw[mJ];intro i x hx;have hl:=(bC.1 hx).1;have hlen:=ht.len;have a:=h (i:Int) tr tr;rw[kX hx]at a;exact eB a.symm
def pq.inv(ht:bW m t)(h:pq m t set):pq m (iH t) set:=by
 exact nq
def u7.inv(ht:bW m t)(h:u7 m t vals):u7 m (iH t) vals:=by
 exact nq
def pq.comp(ht:bW m t)(h:pq m t set)(h2:pq m t2 set):pq m (eX t2 t) set:=by
 exact n5
def u7.comp(ht:bW m t)(h:u7 m t vals)(h2:u7 m t2 vals):u7 m (eX t2 t) vals:=by
 exact n5
variable{aK:ae (ae Int)}
def ako(hN:tO n aK)(hs:bW n s)(h:j5 aK s=true):j5 aK (iH s)=true:=by
 have h:=(Ea hN hs).1 h;refine(Ea hN hs.inv).2 λa b hab=>?_;obtain⟨c,d,hcd,rfl,rfl⟩:=WQ hN hs h hab;have hr:=hcd.dQ hN;rw[hs.wI hr.1.1 hr.1.2,hs.wI hr.2.1 hr.2.2];exact hcd
def akp(hN:tO n aK)(hs:bW n s)(hs2:bW n s2)(h:j5 aK s=true)(h2:j5 aK s2=true):j5 aK (eX s2 s)=true:=by
 have h:=(Ea hN hs).1 h;have h2:=(Ea hN hs2).1 h2;refine(Ea hN (hs2.comp hs)).2 λa b hab=>?_;have hr:=hab.dQ hN;have hl:=hs.len;rw[y5 hr.1.1 tr,y5 hr.2.1 tr];exact h2 _ _ (h _ _ hab)
end
variable{k:bN}{s t:ae Int}
def akq{s' t':ae Int}{r:bE}(hS:l6 r.set.toNat r.other.toNat t=true->l6 r.set.toNat r.other.toNat t'=true)
 (hL:∀eq,zh eq->jl (k.lists.getD r.family.toNat []) s r.family eq=true->jl (k.lists.getD r.family.toNat []) s' r.family eq=true)
 (hV:kY (kQ k) t=true->kY (kQ k) t'=true) (hN:j5 k.aK s=true->j5 k.aK s'=true) (h:keepR k s t r=true):keepR k s' t' r=true:=by
 unfold keepR kR at h⊢;rw[dI]at h⊢;refine⟨hS h.1,?_⟩;have h2:=h.2;split at h2
 .rename_i e;rw[if_pos e];exact hL _ Lm h2
 rename_i e;rw[if_neg e];split at h2
 .rename_i e;rw[if_pos e];rw[dI]at h2⊢;exact⟨hL _ Lm h2.1,hV h2.2⟩
 rename_i e;rw[if_neg e];split at h2
 .rename_i e;rw[if_pos e];rw[dI]at h2⊢;exact⟨hL _ Ye h2.1,hV h2.2⟩
 rename_i e;rw[if_neg e];split at h2
 .rename_i e;rw[if_pos e];exact hL _ Yf h2
 rename_i e;rw[if_neg e];split at h2
 .rename_i e;rw[if_pos e];rw[dI]at h2⊢;exact⟨hN h2.1,hV h2.2⟩
 rename_i e;rw[if_neg e];split at h2
 .rename_i e;rw[if_pos e];exact hN h2
 rename_i e;rw[if_neg e]
def eY.QH(hK:eY k){r:bE}(hr:r∈k.decl.rules):qd k.grid.cells.length (k.lists.getD r.family.toNat []) r.family:=by
 have hin:=(hK.inr hr).jq;have hL:k.lists[r.family.toNat]? =some (k.lists[r.family.toNat]'(tr)):=bX _;have qC:=hK.X9 hL;rw[CL hin.1]at qC;rw[iC hL];exact qC
def oL.inv(hK:eY k)(h:oL k s t):oL k (iH s) (iH t):=by
 refine⟨h.pc.inv,h.ps.inv,λr hr=>?_⟩;refine akq (λa=>?_) (λeq hR a=>akl hR (hK.QH hr) h.pc a) (λa=>QG h.ps.inv (u7.inv h.ps (Lj h.ps a))) (λa=>ako hK.Lh h.pc a) (h.oH r hr);obtain⟨b,c⟩:=Li h.ps a;exact QF h.ps.inv (pq.inv h.ps b) (pq.inv h.ps c)
def oL.comp{s2 t2:ae Int}(hK:eY k)(h:oL k s t)(h2:oL k s2 t2):oL k (eX s2 s) (eX t2 t):=by
 refine⟨h2.pc.comp h.pc,h2.ps.comp h.ps,λr hr=>?_⟩;have g2:=h2.oH r hr;have k2:=h2.rule hr;unfold keepR kR at g2⊢;have g1:=h.oH r hr;unfold keepR kR at g1;rw[dI]at g1 g2⊢;have qC:=hK.QH hr;have L1:∀eq,zh eq->jl (k.lists.getD r.family.toNat []) s r.family eq=true->jl (k.lists.getD r.family.toNat []) s2 r.family eq=true->jl (k.lists.getD r.family.toNat []) (eX s2 s) r.family eq=true:=λeq hR a b=>akn hR qC h.pc h2.pc a b;have V1:kY (kQ k) t=true->kY (kQ k) t2=true->kY (kQ k) (eX t2 t)=true:=λa b=>QG (h2.ps.comp h.ps) (u7.comp h.ps (Lj h.ps a) (Lj h2.ps b));have N1:j5 k.aK s=true->j5 k.aK s2=true->j5 k.aK (eX s2 s)=true:=λa b=>akp hK.Lh h.pc h2.pc a b;obtain⟨b,c⟩:=Li h.ps g1.1;obtain⟨b2,c2⟩:=Li h2.ps g2.1;refine⟨QF (h2.ps.comp h.ps) (pq.comp h.ps b b2) (pq.comp h.ps c c2),?_⟩;have g1:=g1.2;have g2:=g2.2;split at g1
 .rename_i e;rw[if_pos e]at g2⊢;exact L1 _ Lm g1 g2
 rename_i e;rw[if_neg e]at g2⊢;split at g1
 .rename_i e;rw[if_pos e]at g2⊢;rw[dI]at g1 g2⊢;exact⟨L1 _ Lm g1.1 g2.1,V1 g1.2 g2.2⟩
 rename_i e;rw[if_neg e]at g2⊢;split at g1
 .rename_i e;rw[if_pos e]at g2⊢;rw[dI]at g1 g2⊢;exact⟨L1 _ Ye g1.1 g2.1,V1 g1.2 g2.2⟩
 rename_i e;rw[if_neg e]at g2⊢;split at g1
 .rename_i e;rw[if_pos e]at g2⊢;exact L1 _ Yf g1 g2
 rename_i e;rw[if_neg e]at g2⊢;split at g1
 .rename_i e;rw[if_pos e]at g2⊢;rw[dI]at g1 g2⊢;exact⟨N1 g1.1 g2.1,V1 g1.2 g2.2⟩
 rename_i e;rw[if_neg e]at g2⊢;split at g1
 .rename_i e;rw[if_pos e]at g2⊢;exact N1 g1 g2
 rename_i e;rw[if_neg e]
def Yd.vals{g:Clue}{c:jo}{L:ae (ae Int)}{j i:Nat}{l l':ae Int}(G:Yd k s t g c L j i l l')(hR:Gt k g):c.type=1->∀x∈g.values,0<=x/\x<(k.decl.symbols.length:Int):=by
 intro h1 x hx;obtain⟨c',L',a1,a2,a3,a4,a5,a6⟩:=hR;rw[G.hc]at a2;cases a2;rcases a6 with⟨_,_,b⟩|⟨b,_⟩|⟨b,_⟩
 .have:=b x hx;omega
 .omega
 .omega
section
variable {n m:Nat} {s t s2 t2 grid y z:ae Int}
def nE.back(h:nE n m s t grid y):nE n m (iH s) (iH t) y grid:=by
 refine⟨h.ps.inv,h.pt.inv,h.QD,h.len,λx hx=>h.mem hx,λd d0 d1=>?_⟩;obtain⟨c,c0,c1,rfl⟩:=h.ps.onto d0 d1;have r:=h.dQ c0 c1;rw[h.ps.wI c0 c1,h.at_ c c0 c1,h.pt.wI r.1 r.2]
def nE.comp(h:nE n m s t grid y)(h2:nE n m s2 t2 y z):nE n m (eX s2 s) (eX t2 t) grid z:=by
 refine⟨h2.ps.comp h.ps,h2.pt.comp h.pt,h.len,h2.QD,h.xL,λc c0 c1=>?_⟩;have r:=h.ps.at_ c0 c1;have g:=h.dQ c0 c1;rw[y5 c0 (by rw[h.ps.len];exact c1),h2.at_ _ r.1 r.2,h.at_ c c0 c1,y5 g.1 (by rw[h.pt.len];exact g.2)]
end
end Go.Proofs.YtignbinlipkmfaaGreatDoor
namespace Go.Proofs.YtignbinlipkmfaaGreatDoor
open Tryz (prog)
open Go.Ideal Kd Canon Gph
def sw(k:bN)(a b:Int):Prop:=∀r∈k.decl.rules,r.set.toNat.testBit a.toNat=r.set.toNat.testBit b.toNat/\r.other.toNat.testBit a.toNat=r.other.toNat.testBit b.toNat/\((r.kind=3\/r.kind=4\/r.kind=7)->aT (kQ k) a=aT (kQ k) b)
def sw.refl(k:bN)(a:Int):sw k a a:=λ_ _=>⟨rfl,rfl,λ_=>rfl⟩
variable{k:bN}{a b:Int}
def sw.symm(h:sw k a b):sw k b a:=λr hr=>⟨(h r hr).1.symm,(h r hr).2.1.symm,λe=>((h r hr).2.2 e).symm⟩
def sw.trans{c:Int}(h:sw k a b)(h2:sw k b c):sw k a c:=λr hr=>⟨(h r hr).1.trans (h2 r hr).1,(h r hr).2.1.trans (h2 r hr).2.1,λe=>((h r hr).2.2 e).trans ((h2 r hr).2.2 e)⟩
variable{n:Nat}
def Yg{l:ae Int}(h:nU n l):img (upTo' n) l=l:=by
 unfold img;conv=>rhs;rw[<- List.map_id l]
 exact wY λc hc=>BZ (h c hc).1 (h c hc).2
def Lp{L:ae (ae Int)}{f:Int}{eq:ae Int->ae Int->Bool}(hr:∀l,eq l l=true)(hK:qd n L f):jl L (upTo' n) f eq=true:=by
 refine(D9 hK (bW.ident n)).2 λj hj=>⟨j,L[j],L[j],bX hj,bX hj,?_,?_,λhb=>?_⟩
 .rw[Yg (hK.dQ _ (wU hj))]
 .rw[Yg (hK.dQ _ (wU hj))];exact hr _
 .have:=hK.len hb;rw[BZ tr tr]
def akr{aK:ae (ae Int)}(hN:tO n aK):j5 aK (upTo' n)=true:=by
 refine(Ea hN (bW.ident n)).2 λa b hab=>?_;have hr:=hab.dQ hN;rw[BZ hr.1.1 hr.1.2,BZ hr.2.1 hr.2.2];exact hab
def Yh(l:ae Int):jw l l=true:=Ao.2 (List.Perm.refl _)
def aks(l:ae Int):rX l l=true:=eB rfl
def akt(l:ae Int):qN l l=true:=GG.2 (.inl rfl)
def aku(hK:eY k){t:ae Int}:oL k (upTo' k.grid.cells.length) t↔bW k.decl.symbols.length t/\∀v:Int,0<=v->v<(k.decl.symbols.length:Int)->sw k v (aT t v):=by
 constructor
 .intro h;refine⟨h.ps,λv v0 v1 r hr=>?_⟩;obtain⟨k0,_,k3,_⟩:=h.rule hr;obtain⟨s1,s2⟩:=Li h.ps k0;exact⟨(s1 v v0 v1).symm,(s2 v v0 v1).symm,λe=>(Lj h.ps (k3 e) v v0 v1).symm⟩
 .rintro⟨ht,h⟩;refine⟨bW.ident _,ht,λr hr=>?_⟩;have qC:=hK.QH hr;have hset:l6 r.set.toNat r.other.toNat t=true:=QF ht (λv v0 v1=>(h v v0 v1 r hr).1.symm) (λv v0 v1=>(h v v0 v1 r hr).2.1.symm);have hval:(r.kind=3\/r.kind=4\/r.kind=7)->kY (kQ k) t=true:=λe=>QG ht λv v0 v1=>((h v v0 v1 r hr).2.2 e).symm;have hn:=akr hK.Lh;unfold keepR kR;rw[hset,Mk];split
  .exact Lp Yh qC
  split
  .rename_i e;rw[Lp Yh qC,hval (.inl e)];rfl
  split
  .rename_i e;rw[Lp aks qC,hval (.inr (.inl e))];rfl
  split
  .exact Lp akt qC
  split
  .rename_i e;rw[hn,hval (.inr (.inr e))];rfl
  split
  .exact hn
  .rfl
structure Lr(k:bN)(cl:List Int):Prop where
 len:cl.length=k.decl.symbols.length
 at_:∀j:Nat,j<k.decl.symbols.length->∃i:Nat,aT cl (j:Int)=(i:Int)/\i<=j/\sw k (i:Int) (j:Int)/\∀u:Nat,u<i->¬sw k (u:Int) (j:Int)
variable{cl:ae Int}
def Lr.same(h:Lr k cl){a b:Nat}(ha:a<k.decl.symbols.length)(hb:b<k.decl.symbols.length):aT cl (a:Int)=aT cl (b:Int)↔sw k (a:Int) (b:Int):=by
 obtain⟨i,h1,h2,h3,h4⟩:=h.at_ a ha;obtain⟨j,k1,k2,k3,k4⟩:=h.at_ b hb;rw[h1,k1];constructor
 .intro e;have:i=j:=by omega
  subst this;exact h3.symm.trans k3
 .intro e;rcases RP i j with hl|hl|hl
  .exact absurd (h3.trans e) (k4 i hl)
  .rw[hl]
  .exact absurd (k3.trans e.symm) (h4 j hl)
def Lr.ok(h:Lr k cl):ahZ k.decl.symbols.length cl:=by
 refine⟨h.len,λa ha=>?_⟩;obtain⟨i,h1,h2,h3,h4⟩:=h.at_ a ha;refine⟨tr,tr,?_⟩;have e:=(h.same (by omega:i<k.decl.symbols.length) ha).2 h3;rw[h1]at e⊢;exact e
end Go.Proofs.YtignbinlipkmfaaGreatDoor
namespace Go.Proofs.YtignbinlipkmfaaGreatDoor
open Tryz (prog)
open Go.Ideal Kd Canon
section
variable {P:Program} {B:ae Nat} {w0:Wd} {kl kl':ae OA} {F:ae aP} {K:KO} {ds:ae Tmp} {rest:ae bY} {n:Nat} {l:qr} {D:ae Deferred} {pm:ak FrameMode} {ro:ak Nat} {d:Nat} {g:ak (Tmp×Bool)}
def Co{x:ay}{b:Nat}{cs:ae ah}{v:ah}(j:Nat)
 (next:R (λh=>aJ P ds rest (act n ((d,v)::l) D pm ro) h K) B w0 kl F)
 (hx:ev l x=.pointer (some ⟨b,0+j,none⟩):=by rfl) (hk:eZ b 0 cs∈F:=by exact iP) (hv:kE cs j=some v:=by rfl) (hn:Nat.blt d n=true:=by rfl) (hg:cO l g=true:=by rfl):
 R (λh=>aJ P ds (⟨⟨some d,g,.iE x⟩,[]⟩::rest) (act n l D pm ro) h K) B w0 kl F:=(JA hn hg hx hk hv).h next
end
def Yi{v:ah}{xs:ae Int}(hl:xs.length<=1000000):cK prog (.func 266) [v] [] [] [aj ai v xs] (λv':ah=>v') (λ_=>[]) (λv'=>[aj ai v' (bR xs)]) (λ_=>True):=by
 refine gB 266 λB w0=>?_;refine gC (XZ (xs:=xs) hl) λa _=>?_;refine gC (K6 (a:=a) (zs:=xs) rfl tr) λ_ _=>?_;refine gZ (gI (E:=ai) (v:=.slice a xs.length xs.length) (xs:=bR xs)) ?_;refine go ?_;exact gQ (.slice a xs.length xs.length) trivial
variable{a b:ae Int}{va vb:ah}
def Yj(ha:a.length<=1000000)(hb:b.length<=1000000):dL prog 199 [va,vb] [aj ai va a,aj ai vb b] (.bool (jw a b)):=by
 have hsl:=Ad a;refine gB 199 λB w0=>?_;refine gC (Yi (xs:=a) ha) λv1 _=>?_;refine gC (Yi (xs:=b) hb) λv2 _=>?_;refine gC (uY (xs:=bR a) (ys:=bR b) tr) λ_ _=>?_;exact fH
def akv(ha:a.length<=1000000)(hb:b.length<=1000000):dL prog 200 [va,vb] [aj ai va a,aj ai vb b] (.bool (qN a b)):=by
 have hrl:b.reverse.length=b.length:=Ia;refine gB 200 λB w0=>?_;refine gC (XZ (xs:=b) hb) λc _=>?_;refine gC (aj8 (a:=c) (xs:=b) hb) λ_ _=>?_;refine tu (A:=ap ai (.slice c b.length b.length) b.reverse) (fs:=[aj ai (.slice c b.length b.length) b.reverse]) gI (h:=?_);refine gC (uY (xs:=a) (ys:=b) tr) λ_ _=>?_;refine gH ?_ ?_<;>intro h1
 rotate_left
 .refine aM ?_;rw[GG.2 (.inl h1)];rfl
 refine gC (uY (xs:=a) (ys:=b.reverse) tr) λ_ _=>?_;refine aM ?_;unfold qN;rw[aY h1,Bool.false_or];rfl
abbrev QI(k:bN)(vh vs vr vc vu gh gc vn vl sc st:ah):ae ah:=[.string k.decl.name,iV k.decl.version,iV k.decl.shape,iV k.decl.w,iV k.decl.h,vh,vs,vr,vc,vu,iV k.grid.shape,iV k.grid.w,iV k.grid.h,gh,gc,vn,vl,sc,st]
abbrev En(k:bN)(s t:ae Int)(vs vn vl sc st:ah):ae aP:=[aj ai sc s,aj ai st t,aj eT vs k.decl.symbols,aj (aA ai) vn k.aK,aj (aA (aA ai)) vl k.lists]
variable{w:ae Int}
def G5{b:Nat}{vw:ah}(hw:w.length<=1000000)(x:ae Int)(hx:x.length<=1000000):Cj prog (.func 265) [] [ptr' b] [eZ b 0 [vw],aj ai vw w] (λx=>jw x w) x:=by
 intro v;rw[dU];refine gB 265 λB w0=>?_;refine gC (Yj (a:=x) (b:=w) hx hw) λ_ _=>?_;exact fH
abbrev Ls(P:Program)(fe:Fn)(eq:ae Int->ae Int->Bool):Prop:=∀(va vb:ah) (a b:ae Int),a.length<=1000000->b.length<=1000000->cK P fe [va,vb] [] [] [aj ai va a,aj ai vb b] (λ_:Unit=>.bool (eq a b)) (λ_=>[]) (λ_=>[]) (λ_=>True)
structure AB(n:Nat)(k:bN)(s:List Int)(r:bE)(L:List (List Int)):Prop where
 f0:0<=r.family
 hL:k.lists[r.family.toNat]? =some L
 jq:qd n L r.family
 ps:bW n s
 n0:0<n
 n1:n<=1000000
 len:L.length<=1000000
 lens:∀l∈L,l.length<=1000000
variable{L:ae (ae Int)}{s l:ae Int}{eq:ae Int->ae Int->Bool}{f:Int}{j:Nat}
def zi(hl:L[j]? =some l)(h:nV L s f eq l j=false):jl L s f eq=false:=by
 cases e:jl L s f eq with
 |false=>rfl
 |true=>
  unfold jl at e;exact pN
def zk{i:Int}(hi:jv L s f (j:Int)=i)(h:nV L s f eq l j=true):0<=i/\jw (L.getD i.toNat []) (img s l)=true/\eq (L.getD i.toNat []) (img s l)=true:=by
 unfold nV at h;rw[hi,dI,dI,lu]at h;exact h
def Lt{m:Nat}{l':ae Int}(hi:jv L s f (j:Int)=(m:Int))(hl':L[m]? =some l')(h1:jw l' (img s l)=true)(h2:eq l' (img s l)=true):nV L s f eq l j=true:=by
 unfold nV;rw[hi,fQ,iC hl',h1,h2];simp
def akw(h:0<=qM L w):(qM L w).toNat<L.length:=by
 obtain⟨l,h1,_⟩:=KW h;exact(bC.1 h1).1
def QJ{n:Nat}{k:bN}{t:ae Int}{r:bE}{fe:Fn}{vh vs vr vc vu gh gc vn vl sc st v1 v2:ah}(H:AB n k s r L)(he:Ls prog fe eq):
 fC prog 198 [.agg ⟨QI k vh vs vr vc vu gh gc vn vl sc st⟩,.agg ⟨kL r v1 v2⟩,.func fe ⟨[]⟩ ⟨[]⟩] (En k s t vs vn vl sc st) (λ_:Unit=>.bool (jl L s r.family eq)) (λ_=>True):=by
 have hsl:=H.ps.len;have hn0:=H.n0;have hn1:=H.n1;have hll:=H.len;have qU:=H.lens;obtain⟨rn,ro,rk,rf,di,dm,Lu,Lv,iK,iL,iM,iN⟩:=r;have hf0:0<=rf:=H.f0;obtain⟨f,rfl⟩:=iO hf0;have AC:k.lists[f]? =some L:=by have:=H.hL;rwa [fQ]at this
 refine gB 198 λB w0=>?_;refine gF ai sc s λQK QL esc=>?_;subst esc;refine go ?_;intro b3 b4;refine gP b3 ?_;refine gP b4 ?_;have hfl:=(bC.1 AC).1;refine gX (aA (aA ai)) (xs:=k.lists) λ_ _ L2 (vL:ah) hL2=>?_;rw[AC]at hL2;obtain rfl:L=L2:=Option.some.inj hL2;refine gF (aA ai) vL L λaL cL eL=>?_;subst eL;generalize hrf:(f:Int)=rf at *;refine gN L.length 24 (λj=>j<=L.length/\∀i',i'<j->∀x,L[i']? =some x->nV L s rf eq x i'=true) ⟨bP _,λi' h=>absurd h (x9 _)⟩ ?_;rintro j ⟨hj,hall⟩;refine aB ?_ ?_<;>intro h1
 .refine gX (aA ai) (xs:=L) λ_ _ l (Cq:ah) hl=>?_;have hlm:=aS hl;have hlr:=H.jq.dQ l hlm;have hlen:=qU l hlm;have hil:(img s l).length=l.length:=GD s l;refine gF ai Cq l λal cl el=>?_;subst el;refine go ?_;refine F6 l.length ⟨tr,tr,tr⟩ λbw=>?_;rw[QA];refine go ?_;intro b10;refine go ?_;refine dX (λi:Nat=>l.length - i) (λi=>[(34,iV (i:Int))]) (λi=>[pt bw (.cells ((qi (img s (l.take i)) l.length).map iV)),pt b10 (.cells [.slice (some ⟨bw,0,some 0⟩) l.length l.length])]) (λ_=>[]) (λi=>i<=l.length) 0 (bP _) (hk:=tx) (body:=?_);intro i hi;have hcl:(img s (l.take i)).length=i:=by rw[GD,iY];omega
  refine aB ?_ ?_<;>intro h2
  .refine go ?_;intro _ _ x hx;have mX:=hlr x (aS hx);obtain⟨m,rfl⟩:=iO mX.1;refine go ?_;refine Co 17 ?_;refine go ?_;intro _ _ z hz;have hzg:=kX hz;have htk:img s (l.take (i+1))=img s (l.take i)++[z]:=by
    unfold img;rw[cB hx,fG,sN,hzg]
   refine go ?_;refine qJ (b:=bw) (o:=0+i*1) (cs:=(qi (img s (l.take i)) l.length).map iV) (v:=iV z) (cs':=(qi (img s (l.take (i+1))) l.length).map iV) Dd (by rw[bZ,Qz tr];omega) ?_;refine go ?_;exact aQ (i+1) CI tP
  have hie:i=l.length:=tr
  subst hie;rw[bM]at hcl⊢;rw[X6 hcl];refine tu (A:=pt bw (.cells ((img s l).map iV))) (fs:=[aj ai (.slice (some ⟨bw,0,some 0⟩) l.length l.length) (img s l)]) (by have:=BB (b:=bw) (f:=0) (c:=l.length) (xs:=img s l) (hc:=by rw[hil];exact bQ _);rw[hil]at this;exact this) (h:=?_);refine gP b10 ?_;refine go ?_;refine Co 17 ?_;refine go ?_;intro _ _ z0 hz0;refine aB ?_ ?_<;>intro c0
  .refine aB (λ_=>?_) (λh=>absurd c0 h);dsimp only at c0;have hjs:j<s.length:=by
    have:=H.jq.len x6;omega
   refine go ?_;refine Co 17 ?_;refine go ?_;intro _ _ i hi;have hig:=kX hi;have mK:jv L s rf (j:Int)=i:=by unfold jv;rw[if_pos x6];exact hig
   have hi0:0<=i:=(H.ps.dQ i (aS hi)).1;have Eo:i<(L.length:Int):=by
    have h1:=(H.ps.dQ i (aS hi)).2;have h2:=H.jq.len x6;omega
   exact aq
  refine aB ?_ ?_<;>intro c4
  .refine aB (λ_=>?_) (λh=>absurd c4 h);dsimp only at c4;have hjs:j<s.length:=by
    have:=H.jq.len x7;omega
   refine go ?_;refine Co 17 ?_;refine go ?_;intro _ _ i hi;have hig:=kX hi;have mK:jv L s rf (j:Int)=i:=by unfold jv;rw[if_pos x7];exact hig
   have hi0:0<=i:=(H.ps.dQ i (aS hi)).1;have Eo:i<(L.length:Int):=by
    have h1:=(H.ps.dQ i (aS hi)).2;have h2:=H.jq.len x7;omega
   exact aq
  refine aB ?_ ?_<;>intro c5
  .dsimp only at c5;have hjs:j<s.length:=by
    have:=H.jq.len ya;omega
   refine go ?_;refine Co 17 ?_;refine go ?_;intro _ _ i hi;have hig:=kX hi;have mK:jv L s rf (j:Int)=i:=by unfold jv;rw[if_pos ya];exact hig
   have hi0:0<=i:=(H.ps.dQ i (aS hi)).1;have Eo:i<(L.length:Int):=by
    have h1:=(H.ps.dQ i (aS hi)).2;have h2:=H.jq.len ya;omega
   exact aq
  dsimp only at c0 c4 c5;refine gC (X3 (fn:=.func 265) (first:=[]) (cap:=[ptr' b10]) (F1:=[eZ b10 0 [.slice (some ⟨bw,0,some 0⟩) l.length l.length],aj ai (.slice (some ⟨bw,0,some 0⟩) l.length l.length) (img s l)]) (p:=λx=>jw x (img s l)) (va:=.slice aL L.length cL) (xs:=L) tr (λx hx=>G5 (by rw[hil];omega) x (qU x hx))) λ_ _=>?_;have mK:jv L s rf (j:Int)=oK (λx=>jw x (img s l)) L:=by
   unfold jv;rw[if_neg (by unfold jA;simp[c0,c4,c5]),fQ,iC hl];exact(Qx L (img s l)).symm
  have hlt:0<=oK (λx=>jw x (img s l)) L->oK (λx=>jw x (img s l)) L<(L.length:Int):=λh=>by
   have:=akw (L:=L) (w:=img s l) h;have e:oK (λx=>jw x (img s l)) L=qM L (img s l):=Qx L (img s l);omega
  generalize oK (λx=>jw x (img s l)) L=i at mK hlt⊢;by_cases hi0:0<=i
  .have Eo:=hlt hi0;exact aq
  .refine gH ?_ ?_<;>intro hneg
   .exact absurd hneg tr
   refine aM ?_;rw[zi hl (by
    cases e:nV L s rf eq l j with
    |false=>rfl
    |true=>exact absurd (zk mK e).1 hi0)];rfl
 have iJ:j=L.length:=tr
 subst iJ;refine aM ?_;have:jl L s rf eq=true:=by
  unfold jl;rw[mJ];exact λi x hx=>hall i (bC.1 hx).1 x hx
 rw[this];rfl
abbrev Cr(P:Program)(fn:Fn)(k:bN)(s t:ae Int)(r:bE)(vh vs vr vc vu gh gc vn vl sc st v1 v2:ah)(c:Bool):Prop:=
 cK P fn [.agg ⟨QI k vh vs vr vc vu gh gc vn vl sc st⟩,.agg ⟨kL r v1 v2⟩] [] [] (En k s t vs vn vl sc st) (λ_:Unit=>.bool c) (λ_=>[]) (λ_=>[]) (λ_=>True)
section
variable {n:Nat} {k:bN} {s t:ae Int} {r:bE} {L:ae (ae Int)} {vh vs vr vc vu gh gc vn vl sc st v1 v2:ah}
def akx(H:AB n k s r L):Cr prog (.func 117) k s t r vh vs vr vc vu gh gc vn vl sc st v1 v2 (jl L s r.family jw):=by
 have he:Ls prog (.func 199) jw:=λva vb a b ha hb=>Yj ha hb;refine gB 117 λB w0=>?_;refine go ?_;intro b2 b3;refine gC (QJ (t:=t) (eq:=jw) (sc:=sc) (st:=st) (v1:=v1) (v2:=v2) H he) λ_ _=>?_;exact fH
def aky(H:AB n k s r L):Cr prog (.func 119) k s t r vh vs vr vc vu gh gc vn vl sc st v1 v2 (jl L s r.family rX):=by
 have he:Ls prog (.func 48) rX:=λva vb a b ha hb=>uY tr;refine gB 119 λB w0=>?_;refine go ?_;intro b2 b3;refine gC (QJ (t:=t) (eq:=rX) (sc:=sc) (st:=st) (v1:=v1) (v2:=v2) H he) λ_ _=>?_;exact fH
def akz(H:AB n k s r L):Cr prog (.func 120) k s t r vh vs vr vc vu gh gc vn vl sc st v1 v2 (jl L s r.family qN):=by
 have he:Ls prog (.func 200) qN:=λva vb a b ha hb=>akv ha hb;refine gB 120 λB w0=>?_;refine go ?_;intro b2 b3;refine gC (QJ (t:=t) (eq:=qN) (sc:=sc) (st:=st) (v1:=v1) (v2:=v2) H he) λ_ _=>?_;exact fH
end
end Go.Proofs.YtignbinlipkmfaaGreatDoor
namespace Go.Proofs.YtignbinlipkmfaaGreatDoor
open Tryz (prog)
open Go.Ideal Kd Canon
variable{k:bN}
def Lx{i:Nat}{x:nu}(h:k.decl.symbols[i]? =some x):aT (kQ k) (i:Int)=x.value:=by
 apply kX;unfold kQ;rw[dN,h];rfl
section
variable {m:Nat} {k:bN} {s t:ae Int} {r:bE} {vh vs vr vc vu gh gc vn vl sc st v1 v2:ah}
def akA(hm:k.decl.symbols.length=m)(ht:bW m t)(hl:m<=4096):Cr prog (.func 118) k s t r vh vs vr vc vu gh gc vn vl sc st v1 v2 (kY (kQ k) t):=by
 have htl:=ht.len;refine gB 118 λB w0=>?_;refine gF ai st t λpY ct et=>?_;subst et;refine gF eT vs k.decl.symbols λpg cs1 es1=>?_;subst es1;refine go ?_;intro b2 b3;refine gP b2 ?_;refine gN t.length 11 (λj=>j<=t.length/\∀i',i'<j->∀x,t[i']? =some x->aT (kQ k) (i':Int)=aT (kQ k) x) ⟨bP _,λi' h=>absurd h (x9 _)⟩ ?_;rintro j ⟨hj,hall⟩;refine aB ?_ ?_<;>intro h1
 .refine go ?_;intro _ _ x hx;have mX:=ht.dQ x (aS hx);obtain⟨i,rfl⟩:=iO mX.1;refine gX eT (xs:=k.decl.symbols) (k:=j) λ_ _ y (_:Unit) hy=>?_;have e1:=Lx hy;refine gX eT (xs:=k.decl.symbols) (k:=i) λ_ _ z (_:Unit) hz=>?_;have e2:=Lx hz;refine aB ?_ ?_<;>intro h2
  .exact eJ
  exact fk
 exact hU
def G6(set i:Nat):set>>>i&&&1=(set.testBit i).toNat:=by
 rw[Nat.and_one_is_mod,RD,Nat.toNat_testBit]
def LA{a b:Bool}:((a.toNat:Nat):Int)=((b.toNat:Nat):Int)↔a=b:=by cases a<;>cases b<;>decide
def akB{set other:Nat}(hs:r.set=(set:Int)/\set<2^63)(ho:r.other=(other:Int)/\other<2^63)(ht:bW m t)(hl:m<=60):Cr prog (.func 75) k s t r vh vs vr vc vu gh gc vn vl sc st v1 v2 (l6 set other t):=by
 have htl:=ht.len;obtain⟨hs1,hs2⟩:=hs;obtain⟨ho1,ho2⟩:=ho;obtain⟨rn,ro,rk,rf,di,dm,Lu,Lv,iK,iL,iM,iN⟩:=r;dsimp only at hs1 ho1;subst hs1 ho1;refine gB 75 λB w0=>?_;refine gF ai st t λpY ct et=>?_;subst et;refine go ?_;intro b2 b3;refine gP b2 ?_;refine gP b3 ?_;refine gN t.length 11 (λj=>j<=t.length/\∀i',i'<j->∀x,t[i']? =some x->set.testBit i'=set.testBit x.toNat/\other.testBit i'=other.testBit x.toNat) ⟨bP _,λi' h=>absurd h (x9 _)⟩ ?_;rintro j ⟨hj,hall⟩;refine aB ?_ ?_<;>intro h1
 .refine go ?_;intro _ _ x hx;have mX:=ht.dQ x (aS hx);obtain⟨i,rfl⟩:=iO mX.1;have hno:¬(set.testBit j=set.testBit i/\other.testBit j=other.testBit i)->l6 set other t=false:=λh=>by
   cases e:l6 set other t with
   |false=>rfl
   |true=>
    unfold l6 at e;rw[mJ]at e;have:=e j _ hx;dsimp only at this;rw[fQ,dI,lu,lu]at this;exact absurd this h
  refine go ?_;refine(fo rfl rfl (F3 (a:=set) (b:=j) rfl rfl tr)).h ?_;refine(fo rfl rfl (F4 (a:=set>>>j) (b:=1) rfl rfl (HZ (MH _ _) hs2) tr)).h ?_;rw[G6 set j];refine go ?_;refine(fo rfl rfl (F3 (a:=set) (b:=i) rfl rfl tr)).h ?_;refine(fo rfl rfl (F4 (a:=set>>>i) (b:=1) rfl rfl (HZ (MH _ _) hs2) tr)).h ?_;rw[G6 set i];refine gH ?_ ?_<;>intro h2
  rotate_left
  .refine aM ?_;rw[hno (λq=>h2 (LA.2 q.1))];rfl
  have h2:=LA.1 (iD.1 h2);refine go ?_;refine(fo rfl rfl (F3 (a:=other) (b:=j) rfl rfl tr)).h ?_;refine(fo rfl rfl (F4 (a:=other>>>j) (b:=1) rfl rfl (HZ (MH _ _) ho2) tr)).h ?_;rw[G6 other j];refine go ?_;refine(fo rfl rfl (F3 (a:=other) (b:=i) rfl rfl tr)).h ?_;refine(fo rfl rfl (F4 (a:=other>>>i) (b:=1) rfl rfl (HZ (MH _ _) ho2) tr)).h ?_;rw[G6 other i];refine aB ?_ ?_<;>intro h3
  .refine aM ?_;rw[hno (λq=>h3 (LA.2 q.2))];rfl
  have h3:=LA.1 (iD.1 h3);refine go ?_;refine aQ (j+1) tr ⟨tr,λi' hi' x hx'=>?_⟩;by_cases e:i'=j
  .subst e;rw[hx]at hx';cases hx';rw[fQ];exact⟨h2,h3⟩
  .exact nB
 have iJ:j=t.length:=tr
 subst iJ;refine aM ?_;have:l6 set other t=true:=by
  unfold l6;rw[mJ];intro i x hx;have:=hall i (bC.1 hx).1 x hx;dsimp only;rw[this.1,this.2];simp
 rw[this];rfl
def akC{n:Nat}(hN:tO n k.aK)(hs:bW n s)(hl:n<=1000000)(hll:∀l∈k.aK,l.length<=1000000):Cr prog (.func 121) k s t r vh vs vr vc vu gh gc vn vl sc st v1 v2 (j5 k.aK s):=by
 have hsl:=hs.len;have hnl:=hN.1;refine gB 121 λB w0=>?_;refine gF ai sc s λQK QL esc=>?_;subst esc;refine gF (aA ai) vn k.aK λan cn en=>?_;subst en;refine go ?_;intro b2 b3;refine gP b2 ?_;refine gN k.aK.length 13 (λj=>j<=k.aK.length/\∀i',i'<j->∀l,k.aK[i']? =some l->∀b∈l,aT s b∈k.aK.getD (aT s (i':Int)).toNat []) ⟨bP _,λi' h=>absurd h (x9 _)⟩ ?_;rintro j ⟨hj,hall⟩;refine aB ?_ ?_<;>intro h1
 .refine gX (aA ai) (xs:=k.aK) λ_ _ l (Cq:ah) hl2=>?_;have hlm:=aS hl2;have hlr:=hN.2 l hlm;have hlen:=hll l hlm;refine gF ai Cq l λal cl el=>?_;subst el;refine gN l.length 20 (λi=>i<=l.length/\∀b∈l.take i,aT s b∈k.aK.getD (aT s (j:Int)).toNat []) ⟨bP _,tt⟩ ?_;rintro i ⟨hi,Cs⟩;refine aB ?_ ?_<;>intro h2
  .refine go ?_;intro _ _ b hb;have hbr:=hlr b (aS hb);obtain⟨bn,rfl⟩:=iO hbr.1;refine go ?_;refine Co 17 ?_;refine go ?_;intro _ _ u hu;have QM:=kX hu;have hur:=hs.dQ u (aS hu);obtain⟨un,rfl⟩:=iO hur.1;refine gX (aA ai) (xs:=k.aK) (k:=un) λ_ _ l2 (QN:ah) hl3=>?_;have akD:=hll l2 (aS hl3);refine go ?_;refine Co 17 ?_;refine go ?_;intro _ _ z hz;have hzg:=kX hz;refine gC (ah9 (xs:=l2) (z:=z) tr) λ_ _=>?_;have hd:k.aK.getD (aT s (j:Int)).toNat []=l2:=by rw[QM,fQ];exact iC hl3
   refine go ?_;refine fu rfl (λh3=>?_) (λh3=>?_)
   .exact ee
   refine go ?_;refine aQ (i+1) CI ⟨tr,λb hb'=>?_⟩;rw[cB hb]at hb';rcases dY.1 hb' with hb'|hb'
   .exact Cs b hb'
   .rw[bK.1 hb',hd,hzg];exact h3
  have hie:i=l.length:=tr
  subst hie;rw[bM]at Cs;refine go ?_;refine aQ (j+1) (by show k.aK.length - (j+1)<k.aK.length - j;omega) ⟨tr,λi' hi' l' hl'=>?_⟩;exact ox
 exact fp
end
abbrev fv(f:iI):ah:=.func (.func f) ⟨[]⟩ ⟨[]⟩
structure LB where
 b1:Nat
 b2:Nat
 b3:Nat
 b4:Nat
 b5:Nat
 b6:Nat
 b7:Nat
 b8:Nat
 b9:Nat
 b10:Nat
abbrev QO(y:LB):ae ah:=[.slice none 0 0,.slice (some ⟨y.b1,0,some 0⟩) 1 1,.slice (some ⟨y.b2,0,some 0⟩) 1 1,.slice (some ⟨y.b3,0,some 0⟩) 2 2,.slice (some ⟨y.b4,0,some 0⟩) 2 2,.slice (some ⟨y.b5,0,some 0⟩) 1 1,.slice (some ⟨y.b6,0,some 0⟩) 1 1,.slice (some ⟨y.b7,0,some 0⟩) 2 2,.slice (some ⟨y.b8,0,some 0⟩) 1 1,.slice (some ⟨y.b9,0,some 0⟩) 1 1,.slice (some ⟨y.b10,0,some 0⟩) 1 1,.slice none 0 0]
abbrev xS(y:LB):ae aP:=[eZ y.b1 0 [fv 117],eZ y.b2 0 [fv 117],eZ y.b3 0 [fv 117,fv 118],eZ y.b4 0 [fv 119,fv 118],eZ y.b5 0 [fv 120],eZ y.b6 0 [fv 121],eZ y.b7 0 [fv 121,fv 118],eZ y.b8 0 [fv 121],eZ y.b9 0 [fv 121],eZ y.b10 0 [fv 121]]
def akE:cK prog (.func 73) [] [] [] [] (λy:LB=>.agg ⟨QO y⟩) (λ_=>[]) (λy=>xS y) (λ_=>True):=by
 refine gB 73 λB w0=>?_;refine go ?_;intro b0 b1 b2 b3 b4 b5 b6 b7 b8 b9 b10;refine go ?_;refine gP b1 ?_;refine gP b2 ?_;refine gP b3 ?_;refine gP b4 ?_;refine gP b5 ?_;refine gP b6 ?_;refine gP b7 ?_;refine gP b8 ?_;refine gP b9 ?_;refine gP b10 ?_;exact gQ ⟨b1,b2,b3,b4,b5,b6,b7,b8,b9,b10⟩ trivial
section
variable {k:bN} {s t:ae Int} {r:bE} {vh vs vr vc vu gh gc vn vl sc st v1 v2:ah} {bc br:Nat}
abbrev wQ(k:bN)(s t:ae Int)(r:bE)(vh vs vr vc vu gh gc vn vl sc st v1 v2:ah)(bc br:Nat):ae aP:=eZ bc 0 (QI k vh vs vr vc vu gh gc vn vl sc st)::eZ br 0 (kL r v1 v2)::En k s t vs vn vl sc st
def G7{f:iI}{c:Bool}(h:Cr prog (.func f) k s t r vh vs vr vc vu gh gc vn vl sc st v1 v2 c):cK prog (.func 74) [fv f] [ptr' bc,ptr' br] [] (wQ k s t r vh vs vr vc vu gh gc vn vl sc st v1 v2 bc br) (λ_:Unit=>.bool (!c)) (λ_=>[]) (λ_=>[]) (λ_=>True):=by
 refine gB 74 λB w0=>?_;refine gC h λ_ _=>?_;exact fH
variable{fn:Fn}{first cap fs:ae ah}{F1:ae aP}{b:Nat}{p:Nat->Bool}
def akF(hl:fs.length<=100)(hp:∀i f,fs[i]? =some f->cK prog fn (first++[f]) cap [] F1 (λ_:Unit=>.bool (p i)) (λ_=>[]) (λ_=>[]) (λ_=>True)):
 fC prog 122 [.slice (some ⟨b,0,some 0⟩) fs.length fs.length,.func fn ⟨first⟩ ⟨cap⟩] (eZ b 0 fs::F1) (λx:Int=>iV x) (λx=>0<=x↔∃i,i<fs.length/\p i=true):=by
 refine gB 122 λB w0=>?_;refine gN fs.length 8 (λj=>j<=fs.length/\∀i,i<j->p i=false) ⟨bP _,λi h=>absurd h (x9 _)⟩ ?_;rintro j ⟨hj,hall⟩;refine aB ?_ ?_<;>intro h1
 .have hf:fs[j]? =some fs[j]:=bX tr;generalize fs[j]=f at hf;refine go ?_;refine(JA (b:=b) (o:=0) (j:=j*1) (cs:=fs) (v:=f) rfl rfl rfl (fT ..) (by rw[rJ,uu];exact hf)).h ?_;refine gC (hp j f hf) λ_ _=>?_;refine go ?_;refine jS rfl (λh2=>?_) (λh2=>?_)
  .refine go ?_;exact gQ (j:Int) ⟨λ_=>⟨j,tr,h2⟩,λ_=>by omega⟩
  refine go ?_;refine aQ (j+1) tr ⟨tr,λi hi=>?_⟩;by_cases e:i=j
  .subst e;exact h2
  .exact hall i tr
 refine go ?_;exact gQ (-1) ⟨λh=>by omega,λ⟨i,hi,h⟩=>by rw[hall i tr]at h;cases h⟩
def Yk(hl:fs.length<=100)(hp:∀i f,fs[i]? =some f->cK prog fn (first++[f]) cap [] F1 (λ_:Unit=>.bool (p i)) (λ_=>[]) (λ_=>[]) (λ_=>True)):
 fC prog 76 [.slice (some ⟨b,0,some 0⟩) fs.length fs.length,.func fn ⟨first⟩ ⟨cap⟩] (eZ b 0 fs::F1) (λc:Bool=>.bool c) (λc=>c=true↔∃i,i<fs.length/\p i=true):=by
 refine gB 76 λB w0=>?_;refine gC (akF (b:=b) hl hp) λx hx=>?_;refine go ?_;refine gQ (decide (0<=x)) ?_;rw[lu];exact hx
def akG:fC prog 76 [.slice none 0 0,.func fn ⟨first⟩ ⟨cap⟩] F1 (λc:Bool=>.bool c) (λc=>c=false):=by
 have h0:fC prog 122 [.slice none 0 0,.func fn ⟨first⟩ ⟨cap⟩] F1 (λ_:Unit=>iV (-1)) (λ_=>True):=by
  refine gB 122 λB w0=>?_;refine go ?_;refine qa ?_;exact fH
 refine gB 76 λB w0=>?_;refine gC h0 λ_ _=>?_;refine go ?_;exact gQ false rfl
structure QR(k:bN)(s t:List Int)(r:bE):Prop where
 ps:bW k.grid.cells.length s
 pt:bW k.decl.symbols.length t
 n1:k.grid.cells.length<=256
 m1:k.decl.symbols.length<=16
 aK:tO k.grid.cells.length k.aK
 Yl:∀l∈k.aK,l.length<=1000000
 kind:1<=r.kind/\r.kind<=11
 LC:AB k.grid.cells.length k s r (k.lists.getD r.family.toNat [])
 st:r.set=((r.set.toNat:Nat):Int)/\r.set.toNat<2^63
 ot:r.other=((r.other.toNat:Nat):Int)/\r.other.toNat<2^63
def Ym(H:QR k s t r)(y:LB):∃v,(QO y)[r.kind.toNat]? =some v/\fC prog 76 [v,.func (.func 74) ⟨[]⟩ ⟨[ptr' bc,ptr' br]⟩] (xS y++wQ k s t r vh vs vr vc vu gh gc vn vl sc st v1 v2 bc br) (λc:Bool=>.bool c) (λc=>c=true↔kR k s t r=false):=by
 have hF:=G7 (bc:=bc) (br:=br) (akx (t:=t) (vh:=vh) (vs:=vs) (vr:=vr) (vc:=vc) (vu:=vu) (gh:=gh) (gc:=gc) (vn:=vn) (vl:=vl) (sc:=sc) (st:=st) (v1:=v1) (v2:=v2) H.LC);have hO:=G7 (bc:=bc) (br:=br) (aky (t:=t) (vh:=vh) (vs:=vs) (vr:=vr) (vc:=vc) (vu:=vu) (gh:=gh) (gc:=gc) (vn:=vn) (vl:=vl) (sc:=sc) (st:=st) (v1:=v1) (v2:=v2) H.LC);have hL:=G7 (bc:=bc) (br:=br) (akz (t:=t) (vh:=vh) (vs:=vs) (vr:=vr) (vc:=vc) (vu:=vu) (gh:=gh) (gc:=gc) (vn:=vn) (vl:=vl) (sc:=sc) (st:=st) (v1:=v1) (v2:=v2) H.LC);have hV:=G7 (bc:=bc) (br:=br) (akA (s:=s) (r:=r) (vh:=vh) (vs:=vs) (vr:=vr) (vc:=vc) (vu:=vu) (gh:=gh) (gc:=gc) (vn:=vn) (vl:=vl) (sc:=sc) (st:=st) (v1:=v1) (v2:=v2) rfl H.pt (by have:=H.m1;omega));have hB:=G7 (bc:=bc) (br:=br) (akC (t:=t) (r:=r) (vh:=vh) (vs:=vs) (vr:=vr) (vc:=vc) (vu:=vu) (gh:=gh) (gc:=gc) (vn:=vn) (vl:=vl) (sc:=sc) (st:=st) (v1:=v1) (v2:=v2) H.aK H.ps (by have:=H.n1;omega) H.Yl);have one:∀(b:Nat) (f:iI) (c:Bool),cK prog (.func 74) [fv f] [ptr' bc,ptr' br] [] (wQ k s t r vh vs vr vc vu gh gc vn vl sc st v1 v2 bc br) (λ_:Unit=>.bool (!c)) (λ_=>[]) (λ_=>[]) (λ_=>True)->eZ b 0 [fv f]∈xS y->kR k s t r=c->
  fC prog 76 [.slice (some ⟨b,0,some 0⟩) 1 1,.func (.func 74) ⟨[]⟩ ⟨[ptr' bc,ptr' br]⟩] (xS y++wQ k s t r vh vs vr vc vu gh gc vn vl sc st v1 v2 bc br) (λc:Bool=>.bool c) (λc=>c=true↔kR k s t r=false):=λb f c h hm hc=>by
  have h1:=Yk (b:=b) (fs:=[fv f]) (p:=λ_=>!c) (fn:=.func 74) (first:=[]) (cap:=[ptr' bc,ptr' br]) tt (λi g hg=>by
   match i,hg with
   |0,hg=>cases hg;exact h
   |i+1,hg=>simp at hg)
  refine((h1.facts (F2:=xS y++wQ k s t r vh vs vr vc vu gh gc vn vl sc st v1 v2 bc br) (λf hf=>?_))).weak λc' hc'=>?_
  .exact rN
  .rw[hc',hc];constructor
   .rintro⟨_,_,e⟩;simpa using e
   .intro e;exact⟨0,tt,by rw[e];rfl⟩
 have two:∀(b:Nat) (f g:iI) (c d:Bool),cK prog (.func 74) [fv f] [ptr' bc,ptr' br] [] (wQ k s t r vh vs vr vc vu gh gc vn vl sc st v1 v2 bc br) (λ_:Unit=>.bool (!c)) (λ_=>[]) (λ_=>[]) (λ_=>True)->cK prog (.func 74) [fv g] [ptr' bc,ptr' br] [] (wQ k s t r vh vs vr vc vu gh gc vn vl sc st v1 v2 bc br) (λ_:Unit=>.bool (!d)) (λ_=>[]) (λ_=>[]) (λ_=>True)->eZ b 0 [fv f,fv g]∈xS y->kR k s t r=(c&&d)->
  fC prog 76 [.slice (some ⟨b,0,some 0⟩) 2 2,.func (.func 74) ⟨[]⟩ ⟨[ptr' bc,ptr' br]⟩] (xS y++wQ k s t r vh vs vr vc vu gh gc vn vl sc st v1 v2 bc br) (λc:Bool=>.bool c) (λc=>c=true↔kR k s t r=false):=λb f g c d h h2 hm hc=>by
  have h1:=Yk (b:=b) (fs:=[fv f,fv g]) (p:=λi=>if i=0 then !c else !d) (fn:=.func 74) (first:=[]) (cap:=[ptr' bc,ptr' br]) tt (λi g hg=>by
   match i,hg with
   |0,hg=>cases hg;exact h
   |1,hg=>cases hg;exact h2
   |i+2,hg=>simp at hg)
  refine((h1.facts (F2:=xS y++wQ k s t r vh vs vr vc vu gh gc vn vl sc st v1 v2 bc br) (λf hf=>?_))).weak λc' hc'=>?_
  .exact rN
  .rw[hc',hc];constructor
   .rintro⟨i,hi,e⟩;by_cases e0:i=0
    .rw[if_pos e0]at e;cases c<;>simp_all
    .rw[if_neg e0]at e;cases d<;>simp_all
   .intro e;cases hcc:c with
    |false=>exact⟨0,tt,rfl⟩
    |true=>
     rw[hcc,Mk]at e;exact⟨1,tt,by rw[e];rfl⟩
 have hk:=H.kind;obtain⟨kn,hkn⟩:=iO (by omega:0<=r.kind);have akH:kn=1\/kn=2\/kn=3\/kn=4\/kn=5\/kn=6\/kn=7\/kn=8\/kn=9\/kn=10\/kn=11:=tr
 rcases akH with rfl|rfl|rfl|rfl|rfl|rfl|rfl|rfl|rfl|rfl|rfl
 .exact⟨_,by rw[hkn];rfl,one y.b1 _ _ hF tt (by unfold kR;rw[if_pos (.inl hkn)])⟩
 .exact⟨_,by rw[hkn];rfl,one y.b2 _ _ hF tt (by unfold kR;rw[if_pos (.inr hkn)])⟩
 .exact⟨_,by rw[hkn];rfl,two y.b3 _ _ _ _ hF hV tt (by unfold kR;rw[if_neg tr,if_pos tr])⟩
 .exact⟨_,by rw[hkn];rfl,two y.b4 _ _ _ _ hO hV tt (by unfold kR;rw[if_neg tr,if_neg tr,if_pos tr])⟩
 .exact⟨_,by rw[hkn];rfl,one y.b5 _ _ hL tt (by unfold kR;rw[if_neg tr,if_neg tr,if_neg tr,if_pos tr])⟩
 .exact⟨_,by rw[hkn];rfl,one y.b6 _ _ hB tt C4⟩
 .exact⟨_,by rw[hkn];rfl,two y.b7 _ _ _ _ hB hV tt (by unfold kR;rw[if_neg tr,if_neg tr,if_neg tr,if_neg tr,if_pos tr])⟩
 .exact⟨_,by rw[hkn];rfl,one y.b8 _ _ hB tt C4⟩
 .exact⟨_,by rw[hkn];rfl,one y.b9 _ _ hB tt C4⟩
 .exact⟨_,by rw[hkn];rfl,one y.b10 _ _ hB tt C4⟩
 .refine⟨.slice none 0 0,by rw[hkn];rfl,?_⟩;refine(akG (F1:=xS y++wQ k s t r vh vs vr vc vu gh gc vn vl sc st v1 v2 bc br)).weak λc' hc'=>?_;have:kR k s t r=true:=by unfold kR;rw[if_neg tr,if_neg tr,if_neg tr,if_neg tr,if_neg tr,if_neg tr]
  rw[hc',this];simp
end
def eY.set(h:eY k){r:bE}(hr:r∈k.decl.rules):(r.set=((r.set.toNat:Nat):Int)/\r.set.toNat<2^63)/\(r.other=((r.other.toNat:Nat):Int)/\r.other.toNat<2^63):=by
 obtain⟨q,hq,hre⟩:=h.oH hr;have hro:=h.b.rs.oH q hq;have hsl:=h.typ.lim.s1;have Yn:r.set=((gq (bS k.decl) q.names:Nat):Int):=AE
 have Yo:r.other=((gq (bS k.decl) q.others:Nat):Int):=AE
 have hsn:(bS k.decl).length<=16:=by unfold bS;rw[bZ];exact hsl
 have hl1:=XX hsn q.names hro.names;have hl2:=XX hsn q.others hro.others;refine⟨⟨by rw[Yn];omega,by rw[Yn];omega⟩,⟨by rw[Yo];omega,by rw[Yo];omega⟩⟩
def eY.Ap(h:eY k):k.grid.cells.length<=256:=by
 have:=h.cO.len;rw[h.grid];exact this
def eY.npos(h:eY k):0<k.grid.cells.length:=by
 rw[h.grid];exact ahq h.cO
def eY.Yp(h:eY k){s t:ae Int}(hs:bW k.grid.cells.length s)(ht:bW k.decl.symbols.length t){r:bE}(hr:r∈k.decl.rules):QR k s t r:=by
 have hin:=(h.inr hr).jq;have hL:k.lists[r.family.toNat]? =some (k.lists[r.family.toNat]'(tr)):=bX _;have qC:=h.X9 hL;rw[CL hin.1]at qC;have Yq:∀r∈k.decl.regions,xI (aU k.decl) r.lists:=λr hr=>(h.typ.Av r hr).1.2;have Yr:=ahs h.cO Yq;have hlin:=ahc h.cO Yq;rw[<- h.lists]at Yr hlin;have hn:=h.Ap;refine⟨hs,ht,h.Ap,h.typ.lim.s1,h.Lh,λl hl=>?_,h.kinds hr,⟨hin.1,?_,?_,hs,h.npos,tr,?_,?_⟩,(h.set hr).1,(h.set hr).2⟩
 .rw[h.aK]at hl;have:=Gs l hl;omega
 .rw[iC hL];exact hL
 .rw[iC hL];exact qC
 .rw[iC hL];have:=Yr _ (aS hL);omega
 .rw[iC hL];intro l hl;have:=(hlin _ (aS hL) l hl).1;omega
variable{s t:ae Int}{vh vs vr vc vu gh gc vn vl sc st:ah}
def akI(hK:eY k)(hs:s.length<2^63)(ht:t.length<2^63):
 fC prog 39 [.agg ⟨mM k vh vs vr vc vu gh gc vn vl⟩,.agg ⟨[sc,st]⟩] (aj ai sc s::aj ai st t::lN k vh vs vr vc vu gh gc vn vl []) (λb:Bool=>.bool b) (λb=>b=true↔oL k s t):=by
 have hn:=hK.Ap;have hm:=hK.typ.lim.s1;have xO:=hK.typ.lim.u;refine gB 39 λB w0=>?_;dsimp only[lN];refine gF ai gc k.grid.cells λag cg eg=>?_;subst eg;refine gF eT vs k.decl.symbols λpg cs1 es1=>?_;subst es1;refine gF bz vu k.decl.rules λau cu eu=>?_;subst eu;refine go ?_;intro b2 b3;refine gP b2 ?_;refine gP b3 ?_;refine gC (Qy (xs:=s) (n:=k.grid.cells.length) hn hs) λe1 he1=>?_;refine gH ?_ ?_<;>intro h1
 rotate_left
 .refine go ?_;exact gQ false ⟨(λh=>by cases h),λh=>absurd (he1.2 h.pc) h1⟩
 have hps:=he1.1 (iD.1 h1);refine gC (Qy (xs:=t) (n:=k.decl.symbols.length) tr ht) λe2 he2=>?_;refine aB ?_ ?_<;>intro h2
 .refine go ?_;exact gQ false ⟨(λh=>by cases h),λh=>absurd (he2.2 h.ps) h2⟩
 have hpt:=he2.1 (iD.1 h2);refine go ?_;intro b5 b6;refine eO akE (next:=λy _=>?_);refine go ?_;refine gP b5 ?_;refine gP b6 ?_;refine gN k.decl.rules.length 36 (λj=>j<=k.decl.rules.length/\∀r∈k.decl.rules.take j,keepR k s t r=true) ⟨bP _,tt⟩ ?_;rintro j ⟨hj,hall⟩;refine aB ?_ ?_<;>intro h3
 .refine gX bz (xs:=k.decl.rules) λ_ _ r (w:ah×ah) hr=>?_;have hrm:=aS hr;have H:=hK.Yp hps hpt hrm;have hkd:=H.kind;have hno:keepR k s t r=false->∀b:Bool,b=false->(b=true↔oL k s t):=λh b hb=>⟨(λe=>by rw[hb]at e;cases e),λq=>by have:=q.oH r hrm;rw[h]at this;cases this⟩
  obtain⟨vk,hvk,hcon⟩:=Ym (bc:=b5) (br:=0) (vh:=vh) (vs:=.slice pg k.decl.symbols.length cs1) (vr:=vr) (vc:=vc) (vu:=.slice au k.decl.rules.length cu) (gh:=gh) (gc:=.slice ag k.grid.cells.length cg) (vn:=vn) (vl:=vl) (sc:=sc) (st:=st) (v1:=w.1) (v2:=w.2) H y;clear hcon;refine go ?_;intro b8;obtain⟨Yt,Yu,hcon⟩:=Ym (bc:=b5) (br:=b8) (vh:=vh) (vs:=.slice pg k.decl.symbols.length cs1) (vr:=vr) (vc:=vc) (vu:=.slice au k.decl.rules.length cu) (gh:=gh) (gc:=.slice ag k.grid.cells.length cg) (vn:=vn) (vl:=vl) (sc:=sc) (st:=st) (v1:=w.1) (v2:=w.2) H y;obtain rfl:Yt=vk:=by rw[hvk]at Yu;exact(Option.some.inj Yu).symm
  refine go ?_;refine gP b8 ?_;refine gC (akB (k:=k) (s:=s) (r:=r) (set:=r.set.toNat) (other:=r.other.toNat) (vh:=vh) (vs:=.slice pg k.decl.symbols.length cs1) (vr:=vr) (vc:=vc) (vu:=.slice au k.decl.rules.length cu) (gh:=gh) (gc:=.slice ag k.grid.cells.length cg) (vn:=vn) (vl:=vl) (sc:=sc) (st:=st) (v1:=w.1) (v2:=w.2) H.st H.ot hpt tr) λ_ _=>?_;cases hset:l6 r.set.toNat r.other.toNat t with
  |false=>
   refine go ?_;exact gQ false (hno (by unfold keepR;rw[hset];rfl) _ rfl)
  |true=>
  obtain⟨kn,hkn⟩:=iO (by omega:0<=r.kind);rw[hkn,fQ]at hvk;rw[hkn];refine go ?_;refine(JA (b:=b6) (o:=0) (j:=kn*1) (cs:=QO y) (v:=Yt) rfl rfl rfl (by repeat (first|exact fT .. |apply fO)) (by rw[rJ,uu];exact hvk)).h ?_;rw[<- hkn];refine go ?_;dsimp only[xS,wQ,En,List.cons_append,List.nil_append]at hcon;refine eO hcon (hF:=by repeat (first|exact Sub.nil|(apply Sub.cons;(focus (repeat (first|exact fT .. |apply fO)))))) (next:=λc hc=>?_);refine go ?_;cases c with
  |true=>
   refine go ?_;exact gQ false (hno (by unfold keepR;rw[hc.1 rfl,Bool.and_false]) _ rfl)
  |false=>
  have hcd:kR k s t r=true:=by
   cases e:kR k s t r with
   |true=>rfl
   |false=>exact absurd (hc.2 e) tt
  refine go ?_;refine aQ (j+1) CM ⟨tr,λx hx=>?_⟩;rw[cB hr]at hx;rcases dY.1 hx with hx|hx
  .exact hall x hx
  .rw[bK.1 hx];unfold keepR;rw[hset,hcd];rfl
 have iJ:j=k.decl.rules.length:=tr
 subst iJ;rw[bM]at hall;refine go ?_;exact gQ true ⟨λ_=>⟨hps,hpt,hall⟩,λ_=>rfl⟩
structure G8(k:bN)(s t:List Int)(y:Bool×Int):Prop where
 nk:¬eY k->y=(false,180)
 ok:eY k->y.2=0/\(y.1=true↔oL k s t)
def Ep(hS:ug k)(hs:s.length<2^63)(ht:t.length<2^63):
 fC prog 18 [.agg ⟨mM k vh vs vr vc vu gh gc vn vl⟩,.agg ⟨[sc,st]⟩] (aj ai sc s::aj ai st t::lN k vh vs vr vc vu gh gc vn vl []) (λy:Bool×Int=>.tuple ⟨[.bool y.1,iV y.2]⟩) (G8 k s t):=by
 refine gB 18 λB w0=>?_;dsimp only[lN];refine go ?_;intro b2 b3;refine gC (aj1 (k:=k) (vh:=vh) (vs:=vs) (vr:=vr) (vc:=vc) (vu:=vu) (gh:=gh) (gc:=gc) (vn:=vn) (vl:=vl) hS) λb hb=>?_;cases b with
 |false=>
  exact ju
 |true=>
 have hK:=hb.1 rfl;dsimp only[cond];refine gC (akI (k:=k) (s:=s) (t:=t) (vh:=vh) (vs:=vs) (vr:=vr) (vc:=vc) (vu:=vu) (gh:=gh) (gc:=gc) (vn:=vn) (vl:=vl) (sc:=sc) (st:=st) hK hs ht) λc hc=>?_;refine go ?_;exact gQ (c,0) ⟨λh=>absurd hK h,λ_=>⟨rfl,hc⟩⟩
structure apg(k:bN)(s t:List Int)(e:Int):Prop where
 nk:¬eY k->e=180
 ns:eY k->¬oL k s t->e=230
 ok:eY k->oL k s t->e=0
