/- Part. -/
import Derived.Test.YtoilpafpgndilaaGreatLibHJ
set_option linter.all false
set_option maxRecDepth 10000
set_option maxHeartbeats 4000000
namespace Go.Proofs.YtoilpafpgndilaaGreat
open Tryz (prog)
open Go.Ideal Kd
variable{xs:ae Int}
def Us{v:ah}(hl:xs.length<=1000000):aX prog (.func 52) [v] [] [] [aj ai v xs] (λa:ak Addr=>.slice a xs.length xs.length) (λa=>[ap ai (.slice a xs.length xs.length) xs]) (λ_=>[]) (λ_=>True):=by
 refine mq N7 Tz λB w0=>?_;refine Jv ai v (xs:=xs) λaC hxy=>?_;have hlen:aC.length=xs.length:=As
 refine RH (aC:=aC) (v:=v) (E:=ai) ?_;refine ZA (v:=v) (aC:=aC) ai (λe c ev=>?_) (λe i o f c ev=>?_) (λhne i o f c ev=>?_)
 .subst e ev;have hx:xs=[]:=by rw[<- hxy];rfl
  subst hx;simp only[wB];refine go ?_;refine(cZ rfl rfl (Gi (e:=3) s8 rfl)).h ?_;refine go ?_;refine lT ai ?_;exact gQ none trivial
 .subst e ev;have hx:xs=[]:=by rw[<- hxy];rfl
  subst hx;simp only[wB];refine go ?_;refine(cZ rfl rfl (zy (e:=3) s8 rfl)).h ?_;refine go ?_;intro b;refine go ?_;refine Jw (b:=b) ?_;refine go ?_;refine Yl ai aB.here ?_;exact gQ (some ⟨b,0,some 0⟩) trivial
 .subst ev;refine go ?_;refine(cZ rfl rfl (zy (e:=3) s8 rfl)).h ?_;refine go ?_;intro b;refine go ?_;refine Jy (b:=b) ai aC hne s6 (λb'=>?_);refine go ?_;refine wV (b:=b') (m:=aC.length) (f:=ai.n) ai (aC:=aC) rfl (.inr rfl) ?_ (hk:=aB.here);refine Zk (aC:=aC) hne ?_ (λw h=>h _ s7);rw[hxy,hlen];exact gQ (some ⟨b',0,some ai.n⟩) trivial
def Bw(xs zs:ae Int)(k:Nat):Prop:=zs.length=xs.length/\∀i,i<xs.length->zs[i]? =if i<k\/xs.length - 1 - i<k then xs[xs.length - 1 - i]? else xs[i]?
def Bw.zero(xs:ae Int):Bw xs xs 0:=⟨rfl,λi hi=>by rw[if_neg s6]⟩
variable{zs:ae Int}{k:Nat}
def Bw.step{x y:Int}(h:Bw xs zs k)(hk:k<xs.length - 1 - k)(hx:zs[k]? =some x)(hy:zs[xs.length - 1 - k]? =some y):Bw xs ((zs.set k y).set (xs.length - 1 - k) x) (k+1):=by
 obtain⟨h1,h2⟩:=h;refine⟨by rw[ku,ku];exact h1,λi hi=>?_⟩;have hx':=h2 k s6;have hy':=h2 (xs.length - 1 - k) s6;rw[if_neg s6,hx]at hx';rw[if_neg s6,hy]at hy';rw[nY,ku,h1];by_cases e:xs.length - 1 - k=i
 .rw[if_pos e,if_pos s6,if_pos s6,show xs.length - 1 - i=k by omega,hx']
 .rw[if_neg e,nY,h1];by_cases e2:k=i
  .subst e2;rw[if_pos rfl,if_pos hi,if_pos s6,hy']
  .rw[if_neg e2,h2 i hi];by_cases c:i<k\/xs.length - 1 - i<k
   .rw[if_pos c,if_pos s6]
   .rw[if_neg c,if_neg s6]
def Bw.done(h:Bw xs zs k)(hk:¬k<xs.length - 1 - k)(hle:2*k<=xs.length+1):zs=xs.reverse:=by
 obtain⟨h1,h2⟩:=h;apply iH;intro i;by_cases hi:i<xs.length
 .rw[h2 i hi,List.getElem?_reverse hi];by_cases c:i<k\/xs.length - 1 - i<k
  .rw[if_pos c]
  .rw[if_neg c,show xs.length - 1 - i=i by omega]
 .rw[dW s6,dW (by rw[Fq];omega)]
variable{a:ak Addr}{c:Nat}
def anG:fC prog 53 [.slice a 0 c] [] (λ_:Unit=>.tuple ⟨[]⟩) (λ_=>True):=by
 refine gB 53 λB w0=>?_;refine go ?_;refine oh ?_;exact eH
variable{b:Nat}
def anH{f:Nat}{pre:ae ah}(hl:xs.length<=1000000)(hf:f=0\/f=1):aX prog (.func 53) [.slice (some ⟨b,pre.length,some f⟩) xs.length xs.length] [] [pt b (.cells (pre++xs.map iV))] [] (λ_:Unit=>.tuple ⟨[]⟩) (λ_=>[pt b (.cells (pre++xs.reverse.map iV))]) (λ_=>[]) (λ_=>True):=by
 refine gB 53 λB w0=>?_;refine go ?_;refine dV (λy:Nat×ae Int=>xs.length - y.1) (λy=>[(3,iV ((xs.length:Int) - 1 - (y.1:Int))),(2,iV (y.1:Int))]) (λy=>[pt b (.cells (pre++y.2.map iV))]) (λ_=>[]) (λy=>Bw xs y.2 y.1/\2*y.1<=xs.length+1) (0,xs) ⟨Bw.zero xs,by show 2*0<=_;omega⟩ (hl:=by dsimp only[Int.natCast_zero];rw[Int.sub_zero];repeat (first|exact trivial|refine⟨rfl,?_⟩)) (hk:=s9) (body:=?_);rintro⟨k,zs⟩ ⟨hR,hle⟩;dsimp only at hR hle⊢;have hzl:=hR.1;refine aO ?_ ?_<;>intro h1
 .have hk1:k<xs.length - 1 - k:=by omega
  have hj:((xs.length:Int) - 1 - (k:Int))=((xs.length - 1 - k:Nat):Int):=s6
  rw[hj];generalize hjj:xs.length - 1 - k=j at hk1 hj⊢;have hx:zs[k]? =some zs[k]:=bG s6;have hy:zs[j]? =some zs[j]:=bG s6;generalize zs[k]=x at hx;generalize zs[j]=z at hy;have hst:=hR.step s6 hx (by rw[hjj];exact hy);rw[hjj]at hst;refine go ?_;refine ol (b:=b) (o:=pre.length+j*1) (cs:=pre++zs.map iV) (iV z) (JI hy) ?_;refine go ?_;refine ol (b:=b) (o:=pre.length+k*1) (cs:=pre++zs.map iV) (iV x) (JI hx) ?_;refine go ?_;refine jN (b:=b) (o:=pre.length+k*1) (cs:=pre++zs.map iV) (v:=iV z) (cs':=pre++(zs.set k z).map iV) JJ B7 ?_;refine go ?_;refine jN (b:=b) (o:=pre.length+j*1) (cs:=pre++(zs.set k z).map iV) (v:=iV x) (cs':=pre++((zs.set k z).set j x).map iV) JJ (by rw[eF,aR,ku];omega) ?_;refine go ?_;refine aU (k+1,(zs.set k z).set j x) An ⟨hst,by show 2*(k+1)<=_;omega⟩ (hl:=by dsimp only;rw[show(xs.length:Int) - 1 - ((k+1:Nat):Int)=(j:Int) - 1 by omega];repeat (first|exact trivial|refine⟨rfl,?_⟩))
 have hz:=hR.done s6 hle;subst hz;exact eH
def anI{n:Nat}:aX prog (.func 95) [.slice a n c] [] [] [] (λb:Nat=>.func (.func 127) #[] #[ptr' b]) (λ_=>[]) (λb=>[bW b 0 [.slice a n c]]) (λ_=>True):=by
 refine mq TY abx λB w0=>?_;refine go ?_;intro b1;refine go ?_;refine gP b1 ?_;exact gQ b1 trivial
def GZ(hl:xs.length<=1000000):aX prog (.func 53) [.slice a xs.length xs.length] [] [ap ai (.slice a xs.length xs.length) xs] [] (λ_:Unit=>.tuple ⟨[]⟩) (λ_=>[ap ai (.slice a xs.length xs.length) xs.reverse]) (λ_=>[]) (λ_=>True):=by
 by_cases hne:0<xs.length
 .exact aX.ajH (args:=λa=>[.slice a xs.length xs.length]) (zs:=λ_=>xs.reverse) hne (λ_=>List.length_reverse) λb f pre hf=>anH hl hf
 .obtain rfl:xs=[]:=j6.1 s6;intro B w s;obtain⟨S1,s1,back⟩:=s.qU (k1:=[]) (bz:=[ap ai (.slice a 0 0) []]) (F1:=[]) .nil .nil;refine .uy _ (anG (a:=a) (c:=0) S1 w s1) ?_;exact nq
def anJ(hl:xs.length<2^63):
 Gv prog (λx:Int=>[jK x]) (.func 127) [] [ptr' b] [ap ai (.slice a xs.length xs.length) xs] [bW b 0 [.slice a xs.length xs.length]] (λys=>ys=xs):=by
 intro S inv ok step s0 tq y1 y2 F' h0 hok hy;rw[dm,cK];refine mq TZ aby λB w0=>?_;refine go ?_;refine dV (λy:Nat×S=>xs.length - y.1) (λy=>[(7,iV (y.1:Int))]) (λy=>inv y.2++[ap ai (.slice a xs.length xs.length) xs]) (λ_=>[]) (λy=>y.1<=xs.length/\ok (xs.take y.1) y.2/\dA step y.2 (xs.drop y.1)=dA step s0 xs) (0,s0) ⟨bM _,h0,rfl⟩ (hk:=aF.all _) (body:=?_);rintro⟨k,s⟩ ⟨hk,hos,hrun⟩;dsimp only at hk hos hrun⊢;refine aO ?_ ?_<;>intro h1
 .have hx:xs[k]? =some xs[k]:=bG s6;generalize xs[k]=x at hx;have hd:xs.drop k=x::xs.drop (k+1):=by
   exact oE
  have hX:xs.take k++x::xs.drop (k+1)=xs:=by rw[<- hd,nE]
  have gy:=hy _ s _ _ hos hX;rw[hd,dA]at hrun;refine go ?_;refine ZE (v:=.slice a xs.length xs.length) (xs:=xs) k x hx (next:=λb0 o0=>?_) (hk:=aB.app .here _);refine go ?_;refine iy gy (hk:=aF.self _ _) (next:=λ_ _=>?_);cases hst:(step s x).2 with
  |true=>
   have hs1:step s x=((step s x).1,true):=Prod.ext rfl hst;rw[hs1]at hrun;refine go ?_;refine aU (k+1,(step s x).1) An ⟨by show k+1<=_;omega,?_,hrun⟩ (hk:=aF.all _);exact py
  |false=>
   exact gf
 have hke:k=xs.length:=s6
 subst hke;rw[Fp]at hrun;refine go ?_;exact gQ xs rfl (hk:=By)
variable{fn:Fn}{first captured:ae ah}{F1:ae aI}{A:OA}{X:ae Int->Prop}
def anK(hit:Gv prog (λx:Int=>[jK x]) fn first captured [A] F1 X)(hl:∀xs,X xs->xs.length<=1000000):
 aX prog (.func 162) [.slice none 0 0,.func fn ⟨first⟩ ⟨captured⟩] [] [A] F1 (λy:GU=>y.v) (λy=>[ap ai y.v y.xs,A]) (λ_=>[]) (λy=>X y.xs):=by
 refine En Tk aaO λB w0=>?_;refine go ?_;intro b2;refine lT ai ?_;refine uC (λv:ah=>[pt b2 (.cells [v]),ap ai v ([]:ae Int)]) (.slice none 0 0) (h:=?_);refine ajE (Z:=Nat) (λ(ys:ae Int) (x:Int)=>(ys++[x],Out.normal)) (λys=>[aaR ai b2 ys]) (λvs ys=>ys=vs) [] _ (λ_ _=>[]) rfl (λvs s x rest hs hX _=>by rw[hs]) hit DS ?_ ?_ (λ_ _=>trivial)
 .exact cS
 .exact cV
def anL(hit:Gv prog (λx:Int=>[jK x]) fn first captured [A] F1 X)(hl:∀xs,X xs->xs.length<=1000000):
 aX prog (.func 125) [.func fn ⟨first⟩ ⟨captured⟩] [] [A] F1 (λy:GU=>y.v) (λy=>[ap ai y.v y.xs,A]) (λ_=>[]) (λy=>X y.xs):=by
 refine mq Tm aaP λB w0=>?_;refine gC (anK hit hl) λy hy=>?_;dsimp only[List.cons_append,List.nil_append];refine go ?_;exact gQ y hy
def anM(hit:Gv prog (λx:Int=>[jK x]) fn first captured [A] F1 X)(hl:∀xs,X xs->xs.length<=1000000):
 aX prog (.func 94) [.func fn ⟨first⟩ ⟨captured⟩] [] [A] F1 (λy:GU=>y.v) (λy=>[ap ai y.v (bK y.xs),A]) (λ_=>[]) (λy=>X y.xs):=by
 refine mq TJ abq λB w0=>?_;refine gC (anL hit hl) λy hy=>?_;obtain⟨v,xs⟩:=y;dsimp only[List.cons_append,List.nil_append]at hy⊢;have hlen:=hl _ hy;refine Da (E:=ai) (v:=v) (xs:=xs) λa hv=>?_;subst hv;refine gC (JY (a:=a) (zs:=xs) rfl s6) λ_ _=>?_;refine go ?_;exact gQ ⟨.slice a xs.length xs.length,xs⟩ hy
def Dg{vb:ah}{ys:ae Int}(hal:xs.length<2^63):
 aX prog (.func 58) [.slice a xs.length xs.length,vb] [] [ap ai (.slice a xs.length xs.length) xs] [aj ai vb ys] (λ_:Unit=>.bool (decide (xs=ys))) (λ_=>[ap ai (.slice a xs.length xs.length) xs]) (λ_=>[]) (λ_=>True):=by
 refine mq Tn aaQ λB w0=>?_;refine aO ?_ ?_<;>intro h1
 .exact c6
 have hlen:xs.length=ys.length:=s6
 refine go ?_;refine dV (λk=>xs.length - k) (λk:Nat=>[(13,iV (k:Int))]) (λ_=>[ap ai (.slice a xs.length xs.length) xs]) (λ_=>[]) (λk=>k<=xs.length/\∀j,j<k->xs[j]? =ys[j]?) 0 ⟨s6,λj hj=>by omega⟩ (hk:=s9) (body:=?_);rintro k ⟨hkx,hsame⟩;refine aO ?_ ?_<;>intro h2
 .have hx:xs[k]? =some xs[k]:=bG s6;generalize xs[k]=x at hx;refine go ?_;refine ZE (v:=.slice a xs.length xs.length) (xs:=xs) k x hx (next:=λb0 o0=>?_);refine go ?_;intro _ _ y hy;refine aO ?_ ?_<;>intro h3
  .exact cP
  exact hU
 refine bF ?_;have:xs=ys:=by
  exact cI
 rw[eT this];rfl
def qh(p:ae Int->Bool)(L:ae (ae Int)):Int:=match L.findIdx? p with
 |some i=>(i:Int)
 |none=> -1
variable{p:ae Int->Bool}{L:ae (ae Int)}
def abX{x:ae Int}(h:(L.take k).any p=false)(hx:L[k]? =some x)(hp:p x=true):qh p L=(k:Int):=by
 have hk:=(aV.1 hx).1;have:L.findIdx? p=some k:=by
  rw[adQ];refine⟨hk,by rw[(aV.1 hx).2];exact hp,λj hj gD=>?_⟩;have h1:=KW.1 h L[j] (aT (i:=j) (by rw[rE,if_pos hj];exact bG s6));exact h1 gD
 unfold qh;rw[this]
def Ut(h:L.any p=false):qh p L= -1:=by
 have:L.findIdx? p=none:=by
  rw[VZ];intro x hx;have:=KW.1 h x hx;simpa using this
 unfold qh;rw[this]
def abY(L:ae (ae Int))(w:ae Int):qh (λx=>decide (bK x=bK w)) L=xm L w:=rfl
def Uu{cap:ae ah}{va:ah}{xs:ae (ae Int)}(hl:xs.length<2^63)(hp:∀x∈xs,zM prog fn first cap F1 p x):
 fC prog 96 [va,.func fn ⟨first⟩ ⟨cap⟩] (aj (az ai) va xs::F1) (λ_:Unit=>iV (qh p xs)) (λ_=>True):=by
 refine mq Oh T9 λB w0=>?_;refine gF (az ai) va xs λaa ca ea=>?_;subst ea;refine gN xs.length 8 (λk=>k<=xs.length/\(xs.take k).any p=false) ⟨s6,s7⟩ ?_;rintro k ⟨hk,hno⟩;refine aO ?_ ?_<;>intro h1
 .refine gX (az ai) (xs:=xs) λ_ _ x (u:ah) hx=>?_;refine gC (hp x (aT hx) u) λ_ _=>?_;refine go ?_;refine Cw rfl (λh2=>?_) (λh2=>?_)
  .refine bF ?_;rw[abX hno hx h2];rfl
  .exact li
 have hke:k=xs.length:=s6
 subst hke;rw[fu]at hno;refine bF ?_;rw[Ut hno];rfl
end Go.Proofs.YtoilpafpgndilaaGreat
namespace Go.Proofs.YtoilpafpgndilaaGreat
open Tryz (prog)
open Go.Ideal Kd
def uR(xs:ae Int):ae ah:=(List.range 256).map λj:Nat=>.bool (decide ((j:Int)∈xs))
def abZ(xs:ae Int):(uR xs).length=256:=by unfold uR;rw[aR,nG]
variable{j:Nat}{xs:ae Int}
def anN(hj:j<256):(uR xs)[0+j*1]? =some (.bool (decide ((j:Int)∈xs))):=by
 rw[eB,lK];unfold uR;rw[bU,oI hj];rfl
def anO(hj:j<256):(uR xs).set (0+j*1) (.bool true)=uR (xs++[(j:Int)]):=by
 rw[eB,lK];apply iH;intro i;rw[nY,abZ];unfold uR;by_cases hi:i<256
 .rw[bU,oI hi,bU,oI hi];by_cases e:j=i
  .subst e;simp[hj]
  .have e2:¬(i:Int)=(j:Int):=by omega
   simp[e,e2]
 .exact j8
def anP:uR []=List.replicate 256 (.bool false):=by
 unfold uR;apply iH;intro i;rw[bU,HY];by_cases hi:i<256
 .rw[oI hi,if_pos hi];simp
 .rw[dW (by rw[nG];omega),if_neg hi];rfl
def anQ{B:ae Nat}{w0:Wd}{kl:ae OA}{F:ae aI}{Q:IH->Prop}{A A':OA}(e:A=A')(h:R Q B w0 (A'::kl) F):R Q B w0 (A::kl) F:=by rw[e];exact h
variable{n:Nat}{v:ah}
def Ka(hn:n<=256)(hl:xs.length<2^63):fC prog 102 [v,iV (n:Int)] [aj ai v xs] (λb:Bool=>.bool b) (λb=>b=true↔bD n xs):=by
 refine gB 102 λB w0=>?_;refine gF ai v xs λav cv ev=>?_;subst ev;refine go ?_;intro b5;refine anQ (A':=pt b5 (.cells (uR []))) (by rw[anP]<;>rfl) ?_;refine go ?_;refine dV (λk=>xs.length - k) (λk:Nat=>[(10,iV (k:Int))]) (λk=>[pt b5 (.cells (uR (xs.take k)))]) (λ_=>[]) (λk=>k<=xs.length/\(∀x∈xs.take k,0<=x/\x<(n:Int))/\(xs.take k).Nodup) 0 ⟨bM _,s7,s7⟩ (hk:=s9) (body:=?_);rintro k ⟨hk,hin,hnd⟩;refine aO ?_ ?_<;>intro h1
 .refine go ?_;intro _ _ x hx;have hxm:=aT hx;have htk:=fF hx;have hno:¬(0<=x/\x<(n:Int))->∀b:Bool,b=false->(b=true↔bD n xs):=λh b hb=>⟨(λe=>by rw[hb]at e;cases e),λq=>absurd (q.dJ x hxm) h⟩
  refine gH ?_ ?_<;>intro h2
  rotate_left
  .exact sq
  refine gH ?_ ?_<;>intro h3
  rotate_left
  .exact sq
  obtain⟨m,rfl⟩:=gV (by omega:0<=x);refine go ?_;refine ol (b:=b5) (o:=0+m*1) (cs:=uR (xs.take k)) (.bool (decide ((m:Int)∈xs.take k))) (anN s6) ?_;refine aO ?_ ?_<;>intro h4
  .refine go ?_;refine gQ false ⟨(λh=>by cases h),λq=>?_⟩;have h5:=q.nd.sublist (List.take_sublist (k+1) xs);rw[htk,jA]at h5;exact absurd rfl (h5.2.2 _ h4 _ (bA.2 rfl))
  refine go ?_;refine jN (b:=b5) (o:=0+m*1) (cs:=uR (xs.take k)) (v:=.bool true) (cs':=uR (xs.take (k+1))) (by rw[anO s6,htk]) (by rw[abZ];omega) ?_;refine go ?_;refine aU (k+1) s6 ⟨s6,?_,?_⟩
  .rw[htk];intro y hy;rcases fq.1 hy with hy|hy
   .exact hin y hy
   .rw[bA.1 hy];omega
  .rw[htk,jA];exact⟨hnd,s7,λa ha b hb=>by rw[bA.1 hb];exact λe=>h4 (e▸ha)⟩
 have hke:k=xs.length:=s6
 subst hke;rw[fu]at hin hnd;refine go ?_;refine gQ (decide ((xs.length:Int)=(n:Int))) ?_;rw[jQ];exact⟨λe=>⟨s6,hin,hnd⟩,λq=>by have:=q.len;omega⟩
def Uv(hn:n<=256)(hl:xs.length<2^63):fC prog 55 [v,iV (n:Int)] [aj ai v xs] (λe:Int=>iV e) (λe=>e=0↔bD n xs):=by
 refine gB 55 λB w0=>?_;refine aO ?_ ?_<;>intro h1
 .exfalso;omega
 refine gC (Ka (xs:=xs) (n:=n) hn hl) λb hb=>?_;refine go ?_;cases b with
 |false=>
  refine go ?_;exact gQ 110 ⟨(λh=>by cases h),λh=>by have:=hb.2 h;cases this⟩
 |true=>
  refine go ?_;exact gQ 0 ⟨λ_=>hb.1 rfl,λ_=>rfl⟩
def gM(d:ae Int)(n:Nat):ae Int:=d++List.replicate (n - d.length) 0
variable{d:ae Int}
def xC(h:d.length<=n):(gM d n).length=n:=by unfold gM;rw[eF,wC];omega
def Bz{k:Nat}{x:Int}(hk:k=d.length)(h:k<n):(gM d n).set k x=gM (d++[x]) n:=by
 subst hk;unfold gM;rw[Af _ _ (aZ _),nX,show n - d.length=(n - (d.length+1))+1 by omega,xO,VV,eF,u7,List.append_assoc];rfl
def BA(h:d.length=n):gM d n=d:=by unfold gM;rw[h,nX];simp
def ab0(n:Nat):gM [] n=List.replicate n 0:=by unfold gM;simp
def BB(n:Nat):zeros [iV 0] n=(gM [] n).map iV:=by
 rw[ab0];exact qt
variable{a b:ae Int}{va vb:ah}
def ab1(ha:a.length=n)(hb:iY n b)(hl:b.length<=1000000):aX prog (.func 103) [va,vb] [] [] [aj ai va a,aj ai vb b] (λbm:Nat=>.slice (some ⟨bm,0,some 0⟩) b.length b.length) (λbm=>[pt bm (.cells ((bC a b).map iV))]) (λ_=>[]) (λ_=>True):=by
 refine gB 103 λB w0=>?_;refine gF ai va a λaa ca ea=>?_;subst ea;refine gF ai vb b λab cb eb=>?_;subst eb;refine go ?_;refine sW b.length ⟨s6,s6,s6⟩ λbm=>?_;rw[BB];refine go ?_;refine dV (λk=>b.length - k) (λk:Nat=>[(13,iV (k:Int))]) (λk=>[pt bm (.cells ((gM (bC a (b.take k)) b.length).map iV))]) (λ_=>[]) (λk=>k<=b.length) 0 (bM _) (hk:=s9) (body:=?_);intro k hk;have hcl:(bC a (b.take k)).length=k:=by unfold bC;rw[aR,fU];omega
 refine aO ?_ ?_<;>intro h1
 .refine go ?_;intro _ _ x hx;have mZ:=hb x (aT hx);obtain⟨m,rfl⟩:=gV mZ.1;refine go ?_;intro _ _ z hz;have hzg:=iW hz;have htk:bC a (b.take (k+1))=bC a (b.take k)++[z]:=by
   unfold bC;rw[fF hx,cB,l6,hzg]
  refine go ?_;refine jN (b:=bm) (o:=0+k*1) (cs:=(gM (bC a (b.take k)) b.length).map iV) (v:=iV z) (cs':=(gM (bC a (b.take (k+1))) b.length).map iV) Hp GP ?_;refine go ?_;exact aU (k+1) s6 s6
 have hke:k=b.length:=s6
 subst hke;rw[fu]at hcl⊢;rw[BA hcl];refine go ?_;exact gQ bm trivial
def anR{bm:Nat}:oK (pt bm (.cells ((bC a b).map iV))) [aj ai (.slice (some ⟨bm,0,some 0⟩) b.length b.length) (bC a b)]:=by
 have hl:(bC a b).length=b.length:=by unfold bC;rw[aR]
 have:=qP (b:=bm) (f:=0) (c:=b.length) (xs:=bC a b) (hc:=by rw[hl];exact aZ _);rw[hl]at this;exact this
def EQ(a b:ae Int):Prop:=a.length<=256/\bD a.length a/\bD a.length b
def ab2(ha:a.length<2^63)(hb:b.length<2^63):aX prog (.func 62) [va,vb] [] [] [aj ai va a,aj ai vb b] (λy:ah×Int=>.tuple ⟨[y.1,iV y.2]⟩) (λ_=>[])
 (λy=>[nQ (y.2=0) (aj ai y.1 (bC a b))]) (λy=>(y.2=0↔EQ a b)/\(y.2≠0->y=(.slice none 0 0,110))):=by
 have hend:¬EQ a b->((110:Int)=0↔EQ a b)/\((110:Int)≠0->((Value.slice none 0 0,(110:Int)):ah×Int)=(.slice none 0 0,110)):=λh=>⟨⟨(λe=>by cases e),λe=>absurd e h⟩,λ_=>rfl⟩
 refine gB 62 λB w0=>?_;refine gF ai va a λaa ca ea=>?_;subst ea;refine gH ?_ ?_<;>intro h1
 rotate_left
 .refine go ?_;refine tT (c:=(110:Int)=0) (f:=aj ai (.slice none 0 0) (bC a b)) s7 ?_;exact pS
 have hal:a.length<=256:=s6
 refine gC (Ka (xs:=a) (n:=a.length) hal ha) λc hc=>?_;refine go ?_;cases c with
 |false=>
  refine go ?_;refine tT (c:=(110:Int)=0) (f:=aj ai (.slice none 0 0) (bC a b)) s7 ?_;exact gQ (.slice none 0 0,110) (hend λh=>by have:=hc.2 h.2.1;cases this)
 |true=>
 have hpa:=hc.1 rfl;refine gC (Ka (xs:=b) (n:=a.length) hal hb) λc2 hc2=>?_;refine go ?_;cases c2 with
 |false=>
  refine go ?_;refine tT (c:=(110:Int)=0) (f:=aj ai (.slice none 0 0) (bC a b)) s7 ?_;exact gQ (.slice none 0 0,110) (hend λh=>by have:=hc2.2 h.2.2;cases this)
 |true=>
 have hpb:=hc2.1 rfl;refine gC (ab1 (a:=a) (b:=b) (n:=a.length) rfl hpb.dJ (by have:=hpb.len;omega)) λbm _=>?_;refine gZ (anR (bm:=bm) (a:=a) (b:=b)) ?_;refine go ?_;refine vU (c:=(0:Int)=0) (f:=aj ai (.slice (some ⟨bm,0,some 0⟩) b.length b.length) (bC a b)) s7 ?_;exact gQ (.slice (some ⟨bm,0,some 0⟩) b.length b.length,0) ⟨⟨λ_=>⟨hal,hpa,hpb⟩,λ_=>rfl⟩,λh=>absurd rfl h⟩
def ER(p:ae Int):Prop:=p.length<=256/\bD p.length p
variable{p:ae Int}
def anT{zs:ae Int}(h:bD p.length p)(hl:zs.length=p.length)(hz:∀(i:Nat) x,p[i]? =some x->zs[x.toNat]? =some (i:Int)):zs=cz p:=by
 apply iH;intro j;by_cases hj:j<p.length
 .obtain⟨c,c0,c1,hc⟩:=h.onto (y:=(j:Int)) s6 s6;have h1:=oQ (p:=p) c0 s6;rw[hc]at h1;have h2:=hz _ _ h1;rw[fM,wE c0]at h2;have h3:=oQ (p:=cz p) (c:=(j:Int)) s6 (by rw[CW];omega);rw[<- hc,h.uK c0 c1,hc,fM]at h3;rw[h2,h3]
 .rw[dW s6,dW (by rw[CW];omega)]
def ab3{vp:ah}(hp:p.length<2^63):aX prog (.func 61) [vp] [] [] [aj ai vp p] (λy:ah×Int=>.tuple ⟨[y.1,iV y.2]⟩) (λ_=>[])
 (λy=>[nQ (y.2=0) (aj ai y.1 (cz p))]) (λy=>(y.2=0↔ER p)/\(y.2≠0->y=(.slice none 0 0,110))):=by
 have hend:¬ER p->((110:Int)=0↔ER p)/\((110:Int)≠0->((Value.slice none 0 0,(110:Int)):ah×Int)=(.slice none 0 0,110)):=λh=>⟨⟨(λe=>by cases e),λe=>absurd e h⟩,λ_=>rfl⟩
 refine gB 61 λB w0=>?_;refine gF ai vp p λaa ca ea=>?_;subst ea;refine gH ?_ ?_<;>intro h1
 rotate_left
 .refine go ?_;refine tT (c:=(110:Int)=0) (f:=aj ai (.slice none 0 0) (cz p)) s7 ?_;exact pS
 have hpl:p.length<=256:=s6
 refine gC (Ka (xs:=p) (n:=p.length) hpl hp) λc hc=>?_;refine go ?_;cases c with
 |false=>
  refine go ?_;refine tT (c:=(110:Int)=0) (f:=aj ai (.slice none 0 0) (cz p)) s7 ?_;exact gQ (.slice none 0 0,110) (hend λh=>by have:=hc.2 h.2;cases this)
 |true=>
 have zP:=hc.1 rfl;refine go ?_;refine sW p.length ⟨s6,s6,s6⟩ λbm=>?_;rw[BB];refine go ?_;refine dV (λy:Nat×ae Int=>p.length - y.1) (λy=>[(21,iV (y.1:Int))]) (λy=>[pt bm (.cells (y.2.map iV))]) (λ_=>[]) (λy=>y.1<=p.length/\y.2.length=p.length/\∀(i:Nat) x,i<y.1->p[i]? =some x->y.2[x.toNat]? =some (i:Int)) (0,gM [] p.length) ⟨bM _,xC (bM _),λi x hi=>absurd hi (yU _)⟩ (hk:=s9) (body:=?_);rintro⟨k,zs⟩ ⟨hk,hzl,hz⟩;dsimp only at hk hzl hz⊢;refine aO ?_ ?_<;>intro h2
 .refine go ?_;intro _ _ x hx;have mZ:=zP.dJ x (aT hx);obtain⟨m,rfl⟩:=gV mZ.1;refine go ?_;refine jN (b:=bm) (o:=0+m*1) (cs:=zs.map iV) (v:=iV (k:Int)) (cs':=(zs.set m (k:Int)).map iV) (by rw[eB,lK,pQ]) tU ?_;refine go ?_;refine aU (k+1,zs.set m (k:Int)) (by show p.length - (k+1)<p.length - k;omega) ⟨by dsimp only;omega,by rw[ku];exact hzl,λi z hi hpi=>?_⟩;dsimp only at hi⊢;by_cases e:i=k
  .subst e;rw[hx]at hpi;cases hpi;rw[fM,nY,if_pos rfl,if_pos s6]
  .have:=hz i z s6 hpi;rw[nY,if_neg (λq=>e ?_)]
   .exact this
   .have hzr:=zP.dJ z (aT hpi);have PX:z=(m:Int):=by omega
    subst PX;exact GH zP.nd hpi hx
 have hke:k=p.length:=s6
 subst hke;have hfin:zs=cz p:=anT zP hzl λi x hx=>hz i x (aV.1 hx).1 hx;subst hfin;refine mD (A:=pt bm (.cells ((cz p).map iV))) (fs:=[aj ai (.slice (some ⟨bm,0,some 0⟩) p.length p.length) (cz p)]) (by have:=qP (b:=bm) (f:=0) (c:=p.length) (xs:=cz p) (hc:=by rw[CW];exact aZ _);rw[CW]at this;exact this) (h:=?_);refine go ?_;refine vU (c:=(0:Int)=0) (f:=aj ai (.slice (some ⟨bm,0,some 0⟩) p.length p.length) (cz p)) s7 ?_;exact gQ (.slice (some ⟨bm,0,some 0⟩) p.length p.length,0) ⟨⟨λ_=>⟨hpl,zP⟩,λ_=>rfl⟩,λh=>absurd rfl h⟩
end Go.Proofs.YtoilpafpgndilaaGreat
namespace Go.Proofs.YtoilpafpgndilaaGreat
open Tryz (prog)
open Go.Ideal Kd Canon Gph
def mI(k:aQ)(s t:ae Int)(r:dP):Bool:=
 if r.kind=1\/r.kind=2 then kP (k.lists.getD r.family.toNat []) s r.family kL
 else if r.kind=3 then kP (k.lists.getD r.family.toNat []) s r.family kL&&pJ (oW k) t
 else if r.kind=4 then kP (k.lists.getD r.family.toNat []) s r.family zF&&pJ (oW k) t
 else if r.kind=5 then kP (k.lists.getD r.family.toNat []) s r.family xq
 else if r.kind=7 then ow k.aP s&&pJ (oW k) t
 else if r.kind=6\/r.kind=8\/r.kind=9\/r.kind=10 then ow k.aP s
 else true
def keepR(k:aQ)(s t:ae Int)(r:dP):Bool:=rX r.set.toNat r.other.toNat t&&mI k s t r
structure eU(k:aQ)(s t:List Int):Prop where
 pc:bD k.grid.cells.length s
 ps:bD k.decl.symbols.length t
 tu:∀r∈k.decl.rules,keepR k s t r=true
variable{k:aQ}
def bE.Oq(h:bE k){f:Nat}{L:ae (ae Int)}(hL:k.lists[f]? =some L):qX k.grid.cells.length L (f:Int):=by
 rw[h.lists]at hL;rw[h.grid];exact akX h.bO (λr hr=>⟨(h.typ.Dc r hr).1.2,(h.typ.Dc r hr).2⟩) hL
def bE.Ot(h:bE k):xu k.grid.cells.length k.aP:=by
 rw[h.aP,h.grid];exact⟨CR _,λl hl=>(NE l hl).2⟩
def bE.kinds(h:bE k){r:dP}(hr:r∈k.decl.rules):1<=r.kind/\r.kind<=11:=by
 refine ann ?_;have:=h.typ.read;unfold oV at this;rw[List.filterMap_eq_nil_iff]at this;obtain⟨j,hj⟩:=iM hr;have:=this (r,j) (BZ.2 hj);cases h:(jG r.kind).read with
 |true=>rfl
 |false=>simp[h]at this
def ab5(c:ji)(r:dP):Prop:=((r.kind=2\/r.kind=3)/\c.type=2/\c.family=r.family)\/(r.kind=5/\c.type=3/\c.family=r.family)\/(r.kind=11/\c.type=1/\c.family=0)
def bE.anU(h:bE k){r:dP}(hr:r∈k.decl.rules):(r.aS= -1/\r.kind≠5/\r.kind≠11)\/∃c,0<=r.aS/\k.decl.bV[r.aS.toNat]? =some c/\ab5 c r:=by
 have hkd:=h.kinds hr;have hx:=(h.typ.form.qZ r hr).clu _ rfl;have hcp:=λc (hc:k.decl.bV[r.aS.toNat]? =some c)=>(h.typ.form.om _ c hc).2;have Uw:r.kind=1\/r.kind=2\/r.kind=3\/r.kind=4\/r.kind=5\/r.kind=6\/r.kind=7\/r.kind=8\/r.kind=9\/r.kind=10\/r.kind=11:=s6
 have key:∀need:Int,need=(if(jG r.kind).op=true/\r.iX≠GV then 2 else(jG r.kind).aS)->(need=0->r.kind≠5/\r.kind≠11)/\(need=2->r.kind=2\/r.kind=3)/\(need=3->r.kind=5)/\(need=1->r.kind=11)/\(need=0\/need=1\/need=2\/need=3):=by
  intro need hn;rcases Uw with e|e|e|e|e|e|e|e|e|e|e;all_goals (rw[e]at hn⊢;simp[jG]at hn;(try split at hn)<;>(refine⟨λh=>?_,λh=>?_,λh=>?_,λh=>?_,?_⟩<;>omega))
 obtain⟨k0,k2,k3,k1,kk⟩:=key _ rfl;generalize(if(jG r.kind).op=true/\r.iX≠GV then 2 else(jG r.kind).aS:Int)=need at hx k0 k1 k2 k3 kk;rcases hx with⟨a,_,b⟩|⟨a,b,_,c,c1,c2,c3⟩
 .exact .inl ⟨b,k0 a⟩
 .refine .inr ⟨c,b,c1,?_⟩;rcases kk with e|e|e|e
  .exact absurd e a
  .have:=hcp c c1;unfold Bu at this;exact .inr (.inr ⟨k1 e,s6,s6⟩)
  .exact .inl ⟨k2 e,s6,s6⟩
  .exact .inr (.inl ⟨k3 e,s6,s6⟩)
def bE.anV(h:bE k){i:Nat}{c:ji}(hc:k.decl.bV[i]? =some c):∃r∈k.decl.rules,r.aS=(i:Int)/\ab5 c r:=by
 have h1:=(h.typ.form.om i c hc).1;have hm:(i:Int)∈k.decl.rules.map (·.aS):=List.count_pos_iff.1 s6;obtain⟨r,hr,e⟩:=bS.1 hm;rcases h.anU hr with⟨a,_⟩|⟨c',b1,b2,b3⟩
 .omega
 .rw[e,fM,hc]at b2;cases b2;exact⟨r,hr,e,b3⟩
def yL(c:ji):ae Int->ae Int->Bool:=if c.type=3 then xq else kL
variable{s t:ae Int}
def eU.rule(h:eU k s t){r:dP}(hr:r∈k.decl.rules):rX r.set.toNat r.other.toNat t=true/\
 ((r.kind=1\/r.kind=2\/r.kind=3)->kP (k.lists.getD r.family.toNat []) s r.family kL=true)/\((r.kind=3\/r.kind=4\/r.kind=7)->pJ (oW k) t=true)/\
 (r.kind=4->kP (k.lists.getD r.family.toNat []) s r.family zF=true)/\(r.kind=5->kP (k.lists.getD r.family.toNat []) s r.family xq=true)/\((6<=r.kind/\r.kind<=10)->ow k.aP s=true):=by
 have h1:=h.tu r hr;unfold keepR mI at h1;rw[eP]at h1;refine⟨h1.1,?_⟩;have h2:=h1.2;refine⟨λe=>?_,λe=>?_,λe=>?_,λe=>?_,λe=>?_⟩
 .rcases e with e|e|e
  .rw[if_pos (.inl e)]at h2;exact h2
  .rw[if_pos (.inr e)]at h2;exact h2
  .rw[if_neg s6,if_pos e,eP]at h2;exact h2.1
 .rcases e with e|e|e
  .rw[if_neg s6,if_pos e,eP]at h2;exact h2.2
  .rw[if_neg s6,if_neg s6,if_pos e,eP]at h2;exact h2.2
  .rw[if_neg s6,if_neg s6,if_neg s6,if_neg s6,if_pos e,eP]at h2;exact h2.2
 .rw[if_neg s6,if_neg s6,if_pos e,eP]at h2;exact h2.1
 .rw[if_neg s6,if_neg s6,if_neg s6,if_pos e]at h2;exact h2
 .rw[if_neg s6,if_neg s6,if_neg s6,if_neg s6]at h2;by_cases e7:r.kind=7
  .rw[if_pos e7,eP]at h2;exact h2.1
  .rw[if_neg e7,if_pos s6]at h2;exact h2
def anW(hK:bE k)(hk:eU k s t){i:Nat}{c:ji}(hc:k.decl.bV[i]? =some c):∃L,k.lists[c.family.toNat]? =some L/\qX k.grid.cells.length L c.family/\∀j,j<L.length->∃i,Goes L s c.family (yL c) j i:=by
 have hf:=hK.iK c (aT hc);have hL:k.lists[c.family.toNat]? =some (k.lists[c.family.toNat]'(s6)):=bG _;have oC:=hK.Oq hL;rw[wE hf.1]at oC;refine⟨_,hL,oC,?_⟩;obtain⟨r,hr,e,hcr⟩:=hK.anV hc;obtain⟨_,k1,_,_,k5,_⟩:=hk.rule hr;unfold yL;rcases hcr with⟨a,b,d⟩|⟨a,b,d⟩|⟨a,b,d⟩
 .rw[if_neg s6];have:=k1 s6;rw[<- d,gJ hL]at this;exact(CZ oC hk.pc).1 this
 .rw[if_pos b];have:=k5 a;rw[<- d,gJ hL]at this;exact(CZ oC hk.pc).1 this
 .rw[if_neg s6];intro j hj;have hl0:k.lists[c.family.toNat]? =some (pI k.grid.cells.length):=by
   rw[d,hK.lists,hK.grid];rfl
  rw[hL]at hl0;have hl0:=Option.some.inj hl0;have hn:(pI k.grid.cells.length).length=k.grid.cells.length:=Si _;rw[hl0]at hj⊢;have hr2:=hk.pc.at_ (c:=(j:Int)) s6 s6;have hget:∀m,m<k.grid.cells.length->(pI k.grid.cells.length)[m]? =some [(m:Int)]:=λm hm=>by
   unfold pI;rw[bU,oI hm];rfl
  refine⟨(aH s (j:Int)).toNat,_,_,hget j s6,hget _ s6,?_,?_,λ_=>wE hr2.1⟩
  .rw[wE hr2.1];exact List.Perm.refl _
  .rw[wE hr2.1];exact EH.2 (List.Perm.refl _)
def iE(s l l':ae Int):Bool:=!decide (img s l=l')&&decide ((img s l).reverse=l')
def xD(c:ji)(s t l l' v:ae Int):ae Int:=if c.type=1 then img t v else if c.type=3/\iE s l l'=true then v.reverse else v
def fw(k:aQ)(s t:ae Int)(g:Clue):Clue:=
 match k.decl.bV[g.aS.toNat]? with
 |none=>g
 |some c=>⟨g.aS,iQ (k.lists.getD c.family.toNat []) s c.family g.at_,xD c s t ((k.lists.getD c.family.toNat []).getD g.at_.toNat []) ((k.lists.getD c.family.toNat []).getD (iQ (k.lists.getD c.family.toNat []) s c.family g.at_).toNat []) g.values⟩
structure Kb(k:aQ)(s t:List Int)(g:Clue)(c:ji)(L:List (List Int))(j i:Nat)(l l':List Int):Prop where
 aS:0<=g.aS
 hc:k.decl.bV[g.aS.toNat]? =some c
 hL:k.lists[c.family.toNat]? =some L
 iK:qX k.grid.cells.length L c.family
 at_:g.at_=(j:Int)
 hl:L[j]? =some l
 hl':L[i]? =some l'
 goes:Goes L s c.family (yL c) j i
 perm:l'.Perm (img s l)
 eq:yL c l' (img s l)=true
 img:fw k s t g=⟨g.aS,(i:Int),xD c s t l l' g.values⟩
 cells:qj k g=l
 cells':qj k (fw k s t g)=l'
def yM(hK:bE k)(hk:eU k s t){g:Clue}(hg:ou k g):∃c L j i l l',Kb k s t g c L j i l l':=by
 obtain⟨c,L,l,h1,h2,h3,h4,h5,h6,h7⟩:=hg.cells;obtain⟨L',hL',oC,hgo⟩:=anW hK hk h1;rw[h2]at hL';cases hL';obtain⟨j,hj⟩:=gV h5;rw[hj,fM]at h3;obtain⟨i,hgi⟩:=hgo j s6;have hw:=hgi.iQ oC;have anX:=hgi;obtain⟨l0,l',a1,a2,a3,a4,a5⟩:=hgi;rw[h3]at a1;cases a1;have him:fw k s t g=⟨g.aS,(i:Int),xD c s t l l' g.values⟩:=by
  unfold fw;rw[h1];dsimp only;rw[gJ h2,hj,hw,fM,fM,gJ h3,gJ a2]
 refine⟨c,L,j,i,l,l',h4,h1,h2,oC,hj,h3,a2,anX,a3,a4,him,h7,?_⟩;rw[him];unfold qj Sr;dsimp only;rw[h1];dsimp only;rw[gJ h2,fM,gJ a2]
def Ou(hK:bE k)(hk:eU k s t){g:Clue}(hg:ou k g):ou k (fw k s t g):=by
 obtain⟨c,L,j,i,l,l',G⟩:=yM hK hk hg;obtain⟨c',L',h1,h2,h3,h4,h5,h6⟩:=hg;rw[G.hc]at h2;cases h2;rw[G.img];have hi:=(aV.1 G.hl').1;refine⟨c,L,h1,G.hc,G.hL,by show(0:Int)<=(i:Int);omega,by show(i:Int)<_;omega,?_⟩;unfold xD;dsimp only;rcases h6 with⟨a,b,d⟩|⟨a,b,d⟩|⟨a,a2,b,d⟩
 .refine .inl ⟨a,?_⟩;rw[if_pos a,EF];refine⟨b,λx hx=>?_⟩;obtain⟨v,hv,rfl⟩:=bS.1 hx;have:=d v hv;have:=hk.ps.at_ (c:=v) s6 s6;omega
 .refine .inr (.inl ⟨a,?_⟩);rw[if_neg s6,if_neg s6];exact⟨b,d⟩
 .refine .inr (.inr ⟨a,a2,?_⟩);rw[if_neg a];split
  .rw[Fq];exact⟨b,λx hx=>d x (List.mem_reverse.1 hx)⟩
  .exact⟨b,d⟩
def anY(hK:bE k)(hk:eU k s t){a b:Clue}(ha:ou k a)(hb:ou k b)(e:fo (fw k s t a) (fw k s t b)=0):fo a b=0:=by
 obtain⟨c,L,j,i,l,l',G⟩:=yM hK hk ha;obtain⟨c2,L2,j2,i2,l2,l2',G2⟩:=yM hK hk hb;rw[tK,G.img,G2.img]at e;obtain⟨e1,e2⟩:=e;dsimp only at e1 e2;have h1:=G.hc;rw[e1,G2.hc]at h1;cases h1;have h2:=G.hL;rw[G2.hL]at h2;cases h2;have hii:i=i2:=s6
 subst hii;have:=G.goes.inj G.iK hk.pc G2.goes;rw[tK,G.at_,G2.at_];exact⟨e1,s6⟩
variable{p x:ae Clue}
def Kc(hK:bE k)(hk:eU k s t)(hQ:fK k p)(hx:ik (p.map (fw k s t)) x):∀g,g∈x↔g∈p.map (fw k s t):=by
 intro g;refine⟨hx.sub g,λhg=>?_⟩;obtain⟨a,ha,rfl⟩:=bS.1 hg;obtain⟨r,hr,hp,_⟩:=hx.all _ hg;obtain⟨b,hb,rfl⟩:=bS.1 (hx.sub r hr);have h0:=tK.1 (anY hK hk (hQ.right a ha) (hQ.right b hb) hp);have:=ako hQ ha hb h0.1 h0.2;subst this;exact hr
def anZ(h:x.Pairwise λa b=>fo a b<0):∀(i:Nat) a b,x[i]? =some a->x[i+1]? =some b->fo a b<0:=by
 intro i a b ha hb;obtain⟨h1,h2⟩:=aV.1 ha;obtain⟨h3,h4⟩:=aV.1 hb;rw[<- h2,<- h4];exact yZ.1 h i (i+1) h1 h3 s6
def xE(hK:bE k)(hk:eU k s t)(hQ:fK k p)(hx:ik (p.map (fw k s t)) x):fK k x:=by
 refine⟨?_,λg hg=>?_,anZ hx.inc⟩
 .have:=akv hx;rw[aR]at this;have:=hQ.len;omega
 .obtain⟨a,ha,rfl⟩:=bS.1 (hx.sub g hg);exact Ou hK hk (hQ.right a ha)
def ab6(h:fK k p):p.Pairwise λa b=>fo a b<0:=by
 rw[yZ];intro i j hi hj hij;have:=NG h (j - (i+1)) i p[i] p[j] (bG hi) (by rw[show i+1+(j - (i+1))=j by omega];exact bG hj);exact this
end Go.Proofs.YtoilpafpgndilaaGreat
namespace Go.Proofs.YtoilpafpgndilaaGreat
open Tryz (prog)
open Go.Ideal Kd Canon Gph
def Ke(s t grid:ae Int):ae Int:=img t (bC grid (cz s))
structure lX(n m:Nat)(s t grid y:List Int):Prop where
 ps:bD n s
 pt:bD m t
 len:grid.length=n
 Kg:y.length=n
 tN:∀x∈grid,0<=x/\x<(m:Int)
 at_:∀c,0<=c->c<(n:Int)->aH y (aH s c)=aH t (aH grid c)
variable{s t grid:ae Int}
def an0:(Ke s t grid).length=s.length:=by unfold Ke bC;rw[EF,aR,CW]
def an1{n m:Nat}(hs:bD n s)(ht:bD m t)(hl:grid.length=n)(hg:∀x∈grid,0<=x/\x<(m:Int)):lX n m s t grid (Ke s t grid):=by
 refine⟨hs,ht,hl,by rw[an0];exact hs.len,hg,λc c0 c1=>?_⟩;have hr:=hs.at_ c0 c1;unfold Ke;have h1:(cz s).length=n:=by rw[CW];exact hs.len
 have h2:=xk (a:=grid) (b:=cz s) (c:=aH s c) hr.1 (by rw[h1];exact hr.2);rw[hs.uK c0 c1]at h2;have h3:(bC grid (cz s)).length=n:=by unfold bC;rw[aR];exact h1
 have h4:bC t (bC grid (cz s))=img t (bC grid (cz s)):=rfl;rw[<- h4,xk hr.1 (by rw[h3];exact hr.2),h2]
section
variable {n m:Nat} {s t grid y:ae Int}
def lX.dJ(h:lX n m s t grid y){c:Int}(c0:0<=c)(c1:c<(n:Int)):0<=aH grid c/\aH grid c<(m:Int):=h.tN _ (SI c0 (by rw[h.len];exact c1))
def lX.mem(h:lX n m s t grid y){d:Int}(hd:d∈y):0<=d/\d<(m:Int):=by
 obtain⟨i,hi⟩:=iM hd;have hl:=(aV.1 hi).1;obtain⟨c,c0,c1,hc⟩:=h.ps.onto (y:=(i:Int)) s6 (by have:=h.Kg;omega);have h1:=h.at_ c c0 c1;rw[hc,iW hi]at h1;rw[h1];have:=h.dJ c0 c1;exact h.pt.at_ this.1 this.2
def Ux(grid:ae Int)(c:Int):sy grid c=(aH grid c).toNat:=rfl
def lX.sy(h:lX n m s t grid y){c:Int}(c0:0<=c)(c1:c<(n:Int)):sy y (aH s c)=(aH t (aH grid c)).toNat:=by rw[Ux,h.at_ c c0 c1]
def an2{α:Type}{f g:Int->α}:∀{l:ae Int},iY n l->(∀c,0<=c->c<(n:Int)->f (aH s c)=g c)->(img s l).map f=l.map g:=by
 intro l hl h;unfold img;rw[rG];exact sD λc hc=>h c (hl c hc).1 (hl c hc).2
def qE(m:Nat)(t:ae Int)(set:Nat):Prop:=∀v:Int,0<=v->v<(m:Int)->set.testBit (aH t v).toNat=set.testBit v.toNat
def Ov{set other:Nat}(ht:bD m t)(h:rX set other t=true):qE m t set/\qE m t other:=by
 unfold rX at h;rw[uM]at h;constructor;all_goals (
  intro v v0 v1;have h1:=h v.toNat _ (oQ v0 (by rw[ht.len];exact v1));dsimp only at h1;rw[eP,jQ,jQ]at h1)
 .exact h1.1.symm
 .exact h1.2.symm
def xG(m:Nat)(t vals:ae Int):Prop:=∀v:Int,0<=v->v<(m:Int)->aH vals (aH t v)=aH vals v
def Ow{vals:ae Int}(ht:bD m t)(h:pJ vals t=true):xG m t vals:=by
 unfold pJ at h;rw[uM]at h;intro v v0 v1;have h1:=ko (h v.toNat _ (oQ v0 (by rw[ht.len];exact v1)));dsimp only at h1;rw[wE v0]at h1;exact h1.symm
def lX.bit(h:lX n m s t grid y){set:Nat}(hS:qE m t set){c:Int}(c0:0<=c)(c1:c<(n:Int)):set.testBit (Go.Proofs.YtoilpafpgndilaaGreat.sy y (aH s c))=set.testBit (Go.Proofs.YtoilpafpgndilaaGreat.sy grid c):=by
 have r:=h.dJ c0 c1;rw[h.sy c0 c1,hS _ r.1 r.2,Ux]
def lX.cnt(h:lX n m s t grid y){set:Nat}(hS:qE m t set){l l':ae Int}(hl:iY n l)(hp:l'.Perm (img s l)):Go.Proofs.YtoilpafpgndilaaGreat.cnt y set l'=Go.Proofs.YtoilpafpgndilaaGreat.cnt grid set l:=by
 unfold Go.Proofs.YtoilpafpgndilaaGreat.cnt;rw[(hp.filter _).length_eq];exact SV hl λc c0 c1=>h.bit hS c0 c1
def lX.va(h:lX n m s t grid y){vals:ae Int}(hV:xG m t vals){c:Int}(c0:0<=c)(c1:c<(n:Int)):va vals y (aH s c)=va vals grid c:=by
 have r:=h.dJ c0 c1;have:=hV _ r.1 r.2;unfold Go.Proofs.YtoilpafpgndilaaGreat.va;rw[h.sy c0 c1,Ux];exact this
def Ox(grid:ae Int)(set:Nat):∀(l:ae Int) (k:Nat),rn grid set k l=Bi k (l.map λc=>set.testBit (sy grid c))
 |[],k=>rfl
 |c::l,k=>by
  rw[rn,fA];cases hb:set.testBit (sy grid c)with
  |true=>rw[if_pos rfl,akO,Ox grid set l (k+1)]
  |false=>rw[if_neg s7,akP,Ox grid set l 0]
def lX.rn(h:lX n m s t grid y){set:Nat}(hS:qE m t set){l:ae Int}(hl:iY n l):rn y set 0 (img s l)=rn grid set 0 l:=by
 rw[Ox,Ox,an2 (g:=λc=>set.testBit (Go.Proofs.YtoilpafpgndilaaGreat.sy grid c)) hl (λc c0 c1=>h.bit hS c0 c1)]
end
end Go.Proofs.YtoilpafpgndilaaGreat
namespace Go.Proofs.YtoilpafpgndilaaGreat
open Tryz (prog)
open Go.Ideal Kd Canon Gph
structure zQ(eq:List Int->List Int->Bool):Prop where
 symm:∀a b,eq a b=true->eq b a=true
 trans:∀a b c,eq a b=true->eq b c=true->eq a c=true
 img:∀s a b,eq a b=true->eq (img s a) (img s b)=true
def Kh:zQ kL:=by
 refine⟨λa b h=>?_,λa b c h1 h2=>?_,λs a b h=>?_⟩
 .rw[EH]at h⊢;exact h.symm
 .rw[EH]at h1 h2⊢;exact h1.trans h2
 .rw[EH]at h⊢;exact NM s h
def ab7:zQ zF:=by
 refine⟨λa b h=>?_,λa b c h1 h2=>?_,λs a b h=>?_⟩
 .unfold zF at h⊢;rw[jQ]at h⊢;exact h.symm
 .unfold zF at h1 h2⊢;rw[jQ]at h1 h2⊢;exact h1.trans h2
 .unfold zF at h⊢;rw[jQ]at h⊢;rw[h]
def Uy:zQ xq:=by
 refine⟨λa b h=>?_,λa b c h1 h2=>?_,λs a b h=>?_⟩
 .rw[GJ]at h⊢;rcases h with rfl|rfl
  .exact .inl rfl
  .exact .inr (by rw[KX])
 .rw[GJ]at h1 h2⊢;rcases h1 with rfl|rfl
  .exact h2
  .rcases h2 with rfl|rfl
   .exact .inr rfl
   .exact .inl (by rw[KX])
 .rw[GJ]at h⊢;rcases h with rfl|rfl
  .exact .inl rfl
  .exact .inr (NN s b)
def ab8(c:ji):zQ (yL c):=by
 unfold yL;split
 .exact Uy
 .exact Kh
section
variable {n m:Nat} {s t s2 t2:ae Int} {L:ae (ae Int)} {f:Int} {eq:ae Int->ae Int->Bool}
def ab9(hR:zQ eq)(hK:qX n L f)(hs:bD n s){j i:Nat}(h:Goes L s f eq j i):Goes L (cz s) f eq i j:=by
 obtain⟨l,l',h1,h2,h3,h4,h5⟩:=h;have hl:=hK.dJ l (aT h1);refine⟨l',l,h2,h1,?_,?_,λhb=>?_⟩
 .have:=NM (cz s) h3;rw[EG hs hl]at this;exact this.symm
 .have:=hR.img (cz s) _ _ h4;rw[EG hs hl]at this;exact hR.symm _ _ this
 .have hn:=hK.len hb;have:=(aV.1 h1).1;rw[h5 hb,hs.uK s6 s6]
def an3(hR:zQ eq)(hK:qX n L f)(hs:bD n s)(h:kP L s f eq=true):kP L (cz s) f eq=true:=by
 have h:=(CZ hK hs).1 h;refine(CZ hK hs.inv).2 λi hi=>?_;obtain⟨j,hj⟩:=akN hK hs h hi;exact⟨j,ab9 hR hK hs hj⟩
def acd(hR:zQ eq)(hK:qX n L f)(hs:bD n s)(hs2:bD n s2){j i i2:Nat}(h:Goes L s f eq j i)(h2:Goes L s2 f eq i i2):Goes L (bC s2 s) f eq j i2:=by
 obtain⟨l,l',a1,a2,a3,a4,a5⟩:=h;obtain⟨l0,l2,b1,b2,b3,b4,b5⟩:=h2;rw[a2]at b1;cases b1;have hl:=hK.dJ l (aT a1);have hc:img (bC s2 s) l=img s2 (img s l):=JS (by rw[hs.len];exact hl);refine⟨l,l2,a1,b2,?_,?_,λhb=>?_⟩
 .rw[hc];exact b3.trans (NM s2 a3)
 .rw[hc];exact hR.trans _ _ _ b4 (hR.img s2 _ _ a4)
 .have hn:=hK.len hb;have:=(aV.1 a1).1;rw[b5 hb,a5 hb,xk s6 (by rw[hs.len];omega)]
def an4(hR:zQ eq)(hK:qX n L f)(hs:bD n s)(hs2:bD n s2)(h:kP L s f eq=true)(h2:kP L s2 f eq=true):kP L (bC s2 s) f eq=true:=by
 have h:=(CZ hK hs).1 h;have h2:=(CZ hK hs2).1 h2;refine(CZ hK (hs2.comp hs)).2 λj hj=>?_;obtain⟨i,hi⟩:=h j hj;obtain⟨i2,hi2⟩:=h2 i hi.lt.2;exact⟨i2,acd hR hK hs hs2 hi hi2⟩
variable{set:Nat}
def Uz{other:Nat}(ht:bD m t)(h1:qE m t set)(h2:qE m t other):rX set other t=true:=by
 unfold rX;rw[uM];intro i x hx;have hl:=(aV.1 hx).1;have hlen:=ht.len;have e:=iW hx;have a:=h1 (i:Int) s6 s6;have b:=h2 (i:Int) s6 s6;rw[e,fM]at a b;dsimp only;rw[eP,jQ,jQ];exact⟨a.symm,b.symm⟩
variable{vals:ae Int}
def UA(ht:bD m t)(h:xG m t vals):pJ vals t=true:=by
 unfold pJ;rw[uM];intro i x hx;have hl:=(aV.1 hx).1;have hlen:=ht.len;have a:=h (i:Int) s6 s6;rw[iW hx]at a;exact eT a.symm
def qE.inv(ht:bD m t)(h:qE m t set):qE m (cz t) set:=by
 exact mB
def xG.inv(ht:bD m t)(h:xG m t vals):xG m (cz t) vals:=by
 exact mB
def qE.comp(ht:bD m t)(h:qE m t set)(h2:qE m t2 set):qE m (bC t2 t) set:=by
 exact mS
def xG.comp(ht:bD m t)(h:xG m t vals)(h2:xG m t2 vals):xG m (bC t2 t) vals:=by
 exact mS
variable{aP:ae (ae Int)}
def an5(hN:xu n aP)(hs:bD n s)(h:ow aP s=true):ow aP (cz s)=true:=by
 have h:=(GK hN hs).1 h;refine(GK hN hs.inv).2 λa b hab=>?_;obtain⟨c,d,hcd,rfl,rfl⟩:=aav hN hs h hab;have hr:=hcd.dJ hN;rw[hs.uK hr.1.1 hr.1.2,hs.uK hr.2.1 hr.2.2];exact hcd
def an6(hN:xu n aP)(hs:bD n s)(hs2:bD n s2)(h:ow aP s=true)(h2:ow aP s2=true):ow aP (bC s2 s)=true:=by
 have h:=(GK hN hs).1 h;have h2:=(GK hN hs2).1 h2;refine(GK hN (hs2.comp hs)).2 λa b hab=>?_;have hr:=hab.dJ hN;have hl:=hs.len;rw[xk hr.1.1 s6,xk hr.2.1 s6];exact h2 _ _ (h _ _ hab)
end
variable{s t:ae Int}{k:aQ}
def an7{s' t':ae Int}{r:dP}(hS:rX r.set.toNat r.other.toNat t=true->rX r.set.toNat r.other.toNat t'=true)
 (hL:∀eq,zQ eq->kP (k.lists.getD r.family.toNat []) s r.family eq=true->kP (k.lists.getD r.family.toNat []) s' r.family eq=true)
 (hV:pJ (oW k) t=true->pJ (oW k) t'=true) (hN:ow k.aP s=true->ow k.aP s'=true) (h:keepR k s t r=true):keepR k s' t' r=true:=by
 unfold keepR mI at h⊢;rw[eP]at h⊢;refine⟨hS h.1,?_⟩;have h2:=h.2;split at h2
 .rename_i e;rw[if_pos e];exact hL _ Kh h2
 rename_i e;rw[if_neg e];split at h2
 .rename_i e;rw[if_pos e];rw[eP]at h2⊢;exact⟨hL _ Kh h2.1,hV h2.2⟩
 rename_i e;rw[if_neg e];split at h2
 .rename_i e;rw[if_pos e];rw[eP]at h2⊢;exact⟨hL _ ab7 h2.1,hV h2.2⟩
 rename_i e;rw[if_neg e];split at h2
 .rename_i e;rw[if_pos e];exact hL _ Uy h2
 rename_i e;rw[if_neg e];split at h2
 .rename_i e;rw[if_pos e];rw[eP]at h2⊢;exact⟨hN h2.1,hV h2.2⟩
 rename_i e;rw[if_neg e];split at h2
 .rename_i e;rw[if_pos e];exact hN h2
 rename_i e;rw[if_neg e]
def bE.UB(hK:bE k){r:dP}(hr:r∈k.decl.rules):qX k.grid.cells.length (k.lists.getD r.family.toNat []) r.family:=by
 have hin:=(hK.inr hr).iK;have hL:k.lists[r.family.toNat]? =some (k.lists[r.family.toNat]'(s6)):=bG _;have oC:=hK.Oq hL;rw[wE hin.1]at oC;rw[gJ hL];exact oC
def eU.inv(hK:bE k)(h:eU k s t):eU k (cz s) (cz t):=by
 refine⟨h.pc.inv,h.ps.inv,λr hr=>?_⟩;refine an7 (λa=>?_) (λeq hR a=>an3 hR (hK.UB hr) h.pc a) (λa=>UA h.ps.inv (xG.inv h.ps (Ow h.ps a))) (λa=>an5 hK.Ot h.pc a) (h.tu r hr);obtain⟨b,c⟩:=Ov h.ps a;exact Uz h.ps.inv (qE.inv h.ps b) (qE.inv h.ps c)
variable{s2 t2:ae Int}
def eU.comp(hK:bE k)(h:eU k s t)(h2:eU k s2 t2):eU k (bC s2 s) (bC t2 t):=by
 refine⟨h2.pc.comp h.pc,h2.ps.comp h.ps,λr hr=>?_⟩;have g2:=h2.tu r hr;have k2:=h2.rule hr;unfold keepR mI at g2⊢;have g1:=h.tu r hr;unfold keepR mI at g1;rw[eP]at g1 g2⊢;have oC:=hK.UB hr;have L1:∀eq,zQ eq->kP (k.lists.getD r.family.toNat []) s r.family eq=true->kP (k.lists.getD r.family.toNat []) s2 r.family eq=true->kP (k.lists.getD r.family.toNat []) (bC s2 s) r.family eq=true:=λeq hR a b=>an4 hR oC h.pc h2.pc a b;have V1:pJ (oW k) t=true->pJ (oW k) t2=true->pJ (oW k) (bC t2 t)=true:=λa b=>UA (h2.ps.comp h.ps) (xG.comp h.ps (Ow h.ps a) (Ow h2.ps b));have N1:ow k.aP s=true->ow k.aP s2=true->ow k.aP (bC s2 s)=true:=λa b=>an6 hK.Ot h.pc h2.pc a b;obtain⟨b,c⟩:=Ov h.ps g1.1;obtain⟨b2,c2⟩:=Ov h2.ps g2.1;refine⟨Uz (h2.ps.comp h.ps) (qE.comp h.ps b b2) (qE.comp h.ps c c2),?_⟩;have g1:=g1.2;have g2:=g2.2;split at g1
 .rename_i e;rw[if_pos e]at g2⊢;exact L1 _ Kh g1 g2
 rename_i e;rw[if_neg e]at g2⊢;split at g1
 .rename_i e;rw[if_pos e]at g2⊢;rw[eP]at g1 g2⊢;exact⟨L1 _ Kh g1.1 g2.1,V1 g1.2 g2.2⟩
 rename_i e;rw[if_neg e]at g2⊢;split at g1
 .rename_i e;rw[if_pos e]at g2⊢;rw[eP]at g1 g2⊢;exact⟨L1 _ ab7 g1.1 g2.1,V1 g1.2 g2.2⟩
 rename_i e;rw[if_neg e]at g2⊢;split at g1
 .rename_i e;rw[if_pos e]at g2⊢;exact L1 _ Uy g1 g2
 rename_i e;rw[if_neg e]at g2⊢;split at g1
 .rename_i e;rw[if_pos e]at g2⊢;rw[eP]at g1 g2⊢;exact⟨N1 g1.1 g2.1,V1 g1.2 g2.2⟩
 rename_i e;rw[if_neg e]at g2⊢;split at g1
 .rename_i e;rw[if_pos e]at g2⊢;exact N1 g1 g2
 rename_i e;rw[if_neg e]
variable{l l':ae Int}{c:ji}
def UC(h3:c.type=3)(he:yL c l' (img s l)=true)(h:iE s l l'=false):l'=img s l:=by
 unfold yL at he;rw[if_pos h3,GJ]at he;rcases he with e|e
 .exact e
 .unfold iE at h;rw[e]at h;simp at h;rw[e];exact h.symm
def UD(h:iE s l l'=true):img s l≠l'/\(img s l).reverse=l':=by
 unfold iE at h;simp at h;exact h
def ace(h1:img s l≠l')(h2:(img s l).reverse=l'):iE s l l'=true:=by
 unfold iE;simp[h1,h2]
def UE:iE s l (img s l)=false:=by
 unfold iE;simp
def Kb.vals{g:Clue}{L:ae (ae Int)}{j i:Nat}(G:Kb k s t g c L j i l l')(hR:ou k g):c.type=1->∀x∈g.values,0<=x/\x<(k.decl.symbols.length:Int):=by
 intro h1 x hx;obtain⟨c',L',a1,a2,a3,a4,a5,a6⟩:=hR;rw[G.hc]at a2;cases a2;rcases a6 with⟨_,_,b⟩|⟨b,_⟩|⟨b,_⟩
 .have:=b x hx;omega
 .omega
 .omega
def Oy(hK:bE k)(hk:eU k s t){g:Clue}(hg:ou k g):fw k (cz s) (cz t) (fw k s t g)=g:=by
 obtain⟨c,L,j,i,l,l',G⟩:=yM hK hk hg;have hg2:=Ou hK hk hg;obtain⟨c2,L2,i2,j2,m',m,G2⟩:=yM hK (hk.inv hK) hg2;have h1:=G2.hc;rw[G.img]at h1;dsimp only at h1;rw[G.hc]at h1;cases h1;have h2:=G2.hL;rw[G.hL]at h2;cases h2;have h3:=G2.at_;rw[G.img]at h3;dsimp only at h3;have hii:i2=i:=s6
 subst hii;have hgi:=ab9 (ab8 c) G.iK hk.pc G.goes;have h4:=hgi.iQ G.iK;have h5:=G2.goes.iQ G.iK;have hjj:j2=j:=s6
 subst hjj;have h6:=G2.hl;rw[G.hl']at h6;cases h6;have h7:=G2.hl';rw[G.hl]at h7;cases h7;have hl:=G.iK.dJ l (aT G.hl);rw[G2.img,G.img];dsimp only;have hval:xD c (cz s) (cz t) l' l (xD c s t l l' g.values)=g.values:=by
  unfold xD;by_cases t1:c.type=1
  .rw[if_pos t1,if_pos t1,EG hk.ps (G.vals hg t1)]
  .rw[if_neg t1,if_neg t1];by_cases t3:c.type=3
   .cases hT:iE s l l' with
    |false=>
     have e:=UC t3 G.eq hT;have:iE (cz s) l' l=false:=by
      have e2:img (cz s) l'=l:=by rw[e,EG hk.pc hl]
      have:=UE (s:=cz s) (l:=l');rw[e2]at this;exact this
     rw[this,if_neg s7,if_neg s7]
    |true=>
     obtain⟨a,b⟩:=UD hT;have hrev:(img (cz s) l').reverse=l:=by rw[<- b,NN,KX,EG hk.pc hl]
     have:iE (cz s) l' l=true:=by
      refine ace (λe=>a ?_) hrev;rw[<- e,akJ hk.pc];exact G.iK.dJ l' (aT G.hl')
     rw[this,if_pos ⟨t3,rfl⟩,if_pos ⟨t3,rfl⟩,KX]
   .rw[if_neg (λq=>t3 q.1),if_neg (λq=>t3 q.1)]
 rw[hval];obtain⟨gc,ga,gv⟩:=g;have:=G.at_;dsimp only at this⊢;rw[this]
def G5(hK:bE k)(hk:eU k s t)(hk2:eU k s2 t2){g:Clue}(hg:ou k g):fw k s2 t2 (fw k s t g)=fw k (bC s2 s) (bC t2 t) g:=by
 obtain⟨c,L,j,i,l,l',G⟩:=yM hK hk hg;have hg2:=Ou hK hk hg;obtain⟨c2,L2,i2,j2,m',m,G2⟩:=yM hK hk2 hg2;obtain⟨c3,L3,j3,j4,m3,m4,G3⟩:=yM hK (hk.comp hK hk2) hg;have h1:=G2.hc;rw[G.img]at h1;dsimp only at h1;rw[G.hc]at h1;cases h1;have h1:=G3.hc;rw[G.hc]at h1;cases h1;have h2:=G2.hL;rw[G.hL]at h2;cases h2;have h2:=G3.hL;rw[G.hL]at h2;cases h2;have h3:=G2.at_;rw[G.img]at h3;dsimp only at h3;have hii:i2=i:=s6
 subst hii;have h3:=G3.at_;rw[G.at_]at h3;have hjj:j3=j:=s6
 subst hjj;have hgc:=acd (ab8 c) G.iK hk.pc hk2.pc G.goes G2.goes;have h4:=hgc.iQ G.iK;have h5:=G3.goes.iQ G.iK;have hjj:j4=j2:=s6
 subst hjj;have h6:=G2.hl;rw[G.hl']at h6;cases h6;have h6:=G3.hl;rw[G.hl]at h6;cases h6;have h7:=G3.hl';rw[G2.hl']at h7;cases h7;have hl:=G.iK.dJ l (aT G.hl);have hl':=G.iK.dJ l' (aT G.hl');have hcc:img (bC s2 s) l=img s2 (img s l):=JS (by rw[hk.pc.len];exact hl);rw[G2.img,G3.img,G.img];dsimp only;have hval:xD c s2 t2 l' m (xD c s t l l' g.values)=xD c (bC s2 s) (bC t2 t) l m g.values:=by
  unfold xD;by_cases t1:c.type=1
  .rw[if_pos t1,if_pos t1,if_pos t1,JS (by rw[hk.ps.len];exact G.vals hg t1)]
  .rw[if_neg t1,if_neg t1,if_neg t1];by_cases t3:c.type=3
   .cases hT:iE s l l' with
    |false=>
     have e:=UC t3 G.eq hT;have:iE (bC s2 s) l m=iE s2 l' m:=by
      unfold iE;rw[hcc,<- e]
     rw[this,if_neg (by simp:¬(c.type=3/\false=true))]
    |true=>
     obtain⟨a,b⟩:=UD hT;rw[if_pos (⟨t3,rfl⟩:c.type=3/\true=true)];have e2:img s2 l'=(img (bC s2 s) l).reverse:=by rw[<- b,NN,hcc]
     have hsl:=iY.img hk.pc hl;have hne:img (bC s2 s) l≠(img (bC s2 s) l).reverse:=λq=>a (by
      rw[hcc,<- NN]at q;rw[<- b];exact aat hk2.pc hsl (λx hx=>hsl x (List.mem_reverse.1 hx)) q)
     cases GX:iE s2 l' m with
     |false=>
      have e:=UC t3 G2.eq GX;have:iE (bC s2 s) l m=true:=by
       refine ace ?_ ?_
       .rw[e,e2];exact hne
       .rw[e,e2]
      rw[this,if_neg s7,if_pos ⟨t3,rfl⟩]
     |true=>
      obtain⟨a2,b2⟩:=UD GX;have e3:m=img (bC s2 s) l:=by rw[<- b2,e2,KX]
      have:iE (bC s2 s) l m=false:=by rw[e3];exact UE
      rw[this,if_pos ⟨t3,rfl⟩,if_neg s7,KX]
   .rw[if_neg (λq=>t3 q.1),if_neg (λq=>t3 q.1),if_neg (λq=>t3 q.1)]
 rw[hval]
variable{p x a:ae Clue}
def an8(hK:bE k)(hk:eU k s t)(hQ:fK k p)(hx:ik (p.map (fw k s t)) x)(ha:ik (x.map (fw k (cz s) (cz t))) a):a=p:=by
 have hxm:=Kc hK hk hQ hx;have h1:ik p a:=by
  refine ha.GG λg=>?_;rw[bS];constructor
  .intro hg;exact⟨fw k s t g,(hxm _).2 (bS.2 ⟨g,hg,rfl⟩),Oy hK hk (hQ.right g hg)⟩
  .rintro⟨y,hy,rfl⟩;obtain⟨g,hg,rfl⟩:=bS.1 ((hxm _).1 hy);rw[Oy hK hk (hQ.right g hg)];exact hg
 have h2:ik p p:=⟨ab6 hQ,λ_ h=>h,λx hx=>⟨x,hx,by rw[tK];exact⟨rfl,rfl⟩,yq⟩⟩
 exact h1.uniq h2
def an9{v:ae Clue}(hK:bE k)(hk:eU k s t)(hk2:eU k s2 t2)(hQ:fK k p)(hx:ik (p.map (fw k s t)) x)(ha:ik (x.map (fw k s2 t2)) a)(hv:ik (p.map (fw k (bC s2 s) (bC t2 t))) v):a=v:=by
 have hxm:=Kc hK hk hQ hx;refine ha.uniq (hv.GG λg=>?_);rw[bS,bS];constructor
 .rintro⟨y,hy,rfl⟩;obtain⟨g,hg,rfl⟩:=bS.1 ((hxm _).1 hy);exact⟨g,hg,(G5 hK hk hk2 (hQ.right g hg)).symm⟩
 .rintro⟨g,hg,rfl⟩;exact⟨fw k s t g,(hxm _).2 (bS.2 ⟨g,hg,rfl⟩),G5 hK hk hk2 (hQ.right g hg)⟩
def aoa{n:Nat}{a b:ae Int}(ha:a.length=n)(hb:b.length=n)(h:∀c:Int,0<=c->c<(n:Int)->aH a c=aH b c):a=b:=by
 apply iH;intro i;by_cases hi:i<n
 .have h1:=oQ (p:=a) (c:=(i:Int)) s6 s6;have h2:=oQ (p:=b) (c:=(i:Int)) s6 s6;rw[fM]at h1 h2;rw[h1,h2,h _ s6 s6]
 .rw[dW s6,dW s6]
section
variable {n m:Nat} {s t s2 t2 grid y z:ae Int}
def lX.uniq(h:lX n m s t grid y)(h2:lX n m s t grid z):y=z:=by
 refine aoa h.Kg h2.Kg λd d0 d1=>?_;obtain⟨c,c0,c1,rfl⟩:=h.ps.onto d0 d1;rw[h.at_ c c0 c1,h2.at_ c c0 c1]
def lX.back(h:lX n m s t grid y):lX n m (cz s) (cz t) y grid:=by
 refine⟨h.ps.inv,h.pt.inv,h.Kg,h.len,λx hx=>h.mem hx,λd d0 d1=>?_⟩;obtain⟨c,c0,c1,rfl⟩:=h.ps.onto d0 d1;have r:=h.dJ c0 c1;rw[h.ps.uK c0 c1,h.at_ c c0 c1,h.pt.uK r.1 r.2]
def lX.comp(h:lX n m s t grid y)(h2:lX n m s2 t2 y z):lX n m (bC s2 s) (bC t2 t) grid z:=by
 refine⟨h2.ps.comp h.ps,h2.pt.comp h.pt,h.len,h2.Kg,h.tN,λc c0 c1=>?_⟩;have r:=h.ps.at_ c0 c1;have g:=h.dJ c0 c1;rw[xk c0 (by rw[h.ps.len];exact c1),h2.at_ _ r.1 r.2,h.at_ c c0 c1,xk g.1 (by rw[h.pt.len];exact g.2)]
end
end Go.Proofs.YtoilpafpgndilaaGreat
namespace Go.Proofs.YtoilpafpgndilaaGreat
open Tryz (prog)
open Go.Ideal Kd Canon Gph
def oZ(k:aQ)(a b:Int):Prop:=∀r∈k.decl.rules,r.set.toNat.testBit a.toNat=r.set.toNat.testBit b.toNat/\r.other.toNat.testBit a.toNat=r.other.toNat.testBit b.toNat/\((r.kind=3\/r.kind=4\/r.kind=7)->aH (oW k) a=aH (oW k) b)
def oZ.refl(k:aQ)(a:Int):oZ k a a:=λ_ _=>⟨rfl,rfl,λ_=>rfl⟩
variable{k:aQ}{a b:Int}
def oZ.symm(h:oZ k a b):oZ k b a:=λr hr=>⟨(h r hr).1.symm,(h r hr).2.1.symm,λe=>((h r hr).2.2 e).symm⟩
def oZ.trans{c:Int}(h:oZ k a b)(h2:oZ k b c):oZ k a c:=λr hr=>⟨(h r hr).1.trans (h2 r hr).1,(h r hr).2.1.trans (h2 r hr).2.1,λe=>((h r hr).2.2 e).trans ((h2 r hr).2.2 e)⟩
variable{n:Nat}
def UF{l:ae Int}(h:iY n l):img (upTo' n) l=l:=by
 unfold img;conv=>rhs;rw[<- BX l]
 exact sD λc hc=>uL (h c hc).1 (h c hc).2
def Oz{L:ae (ae Int)}{f:Int}{eq:ae Int->ae Int->Bool}(hr:∀l,eq l l=true)(hK:qX n L f):kP L (upTo' n) f eq=true:=by
 refine(CZ hK (bD.ident n)).2 λj hj=>⟨j,L[j],L[j],bG hj,bG hj,?_,?_,λhb=>?_⟩
 .rw[UF (hK.dJ _ (wo hj))]
 .rw[UF (hK.dJ _ (wo hj))];exact hr _
 .have:=hK.len hb;rw[uL s6 s6]
def aob{aP:ae (ae Int)}(hN:xu n aP):ow aP (upTo' n)=true:=by
 refine(GK hN (bD.ident n)).2 λa b hab=>?_;have hr:=hab.dJ hN;rw[uL hr.1.1 hr.1.2,uL hr.2.1 hr.2.2];exact hab
def UG(l:ae Int):kL l l=true:=EH.2 (List.Perm.refl _)
def aoc(l:ae Int):zF l l=true:=eT rfl
def acf(l:ae Int):xq l l=true:=GJ.2 (.inl rfl)
def UH(hK:bE k){t:ae Int}:eU k (upTo' k.grid.cells.length) t↔bD k.decl.symbols.length t/\∀v:Int,0<=v->v<(k.decl.symbols.length:Int)->oZ k v (aH t v):=by
 constructor
 .intro h;refine⟨h.ps,λv v0 v1 r hr=>?_⟩;obtain⟨k0,_,k3,_⟩:=h.rule hr;obtain⟨s1,s2⟩:=Ov h.ps k0;exact⟨(s1 v v0 v1).symm,(s2 v v0 v1).symm,λe=>(Ow h.ps (k3 e) v v0 v1).symm⟩
 .rintro⟨ht,h⟩;refine⟨bD.ident _,ht,λr hr=>?_⟩;have oC:=hK.UB hr;have hset:rX r.set.toNat r.other.toNat t=true:=Uz ht (λv v0 v1=>(h v v0 v1 r hr).1.symm) (λv v0 v1=>(h v v0 v1 r hr).2.1.symm);have hval:(r.kind=3\/r.kind=4\/r.kind=7)->pJ (oW k) t=true:=λe=>UA ht λv v0 v1=>((h v v0 v1 r hr).2.2 e).symm;have hn:=aob hK.Ot;unfold keepR mI;rw[hset,Bool.true_and];split
  .exact Oz UG oC
  split
  .rename_i e;rw[Oz UG oC,hval (.inl e)];rfl
  split
  .rename_i e;rw[Oz aoc oC,hval (.inr (.inl e))];rfl
  split
  .exact Oz acf oC
  split
  .rename_i e;rw[hn,hval (.inr (.inr e))];rfl
  split
  .exact hn
  .rfl
def aod(hK:bE k){s t:ae Int}(hs:eU k s (upTo' k.decl.symbols.length))(ht:eU k (upTo' k.grid.cells.length) t):eU k s t:=by
 have h:=hs.comp hK ht;have e1:bC (upTo' k.grid.cells.length) s=s:=EK hs.pc;have e2:bC t (upTo' k.decl.symbols.length)=t:=aaJ ht.ps
 rwa [e1,e2]at h
def yN(m:Nat)(i j:Nat):ae Int:=((upTo' m).set i (j:Int)).set j (i:Int)
variable{m i j:Nat}
def Ki(hi:i<m)(hj:j<m){v:Int}(v0:0<=v)(v1:v<(m:Int)):aH (yN m i j) v=if v=(j:Int)then(i:Int)else if v=(i:Int)then(j:Int)else v:=by
 unfold yN;have hl:=kK m;have h1:=EJ (l:=(upTo' m).set i (j:Int)) (s:=(j:Int)) (x:=(i:Int)) (u:=v) s6 zp v0;rw[fM]at h1;rw[h1];split
 .rfl
 .have h2:=EJ (l:=upTo' m) (s:=(i:Int)) (x:=(j:Int)) (u:=v) s6 s6 v0;rw[fM]at h2;rw[h2,uL v0 v1]
def aoe(hi:i<m)(hj:j<m):bD m (yN m i j):=by
 have hl:(yN m i j).length=m:=by unfold yN;rw[ku,ku,kK]
 refine⟨hl,λx hx=>?_,?_⟩
 .obtain⟨a,ha⟩:=iM hx;have hal:=(aV.1 ha).1;have h:=Ki hi hj (v:=(a:Int)) s6 s6;rw[iW ha]at h;rw[h];split
  .omega
  .split<;>omega
 .unfold List.Nodup;rw[yZ];intro a b ha hb hab e;have h1:=Ki hi hj (v:=(a:Int)) s6 s6;have h2:=Ki hi hj (v:=(b:Int)) s6 s6;rw[iW (bG ha)]at h1;rw[iW (bG hb)]at h2;rw[h1,h2]at e;split at e<;>split at e<;>(try split at e)<;>(try split at e)<;>omega
def aof(hK:bE k){i j:Nat}(hi:i<k.decl.symbols.length)(hj:j<k.decl.symbols.length):eU k (upTo' k.grid.cells.length) (yN k.decl.symbols.length i j)↔oZ k (i:Int) (j:Int):=by
 rw[UH hK];constructor
 .rintro⟨_,h⟩;have:=h (j:Int) s6 s6;rw[Ki hi hj s6 s6,if_pos rfl]at this;exact this.symm
 .intro h;refine⟨aoe hi hj,λv v0 v1=>?_⟩;rw[Ki hi hj v0 v1];split
  .rename_i e;rw[e];exact h.symm
  .split
   .rename_i e;rw[e];exact h
   .exact oZ.refl _ _
structure ES(k:aQ)(cl:List Int):Prop where
 len:cl.length=k.decl.symbols.length
 at_:∀j:Nat,j<k.decl.symbols.length->∃i:Nat,aH cl (j:Int)=(i:Int)/\i<=j/\oZ k (i:Int) (j:Int)/\∀u:Nat,u<i->¬oZ k (u:Int) (j:Int)
variable{cl:ae Int}
def ES.same(h:ES k cl){a b:Nat}(ha:a<k.decl.symbols.length)(hb:b<k.decl.symbols.length):aH cl (a:Int)=aH cl (b:Int)↔oZ k (a:Int) (b:Int):=by
 obtain⟨i,h1,h2,h3,h4⟩:=h.at_ a ha;obtain⟨j,k1,k2,k3,k4⟩:=h.at_ b hb;rw[h1,k1];constructor
 .intro e;have:i=j:=by omega
  subst this;exact h3.symm.trans k3
 .intro e;rcases VW i j with hl|hl|hl
  .exact absurd (h3.trans e) (k4 i hl)
  .rw[hl]
  .exact absurd (k3.trans e.symm) (h4 j hl)
def ES.ok(h:ES k cl):zG k.decl.symbols.length cl:=by
 refine⟨h.len,λa ha=>?_⟩;obtain⟨i,h1,h2,h3,h4⟩:=h.at_ a ha;refine⟨s6,s6,?_⟩;have e:=(h.same (by omega:i<k.decl.symbols.length) ha).2 h3;rw[h1]at e⊢;exact e
def ES.keeps(hK:bE k)(h:ES k cl){t:ae Int}:jS k.decl.symbols.length cl t↔eU k (upTo' k.grid.cells.length) t:=by
 rw[UH hK];constructor
 .intro ht;refine⟨ht.p,λv v0 v1=>?_⟩;have r:=ht.p.at_ v0 v1;have:=ht.c v v0 v1;obtain⟨a,rfl⟩:=gV v0;obtain⟨b,hb⟩:=gV r.1;rw[hb]at this r⊢;exact((h.same s6 s6).1 this).symm
 .rintro⟨ht,hc⟩;refine⟨ht,λv v0 v1=>?_⟩;have r:=ht.at_ v0 v1;have:=hc v v0 v1;obtain⟨a,rfl⟩:=gV v0;obtain⟨b,hb⟩:=gV r.1;rw[hb]at this r⊢;exact((h.same s6 s6).2 this).symm
end Go.Proofs.YtoilpafpgndilaaGreat
namespace Go.Proofs.YtoilpafpgndilaaGreat
open Tryz (prog)
open Go.Ideal Kd Canon Gph
def bT(k:aQ)(c:Int):Bool:=match k.decl.bV[c.toNat]? with
 |some x=>decide (x.type=1)
 |none=>false
variable{k:aQ}
def UI{g:Clue}{c:ji}(h:k.decl.bV[g.aS.toNat]? =some c):bT k g.aS=decide (c.type=1):=by unfold bT;rw[h]
variable{p:ae Clue}
def fK.tN(h:fK k p):rY (bT k) k.decl.symbols.length p:=by
 intro g hg hs;obtain⟨c,L,h1,h2,h3,h4,h5,h6⟩:=h.right g hg;rw[UI h2,jQ]at hs;rcases h6 with⟨_,a,b⟩|⟨a,_⟩|⟨a,_⟩
 .match hgv:g.values,a with
  |[v],_=>
   have:=b v (by rw[hgv];exact bA.2 rfl);exact⟨v,rfl,s6,s6⟩
 .omega
 .omega
def aog(hK:bE k){t:ae Int}(hk:eU k (upTo' k.grid.cells.length) t){g:Clue}(hg:ou k g):fw k (upTo' k.grid.cells.length) t g=kQ (bT k) t g:=by
 obtain⟨c,L,j,i,l,l',G⟩:=yM hK hk hg;have hl:=G.iK.dJ l (aT G.hl);have e1:=UF hl;have hr:∀a,yL c a a=true:=λa=>by
  unfold yL;split
  .exact acf a
  .exact UG a
 have hjl:=(aV.1 G.hl).1;have hgo:Goes L (upTo' k.grid.cells.length) c.family (yL c) j j:=by
  refine⟨l,l,G.hl,G.hl,by rw[e1],by rw[e1];exact hr l,λhb=>?_⟩;have:=G.iK.len hb;rw[uL s6 s6]
 have hij:i=j:=by
  have h1:=hgo.iQ G.iK;have h2:=G.goes.iQ G.iK;omega
 subst hij;have hll:l'=l:=by
  have h1:=G.hl';rw[G.hl]at h1;exact(Option.some.inj h1).symm
 subst hll;rw[G.img];unfold kQ xD;rw[UI G.hc,<- G.at_];by_cases h1:c.type=1
 .rw[if_pos h1,if_pos (by simp[h1])]
 .have:iE (upTo' k.grid.cells.length) l' l'=false:=by
   have h2:=UE (s:=upTo' k.grid.cells.length) (l:=l');rw[e1]at h2;exact h2
  rw[if_neg h1,this,if_neg (show¬(c.type=3/\false=true)from λq=>by cases q.2),if_neg (show¬(decide (c.type=1)=true)by simp[h1])]
def aoh{sy:Int->Bool}{t:ae Int}(h:p.Pairwise λa b=>fo a b<0):(gK sy t p).Pairwise λa b=>fo a b<0:=by
 unfold gK;rw[DI];exact h.imp λ{a b} hab=>by rw[yI]at hab⊢;exact hab
def acg(h:p.Pairwise λa b=>fo a b<0):ik p p:=⟨h,λ_ h=>h,λx hx=>⟨x,hx,by rw[tK];exact⟨rfl,rfl⟩,yq⟩⟩
def aoi(hK:bE k){t:ae Int}{p:ae Clue}(hk:eU k (upTo' k.grid.cells.length) t)(hQ:fK k p):p.map (fw k (upTo' k.grid.cells.length) t)=gK (bT k) t p:=sD λg hg=>aog hK hk (hQ.right g hg)
def ach(hK:bE k){s t:ae Int}{p x:ae Clue}(hs:eU k s (upTo' k.decl.symbols.length))(ht:eU k (upTo' k.grid.cells.length) t)(hQ:fK k p)(hx:ik (p.map (fw k s (upTo' k.decl.symbols.length))) x):ik (p.map (fw k s t)) (gK (bT k) t x):=by
 have ru:=xE hK hs hQ hx;have h1:ik (x.map (fw k (upTo' k.grid.cells.length) t)) (gK (bT k) t x):=by
  rw[aoi hK ht ru];exact acg (aoh hx.inc)
 have hxm:=Kc hK hs hQ hx;have e1:bC (upTo' k.grid.cells.length) s=s:=EK hs.pc;have e2:bC t (upTo' k.decl.symbols.length)=t:=aaJ ht.ps;refine h1.GG λg=>?_;rw[bS,bS];constructor
 .rintro⟨a,ha,rfl⟩;refine⟨fw k s (upTo' k.decl.symbols.length) a,(hxm _).2 (bS.2 ⟨a,ha,rfl⟩),?_⟩;rw[G5 hK hs ht (hQ.right a ha),e1,e2]
 .rintro⟨y,hy,rfl⟩;obtain⟨a,ha,rfl⟩:=bS.1 ((hxm _).1 hy);refine⟨a,ha,?_⟩;rw[G5 hK hs ht (hQ.right a ha),e1,e2]
def OB(k:aQ)(cl s:ae Int)(p y:ae Clue):Prop:=∃x,ik (p.map (fw k s (upTo' k.decl.symbols.length))) x/\y=gK (bT k) (fZ (bT k) cl x) x
structure uS(k:aQ)(G:List (List Int))(cl:List Int)(p y:List Clue):Prop where
 mem:∃s∈G,OB k cl s p y
 least:∀s∈G,∀z,OB k cl s p z->¬kX z y<0
def uS.uniq{G:ae (ae Int)}{cl:ae Int}{y z:ae Clue}(h:uS k G cl p y)(h2:uS k G cl p z):y=z:=by
 obtain⟨s,hs,hy⟩:=h.mem;obtain⟨s2,hs2,hz⟩:=h2.mem;exact aaI (h2.least s hs y hy) (h.least s2 hs2 z hz)
structure nT(k:aQ)(G:List (List Int))(cl:List Int):Prop where
 qY:JU k.grid.cells.length G
 keep:∀s∈G,eU k s (upTo' k.decl.symbols.length)
 pK:ES k cl
section
variable {k:aQ} {G:ae (ae Int)} {cl:ae Int} {p x y:ae Clue} {s t:ae Int}
def nT.both(h:nT k G cl)(hK:bE k)(hs:s∈G)(ht:jS k.decl.symbols.length cl t):eU k s t:=aod hK (h.keep s hs) ((h.pK.keeps hK).1 ht)
def nT.img(h:nT k G cl)(hK:bE k)(hQ:fK k p)(hs:s∈G)(ht:jS k.decl.symbols.length cl t)(hx:ik (p.map (fw k s (upTo' k.decl.symbols.length))) x)(hy:ik (p.map (fw k s t)) y):y=gK (bT k) t x:=
 hy.uniq (ach hK (h.keep s hs) ((h.pK.keeps hK).1 ht) hQ hx)
def nT.aci(h:nT k G cl)(hK:bE k)(hQ:fK k p)(hs:s∈G)(ht:jS k.decl.symbols.length cl t)(hx:ik (p.map (fw k s t)) x){a:ae Int}(ha:a∈G){w:ae Clue}(hw:OB k cl a x w):OB k cl (bC a s) p w:=by
 obtain⟨u,hu,rfl⟩:=hw;have hst:=h.both hK hs ht;have ru:=xE hK hst hQ hx;have hxm:=Kc hK hst hQ hx;have hka:=h.keep a ha;have hcs:=h.qY.comp a ha s hs;have hkc:=h.keep _ hcs;have e2:bC (upTo' k.decl.symbols.length) t=t:=EK hst.ps;have h1:ik (p.map (fw k (bC a s) t)) u:=by
  refine hu.GG λg=>?_;rw[bS,bS];constructor
  .rintro⟨b,hb,rfl⟩;exact⟨fw k s t b,(hxm _).2 (bS.2 ⟨b,hb,rfl⟩),E6⟩
  .rintro⟨y,hy,rfl⟩;obtain⟨b,hb,rfl⟩:=bS.1 ((hxm _).1 hy);exact⟨b,hb,E6⟩
 obtain⟨q,hq⟩:∃q,ik (p.map (fw k (bC a s) (upTo' k.decl.symbols.length))) q:=⟨_,SB (Ah _ λa b=>decide (¬jD b a<0)) (by
  have:=Px (le:=λa b:Clue=>decide (¬jD b a<0)) (λa b c h1 h2=>by
   rw[jQ]at h1 h2⊢;intro q;by_cases e:jD b c<0
   .exact mL
   .exact jn) (λa b=>by
   exact nh) (p.map (fw k (bC a s) (upTo' k.decl.symbols.length)))
  exact this.imp λh=>by rw[jQ]at h;exact h)⟩
 have e3:=h.img hK hQ hcs ht hq h1;have hQq:=xE hK hkc hQ hq;refine⟨q,hq,?_⟩;rw[e3,ak1 h.pK.len ht (fK.tN hQq)]
def nT.aok(h:nT k G cl)(hK:bE k)(hQ:fK k p)(hs:s∈G)(ht:jS k.decl.symbols.length cl t)(hx:ik (p.map (fw k s t)) x)(hy:uS k G cl x y):uS k G cl p y:=by
 have hst:=h.both hK hs ht;have ru:=xE hK hst hQ hx;have hback:ik (x.map (fw k (cz s) (cz t))) p:=by
  refine(acg (ab6 hQ)).GG λg=>?_;have hxm:=Kc hK hst hQ hx;rw[bS];constructor
  .rintro⟨y,hy,rfl⟩;obtain⟨b,hb,rfl⟩:=bS.1 ((hxm _).1 hy);rw[Oy hK hst (hQ.right b hb)];exact hb
  .intro hg;exact⟨fw k s t g,(hxm _).2 (bS.2 ⟨g,hg,rfl⟩),Oy hK hst (hQ.right g hg)⟩
 obtain⟨a,ha,hya⟩:=hy.mem;refine⟨⟨bC a s,h.qY.comp a ha s hs,h.aci hK hQ hs ht hx ha hya⟩,λb hb z hz=>?_⟩;have hz2:=h.aci hK ru (h.qY.inv s hs) ht.inv hback hb hz;exact hy.least _ (h.qY.comp b hb _ (h.qY.inv s hs)) z hz2
end
end Go.Proofs.YtoilpafpgndilaaGreat
namespace Go.Proofs.YtoilpafpgndilaaGreat
open Tryz (prog)
open Go.Ideal Kd Canon
structure G6(k:aQ)(j i:Nat):Prop where
 le:i<=j
 cnd:oZ k (i:Int) (j:Int)
 least:∀u:Nat,u<i->¬oZ k (u:Int) (j:Int)
variable{k:aQ}
def aol(hK:bE k):eU k (upTo' k.grid.cells.length) (upTo' k.decl.symbols.length):=
 (UH hK).2 ⟨bD.ident _,λv v0 v1=>by rw[uL v0 v1];exact oZ.refl _ _⟩
def aom(hK:bE k){gu l G:ae (ae Int)}{cl:ae Int}(hgm:∀x∈gu,eU k x (upTo' k.decl.symbols.length))(hC:qc k.grid.cells.length gu l l.length)(hperm:G.Perm l)(Dh:cl.length=k.decl.symbols.length)(hcls:∀u:Nat,u<k.decl.symbols.length->∃i:Nat,cl[u]? =some (i:Int)/\G6 k u i):nT k G cl where
 qY:=by
  have h:=hC.qY;exact⟨λa ha=>h.perm a (hperm.mem_iff.1 ha),hperm.mem_iff.2 h.one,λa ha b hb=>hperm.mem_iff.2 (h.comp a (hperm.mem_iff.1 ha) b (hperm.mem_iff.1 hb)),λa ha=>hperm.mem_iff.2 (h.inv a (hperm.mem_iff.1 ha))⟩
 keep:=λs hs=>hC.all (P:=λs=>eU k s (upTo' k.decl.symbols.length)) (aol hK) (λg hg q _ hq=>by
  have:=hq.comp hK (hgm g hg)
  rwa [show bC (upTo' k.decl.symbols.length) (upTo' k.decl.symbols.length)=upTo' k.decl.symbols.length from EK (bD.ident _)]at this) s (hperm.mem_iff.1 hs)
 pK:=⟨Dh,λj hj=>by
  obtain⟨i,h1,h2⟩:=hcls j hj;exact⟨i,iW h1,h2.le,h2.cnd,h2.least⟩⟩
end Go.Proofs.YtoilpafpgndilaaGreat
namespace Go.Proofs.YtoilpafpgndilaaGreat
open Tryz (prog)
open Go.Ideal Kd Canon
section
variable {P:Program} {B:ae Nat} {w0:Wd} {kl kl':ae OA} {F:ae aI} {K:KO} {ds:ae Tmp} {rest:ae bN} {n:Nat} {l:qr} {D:ae Deferred} {pm:ak FrameMode} {ro:ak Nat} {d:Nat} {g:ak (Tmp×Bool)}
def ET{x:ay}{b:Nat}{cs:ae ah}{v:ah}(j:Nat)
 (next:R (λh=>aM P ds rest (act n ((d,v)::l) D pm ro) h K) B w0 kl F)
 (hx:ev l x=.pointer (some ⟨b,0+j,none⟩):=by rfl) (hk:bW b 0 cs∈F:=by exact iN) (hv:lC cs j=some v:=by rfl) (hn:Nat.blt d n=true:=by rfl) (hg:bO l g=true:=by rfl):
 R (λh=>aM P ds (⟨⟨some d,g,.fE x⟩,[]⟩::rest) (act n l D pm ro) h K) B w0 kl F:=(Mw hn hg hx hk hv).h next
end
def acj{v:ah}{xs:ae Int}(hl:xs.length<=1000000):aX prog (.func 325) [v] [] [] [aj ai v xs] (λv':ah=>v') (λ_=>[]) (λv'=>[aj ai v' (bK xs)]) (λ_=>True):=by
 refine gB 325 λB w0=>?_;refine gC (Us (xs:=xs) hl) λa _=>?_;refine gC (JY (a:=a) (zs:=xs) rfl s6) λ_ _=>?_;refine gZ (jr (E:=ai) (v:=.slice a xs.length xs.length) (xs:=bK xs)) ?_;refine go ?_;exact gQ (.slice a xs.length xs.length) trivial
variable{a b:ae Int}{va vb:ah}
def ack(ha:a.length<=1000000)(hb:b.length<=1000000):dZ prog 234 [va,vb] [aj ai va a,aj ai vb b] (.bool (kL a b)):=by
 have hsl:=Bb a;refine gB 234 λB w0=>?_;refine gC (acj (xs:=a) ha) λv1 _=>?_;refine gC (acj (xs:=b) hb) λv2 _=>?_;refine gC (vR (xs:=bK a) (ys:=bK b) s6) λ_ _=>?_;exact eH
def aon(ha:a.length<=1000000)(hb:b.length<=1000000):dZ prog 235 [va,vb] [aj ai va a,aj ai vb b] (.bool (xq a b)):=by
 have hrl:b.reverse.length=b.length:=Fq;refine gB 235 λB w0=>?_;refine gC (Us (xs:=b) hb) λc _=>?_;refine gC (GZ (a:=c) (xs:=b) hb) λ_ _=>?_;refine mD (A:=ap ai (.slice c b.length b.length) b.reverse) (fs:=[aj ai (.slice c b.length b.length) b.reverse]) jr (h:=?_);refine gC (vR (xs:=a) (ys:=b) s6) λ_ _=>?_;refine gH ?_ ?_<;>intro h1
 rotate_left
 .refine bF ?_;rw[GJ.2 (.inl h1)];rfl
 refine gC (vR (xs:=a) (ys:=b.reverse) s6) λ_ _=>?_;refine bF ?_;unfold xq;rw[bY h1,Bool.false_or];rfl
abbrev UJ(k:aQ)(vh vs vr vc vu gh gc vn vl sc st:ah):ae ah:=[.string k.decl.name,iV k.decl.version,iV k.decl.shape,iV k.decl.w,iV k.decl.h,vh,vs,vr,vc,vu,iV k.grid.shape,iV k.grid.w,iV k.grid.h,gh,gc,vn,vl,sc,st]
abbrev OC(k:aQ)(s t:ae Int)(vs vn vl sc st:ah):ae aI:=[aj ai sc s,aj ai st t,aj kF vs k.decl.symbols,aj (az ai) vn k.aP,aj (az (az ai)) vl k.lists]
variable{w:ae Int}
def Kj{b:Nat}{vw:ah}(hw:w.length<=1000000)(x:ae Int)(hx:x.length<=1000000):zM prog (.func 324) [] [ptr' b] [bW b 0 [vw],aj ai vw w] (λx=>kL x w) x:=by
 intro v;rw[cK];refine gB 324 λB w0=>?_;refine gC (ack (a:=x) (b:=w) hx hw) λ_ _=>?_;exact eH
abbrev OD(P:Program)(fe:Fn)(eq:ae Int->ae Int->Bool):Prop:=∀(va vb:ah) (a b:ae Int),a.length<=1000000->b.length<=1000000->aX P fe [va,vb] [] [] [aj ai va a,aj ai vb b] (λ_:Unit=>.bool (eq a b)) (λ_=>[]) (λ_=>[]) (λ_=>True)
structure Kk(n:Nat)(k:aQ)(s:List Int)(r:dP)(L:List (List Int)):Prop where
 f0:0<=r.family
 hL:k.lists[r.family.toNat]? =some L
 iK:qX n L r.family
 ps:bD n s
 n0:0<n
 n1:n<=1000000
 len:L.length<=1000000
 lens:∀l∈L,l.length<=1000000
variable{L:ae (ae Int)}{s l:ae Int}{eq:ae Int->ae Int->Bool}{f:Int}{j:Nat}
def BC(hl:L[j]? =some l)(h:qD L s f eq l j=false):kP L s f eq=false:=by
 cases e:kP L s f eq with
 |false=>rfl
 |true=>
  unfold kP at e;rw[uM]at e;have:=e j l hl;dsimp only at this;rw[h]at this;cases this
def BD{i:Int}(hi:iQ L s f (j:Int)=i)(h:qD L s f eq l j=true):0<=i/\kL (L.getD i.toNat []) (img s l)=true/\eq (L.getD i.toNat []) (img s l)=true:=by
 unfold qD at h;rw[hi,eP,eP,jQ]at h;exact h
def OE{m:Nat}{l':ae Int}(hi:iQ L s f (j:Int)=(m:Int))(hl':L[m]? =some l')(h1:kL l' (img s l)=true)(h2:eq l' (img s l)=true):qD L s f eq l j=true:=by
 unfold qD;rw[hi,fM,gJ hl',h1,h2];simp
def aoo(h:0<=xm L w):(xm L w).toNat<L.length:=by
 obtain⟨l,h1,_⟩:=SN h;exact(aV.1 h1).1
def UK{n:Nat}{k:aQ}{t:ae Int}{r:dP}{fe:Fn}{vh vs vr vc vu gh gc vn vl sc st v1 v2:ah}(H:Kk n k s r L)(he:OD prog fe eq):
 fC prog 233 [.agg ⟨UJ k vh vs vr vc vu gh gc vn vl sc st⟩,.agg ⟨vM r v1 v2⟩,.func fe ⟨[]⟩ ⟨[]⟩] (OC k s t vs vn vl sc st) (λ_:Unit=>.bool (kP L s r.family eq)) (λ_=>True):=by
 have hsl:=H.ps.len;have hn0:=H.n0;have hn1:=H.n1;have hll:=H.len;have G7:=H.lens;obtain⟨rn,ro,rk,rf,rns,ros,aor,aos,rop,rnn,rby,rcl⟩:=r;have hf0:0<=rf:=H.f0;obtain⟨f,rfl⟩:=gV hf0;have Kl:k.lists[f]? =some L:=by have:=H.hL;rwa [fM]at this
 refine gB 233 λB w0=>?_;refine gF ai sc s λasc csc esc=>?_;subst esc;refine go ?_;intro b3 b4;refine gP b3 ?_;refine gP b4 ?_;have hfl:=(aV.1 Kl).1;refine gX (az (az ai)) (xs:=k.lists) λ_ _ L2 (vL:ah) hL2=>?_;rw[Kl]at hL2;obtain rfl:L=L2:=Option.some.inj hL2;refine gF (az ai) vL L λaL cL eL=>?_;subst eL;generalize hrf:(f:Int)=rf at *;refine gN L.length 24 (λj=>j<=L.length/\∀i',i'<j->∀x,L[i']? =some x->qD L s rf eq x i'=true) ⟨bM _,λi' h=>absurd h (yU _)⟩ ?_;rintro j ⟨hj,hall⟩;refine aO ?_ ?_<;>intro h1
 .refine gX (az ai) (xs:=L) λ_ _ l (zO:ah) hl=>?_;have hlm:=aT hl;have hlr:=H.iK.dJ l hlm;have hlen:=G7 l hlm;have hil:(img s l).length=l.length:=EF s l;refine gF ai zO l λal cl el=>?_;subst el;refine go ?_;refine sW l.length ⟨s6,s6,s6⟩ λbw=>?_;rw[BB];refine go ?_;intro b10;refine go ?_;refine dV (λi:Nat=>l.length - i) (λi=>[(34,iV (i:Int))]) (λi=>[pt bw (.cells ((gM (img s (l.take i)) l.length).map iV)),pt b10 (.cells [.slice (some ⟨bw,0,some 0⟩) l.length l.length])]) (λ_=>[]) (λi=>i<=l.length) 0 (bM _) (hk:=s9) (body:=?_);intro i hi;have hcl:(img s (l.take i)).length=i:=by rw[EF,fU];omega
  refine aO ?_ ?_<;>intro h2
  .refine go ?_;intro _ _ x hx;have mZ:=hlr x (aT hx);obtain⟨m,rfl⟩:=gV mZ.1;refine go ?_;refine ET 17 ?_;refine go ?_;intro _ _ z hz;have hzg:=iW hz;have htk:img s (l.take (i+1))=img s (l.take i)++[z]:=by
    unfold img;rw[fF hx,cB,l6,hzg]
   refine go ?_;refine jN (b:=bw) (o:=0+i*1) (cs:=(gM (img s (l.take i)) l.length).map iV) (v:=iV z) (cs':=(gM (img s (l.take (i+1))) l.length).map iV) Hp GP ?_;refine go ?_;exact aU (i+1) E7 u9
  have hie:i=l.length:=s6
  subst hie;rw[fu]at hcl⊢;rw[BA hcl];refine mD (A:=pt bw (.cells ((img s l).map iV))) (fs:=[aj ai (.slice (some ⟨bw,0,some 0⟩) l.length l.length) (img s l)]) (by have:=qP (b:=bw) (f:=0) (c:=l.length) (xs:=img s l) (hc:=by rw[hil];exact aZ _);rw[hil]at this;exact this) (h:=?_);refine gP b10 ?_;refine go ?_;refine ET 17 ?_;refine go ?_;intro _ _ z0 hz0;refine aO ?_ ?_<;>intro c0
  .refine aO (λ_=>?_) (λh=>absurd c0 h);dsimp only at c0;have hjs:j<s.length:=by
    have:=H.iK.len B8;omega
   refine go ?_;refine ET 17 ?_;refine go ?_;intro _ _ i hi;have hig:=iW hi;have ng:iQ L s rf (j:Int)=i:=by unfold iQ;rw[if_pos B8];exact hig
   have hi0:0<=i:=(H.ps.dJ i (aT hi)).1;have UL:i<(L.length:Int):=by
    have h1:=(H.ps.dJ i (aT hi)).2;have h2:=H.iK.len B8;omega
   exact bh
  refine aO ?_ ?_<;>intro c4
  .refine aO (λ_=>?_) (λh=>absurd c4 h);dsimp only at c4;have hjs:j<s.length:=by
    have:=H.iK.len B9;omega
   refine go ?_;refine ET 17 ?_;refine go ?_;intro _ _ i hi;have hig:=iW hi;have ng:iQ L s rf (j:Int)=i:=by unfold iQ;rw[if_pos B9];exact hig
   have hi0:0<=i:=(H.ps.dJ i (aT hi)).1;have UL:i<(L.length:Int):=by
    have h1:=(H.ps.dJ i (aT hi)).2;have h2:=H.iK.len B9;omega
   exact bh
  refine aO ?_ ?_<;>intro c5
  .dsimp only at c5;have hjs:j<s.length:=by
    have:=H.iK.len Cd;omega
   refine go ?_;refine ET 17 ?_;refine go ?_;intro _ _ i hi;have hig:=iW hi;have ng:iQ L s rf (j:Int)=i:=by unfold iQ;rw[if_pos Cd];exact hig
   have hi0:0<=i:=(H.ps.dJ i (aT hi)).1;have UL:i<(L.length:Int):=by
    have h1:=(H.ps.dJ i (aT hi)).2;have h2:=H.iK.len Cd;omega
   exact bh
  dsimp only at c0 c4 c5;refine gC (Uu (fn:=.func 324) (first:=[]) (cap:=[ptr' b10]) (F1:=[bW b10 0 [.slice (some ⟨bw,0,some 0⟩) l.length l.length],aj ai (.slice (some ⟨bw,0,some 0⟩) l.length l.length) (img s l)]) (p:=λx=>kL x (img s l)) (va:=.slice aL L.length cL) (xs:=L) s6 (λx hx=>Kj Cl x (G7 x hx))) λ_ _=>?_;have ng:iQ L s rf (j:Int)=qh (λx=>kL x (img s l)) L:=by
   unfold iQ;rw[if_neg (by unfold lg;simp[c0,c4,c5]),fM,gJ hl];exact(abY L (img s l)).symm
  have hlt:0<=qh (λx=>kL x (img s l)) L->qh (λx=>kL x (img s l)) L<(L.length:Int):=λh=>by
   have:=aoo (L:=L) (w:=img s l) h;have e:qh (λx=>kL x (img s l)) L=xm L (img s l):=abY L (img s l);omega
  generalize qh (λx=>kL x (img s l)) L=i at ng hlt⊢;by_cases hi0:0<=i
  .have UL:=hlt hi0;exact bh
  .refine gH ?_ ?_<;>intro hneg
   .exact absurd hneg s6
   refine bF ?_;rw[BC hl (by
    cases e:qD L s rf eq l j with
    |false=>rfl
    |true=>exact absurd (BD ng e).1 hi0)];rfl
 have jT:j=L.length:=s6
 subst jT;refine bF ?_;have:kP L s rf eq=true:=by
  unfold kP;rw[uM];exact λi x hx=>hall i (aV.1 hx).1 x hx
 rw[this];rfl
abbrev EU(P:Program)(fn:Fn)(k:aQ)(s t:ae Int)(r:dP)(vh vs vr vc vu gh gc vn vl sc st v1 v2:ah)(c:Bool):Prop:=
 aX P fn [.agg ⟨UJ k vh vs vr vc vu gh gc vn vl sc st⟩,.agg ⟨vM r v1 v2⟩] [] [] (OC k s t vs vn vl sc st) (λ_:Unit=>.bool c) (λ_=>[]) (λ_=>[]) (λ_=>True)
section
variable {n:Nat} {k:aQ} {s t:ae Int} {r:dP} {L:ae (ae Int)} {vh vs vr vc vu gh gc vn vl sc st v1 v2:ah}
def aox(H:Kk n k s r L):EU prog (.func 155) k s t r vh vs vr vc vu gh gc vn vl sc st v1 v2 (kP L s r.family kL):=by
 have he:OD prog (.func 234) kL:=λva vb a b ha hb=>ack ha hb;refine gB 155 λB w0=>?_;refine go ?_;intro b2 b3;refine gC (UK (t:=t) (eq:=kL) (sc:=sc) (st:=st) (v1:=v1) (v2:=v2) H he) λ_ _=>?_;exact eH
def aoy(H:Kk n k s r L):EU prog (.func 157) k s t r vh vs vr vc vu gh gc vn vl sc st v1 v2 (kP L s r.family zF):=by
 have he:OD prog (.func 58) zF:=λva vb a b ha hb=>vR s6;refine gB 157 λB w0=>?_;refine go ?_;intro b2 b3;refine gC (UK (t:=t) (eq:=zF) (sc:=sc) (st:=st) (v1:=v1) (v2:=v2) H he) λ_ _=>?_;exact eH
def aoz(H:Kk n k s r L):EU prog (.func 158) k s t r vh vs vr vc vu gh gc vn vl sc st v1 v2 (kP L s r.family xq):=by
 have he:OD prog (.func 235) xq:=λva vb a b ha hb=>aon ha hb;refine gB 158 λB w0=>?_;refine go ?_;intro b2 b3;refine gC (UK (t:=t) (eq:=xq) (sc:=sc) (st:=st) (v1:=v1) (v2:=v2) H he) λ_ _=>?_;exact eH
end
end Go.Proofs.YtoilpafpgndilaaGreat
namespace Go.Proofs.YtoilpafpgndilaaGreat
open Tryz (prog)
open Go.Ideal Kd Canon
variable{k:aQ}
def aco{i:Nat}{x:oL}(h:k.decl.symbols[i]? =some x):aH (oW k) (i:Int)=x.value:=by
 apply iW;unfold oW;rw[bU,h];rfl
section
variable {m:Nat} {k:aQ} {s t:ae Int} {r:dP} {vh vs vr vc vu gh gc vn vl sc st v1 v2:ah}
def aoA(hm:k.decl.symbols.length=m)(ht:bD m t)(hl:m<=4096):EU prog (.func 156) k s t r vh vs vr vc vu gh gc vn vl sc st v1 v2 (pJ (oW k) t):=by
 have htl:=ht.len;refine gB 156 λB w0=>?_;refine gF ai st t λrP ct et=>?_;subst et;refine gF kF vs k.decl.symbols λqd cs1 es1=>?_;subst es1;refine go ?_;intro b2 b3;refine gP b2 ?_;refine gN t.length 11 (λj=>j<=t.length/\∀i',i'<j->∀x,t[i']? =some x->aH (oW k) (i':Int)=aH (oW k) x) ⟨bM _,λi' h=>absurd h (yU _)⟩ ?_;rintro j ⟨hj,hall⟩;refine aO ?_ ?_<;>intro h1
 .refine go ?_;intro _ _ x hx;have mZ:=ht.dJ x (aT hx);obtain⟨i,rfl⟩:=gV mZ.1;refine gX kF (xs:=k.decl.symbols) (k:=j) λ_ _ y (_:Unit) hy=>?_;have e1:=aco hy;refine gX kF (xs:=k.decl.symbols) (k:=i) λ_ _ z (_:Unit) hz=>?_;have e2:=aco hz;refine aO ?_ ?_<;>intro h2
  .refine bF ?_;have:pJ (oW k) t=false:=by
    cases e:pJ (oW k) t with
    |false=>rfl
    |true=>
     unfold pJ at e;rw[uM]at e;have:=ko (e j _ hx);dsimp only at this;rw[e1,e2]at this;exact absurd this h2
   rw[this];rfl
  refine go ?_;refine aU (j+1) s6 ⟨s6,λi' hi' x hx'=>?_⟩;by_cases e:i'=j
  .subst e;rw[hx]at hx';cases hx';rw[e1,e2];exact kv.1 h2
  .exact sg
 have jT:j=t.length:=s6
 subst jT;refine bF ?_;have:pJ (oW k) t=true:=by
  unfold pJ;rw[uM];exact λi x hx=>eT (hall i (aV.1 hx).1 x hx)
 rw[this];rfl
def OG(set i:Nat):set>>>i&&&1=(set.testBit i).toNat:=by
 rw[Nat.and_one_is_mod,Pq,Nat.toNat_testBit]
def OH{a b:Bool}:((a.toNat:Nat):Int)=((b.toNat:Nat):Int)↔a=b:=by cases a<;>cases b<;>decide
def aoB{set other:Nat}(hs:r.set=(set:Int)/\set<2^63)(ho:r.other=(other:Int)/\other<2^63)(ht:bD m t)(hl:m<=60):EU prog (.func 120) k s t r vh vs vr vc vu gh gc vn vl sc st v1 v2 (rX set other t):=by
 have htl:=ht.len;obtain⟨hs1,hs2⟩:=hs;obtain⟨ho1,ho2⟩:=ho;obtain⟨rn,ro,rk,rf,rns,ros,aor,aos,rop,rnn,rby,rcl⟩:=r;dsimp only at hs1 ho1;subst hs1 ho1;refine gB 120 λB w0=>?_;refine gF ai st t λrP ct et=>?_;subst et;refine go ?_;intro b2 b3;refine gP b2 ?_;refine gP b3 ?_;refine gN t.length 11 (λj=>j<=t.length/\∀i',i'<j->∀x,t[i']? =some x->set.testBit i'=set.testBit x.toNat/\other.testBit i'=other.testBit x.toNat) ⟨bM _,λi' h=>absurd h (yU _)⟩ ?_;rintro j ⟨hj,hall⟩;refine aO ?_ ?_<;>intro h1
 .refine go ?_;intro _ _ x hx;have mZ:=ht.dJ x (aT hx);obtain⟨i,rfl⟩:=gV mZ.1;have hno:¬(set.testBit j=set.testBit i/\other.testBit j=other.testBit i)->rX set other t=false:=λh=>by
   cases e:rX set other t with
   |false=>rfl
   |true=>
    unfold rX at e;rw[uM]at e;have:=e j _ hx;dsimp only at this;rw[fM,eP,jQ,jQ]at this;exact absurd this h
  refine go ?_;refine(cZ rfl rfl (MQ (a:=set) (b:=j) rfl rfl s6)).h ?_;refine(cZ rfl rfl (MU (a:=set>>>j) (b:=1) rfl rfl (Ps (V3 _ _) hs2) s6)).h ?_;rw[OG set j];refine go ?_;refine(cZ rfl rfl (MQ (a:=set) (b:=i) rfl rfl s6)).h ?_;refine(cZ rfl rfl (MU (a:=set>>>i) (b:=1) rfl rfl (Ps (V3 _ _) hs2) s6)).h ?_;rw[OG set i];refine gH ?_ ?_<;>intro h2
  rotate_left
  .refine bF ?_;rw[hno (λq=>h2 (OH.2 q.1))];rfl
  have h2:=OH.1 (kv.1 h2);refine go ?_;refine(cZ rfl rfl (MQ (a:=other) (b:=j) rfl rfl s6)).h ?_;refine(cZ rfl rfl (MU (a:=other>>>j) (b:=1) rfl rfl (Ps (V3 _ _) ho2) s6)).h ?_;rw[OG other j];refine go ?_;refine(cZ rfl rfl (MQ (a:=other) (b:=i) rfl rfl s6)).h ?_;refine(cZ rfl rfl (MU (a:=other>>>i) (b:=1) rfl rfl (Ps (V3 _ _) ho2) s6)).h ?_;rw[OG other i];refine aO ?_ ?_<;>intro h3
  .refine bF ?_;rw[hno (λq=>h3 (OH.2 q.2))];rfl
  have h3:=OH.1 (kv.1 h3);refine go ?_;refine aU (j+1) s6 ⟨s6,λi' hi' x hx'=>?_⟩;by_cases e:i'=j
  .subst e;rw[hx]at hx';cases hx';rw[fM];exact⟨h2,h3⟩
  .exact sg
 have jT:j=t.length:=s6
 subst jT;refine bF ?_;have:rX set other t=true:=by
  unfold rX;rw[uM];intro i x hx;have:=hall i (aV.1 hx).1 x hx;dsimp only;rw[this.1,this.2];simp
 rw[this];rfl
def aoC{n:Nat}(hN:xu n k.aP)(hs:bD n s)(hl:n<=1000000)(hll:∀l∈k.aP,l.length<=1000000):EU prog (.func 159) k s t r vh vs vr vc vu gh gc vn vl sc st v1 v2 (ow k.aP s):=by
 have hsl:=hs.len;have hnl:=hN.1;refine gB 159 λB w0=>?_;refine gF ai sc s λasc csc esc=>?_;subst esc;refine gF (az ai) vn k.aP λan cn en=>?_;subst en;refine go ?_;intro b2 b3;refine gP b2 ?_;refine gN k.aP.length 13 (λj=>j<=k.aP.length/\∀i',i'<j->∀l,k.aP[i']? =some l->∀b∈l,aH s b∈k.aP.getD (aH s (i':Int)).toNat []) ⟨bM _,λi' h=>absurd h (yU _)⟩ ?_;rintro j ⟨hj,hall⟩;refine aO ?_ ?_<;>intro h1
 .refine gX (az ai) (xs:=k.aP) λ_ _ l (zO:ah) hl2=>?_;have hlm:=aT hl2;have hlr:=hN.2 l hlm;have hlen:=hll l hlm;refine gF ai zO l λal cl el=>?_;subst el;refine gN l.length 20 (λi=>i<=l.length/\∀b∈l.take i,aH s b∈k.aP.getD (aH s (j:Int)).toNat []) ⟨bM _,s7⟩ ?_;rintro i ⟨hi,GY⟩;refine aO ?_ ?_<;>intro h2
  .refine go ?_;intro _ _ b hb;have hbr:=hlr b (aT hb);obtain⟨bn,rfl⟩:=gV hbr.1;refine go ?_;refine ET 17 ?_;refine go ?_;intro _ _ u hu;have UM:=iW hu;have hur:=hs.dJ u (aT hu);obtain⟨un,rfl⟩:=gV hur.1;refine gX (az ai) (xs:=k.aP) (k:=un) λ_ _ l2 (J9:ah) hl3=>?_;have atQ:=hll l2 (aT hl3);refine go ?_;refine ET 17 ?_;refine go ?_;intro _ _ z hz;have hzg:=iW hz;refine gC (alg (xs:=l2) (z:=z) s6) λ_ _=>?_;have hd:k.aP.getD (aH s (j:Int)).toNat []=l2:=by rw[UM,fM];exact gJ hl3
   refine go ?_;refine sQ rfl (λh3=>?_) (λh3=>?_)
   .refine bF ?_;have:ow k.aP s=false:=by
     cases e:ow k.aP s with
     |false=>rfl
     |true=>
      unfold ow at e;rw[uM]at e;have:=e j l hl2;rw[jy]at this;have:=ko (this _ (aT hb));dsimp only at this;rw[hd,hzg]at this;exact absurd this h3
    rw[this];rfl
   refine go ?_;refine aU (i+1) E7 ⟨s6,λb hb'=>?_⟩;rw[fF hb]at hb';rcases fq.1 hb' with hb'|hb'
   .exact GY b hb'
   .rw[bA.1 hb',hd,hzg];exact h3
  have hie:i=l.length:=s6
  subst hie;rw[fu]at GY;refine go ?_;refine aU (j+1) (by show k.aP.length - (j+1)<k.aP.length - j;omega) ⟨s6,λi' hi' l' hl'=>?_⟩;by_cases e:i'=j
  .subst e;rw[hl2]at hl';cases hl';exact GY
  .exact hall i' s6 l' hl'
 have jT:j=k.aP.length:=s6
 subst jT;refine bF ?_;have:ow k.aP s=true:=by
  unfold ow;rw[uM];intro i l hl';rw[jy];exact λb hb=>eT (hall i (aV.1 hl').1 l hl' b hb)
 rw[this];rfl
end
abbrev fv(f:fO):ah:=.func (.func f) ⟨[]⟩ ⟨[]⟩
structure OI where
 b1:Nat
 b2:Nat
 b3:Nat
 b4:Nat
 b5:Nat
 b6:Nat
 b7:Nat
 b8:Nat
 b9:Nat
 b10:Nat
abbrev UN(y:OI):ae ah:=[.slice none 0 0,.slice (some ⟨y.b1,0,some 0⟩) 1 1,.slice (some ⟨y.b2,0,some 0⟩) 1 1,.slice (some ⟨y.b3,0,some 0⟩) 2 2,.slice (some ⟨y.b4,0,some 0⟩) 2 2,.slice (some ⟨y.b5,0,some 0⟩) 1 1,.slice (some ⟨y.b6,0,some 0⟩) 1 1,.slice (some ⟨y.b7,0,some 0⟩) 2 2,.slice (some ⟨y.b8,0,some 0⟩) 1 1,.slice (some ⟨y.b9,0,some 0⟩) 1 1,.slice (some ⟨y.b10,0,some 0⟩) 1 1,.slice none 0 0]
abbrev zR(y:OI):ae aI:=[bW y.b1 0 [fv 155],bW y.b2 0 [fv 155],bW y.b3 0 [fv 155,fv 156],bW y.b4 0 [fv 157,fv 156],bW y.b5 0 [fv 158],bW y.b6 0 [fv 159],bW y.b7 0 [fv 159,fv 156],bW y.b8 0 [fv 159],bW y.b9 0 [fv 159],bW y.b10 0 [fv 159]]
def aoD:aX prog (.func 118) [] [] [] [] (λy:OI=>.agg ⟨UN y⟩) (λ_=>[]) (λy=>zR y) (λ_=>True):=by
 refine gB 118 λB w0=>?_;refine go ?_;intro b0 b1 b2 b3 b4 b5 b6 b7 b8 b9 b10;refine go ?_;refine gP b1 ?_;refine gP b2 ?_;refine gP b3 ?_;refine gP b4 ?_;refine gP b5 ?_;refine gP b6 ?_;refine gP b7 ?_;refine gP b8 ?_;refine gP b9 ?_;refine gP b10 ?_;exact gQ ⟨b1,b2,b3,b4,b5,b6,b7,b8,b9,b10⟩ trivial
section
variable {k:aQ} {s t:ae Int} {r:dP} {vh vs vr vc vu gh gc vn vl sc st v1 v2:ah} {bc br:Nat}
abbrev yQ(k:aQ)(s t:ae Int)(r:dP)(vh vs vr vc vu gh gc vn vl sc st v1 v2:ah)(bc br:Nat):ae aI:=bW bc 0 (UJ k vh vs vr vc vu gh gc vn vl sc st)::bW br 0 (vM r v1 v2)::OC k s t vs vn vl sc st
def Km{f:fO}{c:Bool}(h:EU prog (.func f) k s t r vh vs vr vc vu gh gc vn vl sc st v1 v2 c):aX prog (.func 119) [fv f] [ptr' bc,ptr' br] [] (yQ k s t r vh vs vr vc vu gh gc vn vl sc st v1 v2 bc br) (λ_:Unit=>.bool (!c)) (λ_=>[]) (λ_=>[]) (λ_=>True):=by
 refine gB 119 λB w0=>?_;refine gC h λ_ _=>?_;exact eH
variable{fn:Fn}{first cap fs:ae ah}{F1:ae aI}{b:Nat}{p:Nat->Bool}
def aoE(hl:fs.length<=100)(hp:∀i f,fs[i]? =some f->aX prog fn (first++[f]) cap [] F1 (λ_:Unit=>.bool (p i)) (λ_=>[]) (λ_=>[]) (λ_=>True)):
 fC prog 160 [.slice (some ⟨b,0,some 0⟩) fs.length fs.length,.func fn ⟨first⟩ ⟨cap⟩] (bW b 0 fs::F1) (λx:Int=>iV x) (λx=>0<=x↔∃i,i<fs.length/\p i=true):=by
 refine gB 160 λB w0=>?_;refine gN fs.length 8 (λj=>j<=fs.length/\∀i,i<j->p i=false) ⟨bM _,λi h=>absurd h (yU _)⟩ ?_;rintro j ⟨hj,hall⟩;refine aO ?_ ?_<;>intro h1
 .have hf:fs[j]? =some fs[j]:=bG s6;generalize fs[j]=f at hf;refine go ?_;refine(Mw (b:=b) (o:=0) (j:=j*1) (cs:=fs) (v:=f) rfl rfl rfl (dD ..) (by rw[uw,lK];exact hf)).h ?_;refine gC (hp j f hf) λ_ _=>?_;refine go ?_;refine Cw rfl (λh2=>?_) (λh2=>?_)
  .refine go ?_;exact gQ (j:Int) ⟨λ_=>⟨j,s6,h2⟩,λ_=>by omega⟩
  refine go ?_;refine aU (j+1) s6 ⟨s6,λi hi=>?_⟩;by_cases e:i=j
  .subst e;exact h2
  .exact hall i s6
 refine go ?_;exact gQ (-1) ⟨λh=>by omega,λ⟨i,hi,h⟩=>by rw[hall i s6]at h;cases h⟩
def acp(hl:fs.length<=100)(hp:∀i f,fs[i]? =some f->aX prog fn (first++[f]) cap [] F1 (λ_:Unit=>.bool (p i)) (λ_=>[]) (λ_=>[]) (λ_=>True)):
 fC prog 121 [.slice (some ⟨b,0,some 0⟩) fs.length fs.length,.func fn ⟨first⟩ ⟨cap⟩] (bW b 0 fs::F1) (λc:Bool=>.bool c) (λc=>c=true↔∃i,i<fs.length/\p i=true):=by
 refine gB 121 λB w0=>?_;refine gC (aoE (b:=b) hl hp) λx hx=>?_;refine go ?_;refine gQ (decide (0<=x)) ?_;rw[jQ];exact hx
def aoF:fC prog 121 [.slice none 0 0,.func fn ⟨first⟩ ⟨cap⟩] F1 (λc:Bool=>.bool c) (λc=>c=false):=by
 have h0:fC prog 160 [.slice none 0 0,.func fn ⟨first⟩ ⟨cap⟩] F1 (λ_:Unit=>iV (-1)) (λ_=>True):=by
  refine gB 160 λB w0=>?_;refine go ?_;refine oh ?_;exact eH
 refine gB 121 λB w0=>?_;refine gC h0 λ_ _=>?_;refine go ?_;exact gQ false rfl
structure acr(k:aQ)(s t:List Int)(r:dP):Prop where
 ps:bD k.grid.cells.length s
 pt:bD k.decl.symbols.length t
 n1:k.grid.cells.length<=256
 m1:k.decl.symbols.length<=16
 aP:xu k.grid.cells.length k.aP
 nbl:∀l∈k.aP,l.length<=1000000
 kind:1<=r.kind/\r.kind<=11
 UO:Kk k.grid.cells.length k s r (k.lists.getD r.family.toNat [])
 st:r.set=((r.set.toNat:Nat):Int)/\r.set.toNat<2^63
 ot:r.other=((r.other.toNat:Nat):Int)/\r.other.toNat<2^63
def acs(H:acr k s t r)(y:OI):∃v,(UN y)[r.kind.toNat]? =some v/\fC prog 121 [v,.func (.func 119) ⟨[]⟩ ⟨[ptr' bc,ptr' br]⟩] (zR y++yQ k s t r vh vs vr vc vu gh gc vn vl sc st v1 v2 bc br) (λc:Bool=>.bool c) (λc=>c=true↔mI k s t r=false):=by
 have hF:=Km (bc:=bc) (br:=br) (aox (t:=t) (vh:=vh) (vs:=vs) (vr:=vr) (vc:=vc) (vu:=vu) (gh:=gh) (gc:=gc) (vn:=vn) (vl:=vl) (sc:=sc) (st:=st) (v1:=v1) (v2:=v2) H.UO);have hO:=Km (bc:=bc) (br:=br) (aoy (t:=t) (vh:=vh) (vs:=vs) (vr:=vr) (vc:=vc) (vu:=vu) (gh:=gh) (gc:=gc) (vn:=vn) (vl:=vl) (sc:=sc) (st:=st) (v1:=v1) (v2:=v2) H.UO);have hL:=Km (bc:=bc) (br:=br) (aoz (t:=t) (vh:=vh) (vs:=vs) (vr:=vr) (vc:=vc) (vu:=vu) (gh:=gh) (gc:=gc) (vn:=vn) (vl:=vl) (sc:=sc) (st:=st) (v1:=v1) (v2:=v2) H.UO);have hV:=Km (bc:=bc) (br:=br) (aoA (s:=s) (r:=r) (vh:=vh) (vs:=vs) (vr:=vr) (vc:=vc) (vu:=vu) (gh:=gh) (gc:=gc) (vn:=vn) (vl:=vl) (sc:=sc) (st:=st) (v1:=v1) (v2:=v2) rfl H.pt (by have:=H.m1;omega));have hB:=Km (bc:=bc) (br:=br) (aoC (t:=t) (r:=r) (vh:=vh) (vs:=vs) (vr:=vr) (vc:=vc) (vu:=vu) (gh:=gh) (gc:=gc) (vn:=vn) (vl:=vl) (sc:=sc) (st:=st) (v1:=v1) (v2:=v2) H.aP H.ps (by have:=H.n1;omega) H.nbl);have one:∀(b:Nat) (f:fO) (c:Bool),aX prog (.func 119) [fv f] [ptr' bc,ptr' br] [] (yQ k s t r vh vs vr vc vu gh gc vn vl sc st v1 v2 bc br) (λ_:Unit=>.bool (!c)) (λ_=>[]) (λ_=>[]) (λ_=>True)->bW b 0 [fv f]∈zR y->mI k s t r=c->
  fC prog 121 [.slice (some ⟨b,0,some 0⟩) 1 1,.func (.func 119) ⟨[]⟩ ⟨[ptr' bc,ptr' br]⟩] (zR y++yQ k s t r vh vs vr vc vu gh gc vn vl sc st v1 v2 bc br) (λc:Bool=>.bool c) (λc=>c=true↔mI k s t r=false):=λb f c h hm hc=>by
  have h1:=acp (b:=b) (fs:=[fv f]) (p:=λ_=>!c) (fn:=.func 119) (first:=[]) (cap:=[ptr' bc,ptr' br]) s7 (λi g hg=>by
   match i,hg with
   |0,hg=>cases hg;exact h
   |i+1,hg=>simp at hg)
  refine((h1.facts (F2:=zR y++yQ k s t r vh vs vr vc vu gh gc vn vl sc st v1 v2 bc br) (λf hf=>?_))).weak λc' hc'=>?_
  .exact qv
  .rw[hc',hc];constructor
   .rintro⟨_,_,e⟩;simpa using e
   .intro e;exact⟨0,s7,by rw[e];rfl⟩
 have two:∀(b:Nat) (f g:fO) (c d:Bool),aX prog (.func 119) [fv f] [ptr' bc,ptr' br] [] (yQ k s t r vh vs vr vc vu gh gc vn vl sc st v1 v2 bc br) (λ_:Unit=>.bool (!c)) (λ_=>[]) (λ_=>[]) (λ_=>True)->aX prog (.func 119) [fv g] [ptr' bc,ptr' br] [] (yQ k s t r vh vs vr vc vu gh gc vn vl sc st v1 v2 bc br) (λ_:Unit=>.bool (!d)) (λ_=>[]) (λ_=>[]) (λ_=>True)->bW b 0 [fv f,fv g]∈zR y->mI k s t r=(c&&d)->
  fC prog 121 [.slice (some ⟨b,0,some 0⟩) 2 2,.func (.func 119) ⟨[]⟩ ⟨[ptr' bc,ptr' br]⟩] (zR y++yQ k s t r vh vs vr vc vu gh gc vn vl sc st v1 v2 bc br) (λc:Bool=>.bool c) (λc=>c=true↔mI k s t r=false):=λb f g c d h h2 hm hc=>by
  have h1:=acp (b:=b) (fs:=[fv f,fv g]) (p:=λi=>if i=0 then !c else !d) (fn:=.func 119) (first:=[]) (cap:=[ptr' bc,ptr' br]) s7 (λi g hg=>by
   match i,hg with
   |0,hg=>cases hg;exact h
   |1,hg=>cases hg;exact h2
   |i+2,hg=>simp at hg)
  refine((h1.facts (F2:=zR y++yQ k s t r vh vs vr vc vu gh gc vn vl sc st v1 v2 bc br) (λf hf=>?_))).weak λc' hc'=>?_
  .exact qv
  .rw[hc',hc];constructor
   .rintro⟨i,hi,e⟩;by_cases e0:i=0
    .rw[if_pos e0]at e;cases c<;>simp_all
    .rw[if_neg e0]at e;cases d<;>simp_all
   .intro e;cases hcc:c with
    |false=>exact⟨0,s7,rfl⟩
    |true=>
     rw[hcc,Bool.true_and]at e;exact⟨1,s7,by rw[e];rfl⟩
 have hk:=H.kind;obtain⟨kn,hkn⟩:=gV (by omega:0<=r.kind);have Uw:kn=1\/kn=2\/kn=3\/kn=4\/kn=5\/kn=6\/kn=7\/kn=8\/kn=9\/kn=10\/kn=11:=s6
 rcases Uw with rfl|rfl|rfl|rfl|rfl|rfl|rfl|rfl|rfl|rfl|rfl
 .exact⟨_,by rw[hkn];rfl,one y.b1 _ _ hF s7 (by unfold mI;rw[if_pos (.inl hkn)])⟩
 .exact⟨_,by rw[hkn];rfl,one y.b2 _ _ hF s7 (by unfold mI;rw[if_pos (.inr hkn)])⟩
 .exact⟨_,by rw[hkn];rfl,two y.b3 _ _ _ _ hF hV s7 (by unfold mI;rw[if_neg s6,if_pos s6])⟩
 .exact⟨_,by rw[hkn];rfl,two y.b4 _ _ _ _ hO hV s7 (by unfold mI;rw[if_neg s6,if_neg s6,if_pos s6])⟩
 .exact⟨_,by rw[hkn];rfl,one y.b5 _ _ hL s7 (by unfold mI;rw[if_neg s6,if_neg s6,if_neg s6,if_pos s6])⟩
 .exact⟨_,by rw[hkn];rfl,one y.b6 _ _ hB s7 G0⟩
 .exact⟨_,by rw[hkn];rfl,two y.b7 _ _ _ _ hB hV s7 (by unfold mI;rw[if_neg s6,if_neg s6,if_neg s6,if_neg s6,if_pos s6])⟩
 .exact⟨_,by rw[hkn];rfl,one y.b8 _ _ hB s7 G0⟩
 .exact⟨_,by rw[hkn];rfl,one y.b9 _ _ hB s7 G0⟩
 .exact⟨_,by rw[hkn];rfl,one y.b10 _ _ hB s7 G0⟩
 .refine⟨.slice none 0 0,by rw[hkn];rfl,?_⟩;refine(aoF (F1:=zR y++yQ k s t r vh vs vr vc vu gh gc vn vl sc st v1 v2 bc br)).weak λc' hc'=>?_;have:mI k s t r=true:=by unfold mI;rw[if_neg s6,if_neg s6,if_neg s6,if_neg s6,if_neg s6,if_neg s6]
  rw[hc',this];simp
end
def bE.set(h:bE k){r:dP}(hr:r∈k.decl.rules):(r.set=((r.set.toNat:Nat):Int)/\r.set.toNat<2^63)/\(r.other=((r.other.toNat:Nat):Int)/\r.other.toNat<2^63):=by
 obtain⟨q,hq,hre⟩:=h.tu hr;have hro:=h.b.rs.tu q hq;have hsl:=h.typ.lim.s1;have acu:r.set=((mG (jv k.decl) q.names:Nat):Int):=by rw[hre];rfl
 have acv:r.other=((mG (jv k.decl) q.others:Nat):Int):=by rw[hre];rfl
 have hsn:(jv k.decl).length<=16:=by unfold jv;rw[aR];exact hsl
 have hl1:=abP hsn q.names hro.names;have hl2:=abP hsn q.others hro.others;refine⟨⟨by rw[acu];omega,by rw[acu];omega⟩,⟨by rw[acv];omega,by rw[acv];omega⟩⟩
def bE.zH(h:bE k):k.grid.cells.length<=256:=by
 have:=h.bO.len;rw[h.grid];exact this
def bE.npos(h:bE k):0<k.grid.cells.length:=by
 rw[h.grid];exact aai h.bO
def bE.aoH(h:bE k){s t:ae Int}(hs:bD k.grid.cells.length s)(ht:bD k.decl.symbols.length t){r:dP}(hr:r∈k.decl.rules):acr k s t r:=by
 have hin:=(h.inr hr).iK;have hL:k.lists[r.family.toNat]? =some (k.lists[r.family.toNat]'(s6)):=bG _;have oC:=h.Oq hL;rw[wE hin.1]at oC;have Kn:∀r∈k.decl.regions,xe (bP k.decl) r.lists:=λr hr=>(h.typ.Dc r hr).1.2;have Ko:=NI h.bO Kn;have hlin:=aab h.bO Kn;rw[<- h.lists]at Ko hlin;have hn:=h.zH;refine⟨hs,ht,h.zH,h.typ.lim.s1,h.Ot,λl hl=>?_,h.kinds hr,⟨hin.1,?_,?_,hs,h.npos,s6,?_,?_⟩,(h.set hr).1,(h.set hr).2⟩
 .rw[h.aP]at hl;have:=Nz l hl;omega
 .rw[gJ hL];exact hL
 .rw[gJ hL];exact oC
 .rw[gJ hL];have:=Ko _ (aT hL);omega
 .rw[gJ hL];intro l hl;have:=(hlin _ (aT hL) l hl).1;omega
variable{s t:ae Int}{vh vs vr vc vu gh gc vn vl sc st:ah}
def UQ(hK:bE k)(hs:s.length<2^63)(ht:t.length<2^63):
 fC prog 89 [.agg ⟨jO k vh vs vr vc vu gh gc vn vl⟩,.agg ⟨[sc,st]⟩] (aj ai sc s::aj ai st t::iT k vh vs vr vc vu gh gc vn vl []) (λb:Bool=>.bool b) (λb=>b=true↔eU k s t):=by
 have hn:=hK.zH;have hm:=hK.typ.lim.s1;have rq:=hK.typ.lim.u;refine gB 89 λB w0=>?_;dsimp only[iT];refine gF ai gc k.grid.cells λag cg eg=>?_;subst eg;refine gF kF vs k.decl.symbols λqd cs1 es1=>?_;subst es1;refine gF bZ vu k.decl.rules λau cu eu=>?_;subst eu;refine go ?_;intro b2 b3;refine gP b2 ?_;refine gP b3 ?_;refine gC (Uv (xs:=s) (n:=k.grid.cells.length) hn hs) λe1 he1=>?_;refine gH ?_ ?_<;>intro h1
 rotate_left
 .refine go ?_;exact gQ false ⟨(λh=>by cases h),λh=>absurd (he1.2 h.pc) h1⟩
 have hps:=he1.1 (kv.1 h1);refine gC (Uv (xs:=t) (n:=k.decl.symbols.length) s6 ht) λe2 he2=>?_;refine aO ?_ ?_<;>intro h2
 .refine go ?_;exact gQ false ⟨(λh=>by cases h),λh=>absurd (he2.2 h.ps) h2⟩
 have hpt:=he2.1 (kv.1 h2);refine go ?_;intro b5 b6;refine iy aoD (next:=λy _=>?_);refine go ?_;refine gP b5 ?_;refine gP b6 ?_;refine gN k.decl.rules.length 36 (λj=>j<=k.decl.rules.length/\∀r∈k.decl.rules.take j,keepR k s t r=true) ⟨bM _,s7⟩ ?_;rintro j ⟨hj,hall⟩;refine aO ?_ ?_<;>intro h3
 .refine gX bZ (xs:=k.decl.rules) λ_ _ r (w:ah×ah) hr=>?_;have hrm:=aT hr;have H:=hK.aoH hps hpt hrm;have hkd:=H.kind;have hno:keepR k s t r=false->∀b:Bool,b=false->(b=true↔eU k s t):=λh b hb=>⟨(λe=>by rw[hb]at e;cases e),λq=>by have:=q.tu r hrm;rw[h]at this;cases this⟩
  obtain⟨vk,hvk,hcon⟩:=acs (bc:=b5) (br:=0) (vh:=vh) (vs:=.slice qd k.decl.symbols.length cs1) (vr:=vr) (vc:=vc) (vu:=.slice au k.decl.rules.length cu) (gh:=gh) (gc:=.slice ag k.grid.cells.length cg) (vn:=vn) (vl:=vl) (sc:=sc) (st:=st) (v1:=w.1) (v2:=w.2) H y;clear hcon;refine go ?_;intro b8;obtain⟨vk2,acy,hcon⟩:=acs (bc:=b5) (br:=b8) (vh:=vh) (vs:=.slice qd k.decl.symbols.length cs1) (vr:=vr) (vc:=vc) (vu:=.slice au k.decl.rules.length cu) (gh:=gh) (gc:=.slice ag k.grid.cells.length cg) (vn:=vn) (vl:=vl) (sc:=sc) (st:=st) (v1:=w.1) (v2:=w.2) H y;obtain rfl:vk2=vk:=by rw[hvk]at acy;exact(Option.some.inj acy).symm
  refine go ?_;refine gP b8 ?_;refine gC (aoB (k:=k) (s:=s) (r:=r) (set:=r.set.toNat) (other:=r.other.toNat) (vh:=vh) (vs:=.slice qd k.decl.symbols.length cs1) (vr:=vr) (vc:=vc) (vu:=.slice au k.decl.rules.length cu) (gh:=gh) (gc:=.slice ag k.grid.cells.length cg) (vn:=vn) (vl:=vl) (sc:=sc) (st:=st) (v1:=w.1) (v2:=w.2) H.st H.ot hpt s6) λ_ _=>?_;cases hset:rX r.set.toNat r.other.toNat t with
  |false=>
   refine go ?_;exact gQ false (hno (by unfold keepR;rw[hset];rfl) _ rfl)
  |true=>
  obtain⟨kn,hkn⟩:=gV (by omega:0<=r.kind);rw[hkn,fM]at hvk;rw[hkn];refine go ?_;refine(Mw (b:=b6) (o:=0) (j:=kn*1) (cs:=UN y) (v:=vk2) rfl rfl rfl Fc (by rw[uw,lK];exact hvk)).h ?_;rw[<- hkn];refine go ?_;dsimp only[zR,yQ,OC,List.cons_append,List.nil_append]at hcon;refine iy hcon (hF:=by repeat (first|exact Sub.nil|(apply Sub.cons;(focus (repeat (first|exact dD .. |apply dB)))))) (next:=λc hc=>?_);refine go ?_;cases c with
  |true=>
   refine go ?_;exact gQ false (hno (by unfold keepR;rw[hc.1 rfl,Bool.and_false]) _ rfl)
  |false=>
  have hcd:mI k s t r=true:=by
   cases e:mI k s t r with
   |true=>rfl
   |false=>exact absurd (hc.2 e) s7
  refine go ?_;refine aU (j+1) (by show k.decl.rules.length - (j+1)<k.decl.rules.length - j;omega) ⟨s6,λx hx=>?_⟩;rw[fF hr]at hx;rcases fq.1 hx with hx|hx
  .exact hall x hx
  .rw[bA.1 hx];unfold keepR;rw[hset,hcd];rfl
 have jT:j=k.decl.rules.length:=s6
 subst jT;rw[fu]at hall;refine go ?_;exact gQ true ⟨λ_=>⟨hps,hpt,hall⟩,λ_=>rfl⟩
structure KpP(k:aQ)(s t:List Int)(y:Bool×Int):Prop where
 nk:¬bE k->y=(false,180)
 ok:bE k->y.2=0/\(y.1=true↔eU k s t)
def aoJ(hS:qg k)(hs:s.length<2^63)(ht:t.length<2^63):
 fC prog 92 [.agg ⟨jO k vh vs vr vc vu gh gc vn vl⟩,.agg ⟨[sc,st]⟩] (aj ai sc s::aj ai st t::iT k vh vs vr vc vu gh gc vn vl []) (λy:Bool×Int=>.tuple ⟨[.bool y.1,iV y.2]⟩) (KpP k s t):=by
 refine gB 92 λB w0=>?_;dsimp only[iT];refine go ?_;intro b2 b3;refine gC (J6 (k:=k) (vh:=vh) (vs:=vs) (vr:=vr) (vc:=vc) (vu:=vu) (gh:=gh) (gc:=gc) (vn:=vn) (vl:=vl) hS) λb hb=>?_;cases b with
 |false=>
  have hno:¬bE k:=λh=>by have:=hb.2 h;cases this
  dsimp only[cond];refine go ?_;exact gQ (false,180) ⟨λ_=>rfl,λh=>absurd h hno⟩
 |true=>
 have hK:=hb.1 rfl;dsimp only[cond];refine gC (UQ (k:=k) (s:=s) (t:=t) (vh:=vh) (vs:=vs) (vr:=vr) (vc:=vc) (vu:=vu) (gh:=gh) (gc:=gc) (vn:=vn) (vl:=vl) (sc:=sc) (st:=st) hK hs ht) λc hc=>?_;refine go ?_;exact gQ (c,0) ⟨λh=>absurd hK h,λ_=>⟨rfl,hc⟩⟩
structure aoK(k:aQ)(s t:List Int)(e:Int):Prop where
 nk:¬bE k->e=180
 ns:bE k->¬eU k s t->e=230
 ok:bE k->eU k s t->e=0
def aoL(hS:qg k)(hs:s.length<2^63)(ht:t.length<2^63):
 fC prog 50 [.agg ⟨jO k vh vs vr vc vu gh gc vn vl⟩,.agg ⟨[sc,st]⟩] (aj ai sc s::aj ai st t::iT k vh vs vr vc vu gh gc vn vl []) (λe:Int=>iV e) (aoK k s t):=by
 refine gB 50 λB w0=>?_;dsimp only[iT];refine go ?_;intro b2 b3;refine gC (J6 (k:=k) (vh:=vh) (vs:=vs) (vr:=vr) (vc:=vc) (vu:=vu) (gh:=gh) (gc:=gc) (vn:=vn) (vl:=vl) hS) λb hb=>?_;cases b with
 |false=>
  exact gR
 |true=>
 have hK:=hb.1 rfl;dsimp only[cond];refine gC (aoJ (k:=k) (s:=s) (t:=t) (vh:=vh) (vs:=vs) (vr:=vr) (vc:=vc) (vu:=vu) (gh:=gh) (gc:=gc) (vn:=vn) (vl:=vl) (sc:=sc) (st:=st) hS hs ht) λy hy=>?_;obtain⟨c,e⟩:=y;obtain⟨he,hc⟩:=hy.ok hK;dsimp only at he hc;subst he;refine go ?_;cases c with
 |false=>
  have hno:¬eU k s t:=λh=>by have:=hc.2 h;cases this
  refine go ?_;exact gQ 230 ⟨λh=>absurd hK h,λ_ _=>rfl,λ_ h=>absurd h hno⟩
 |true=>
  refine go ?_;exact gQ 0 ⟨λh=>absurd hK h,λ_ h=>absurd (hc.1 rfl) h,λ_ _=>rfl⟩
