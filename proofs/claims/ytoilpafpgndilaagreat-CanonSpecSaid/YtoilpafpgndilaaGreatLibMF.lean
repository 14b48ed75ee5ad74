/- Part. -/
import Derived.Test.YtoilpafpgndilaaGreatLibHF
set_option linter.all false
set_option maxRecDepth 10000
set_option maxHeartbeats 4000000
namespace Go.Proofs.YtoilpafpgndilaaGreat
open Tryz (prog)
open Go.Ideal Kd
variable{xs:kI Int}
def am8{v:vI}(hl:xs.length<=1000000):bA prog (.func 52) [v] [] [] [ai ae v xs] (λa:x8 Addr=>.slice a xs.length xs.length) (λa=>[ap ae (.slice a xs.length xs.length) xs]) (λ_=>[]) (λ_=>True):=by
 refine aM Oh VF λB w0=>?_;refine IW ae v (xs:=xs) λaC hxy=>?_;have hlen:aC.length=xs.length:=Ek
 refine Tp (aC:=aC) (v:=v) (E:=ae) ?_;refine adD (v:=v) (aC:=aC) ae (λe c ev=>?_) (λe i o f c ev=>?_) (λhne i o f c ev=>?_)
 .subst e ev;have hx:xs=[]:=by rw[<- hxy];rfl
  subst hx;simp only[Dx];refine go ?_;refine(fA rfl rfl (Fe (e:=3) Ax rfl)).h ?_;refine go ?_;refine af5 ae ?_;exact gQ none trivial
 .subst e ev;have hx:xs=[]:=by rw[<- hxy];rfl
  subst hx;simp only[Dx];refine go ?_;refine(fA rfl rfl (zb (e:=3) Ax rfl)).h ?_;refine go ?_;intro b;refine go ?_;refine IY (b:=b) ?_;refine go ?_;refine Sg ae az.here ?_;exact gQ (some ⟨b,0,some 0⟩) trivial
 .subst ev;refine go ?_;refine(fA rfl rfl (zb (e:=3) Ax rfl)).h ?_;refine go ?_;intro b;refine go ?_;refine IZ (b:=b) ae aC hne z7 (λb'=>?_);refine go ?_;refine tT (b:=b') (m:=aC.length) (f:=ae.n) ae (aC:=aC) rfl (.inr rfl) ?_ (hk:=az.here);refine TR (aC:=aC) hne ?_ (λw h=>h _ An);rw[hxy,hlen];exact gQ (some ⟨b',0,some ae.n⟩) trivial
def Bv(xs zs:kI Int)(k:Nat):Prop:=zs.length=xs.length/\∀i,i<xs.length->zs[i]? =if i<k\/xs.length - 1 - i<k then xs[xs.length - 1 - i]? else xs[i]?
def Bv.zero(xs:kI Int):Bv xs xs 0:=⟨rfl,λi hi=>by rw[if_neg z7]⟩
variable{zs:kI Int}{k:Nat}
def Bv.step{x y:Int}(h:Bv xs zs k)(hk:k<xs.length - 1 - k)(hx:zs[k]? =some x)(hy:zs[xs.length - 1 - k]? =some y):Bv xs ((zs.set k y).set (xs.length - 1 - k) x) (k+1):=by
 obtain⟨h1,h2⟩:=h;refine⟨by rw[pV,pV];exact h1,λi hi=>?_⟩;have hx':=h2 k z7;have hy':=h2 (xs.length - 1 - k) z7;rw[if_neg z7,hx]at hx';rw[if_neg z7,hy]at hy';rw[oQ,pV,h1];by_cases e:xs.length - 1 - k=i
 .rw[if_pos e,if_pos z7,if_pos z7,show xs.length - 1 - i=k by omega,hx']
 .rw[if_neg e,oQ,h1];by_cases e2:k=i
  .subst e2;rw[if_pos rfl,if_pos hi,if_pos z7,hy']
  .rw[if_neg e2,h2 i hi];by_cases c:i<k\/xs.length - 1 - i<k
   .rw[if_pos c,if_pos z7]
   .rw[if_neg c,if_neg z7]
def Bv.done(h:Bv xs zs k)(hk:¬k<xs.length - 1 - k)(hle:2*k<=xs.length+1):zs=xs.reverse:=by
 obtain⟨h1,h2⟩:=h;apply iY;intro i;by_cases hi:i<xs.length
 .rw[h2 i hi,List.getElem?_reverse hi];by_cases c:i<k\/xs.length - 1 - i<k
  .rw[if_pos c]
  .rw[if_neg c,show xs.length - 1 - i=i by omega]
 .rw[fO z7,fO (by rw[akP];omega)]
variable{a:x8 Addr}{c:Nat}
def aqm:fC prog 53 [.slice a 0 c] [] (λ_:Unit=>.tuple ⟨[]⟩) (λ_=>True):=by
 refine gB 53 λB w0=>?_;refine go ?_;refine mR ?_;exact afN
variable{b:Nat}
def aqn{f:Nat}{pre:kI vI}(hl:xs.length<=1000000)(hf:f=0\/f=1):bA prog (.func 53) [.slice (some ⟨b,pre.length,some f⟩) xs.length xs.length] [] [pt b (.cells (pre++xs.map iV))] [] (λ_:Unit=>.tuple ⟨[]⟩) (λ_=>[pt b (.cells (pre++xs.reverse.map iV))]) (λ_=>[]) (λ_=>True):=by
 refine gB 53 λB w0=>?_;refine go ?_;refine aU (λy:Nat×kI Int=>xs.length - y.1) (λy=>[(3,iV ((xs.length:Int) - 1 - (y.1:Int))),(2,iV (y.1:Int))]) (λy=>[pt b (.cells (pre++y.2.map iV))]) (λ_=>[]) (λy=>Bv xs y.2 y.1/\2*y.1<=xs.length+1) (0,xs) ⟨Bv.zero xs,by show 2*0<=_;omega⟩ (hl:=Hh) (hk:=As) (body:=?_);rintro⟨k,zs⟩ ⟨hR,hle⟩;dsimp only at hR hle⊢;have hzl:=hR.1;refine gIf ?_ ?_<;>intro h1
 .have hk1:k<xs.length - 1 - k:=by omega
  have hj:((xs.length:Int) - 1 - (k:Int))=((xs.length - 1 - k:Nat):Int):=z7
  rw[hj];generalize hjj:xs.length - 1 - k=j at hk1 hj⊢;have hx:zs[k]? =some zs[k]:=bP z7;have hy:zs[j]? =some zs[j]:=bP z7;generalize zs[k]=x at hx;generalize zs[j]=z at hy;have hst:=hR.step z7 hx (by rw[hjj];exact hy);rw[hjj]at hst;refine go ?_;refine qh (b:=b) (o:=pre.length+j*1) (cs:=pre++zs.map iV) (iV z) (TS hy) ?_;refine go ?_;refine qh (b:=b) (o:=pre.length+k*1) (cs:=pre++zs.map iV) (iV x) (TS hx) ?_;refine go ?_;refine qI (b:=b) (o:=pre.length+k*1) (cs:=pre++zs.map iV) (v:=iV z) (cs':=pre++(zs.set k z).map iV) TT (by rw[iH,bY];omega) ?_;refine go ?_;refine qI (b:=b) (o:=pre.length+j*1) (cs:=pre++(zs.set k z).map iV) (v:=iV x) (cs':=pre++((zs.set k z).set j x).map iV) TT (by rw[iH,bY,pV];omega) ?_;refine go ?_;refine aN (k+1,(zs.set k z).set j x) D3 ⟨hst,by show 2*(k+1)<=_;omega⟩ (hl:=by dsimp only;rw[show(xs.length:Int) - 1 - ((k+1:Nat):Int)=(j:Int) - 1 by omega];repeat (first|exact trivial|refine⟨rfl,?_⟩))
 have hz:=hR.done z7 hle;subst hz;exact afN
def aqo{n:Nat}:bA prog (.func 95) [.slice a n c] [] [] [] (λb:Nat=>.func (.func 127) #[] #[ptr' b]) (λ_=>[]) (λb=>[gY b 0 [.slice a n c]]) (λ_=>True):=by
 refine aM abw aii λB w0=>?_;refine go ?_;intro b1;refine go ?_;refine gP b1 ?_;exact gQ b1 trivial
def alL(hl:xs.length<=1000000):bA prog (.func 53) [.slice a xs.length xs.length] [] [ap ae (.slice a xs.length xs.length) xs] [] (λ_:Unit=>.tuple ⟨[]⟩) (λ_=>[ap ae (.slice a xs.length xs.length) xs.reverse]) (λ_=>[]) (λ_=>True):=by
 by_cases hne:0<xs.length
 .exact bA.apy (args:=λa=>[.slice a xs.length xs.length]) (zs:=λ_=>xs.reverse) hne (λ_=>List.length_reverse) λb f pre hf=>aqn hl hf
 .obtain rfl:xs=[]:=jy.1 z7;intro B w s;obtain⟨S1,s1,back⟩:=s.pz (k1:=[]) (bH:=[ap ae (.slice a 0 0) []]) (F1:=[]) .nil .nil;refine .vT _ (aqm (a:=a) (c:=0) S1 w s1) ?_;exact sq
def aqp(hl:xs.length<2^63):
 alK prog (λx:Int=>[jF x]) (.func 127) [] [ptr' b] [ap ae (.slice a xs.length xs.length) xs] [gY b 0 [.slice a xs.length xs.length]] (λys=>ys=xs):=by
 intro S inv ok step s0 Fb y1 y2 F' h0 hok hy;rw[fV,dY];refine aM acy aij λB w0=>?_;refine go ?_;refine aU (λy:Nat×S=>xs.length - y.1) (λy=>[(7,iV (y.1:Int))]) (λy=>inv y.2++[ap ae (.slice a xs.length xs.length) xs]) (λ_=>[]) (λy=>y.1<=xs.length/\ok (xs.take y.1) y.2/\mD step y.2 (xs.drop y.1)=mD step s0 xs) (0,s0) ⟨bR _,h0,rfl⟩ (hk:=aI.all _) (body:=?_);rintro⟨k,s⟩ ⟨hk,hos,hrun⟩;dsimp only at hk hos hrun⊢;refine gIf ?_ ?_<;>intro h1
 .have hx:xs[k]? =some xs[k]:=bP z7;generalize xs[k]=x at hx;have hd:xs.drop k=x::xs.drop (k+1):=by
   exact tf
  have hX:xs.take k++x::xs.drop (k+1)=xs:=by rw[<- hd,uq]
  have Bi:=hy _ s _ _ hos hX;rw[hd,mD]at hrun;refine go ?_;refine anV (v:=.slice a xs.length xs.length) (xs:=xs) k x hx (next:=λb0 o0=>?_) (hk:=az.app .here _);refine go ?_;refine ay Bi (hk:=aI.self _ _) (next:=λ_ _=>?_);cases hst:(step s x).2 with
  |true=>
   have hs1:step s x=((step s x).1,true):=Prod.ext rfl hst;rw[hs1]at hrun;refine go ?_;refine aN (k+1,(step s x).1) D3 ⟨by show k+1<=_;omega,?_,hrun⟩ (hk:=aI.all _);exact tI
  |false=>
   exact lA
 have hke:k=xs.length:=z7
 subst hke;rw[alV]at hrun;refine go ?_;exact gQ xs rfl (hk:=GF)
variable{fn:Fn}{first captured:kI vI}{F1:kI aO}{A:OA}{X:kI Int->Prop}
def aqr(hit:alK prog (λx:Int=>[jF x]) fn first captured [A] F1 X)(hl:∀xs,X xs->xs.length<=1000000):
 bA prog (.func 162) [.slice none 0 0,.func fn ⟨first⟩ ⟨captured⟩] [] [A] F1 (λy:Ov=>y.v) (λy=>[ap ae y.v y.xs,A]) (λ_=>[]) (λy=>X y.xs):=by
 refine MM Vj aeY λB w0=>?_;refine go ?_;intro b2;refine af5 ae ?_;refine SC (λv:vI=>[pt b2 (.cells [v]),ap ae v ([]:kI Int)]) (.slice none 0 0) (h:=?_);refine apv (Z:=Nat) (λ(ys:kI Int) (x:Int)=>(ys++[x],Out.normal)) (λys=>[ae4 ae b2 ys]) (λvs ys=>ys=vs) [] _ (λ_ _=>[]) rfl (λvs s x rest hs hX _=>by rw[hs]) hit Iv ?_ ?_ (λ_ _=>trivial)
 .exact dl
 .exact ef
def aqs(hit:alK prog (λx:Int=>[jF x]) fn first captured [A] F1 X)(hl:∀xs,X xs->xs.length<=1000000):
 bA prog (.func 125) [.func fn ⟨first⟩ ⟨captured⟩] [] [A] F1 (λy:Ov=>y.v) (λy=>[ap ae y.v y.xs,A]) (λ_=>[]) (λy=>X y.xs):=by
 refine aM Vk aeZ λB w0=>?_;refine gC (aqr hit hl) λy hy=>?_;dsimp only[List.cons_append,List.nil_append];refine go ?_;exact gQ y hy
def aqt(hit:alK prog (λx:Int=>[jF x]) fn first captured [A] F1 X)(hl:∀xs,X xs->xs.length<=1000000):
 bA prog (.func 94) [.func fn ⟨first⟩ ⟨captured⟩] [] [A] F1 (λy:Ov=>y.v) (λy=>[ap ae y.v (bW y.xs),A]) (λ_=>[]) (λy=>X y.xs):=by
 refine aM VS afR λB w0=>?_;refine gC (aqs hit hl) λy hy=>?_;obtain⟨v,xs⟩:=y;dsimp only[List.cons_append,List.nil_append]at hy⊢;have hlen:=hl _ hy;refine pO (E:=ae) (v:=v) (xs:=xs) λa hv=>?_;subst hv;refine gC (Oq (a:=a) (zs:=xs) rfl z7) λ_ _=>?_;refine go ?_;exact gQ ⟨.slice a xs.length xs.length,xs⟩ hy
def ali{vb:vI}{ys:kI Int}(hal:xs.length<2^63):
 bA prog (.func 58) [.slice a xs.length xs.length,vb] [] [ap ae (.slice a xs.length xs.length) xs] [ai ae vb ys] (λ_:Unit=>.bool (decide (xs=ys))) (λ_=>[ap ae (.slice a xs.length xs.length) xs]) (λ_=>[]) (λ_=>True):=by
 refine aM Vl ae3 λB w0=>?_;refine gIf ?_ ?_<;>intro h1
 .exact ez
 have hlen:xs.length=ys.length:=z7
 refine go ?_;refine aU (λk=>xs.length - k) (λk:Nat=>[(13,iV (k:Int))]) (λ_=>[ap ae (.slice a xs.length xs.length) xs]) (λ_=>[]) (λk=>k<=xs.length/\∀j,j<k->xs[j]? =ys[j]?) 0 ⟨z7,λj hj=>by omega⟩ (hk:=As) (body:=?_);rintro k ⟨hkx,hsame⟩;refine gIf ?_ ?_<;>intro h2
 .have hx:xs[k]? =some xs[k]:=bP z7;generalize xs[k]=x at hx;refine go ?_;refine anV (v:=.slice a xs.length xs.length) (xs:=xs) k x hx (next:=λb0 o0=>?_);refine go ?_;intro _ _ y hy;refine gIf ?_ ?_<;>intro h3
  .exact cV
  exact nl
 refine acM ?_;have:xs=ys:=by
  exact cN
 rw[dK this];rfl
def ajB(p:kI Int->Bool)(L:kI (kI Int)):Int:=match L.findIdx? p with
 |some i=>(i:Int)
 |none=> -1
variable{p:kI Int->Bool}{L:kI (kI Int)}
def am9{x:kI Int}(h:(L.take k).any p=false)(hx:L[k]? =some x)(hp:p x=true):ajB p L=(k:Int):=by
 have hk:=(bq.1 hx).1;have:L.findIdx? p=some k:=by
  rw[aoV];refine⟨hk,by rw[(bq.1 hx).2];exact hp,λj hj fU=>?_⟩;have h1:=List.any_eq_false.1 h L[j] (aZ (i:=j) (by rw[sK,if_pos hj];exact bP z7));exact h1 fU
 unfold ajB;rw[this]
def ana(h:L.any p=false):ajB p L= -1:=by
 have:L.findIdx? p=none:=by
  rw[List.findIdx?_eq_none_iff];intro x hx;have:=List.any_eq_false.1 h x hx;simpa using this
 unfold ajB;rw[this]
def amu(L:kI (kI Int))(w:kI Int):ajB (λx=>decide (bW x=bW w)) L=zo L w:=rfl
def an3{cap:kI vI}{va:vI}{xs:kI (kI Int)}(hl:xs.length<2^63)(hp:∀x∈xs,OC prog fn first cap F1 p x):
 fC prog 96 [va,.func fn ⟨first⟩ ⟨cap⟩] (ai (ak ae) va xs::F1) (λ_:Unit=>iV (ajB p xs)) (λ_=>True):=by
 refine aM acL aik λB w0=>?_;refine gF (ak ae) va xs λaa ca ea=>?_;subst ea;refine gN xs.length 8 (λk=>k<=xs.length/\(xs.take k).any p=false) ⟨z7,An⟩ ?_;rintro k ⟨hk,hno⟩;refine gIf ?_ ?_<;>intro h1
 .refine gX (ak ae) (xs:=xs) λ_ _ x (u:vI) hx=>?_;refine gC (hp x (aZ hx) u) λ_ _=>?_;refine go ?_;refine kw rfl (λh2=>?_) (λh2=>?_)
  .refine acM ?_;rw[am9 hno hx h2];rfl
  .refine go ?_;refine aN (k+1) z7 ⟨z7,?_⟩;rw[bZ hx,amP,hno];simpa using h2
 have hke:k=xs.length:=z7
 subst hke;rw[bU]at hno;refine acM ?_;rw[ana hno];rfl
end Go.Proofs.YtoilpafpgndilaaGreat
namespace Go.Proofs.YtoilpafpgndilaaGreat
open Tryz (prog)
open Go.Ideal Kd
def akK(xs:kI Int):kI vI:=(List.range 256).map λj:Nat=>.bool (decide ((j:Int)∈xs))
def an4(xs:kI Int):(akK xs).length=256:=by unfold akK;rw[bY,uu]
variable{j:Nat}{xs:kI Int}
def aqu(hj:j<256):(akK xs)[0+j*1]? =some (.bool (decide ((j:Int)∈xs))):=by
 rw[fo,uw];unfold akK;rw[dm,pU hj];rfl
def aqv(hj:j<256):(akK xs).set (0+j*1) (.bool true)=akK (xs++[(j:Int)]):=by
 rw[fo,uw];apply iY;intro i;rw[oQ,an4];unfold akK;by_cases hi:i<256
 .exact py
 .exact fW
def aqw:akK []=List.replicate 256 (.bool false):=by
 unfold akK;apply iY;intro i;rw[dm,PO];by_cases hi:i<256
 .rw[pU hi,if_pos hi];simp
 .rw[fO (by rw[uu];omega),if_neg hi];rfl
def aqx{B:kI Nat}{w0:Wd}{kl:kI OA}{F:kI aO}{Q:IH->Prop}{A A':OA}(e:A=A')(h:R Q B w0 (A'::kl) F):R Q B w0 (A::kl) F:=by rw[e];exact h
variable{n:Nat}{v:vI}
def aqy(hn:n<=256)(hl:xs.length<2^63):fC prog 102 [v,iV (n:Int)] [ai ae v xs] (λb:Bool=>.bool b) (λb=>b=true↔dF n xs):=by
 refine gB 102 λB w0=>?_;refine gF ae v xs λav cv ev=>?_;subst ev;refine go ?_;intro b5;refine aqx (A':=pt b5 (.cells (akK []))) (by rw[aqw]<;>rfl) ?_;refine go ?_;refine aU (λk=>xs.length - k) (λk:Nat=>[(10,iV (k:Int))]) (λk=>[pt b5 (.cells (akK (xs.take k)))]) (λ_=>[]) (λk=>k<=xs.length/\(∀x∈xs.take k,0<=x/\x<(n:Int))/\(xs.take k).Nodup) 0 ⟨bR _,An,An⟩ (hk:=As) (body:=?_);rintro k ⟨hk,hin,hnd⟩;refine gIf ?_ ?_<;>intro h1
 .refine go ?_;intro _ _ x hx;have hxm:=aZ hx;have htk:=bZ hx;have hno:¬(0<=x/\x<(n:Int))->∀b:Bool,b=false->(b=true↔dF n xs):=λh b hb=>⟨(λe=>by rw[hb]at e;cases e),λq=>absurd (q.fG x hxm) h⟩
  refine gH ?_ ?_<;>intro h2
  rotate_left
  .exact nt
  refine gH ?_ ?_<;>intro h3
  rotate_left
  .exact nt
  obtain⟨m,rfl⟩:=jA (by omega:0<=x);refine go ?_;refine qh (b:=b5) (o:=0+m*1) (cs:=akK (xs.take k)) (.bool (decide ((m:Int)∈xs.take k))) (aqu z7) ?_;refine gIf ?_ ?_<;>intro h4
  .exact lz
  refine go ?_;refine qI (b:=b5) (o:=0+m*1) (cs:=akK (xs.take k)) (v:=.bool true) (cs':=akK (xs.take (k+1))) (by rw[aqv z7,htk]) (by rw[an4];omega) ?_;exact fL
 have hke:k=xs.length:=z7
 subst hke;rw[bU]at hin hnd;refine go ?_;refine gQ (decide ((xs.length:Int)=(n:Int))) ?_;rw[lM];exact⟨λe=>⟨z7,hin,hnd⟩,λq=>by have:=q.len;omega⟩
def an5(hn:n<=256)(hl:xs.length<2^63):fC prog 55 [v,iV (n:Int)] [ai ae v xs] (λe:Int=>iV e) (λe=>e=0↔dF n xs):=by
 refine gB 55 λB w0=>?_;refine gIf ?_ ?_<;>intro h1
 .exfalso;omega
 refine gC (aqy (xs:=xs) (n:=n) hn hl) λb hb=>?_;refine go ?_;cases b with
 |false=>
  refine go ?_;exact gQ 110 ⟨(λh=>by cases h),λh=>by have:=hb.2 h;cases this⟩
 |true=>
  refine go ?_;exact gQ 0 ⟨λ_=>hb.1 rfl,λ_=>rfl⟩
def sw(d:kI Int)(n:Nat):kI Int:=d++List.replicate (n - d.length) 0
variable{d:kI Int}
def ag7(h:d.length<=n):(sw d n).length=n:=by unfold sw;rw[iH,Gn];omega
def ag8{k:Nat}{x:Int}(hk:k=d.length)(h:k<n):(sw d n).set k x=sw (d++[x]) n:=by
 subst hk;unfold sw;rw[Gl _ _ (bT _),vK,show n - d.length=(n - (d.length+1))+1 by omega,Gg,List.set_cons_zero,iH,zS,List.append_assoc];rfl
def ag9(h:d.length=n):sw d n=d:=by unfold sw;rw[h,vK];simp
def aha(n:Nat):sw [] n=List.replicate n 0:=by unfold sw;simp
def ahb(n:Nat):zeros [iV 0] n=(sw [] n).map iV:=by
 rw[aha];induction n with
 |zero=>rfl
 |succ n ih=>rw[Gg,agO,<- ih];rfl
end Go.Proofs.YtoilpafpgndilaaGreat
namespace Go.Proofs.YtoilpafpgndilaaGreat
open Tryz (prog)
open Go.Ideal Kd Canon Gph
def Dq(k:bD)(s t:kI Int)(r:bN):Bool:=
 if r.kind=1\/r.kind=2 then mZ (k.lists.getD r.family.toNat []) s r.family xV
 else if r.kind=3 then mZ (k.lists.getD r.family.toNat []) s r.family xV&&qL (su k) t
 else if r.kind=4 then mZ (k.lists.getD r.family.toNat []) s r.family Bb&&qL (su k) t
 else if r.kind=5 then mZ (k.lists.getD r.family.toNat []) s r.family Bc
 else if r.kind=7 then pI k.aQ s&&qL (su k) t
 else if r.kind=6\/r.kind=8\/r.kind=9\/r.kind=10 then pI k.aQ s
 else true
def keepR(k:bD)(s t:kI Int)(r:bN):Bool:=xW r.set.toNat r.other.toNat t&&Dq k s t r
structure lc(k:bD)(s t:List Int):Prop where
 pc:dF k.grid.cells.length s
 ps:dF k.decl.symbols.length t
 rV:∀r∈k.decl.rules,keepR k s t r=true
variable{k:bD}
def dH.We(h:dH k){f:Nat}{L:kI (kI Int)}(hL:k.lists[f]? =some L):pJ k.grid.cells.length L (f:Int):=by
 rw[h.lists]at hL;rw[h.grid];exact aeO h.cZ (λr hr=>⟨(h.typ.Dl r hr).1.2,(h.typ.Dl r hr).2⟩) hL
def dH.OQ(h:dH k):wC k.grid.cells.length k.aQ:=by
 rw[h.aQ,h.grid];exact⟨wm _,λl hl=>(Fv l hl).2⟩
def dH.kinds(h:dH k){r:bN}(hr:r∈k.decl.rules):1<=r.kind/\r.kind<=11:=by
 refine ag4 ?_;have:=h.typ.read;exact ki
def Wh(c:gW)(r:bN):Prop:=((r.kind=2\/r.kind=3)/\c.type=2/\c.family=r.family)\/(r.kind=5/\c.type=3/\c.family=r.family)\/(r.kind=11/\c.type=1/\c.family=0)
def dH.ahc(h:dH k){r:bN}(hr:r∈k.decl.rules):(r.adJ= -1/\r.kind≠5/\r.kind≠11)\/∃c,0<=r.adJ/\k.decl.aJ[r.adJ.toNat]? =some c/\Wh c r:=by
 have hkd:=h.kinds hr;have hx:=(h.typ.form.kX r hr).clu _ rfl;have hcp:=λc (hc:k.decl.aJ[r.adJ.toNat]? =some c)=>(h.typ.form.jg _ c hc).2;have ahd:r.kind=1\/r.kind=2\/r.kind=3\/r.kind=4\/r.kind=5\/r.kind=6\/r.kind=7\/r.kind=8\/r.kind=9\/r.kind=10\/r.kind=11:=z7
 have key:∀need:Int,need=(if(fM r.kind).op=true/\r.dS≠qU then 2 else(fM r.kind).adJ)->(need=0->r.kind≠5/\r.kind≠11)/\(need=2->r.kind=2\/r.kind=3)/\(need=3->r.kind=5)/\(need=1->r.kind=11)/\(need=0\/need=1\/need=2\/need=3):=by
  intro need hn;rcases ahd with e|e|e|e|e|e|e|e|e|e|e;all_goals (rw[e]at hn⊢;simp[fM]at hn;(try split at hn)<;>(refine⟨λh=>?_,λh=>?_,λh=>?_,λh=>?_,?_⟩<;>omega))
 obtain⟨k0,k2,k3,k1,kk⟩:=key _ rfl;generalize(if(fM r.kind).op=true/\r.dS≠qU then 2 else(fM r.kind).adJ:Int)=need at hx k0 k1 k2 k3 kk;rcases hx with⟨a,_,b⟩|⟨a,b,_,c,c1,c2,c3⟩
 .exact .inl ⟨b,k0 a⟩
 .refine .inr ⟨c,b,c1,?_⟩;rcases kk with e|e|e|e
  .exact absurd e a
  .have:=hcp c c1;unfold qR at this;exact .inr (.inr ⟨k1 e,z7,z7⟩)
  .exact .inl ⟨k2 e,z7,z7⟩
  .exact .inr (.inl ⟨k3 e,z7,z7⟩)
def dH.ahe(h:dH k){i:Nat}{c:gW}(hc:k.decl.aJ[i]? =some c):∃r∈k.decl.rules,r.adJ=(i:Int)/\Wh c r:=by
 have h1:=(h.typ.form.jg i c hc).1;have hm:(i:Int)∈k.decl.rules.map (·.adJ):=List.count_pos_iff.1 z7;obtain⟨r,hr,e⟩:=eT.1 hm;rcases h.ahc hr with⟨a,_⟩|⟨c',b1,b2,b3⟩
 .omega
 .rw[e,kJ,hc]at b2;cases b2;exact⟨r,hr,e,b3⟩
def vD(c:gW):kI Int->kI Int->Bool:=if c.type=3 then Bc else xV
variable{s t:kI Int}
def lc.rule(h:lc k s t){r:bN}(hr:r∈k.decl.rules):xW r.set.toNat r.other.toNat t=true/\
 ((r.kind=1\/r.kind=2\/r.kind=3)->mZ (k.lists.getD r.family.toNat []) s r.family xV=true)/\((r.kind=3\/r.kind=4\/r.kind=7)->qL (su k) t=true)/\
 (r.kind=4->mZ (k.lists.getD r.family.toNat []) s r.family Bb=true)/\(r.kind=5->mZ (k.lists.getD r.family.toNat []) s r.family Bc=true)/\((6<=r.kind/\r.kind<=10)->pI k.aQ s=true):=by
 have h1:=h.rV r hr;unfold keepR Dq at h1;rw[afD]at h1;refine⟨h1.1,?_⟩;have h2:=h1.2;refine⟨λe=>?_,λe=>?_,λe=>?_,λe=>?_,λe=>?_⟩
 .rcases e with e|e|e
  .rw[if_pos (.inl e)]at h2;exact h2
  .rw[if_pos (.inr e)]at h2;exact h2
  .rw[if_neg z7,if_pos e,afD]at h2;exact h2.1
 .rcases e with e|e|e
  .rw[if_neg z7,if_pos e,afD]at h2;exact h2.2
  .rw[if_neg z7,if_neg z7,if_pos e,afD]at h2;exact h2.2
  .rw[if_neg z7,if_neg z7,if_neg z7,if_neg z7,if_pos e,afD]at h2;exact h2.2
 .rw[if_neg z7,if_neg z7,if_pos e,afD]at h2;exact h2.1
 .rw[if_neg z7,if_neg z7,if_neg z7,if_pos e]at h2;exact h2
 .rw[if_neg z7,if_neg z7,if_neg z7,if_neg z7]at h2;by_cases e7:r.kind=7
  .rw[if_pos e7,afD]at h2;exact h2.1
  .rw[if_neg e7,if_pos z7]at h2;exact h2
def ahf(hK:dH k)(hk:lc k s t){i:Nat}{c:gW}(hc:k.decl.aJ[i]? =some c):∃L,k.lists[c.family.toNat]? =some L/\pJ k.grid.cells.length L c.family/\∀j,j<L.length->∃i,Goes L s c.family (vD c) j i:=by
 have hf:=hK.kE c (aZ hc);have hL:k.lists[c.family.toNat]? =some (k.lists[c.family.toNat]'(z7)):=bP _;have mI:=hK.We hL;rw[vM hf.1]at mI;refine⟨_,hL,mI,?_⟩;obtain⟨r,hr,e,hcr⟩:=hK.ahe hc;obtain⟨_,k1,_,_,k5,_⟩:=hk.rule hr;unfold vD;rcases hcr with⟨a,b,d⟩|⟨a,b,d⟩|⟨a,b,d⟩
 .rw[if_neg z7];have:=k1 z7;rw[<- d,j5 hL]at this;exact(zu mI hk.pc).1 this
 .rw[if_pos b];have:=k5 a;rw[<- d,j5 hL]at this;exact(zu mI hk.pc).1 this
 .rw[if_neg z7];intro j hj;have hl0:k.lists[c.family.toNat]? =some (kW k.grid.cells.length):=by
   rw[d,hK.lists,hK.grid];rfl
  rw[hL]at hl0;have hl0:=Option.some.inj hl0;have hn:(kW k.grid.cells.length).length=k.grid.cells.length:=Jj _;rw[hl0]at hj⊢;have hr2:=hk.pc.at_ (c:=(j:Int)) z7 z7;have hget:∀m,m<k.grid.cells.length->(kW k.grid.cells.length)[m]? =some [(m:Int)]:=λm hm=>by
   unfold kW;rw[dm,pU hm];rfl
  refine⟨(aB s (j:Int)).toNat,_,_,hget j z7,hget _ z7,?_,?_,λ_=>vM hr2.1⟩
  .rw[vM hr2.1];exact List.Perm.refl _
  .rw[vM hr2.1];exact Bd.2 (List.Perm.refl _)
def oM(s l l':kI Int):Bool:=!decide (img s l=l')&&decide ((img s l).reverse=l')
def yo(c:gW)(s t l l' v:kI Int):kI Int:=if c.type=1 then img t v else if c.type=3/\oM s l l'=true then v.reverse else v
def l8(k:bD)(s t:kI Int)(g:Clue):Clue:=
 match k.decl.aJ[g.adJ.toNat]? with
 |none=>g
 |some c=>⟨g.adJ,lH (k.lists.getD c.family.toNat []) s c.family g.at_,yo c s t ((k.lists.getD c.family.toNat []).getD g.at_.toNat []) ((k.lists.getD c.family.toNat []).getD (lH (k.lists.getD c.family.toNat []) s c.family g.at_).toNat []) g.values⟩
structure OT(k:bD)(s t:List Int)(g:Clue)(c:gW)(L:List (List Int))(j i:Nat)(l l':List Int):Prop where
 adJ:0<=g.adJ
 hc:k.decl.aJ[g.adJ.toNat]? =some c
 hL:k.lists[c.family.toNat]? =some L
 kE:pJ k.grid.cells.length L c.family
 at_:g.at_=(j:Int)
 hl:L[j]? =some l
 hl':L[i]? =some l'
 goes:Goes L s c.family (vD c) j i
 perm:l'.Perm (img s l)
 eq:vD c l' (img s l)=true
 img:l8 k s t g=⟨g.adJ,(i:Int),yo c s t l l' g.values⟩
 cells:nR k g=l
 cells':nR k (l8 k s t g)=l'
def Bw(hK:dH k)(hk:lc k s t){g:Clue}(hg:mY k g):∃c L j i l l',OT k s t g c L j i l l':=by
 obtain⟨c,L,l,h1,h2,h3,h4,h5,h6,h7⟩:=hg.cells;obtain⟨L',hL',mI,hgo⟩:=ahf hK hk h1;rw[h2]at hL';cases hL';obtain⟨j,hj⟩:=jA h5;rw[hj,kJ]at h3;obtain⟨i,hgi⟩:=hgo j z7;have hw:=hgi.lH mI;have ahg:=hgi;obtain⟨l0,l',a1,a2,a3,a4,a5⟩:=hgi;rw[h3]at a1;cases a1;have him:l8 k s t g=⟨g.adJ,(i:Int),yo c s t l l' g.values⟩:=by
  unfold l8;rw[h1];dsimp only;rw[j5 h2,hj,hw,kJ,kJ,j5 h3,j5 a2]
 refine⟨c,L,j,i,l,l',h4,h1,h2,mI,hj,h3,a2,ahg,a3,a4,him,h7,?_⟩;rw[him];unfold nR Nt;dsimp only;rw[h1];dsimp only;rw[j5 h2,kJ,j5 a2]
def Wi(hK:dH k)(hk:lc k s t){g:Clue}(hg:mY k g):mY k (l8 k s t g):=by
 obtain⟨c,L,j,i,l,l',G⟩:=Bw hK hk hg;obtain⟨c',L',h1,h2,h3,h4,h5,h6⟩:=hg;rw[G.hc]at h2;cases h2;rw[G.img];have hi:=(bq.1 G.hl').1;refine⟨c,L,h1,G.hc,G.hL,by show(0:Int)<=(i:Int);omega,by show(i:Int)<_;omega,?_⟩;unfold yo;dsimp only;rcases h6 with⟨a,b,d⟩|⟨a,b,d⟩|⟨a,a2,b,d⟩
 .refine .inl ⟨a,?_⟩;rw[if_pos a,NG];refine⟨b,λx hx=>?_⟩;obtain⟨v,hv,rfl⟩:=eT.1 hx;have:=d v hv;have:=hk.ps.at_ (c:=v) z7 z7;omega
 .refine .inr (.inl ⟨a,?_⟩);rw[if_neg z7,if_neg z7];exact⟨b,d⟩
 .refine .inr (.inr ⟨a,a2,?_⟩);rw[if_neg a];split
  .rw[akP];exact⟨b,λx hx=>d x (List.mem_reverse.1 hx)⟩
  .exact⟨b,d⟩
def ahh(hK:dH k)(hk:lc k s t){a b:Clue}(ha:mY k a)(hb:mY k b)(e:gJ (l8 k s t a) (l8 k s t b)=0):gJ a b=0:=by
 obtain⟨c,L,j,i,l,l',G⟩:=Bw hK hk ha;obtain⟨c2,L2,j2,i2,l2,l2',G2⟩:=Bw hK hk hb;rw[zl,G.img,G2.img]at e;obtain⟨e1,e2⟩:=e;dsimp only at e1 e2;have h1:=G.hc;rw[e1,G2.hc]at h1;cases h1;have h2:=G.hL;rw[G2.hL]at h2;cases h2;have hii:i=i2:=z7
 subst hii;have:=G.goes.inj G.kE hk.pc G2.goes;rw[zl,G.at_,G2.at_];exact⟨e1,z7⟩
variable{x p:kI Clue}
def ahi(hK:dH k)(hk:lc k s t)(hQ:age k p)(hx:l7 (p.map (l8 k s t)) x):∀g,g∈x↔g∈p.map (l8 k s t):=by
 intro g;refine⟨hx.sub g,λhg=>?_⟩;obtain⟨a,ha,rfl⟩:=eT.1 hg;obtain⟨r,hr,hp,_⟩:=hx.all _ hg;obtain⟨b,hb,rfl⟩:=eT.1 (hx.sub r hr);have h0:=zl.1 (ahh hK hk (hQ.right a ha) (hQ.right b hb) hp);have:=aef hQ ha hb h0.1 h0.2;subst this;exact hr
def ahj(h:x.Pairwise λa b=>gJ a b<0):∀(i:Nat) a b,x[i]? =some a->x[i+1]? =some b->gJ a b<0:=by
 intro i a b ha hb;obtain⟨h1,h2⟩:=bq.1 ha;obtain⟨h3,h4⟩:=bq.1 hb;rw[<- h2,<- h4];exact wT.1 h i (i+1) h1 h3 z7
def ahk(hK:dH k)(hk:lc k s t)(hQ:age k p)(hx:l7 (p.map (l8 k s t)) x):age k x:=by
 refine⟨?_,λg hg=>?_,ahj hx.inc⟩
 .have:=ael hx;rw[bY]at this;have:=hQ.len;omega
 .obtain⟨a,ha,rfl⟩:=eT.1 (hx.sub g hg);exact Wi hK hk (hQ.right a ha)
end Go.Proofs.YtoilpafpgndilaaGreat
namespace Go.Proofs.YtoilpafpgndilaaGreat
open Tryz (prog)
open Go.Ideal Kd Canon Gph
def al6(s t grid:kI Int):kI Int:=img t (iK grid (kG s))
structure lg(n m:Nat)(s t grid y:List Int):Prop where
 ps:dF n s
 pt:dF m t
 len:grid.length=n
 FW:y.length=n
 oJ:∀x∈grid,0<=x/\x<(m:Int)
 at_:∀c,0<=c->c<(n:Int)->aB y (aB s c)=aB t (aB grid c)
variable{s t grid:kI Int}
def aqz:(al6 s t grid).length=s.length:=by unfold al6 iK;rw[NG,bY,UQ]
def aqA{n m:Nat}(hs:dF n s)(ht:dF m t)(hl:grid.length=n)(hg:∀x∈grid,0<=x/\x<(m:Int)):lg n m s t grid (al6 s t grid):=by
 refine⟨hs,ht,hl,by rw[aqz];exact hs.len,hg,λc c0 c1=>?_⟩;have hr:=hs.at_ c0 c1;unfold al6;have h1:(kG s).length=n:=by rw[UQ];exact hs.len
 have h2:=wB (a:=grid) (b:=kG s) (c:=aB s c) hr.1 (by rw[h1];exact hr.2);rw[hs.uY c0 c1]at h2;have h3:(iK grid (kG s)).length=n:=by unfold iK;rw[bY];exact h1
 have h4:iK t (iK grid (kG s))=img t (iK grid (kG s)):=rfl;rw[<- h4,wB hr.1 (by rw[h3];exact hr.2),h2]
section
variable {n m:Nat} {s t grid y:kI Int}
def lg.fG(h:lg n m s t grid y){c:Int}(c0:0<=c)(c1:c<(n:Int)):0<=aB grid c/\aB grid c<(m:Int):=h.oJ _ (NE c0 (by rw[h.len];exact c1))
def lg.mem(h:lg n m s t grid y){d:Int}(hd:d∈y):0<=d/\d<(m:Int):=by
 obtain⟨i,hi⟩:=jS hd;have hl:=(bq.1 hi).1;obtain⟨c,c0,c1,hc⟩:=h.ps.onto (y:=(i:Int)) z7 (by have:=h.FW;omega);have h1:=h.at_ c c0 c1;rw[hc,ji hi]at h1;rw[h1];have:=h.fG c0 c1;exact h.pt.at_ this.1 this.2
def OU(grid:kI Int)(c:Int):sy grid c=(aB grid c).toNat:=rfl
def lg.sy(h:lg n m s t grid y){c:Int}(c0:0<=c)(c1:c<(n:Int)):sy y (aB s c)=(aB t (aB grid c)).toNat:=by rw[OU,h.at_ c c0 c1]
def ahl{α:Type}{f g:Int->α}:∀{l:kI Int},iP n l->(∀c,0<=c->c<(n:Int)->f (aB s c)=g c)->(img s l).map f=l.map g:=by
 intro l hl h;unfold img;rw[wR];exact sN λc hc=>h c (hl c hc).1 (hl c hc).2
def og(m:Nat)(t:kI Int)(set:Nat):Prop:=∀v:Int,0<=v->v<(m:Int)->set.testBit (aB t v).toNat=set.testBit v.toNat
def JV{set other:Nat}(ht:dF m t)(h:xW set other t=true):og m t set/\og m t other:=by
 unfold xW at h;rw[Da]at h;constructor;all_goals (
  intro v v0 v1;have h1:=h v.toNat _ (rW v0 (by rw[ht.len];exact v1));dsimp only at h1;rw[afD,lM,lM]at h1)
 .exact h1.1.symm
 .exact h1.2.symm
def uk(m:Nat)(t vals:kI Int):Prop:=∀v:Int,0<=v->v<(m:Int)->aB vals (aB t v)=aB vals v
def JW{vals:kI Int}(ht:dF m t)(h:qL vals t=true):uk m t vals:=by
 unfold qL at h;rw[Da]at h;intro v v0 v1;have h1:=iI (h v.toNat _ (rW v0 (by rw[ht.len];exact v1)));dsimp only at h1;rw[vM v0]at h1;exact h1.symm
def lg.bit(h:lg n m s t grid y){set:Nat}(hS:og m t set){c:Int}(c0:0<=c)(c1:c<(n:Int)):set.testBit (Go.Proofs.YtoilpafpgndilaaGreat.sy y (aB s c))=set.testBit (Go.Proofs.YtoilpafpgndilaaGreat.sy grid c):=by
 have r:=h.fG c0 c1;rw[h.sy c0 c1,hS _ r.1 r.2,OU]
def lg.cnt(h:lg n m s t grid y){set:Nat}(hS:og m t set){l l':kI Int}(hl:iP n l)(hp:l'.Perm (img s l)):Go.Proofs.YtoilpafpgndilaaGreat.cnt y set l'=Go.Proofs.YtoilpafpgndilaaGreat.cnt grid set l:=by
 unfold Go.Proofs.YtoilpafpgndilaaGreat.cnt;rw[(hp.filter _).length_eq];exact NL hl λc c0 c1=>h.bit hS c0 c1
def lg.va(h:lg n m s t grid y){vals:kI Int}(hV:uk m t vals){c:Int}(c0:0<=c)(c1:c<(n:Int)):va vals y (aB s c)=va vals grid c:=by
 have r:=h.fG c0 c1;have:=hV _ r.1 r.2;unfold Go.Proofs.YtoilpafpgndilaaGreat.va;rw[h.sy c0 c1,OU];exact this
def JX(grid:kI Int)(set:Nat):∀(l:kI Int) (k:Nat),rn grid set k l=xX k (l.map λc=>set.testBit (sy grid c))
 |[],k=>rfl
 |c::l,k=>by
  rw[rn,agO];cases hb:set.testBit (sy grid c)with
  |true=>rw[if_pos rfl,aeF,JX grid set l (k+1)]
  |false=>rw[if_neg An,aeG,JX grid set l 0]
def lg.rn(h:lg n m s t grid y){set:Nat}(hS:og m t set){l:kI Int}(hl:iP n l):rn y set 0 (img s l)=rn grid set 0 l:=by
 rw[JX,JX,ahl (g:=λc=>set.testBit (Go.Proofs.YtoilpafpgndilaaGreat.sy grid c)) hl (λc c0 c1=>h.bit hS c0 c1)]
end
end Go.Proofs.YtoilpafpgndilaaGreat
namespace Go.Proofs.YtoilpafpgndilaaGreat
open Tryz (prog)
open Go.Ideal Kd Canon Gph
structure wL(eq:List Int->List Int->Bool):Prop where
 symm:∀a b,eq a b=true->eq b a=true
 trans:∀a b c,eq a b=true->eq b c=true->eq a c=true
 img:∀s a b,eq a b=true->eq (img s a) (img s b)=true
def FX:wL xV:=by
 refine⟨λa b h=>?_,λa b c h1 h2=>?_,λs a b h=>?_⟩
 .rw[Bd]at h⊢;exact h.symm
 .rw[Bd]at h1 h2⊢;exact h1.trans h2
 .rw[Bd]at h⊢;exact JA s h
def Wj:wL Bb:=by
 refine⟨λa b h=>?_,λa b c h1 h2=>?_,λs a b h=>?_⟩
 .unfold Bb at h⊢;rw[lM]at h⊢;exact h.symm
 .unfold Bb at h1 h2⊢;rw[lM]at h1 h2⊢;exact h1.trans h2
 .unfold Bb at h⊢;rw[lM]at h⊢;rw[h]
def OV:wL Bc:=by
 refine⟨λa b h=>?_,λa b c h1 h2=>?_,λs a b h=>?_⟩
 .rw[Fy]at h⊢;rcases h with rfl|rfl
  .exact .inl rfl
  .exact .inr (by rw[PY])
 .rw[Fy]at h1 h2⊢;rcases h1 with rfl|rfl
  .exact h2
  .rcases h2 with rfl|rfl
   .exact .inr rfl
   .exact .inl (by rw[PY])
 .rw[Fy]at h⊢;rcases h with rfl|rfl
  .exact .inl rfl
  .exact .inr (NH s b)
def ahm(c:gW):wL (vD c):=by
 unfold vD;split
 .exact OV
 .exact FX
section
variable {n m:Nat} {s t s2 t2:kI Int} {L:kI (kI Int)} {f:Int} {eq:kI Int->kI Int->Bool}
def ahn(hR:wL eq)(hK:pJ n L f)(hs:dF n s){j i:Nat}(h:Goes L s f eq j i):Goes L (kG s) f eq i j:=by
 obtain⟨l,l',h1,h2,h3,h4,h5⟩:=h;have hl:=hK.fG l (aZ h1);refine⟨l',l,h2,h1,?_,?_,λhb=>?_⟩
 .have:=JA (kG s) h3;rw[Jy hs hl]at this;exact this.symm
 .have:=hR.img (kG s) _ _ h4;rw[Jy hs hl]at this;exact hR.symm _ _ this
 .have hn:=hK.len hb;have:=(bq.1 h1).1;rw[h5 hb,hs.uY z7 z7]
def aho(hR:wL eq)(hK:pJ n L f)(hs:dF n s)(h:mZ L s f eq=true):mZ L (kG s) f eq=true:=by
 have h:=(zu hK hs).1 h;refine(zu hK hs.inv).2 λi hi=>?_;obtain⟨j,hj⟩:=aeE hK hs h hi;exact⟨j,ahn hR hK hs hj⟩
def Wl(hR:wL eq)(hK:pJ n L f)(hs:dF n s)(hs2:dF n s2){j i i2:Nat}(h:Goes L s f eq j i)(h2:Goes L s2 f eq i i2):Goes L (iK s2 s) f eq j i2:=by
 obtain⟨l,l',a1,a2,a3,a4,a5⟩:=h;obtain⟨l0,l2,b1,b2,b3,b4,b5⟩:=h2;rw[a2]at b1;cases b1;have hl:=hK.fG l (aZ a1);have hc:img (iK s2 s) l=img s2 (img s l):=Jz (by rw[hs.len];exact hl);refine⟨l,l2,a1,b2,?_,?_,λhb=>?_⟩
 .rw[hc];exact b3.trans (JA s2 a3)
 .rw[hc];exact hR.trans _ _ _ b4 (hR.img s2 _ _ a4)
 .have hn:=hK.len hb;have:=(bq.1 a1).1;rw[b5 hb,a5 hb,wB z7 (by rw[hs.len];omega)]
def ahp(hR:wL eq)(hK:pJ n L f)(hs:dF n s)(hs2:dF n s2)(h:mZ L s f eq=true)(h2:mZ L s2 f eq=true):mZ L (iK s2 s) f eq=true:=by
 have h:=(zu hK hs).1 h;have h2:=(zu hK hs2).1 h2;refine(zu hK (hs2.comp hs)).2 λj hj=>?_;obtain⟨i,hi⟩:=h j hj;obtain⟨i2,hi2⟩:=h2 i hi.lt.2;exact⟨i2,Wl hR hK hs hs2 hi hi2⟩
variable{set:Nat}
def OW{other:Nat}(ht:dF m t)(h1:og m t set)(h2:og m t other):xW set other t=true:=by
 unfold xW;rw[Da];intro i x hx;have hl:=(bq.1 hx).1;have hlen:=ht.len;have e:=ji hx;have a:=h1 (i:Int) z7 z7;have b:=h2 (i:Int) z7 z7;rw[e,kJ]at a b;dsimp only;rw[afD,lM,lM];exact⟨a.symm,b.symm⟩
variable{vals:kI Int}
def OX(ht:dF m t)(h:uk m t vals):qL vals t=true:=by
 unfold qL;rw[Da];intro i x hx;have hl:=(bq.1 hx).1;have hlen:=ht.len;have a:=h (i:Int) z7 z7;rw[ji hx]at a;exact dK a.symm
def og.inv(ht:dF m t)(h:og m t set):og m (kG t) set:=by
 exact qu
def uk.inv(ht:dF m t)(h:uk m t vals):uk m (kG t) vals:=by
 exact qu
def og.comp(ht:dF m t)(h:og m t set)(h2:og m t2 set):og m (iK t2 t) set:=by
 exact rL
def uk.comp(ht:dF m t)(h:uk m t vals)(h2:uk m t2 vals):uk m (iK t2 t) vals:=by
 exact rL
variable{aQ:kI (kI Int)}
def ahq(hN:wC n aQ)(hs:dF n s)(h:pI aQ s=true):pI aQ (kG s)=true:=by
 have h:=(Db hN hs).1 h;refine(Db hN hs.inv).2 λa b hab=>?_;obtain⟨c,d,hcd,rfl,rfl⟩:=UX hN hs h hab;have hr:=hcd.fG hN;rw[hs.uY hr.1.1 hr.1.2,hs.uY hr.2.1 hr.2.2];exact hcd
def ahr(hN:wC n aQ)(hs:dF n s)(hs2:dF n s2)(h:pI aQ s=true)(h2:pI aQ s2=true):pI aQ (iK s2 s)=true:=by
 have h:=(Db hN hs).1 h;have h2:=(Db hN hs2).1 h2;refine(Db hN (hs2.comp hs)).2 λa b hab=>?_;have hr:=hab.fG hN;have hl:=hs.len;rw[wB hr.1.1 z7,wB hr.2.1 z7];exact h2 _ _ (h _ _ hab)
end
variable{s t:kI Int}{k:bD}
def ahs{s' t':kI Int}{r:bN}(hS:xW r.set.toNat r.other.toNat t=true->xW r.set.toNat r.other.toNat t'=true)
 (hL:∀eq,wL eq->mZ (k.lists.getD r.family.toNat []) s r.family eq=true->mZ (k.lists.getD r.family.toNat []) s' r.family eq=true)
 (hV:qL (su k) t=true->qL (su k) t'=true) (hN:pI k.aQ s=true->pI k.aQ s'=true) (h:keepR k s t r=true):keepR k s' t' r=true:=by
 unfold keepR Dq at h⊢;rw[afD]at h⊢;refine⟨hS h.1,?_⟩;have h2:=h.2;split at h2
 .rename_i e;rw[if_pos e];exact hL _ FX h2
 rename_i e;rw[if_neg e];split at h2
 .rename_i e;rw[if_pos e];rw[afD]at h2⊢;exact⟨hL _ FX h2.1,hV h2.2⟩
 rename_i e;rw[if_neg e];split at h2
 .rename_i e;rw[if_pos e];rw[afD]at h2⊢;exact⟨hL _ Wj h2.1,hV h2.2⟩
 rename_i e;rw[if_neg e];split at h2
 .rename_i e;rw[if_pos e];exact hL _ OV h2
 rename_i e;rw[if_neg e];split at h2
 .rename_i e;rw[if_pos e];rw[afD]at h2⊢;exact⟨hN h2.1,hV h2.2⟩
 rename_i e;rw[if_neg e];split at h2
 .rename_i e;rw[if_pos e];exact hN h2
 rename_i e;rw[if_neg e]
def dH.OY(hK:dH k){r:bN}(hr:r∈k.decl.rules):pJ k.grid.cells.length (k.lists.getD r.family.toNat []) r.family:=by
 have hin:=(hK.inr hr).kE;have hL:k.lists[r.family.toNat]? =some (k.lists[r.family.toNat]'(z7)):=bP _;have mI:=hK.We hL;rw[vM hin.1]at mI;rw[j5 hL];exact mI
def lc.inv(hK:dH k)(h:lc k s t):lc k (kG s) (kG t):=by
 refine⟨h.pc.inv,h.ps.inv,λr hr=>?_⟩;refine ahs (λa=>?_) (λeq hR a=>aho hR (hK.OY hr) h.pc a) (λa=>OX h.ps.inv (uk.inv h.ps (JW h.ps a))) (λa=>ahq hK.OQ h.pc a) (h.rV r hr);obtain⟨b,c⟩:=JV h.ps a;exact OW h.ps.inv (og.inv h.ps b) (og.inv h.ps c)
variable{s2 t2:kI Int}
def lc.comp(hK:dH k)(h:lc k s t)(h2:lc k s2 t2):lc k (iK s2 s) (iK t2 t):=by
 refine⟨h2.pc.comp h.pc,h2.ps.comp h.ps,λr hr=>?_⟩;have g2:=h2.rV r hr;have k2:=h2.rule hr;unfold keepR Dq at g2⊢;have g1:=h.rV r hr;unfold keepR Dq at g1;rw[afD]at g1 g2⊢;have mI:=hK.OY hr;have L1:∀eq,wL eq->mZ (k.lists.getD r.family.toNat []) s r.family eq=true->mZ (k.lists.getD r.family.toNat []) s2 r.family eq=true->mZ (k.lists.getD r.family.toNat []) (iK s2 s) r.family eq=true:=λeq hR a b=>ahp hR mI h.pc h2.pc a b;have V1:qL (su k) t=true->qL (su k) t2=true->qL (su k) (iK t2 t)=true:=λa b=>OX (h2.ps.comp h.ps) (uk.comp h.ps (JW h.ps a) (JW h2.ps b));have N1:pI k.aQ s=true->pI k.aQ s2=true->pI k.aQ (iK s2 s)=true:=λa b=>ahr hK.OQ h.pc h2.pc a b;obtain⟨b,c⟩:=JV h.ps g1.1;obtain⟨b2,c2⟩:=JV h2.ps g2.1;refine⟨OW (h2.ps.comp h.ps) (og.comp h.ps b b2) (og.comp h.ps c c2),?_⟩;have g1:=g1.2;have g2:=g2.2;split at g1
 .rename_i e;rw[if_pos e]at g2⊢;exact L1 _ FX g1 g2
 rename_i e;rw[if_neg e]at g2⊢;split at g1
 .rename_i e;rw[if_pos e]at g2⊢;rw[afD]at g1 g2⊢;exact⟨L1 _ FX g1.1 g2.1,V1 g1.2 g2.2⟩
 rename_i e;rw[if_neg e]at g2⊢;split at g1
 .rename_i e;rw[if_pos e]at g2⊢;rw[afD]at g1 g2⊢;exact⟨L1 _ Wj g1.1 g2.1,V1 g1.2 g2.2⟩
 rename_i e;rw[if_neg e]at g2⊢;split at g1
 .rename_i e;rw[if_pos e]at g2⊢;exact L1 _ OV g1 g2
 rename_i e;rw[if_neg e]at g2⊢;split at g1
 .rename_i e;rw[if_pos e]at g2⊢;rw[afD]at g1 g2⊢;exact⟨N1 g1.1 g2.1,V1 g1.2 g2.2⟩
 rename_i e;rw[if_neg e]at g2⊢;split at g1
 .rename_i e;rw[if_pos e]at g2⊢;exact N1 g1 g2
 rename_i e;rw[if_neg e]
variable{l l':kI Int}{c:gW}
def Wm(h3:c.type=3)(he:vD c l' (img s l)=true)(h:oM s l l'=false):l'=img s l:=by
 unfold vD at he;rw[if_pos h3,Fy]at he;rcases he with e|e
 .exact e
 .unfold oM at h;rw[e]at h;simp at h;rw[e];exact h.symm
def Wn(h:oM s l l'=true):img s l≠l'/\(img s l).reverse=l':=by
 unfold oM at h;simp at h;exact h
def aht(h1:img s l≠l')(h2:(img s l).reverse=l'):oM s l l'=true:=by
 unfold oM;simp[h1,h2]
def Wo:oM s l (img s l)=false:=by
 unfold oM;simp
def OT.vals{g:Clue}{L:kI (kI Int)}{j i:Nat}(G:OT k s t g c L j i l l')(hR:mY k g):c.type=1->∀x∈g.values,0<=x/\x<(k.decl.symbols.length:Int):=by
 intro h1 x hx;obtain⟨c',L',a1,a2,a3,a4,a5,a6⟩:=hR;rw[G.hc]at a2;cases a2;rcases a6 with⟨_,_,b⟩|⟨b,_⟩|⟨b,_⟩
 .have:=b x hx;omega
 .omega
 .omega
def Wp(hK:dH k)(hk:lc k s t)(hk2:lc k s2 t2){g:Clue}(hg:mY k g):l8 k s2 t2 (l8 k s t g)=l8 k (iK s2 s) (iK t2 t) g:=by
 obtain⟨c,L,j,i,l,l',G⟩:=Bw hK hk hg;have hg2:=Wi hK hk hg;obtain⟨c2,L2,i2,j2,m',m,G2⟩:=Bw hK hk2 hg2;obtain⟨c3,L3,j3,j4,m3,m4,G3⟩:=Bw hK (hk.comp hK hk2) hg;have h1:=G2.hc;rw[G.img]at h1;dsimp only at h1;rw[G.hc]at h1;cases h1;have h1:=G3.hc;rw[G.hc]at h1;cases h1;have h2:=G2.hL;rw[G.hL]at h2;cases h2;have h2:=G3.hL;rw[G.hL]at h2;cases h2;have h3:=G2.at_;rw[G.img]at h3;dsimp only at h3;have hii:i2=i:=z7
 subst hii;have h3:=G3.at_;rw[G.at_]at h3;have hjj:j3=j:=z7
 subst hjj;have hgc:=Wl (ahm c) G.kE hk.pc hk2.pc G.goes G2.goes;have h4:=hgc.lH G.kE;have h5:=G3.goes.lH G.kE;have hjj:j4=j2:=z7
 subst hjj;have h6:=G2.hl;rw[G.hl']at h6;cases h6;have h6:=G3.hl;rw[G.hl]at h6;cases h6;have h7:=G3.hl';rw[G2.hl']at h7;cases h7;have hl:=G.kE.fG l (aZ G.hl);have hl':=G.kE.fG l' (aZ G.hl');have hcc:img (iK s2 s) l=img s2 (img s l):=Jz (by rw[hk.pc.len];exact hl);rw[G2.img,G3.img,G.img];dsimp only;have hval:yo c s2 t2 l' m (yo c s t l l' g.values)=yo c (iK s2 s) (iK t2 t) l m g.values:=by
  unfold yo;by_cases t1:c.type=1
  .rw[if_pos t1,if_pos t1,if_pos t1,Jz (by rw[hk.ps.len];exact G.vals hg t1)]
  .rw[if_neg t1,if_neg t1,if_neg t1];by_cases t3:c.type=3
   .cases hT:oM s l l' with
    |false=>
     have e:=Wm t3 G.eq hT;have:oM (iK s2 s) l m=oM s2 l' m:=by
      unfold oM;rw[hcc,<- e]
     rw[this,if_neg (by simp:¬(c.type=3/\false=true))]
    |true=>
     obtain⟨a,b⟩:=Wn hT;rw[if_pos (⟨t3,rfl⟩:c.type=3/\true=true)];have e2:img s2 l'=(img (iK s2 s) l).reverse:=by rw[<- b,NH,hcc]
     have hsl:=iP.img hk.pc hl;have hne:img (iK s2 s) l≠(img (iK s2 s) l).reverse:=λq=>a (by
      rw[hcc,<- NH]at q;rw[<- b];exact UT hk2.pc hsl (λx hx=>hsl x (List.mem_reverse.1 hx)) q)
     cases qV:oM s2 l' m with
     |false=>
      have e:=Wm t3 G2.eq qV;have:oM (iK s2 s) l m=true:=by
       refine aht ?_ ?_
       .rw[e,e2];exact hne
       .rw[e,e2]
      rw[this,if_neg An,if_pos ⟨t3,rfl⟩]
     |true=>
      obtain⟨a2,b2⟩:=Wn qV;have e3:m=img (iK s2 s) l:=by rw[<- b2,e2,PY]
      have:oM (iK s2 s) l m=false:=by rw[e3];exact Wo
      rw[this,if_pos ⟨t3,rfl⟩,if_neg An,PY]
   .rw[if_neg (λq=>t3 q.1),if_neg (λq=>t3 q.1),if_neg (λq=>t3 q.1)]
 rw[hval]
def ahu{n:Nat}{a b:kI Int}(ha:a.length=n)(hb:b.length=n)(h:∀c:Int,0<=c->c<(n:Int)->aB a c=aB b c):a=b:=by
 apply iY;intro i;by_cases hi:i<n
 .have h1:=rW (p:=a) (c:=(i:Int)) z7 z7;have h2:=rW (p:=b) (c:=(i:Int)) z7 z7;rw[kJ]at h1 h2;rw[h1,h2,h _ z7 z7]
 .rw[fO z7,fO z7]
section
variable {n m:Nat} {s t s2 t2 grid y z:kI Int}
def lg.uniq(h:lg n m s t grid y)(h2:lg n m s t grid z):y=z:=by
 refine ahu h.FW h2.FW λd d0 d1=>?_;obtain⟨c,c0,c1,rfl⟩:=h.ps.onto d0 d1;rw[h.at_ c c0 c1,h2.at_ c c0 c1]
def lg.back(h:lg n m s t grid y):lg n m (kG s) (kG t) y grid:=by
 refine⟨h.ps.inv,h.pt.inv,h.FW,h.len,λx hx=>h.mem hx,λd d0 d1=>?_⟩;obtain⟨c,c0,c1,rfl⟩:=h.ps.onto d0 d1;have r:=h.fG c0 c1;rw[h.ps.uY c0 c1,h.at_ c c0 c1,h.pt.uY r.1 r.2]
def lg.comp(h:lg n m s t grid y)(h2:lg n m s2 t2 y z):lg n m (iK s2 s) (iK t2 t) grid z:=by
 refine⟨h2.ps.comp h.ps,h2.pt.comp h.pt,h.len,h2.FW,h.oJ,λc c0 c1=>?_⟩;have r:=h.ps.at_ c0 c1;have g:=h.fG c0 c1;rw[wB c0 (by rw[h.ps.len];exact c1),h2.at_ _ r.1 r.2,h.at_ c c0 c1,wB g.1 (by rw[h.pt.len];exact g.2)]
end
end Go.Proofs.YtoilpafpgndilaaGreat
namespace Go.Proofs.YtoilpafpgndilaaGreat
open Tryz (prog)
open Go.Ideal Kd Canon Gph
def sD(k:bD)(a b:Int):Prop:=∀r∈k.decl.rules,r.set.toNat.testBit a.toNat=r.set.toNat.testBit b.toNat/\r.other.toNat.testBit a.toNat=r.other.toNat.testBit b.toNat/\((r.kind=3\/r.kind=4\/r.kind=7)->aB (su k) a=aB (su k) b)
def sD.refl(k:bD)(a:Int):sD k a a:=λ_ _=>⟨rfl,rfl,λ_=>rfl⟩
variable{k:bD}{a b:Int}
def sD.symm(h:sD k a b):sD k b a:=λr hr=>⟨(h r hr).1.symm,(h r hr).2.1.symm,λe=>((h r hr).2.2 e).symm⟩
def sD.trans{c:Int}(h:sD k a b)(h2:sD k b c):sD k a c:=λr hr=>⟨(h r hr).1.trans (h2 r hr).1,(h r hr).2.1.trans (h2 r hr).2.1,λe=>((h r hr).2.2 e).trans ((h2 r hr).2.2 e)⟩
variable{n:Nat}
def OZ{l:kI Int}(h:iP n l):img (upTo' n) l=l:=by
 unfold img;conv=>rhs;rw[<- alU l]
 exact sN λc hc=>zn (h c hc).1 (h c hc).2
def JY{L:kI (kI Int)}{f:Int}{eq:kI Int->kI Int->Bool}(hr:∀l,eq l l=true)(hK:pJ n L f):mZ L (upTo' n) f eq=true:=by
 refine(zu hK (dF.ident n)).2 λj hj=>⟨j,L[j],L[j],bP hj,bP hj,?_,?_,λhb=>?_⟩
 .rw[OZ (hK.fG _ (vF hj))]
 .rw[OZ (hK.fG _ (vF hj))];exact hr _
 .have:=hK.len hb;rw[zn z7 z7]
def ahv{aQ:kI (kI Int)}(hN:wC n aQ):pI aQ (upTo' n)=true:=by
 refine(Db hN (dF.ident n)).2 λa b hab=>?_;have hr:=hab.fG hN;rw[zn hr.1.1 hr.1.2,zn hr.2.1 hr.2.2];exact hab
def O0(l:kI Int):xV l l=true:=Bd.2 (List.Perm.refl _)
def ahw(l:kI Int):Bb l l=true:=dK rfl
def Wq(l:kI Int):Bc l l=true:=Fy.2 (.inl rfl)
def ahx(hK:dH k){t:kI Int}:lc k (upTo' k.grid.cells.length) t↔dF k.decl.symbols.length t/\∀v:Int,0<=v->v<(k.decl.symbols.length:Int)->sD k v (aB t v):=by
 constructor
 .intro h;refine⟨h.ps,λv v0 v1 r hr=>?_⟩;obtain⟨k0,_,k3,_⟩:=h.rule hr;obtain⟨s1,s2⟩:=JV h.ps k0;exact⟨(s1 v v0 v1).symm,(s2 v v0 v1).symm,λe=>(JW h.ps (k3 e) v v0 v1).symm⟩
 .rintro⟨ht,h⟩;refine⟨dF.ident _,ht,λr hr=>?_⟩;have mI:=hK.OY hr;have hset:xW r.set.toNat r.other.toNat t=true:=OW ht (λv v0 v1=>(h v v0 v1 r hr).1.symm) (λv v0 v1=>(h v v0 v1 r hr).2.1.symm);have hval:(r.kind=3\/r.kind=4\/r.kind=7)->qL (su k) t=true:=λe=>OX ht λv v0 v1=>((h v v0 v1 r hr).2.2 e).symm;have hn:=ahv hK.OQ;unfold keepR Dq;rw[hset,amK];split
  .exact JY O0 mI
  split
  .rename_i e;rw[JY O0 mI,hval (.inl e)];rfl
  split
  .rename_i e;rw[JY ahw mI,hval (.inr (.inl e))];rfl
  split
  .exact JY Wq mI
  split
  .rename_i e;rw[hn,hval (.inr (.inr e))];rfl
  split
  .exact hn
  .rfl
structure Bz(k:bD)(cl:List Int):Prop where
 len:cl.length=k.decl.symbols.length
 at_:∀j:Nat,j<k.decl.symbols.length->∃i:Nat,aB cl (j:Int)=(i:Int)/\i<=j/\sD k (i:Int) (j:Int)/\∀u:Nat,u<i->¬sD k (u:Int) (j:Int)
variable{cl:kI Int}
def Bz.same(h:Bz k cl){a b:Nat}(ha:a<k.decl.symbols.length)(hb:b<k.decl.symbols.length):aB cl (a:Int)=aB cl (b:Int)↔sD k (a:Int) (b:Int):=by
 obtain⟨i,h1,h2,h3,h4⟩:=h.at_ a ha;obtain⟨j,k1,k2,k3,k4⟩:=h.at_ b hb;rw[h1,k1];constructor
 .intro e;have:i=j:=by omega
  subst this;exact h3.symm.trans k3
 .intro e;rcases PT i j with hl|hl|hl
  .exact absurd (h3.trans e) (k4 i hl)
  .rw[hl]
  .exact absurd (k3.trans e.symm) (h4 j hl)
def Bz.ok(h:Bz k cl):akC k.decl.symbols.length cl:=by
 refine⟨h.len,λa ha=>?_⟩;obtain⟨i,h1,h2,h3,h4⟩:=h.at_ a ha;refine⟨z7,z7,?_⟩;have e:=(h.same (by omega:i<k.decl.symbols.length) ha).2 h3;rw[h1]at e⊢;exact e
def Bz.keeps(hK:dH k)(h:Bz k cl){t:kI Int}:lI k.decl.symbols.length cl t↔lc k (upTo' k.grid.cells.length) t:=by
 rw[ahx hK];constructor
 .intro ht;refine⟨ht.p,λv v0 v1=>?_⟩;have r:=ht.p.at_ v0 v1;have:=ht.c v v0 v1;obtain⟨a,rfl⟩:=jA v0;obtain⟨b,hb⟩:=jA r.1;rw[hb]at this r⊢;exact((h.same z7 z7).1 this).symm
 .rintro⟨ht,hc⟩;refine⟨ht,λv v0 v1=>?_⟩;have r:=ht.at_ v0 v1;have:=hc v v0 v1;obtain⟨a,rfl⟩:=jA v0;obtain⟨b,hb⟩:=jA r.1;rw[hb]at this r⊢;exact((h.same z7 z7).2 this).symm
end Go.Proofs.YtoilpafpgndilaaGreat
namespace Go.Proofs.YtoilpafpgndilaaGreat
open Tryz (prog)
open Go.Ideal Kd Canon Gph
def aK(k:bD)(c:Int):Bool:=match k.decl.aJ[c.toNat]? with
 |some x=>decide (x.type=1)
 |none=>false
variable{k:bD}
def Dr{g:Clue}{c:gW}(h:k.decl.aJ[g.adJ.toNat]? =some c):aK k g.adJ=decide (c.type=1):=by unfold aK;rw[h]
variable{p:kI Clue}
def age.oJ(h:age k p):oK (aK k) k.decl.symbols.length p:=by
 intro g hg hs;obtain⟨c,L,h1,h2,h3,h4,h5,h6⟩:=h.right g hg;rw[Dr h2,lM]at hs;rcases h6 with⟨_,a,b⟩|⟨a,_⟩|⟨a,_⟩
 .match hgv:g.values,a with
  |[v],_=>
   have:=b v (by rw[hgv];exact bM.2 rfl);exact⟨v,rfl,z7,z7⟩
 .omega
 .omega
def ahy(hK:dH k){t:kI Int}(hk:lc k (upTo' k.grid.cells.length) t){g:Clue}(hg:mY k g):l8 k (upTo' k.grid.cells.length) t g=iQ (aK k) t g:=by
 obtain⟨c,L,j,i,l,l',G⟩:=Bw hK hk hg;have hl:=G.kE.fG l (aZ G.hl);have e1:=OZ hl;have hr:∀a,vD c a a=true:=λa=>by
  unfold vD;split
  .exact Wq a
  .exact O0 a
 have hjl:=(bq.1 G.hl).1;have hgo:Goes L (upTo' k.grid.cells.length) c.family (vD c) j j:=by
  refine⟨l,l,G.hl,G.hl,by rw[e1],by rw[e1];exact hr l,λhb=>?_⟩;have:=G.kE.len hb;rw[zn z7 z7]
 have hij:i=j:=by
  have h1:=hgo.lH G.kE;have h2:=G.goes.lH G.kE;omega
 subst hij;have hll:l'=l:=by
  have h1:=G.hl';rw[G.hl]at h1;exact(Option.some.inj h1).symm
 subst hll;rw[G.img];unfold iQ yo;rw[Dr G.hc,<- G.at_];by_cases h1:c.type=1
 .rw[if_pos h1,if_pos (by simp[h1])]
 .have:oM (upTo' k.grid.cells.length) l' l'=false:=by
   have h2:=Wo (s:=upTo' k.grid.cells.length) (l:=l');rw[e1]at h2;exact h2
  rw[if_neg h1,this,if_neg (show¬(c.type=3/\false=true)from λq=>by cases q.2),if_neg (show¬(decide (c.type=1)=true)by simp[h1])]
def ahz{sy:Int->Bool}{t:kI Int}(h:p.Pairwise λa b=>gJ a b<0):(bK sy t p).Pairwise λa b=>gJ a b<0:=by
 unfold bK;rw[wS];exact h.imp λ{a b} hab=>by rw[uX]at hab⊢;exact hab
def ahA(h:p.Pairwise λa b=>gJ a b<0):l7 p p:=⟨h,λ_ h=>h,λx hx=>⟨x,hx,by rw[zl];exact⟨rfl,rfl⟩,GC⟩⟩
def ahB(hK:dH k){t:kI Int}{p:kI Clue}(hk:lc k (upTo' k.grid.cells.length) t)(hQ:age k p):p.map (l8 k (upTo' k.grid.cells.length) t)=bK (aK k) t p:=sN λg hg=>ahy hK hk (hQ.right g hg)
def ahC(hK:dH k){s t:kI Int}{p x:kI Clue}(hs:lc k s (upTo' k.decl.symbols.length))(ht:lc k (upTo' k.grid.cells.length) t)(hQ:age k p)(hx:l7 (p.map (l8 k s (upTo' k.decl.symbols.length))) x):l7 (p.map (l8 k s t)) (bK (aK k) t x):=by
 have O1:=ahk hK hs hQ hx;have h1:l7 (x.map (l8 k (upTo' k.grid.cells.length) t)) (bK (aK k) t x):=by
  rw[ahB hK ht O1];exact ahA (ahz hx.inc)
 have hxm:=ahi hK hs hQ hx;have e1:iK (upTo' k.grid.cells.length) s=s:=akT hs.pc;have e2:iK t (upTo' k.decl.symbols.length)=t:=akU ht.ps;refine h1.aej λg=>?_;rw[eT,eT];constructor
 .rintro⟨a,ha,rfl⟩;refine⟨l8 k s (upTo' k.decl.symbols.length) a,(hxm _).2 (eT.2 ⟨a,ha,rfl⟩),?_⟩;rw[Wp hK hs ht (hQ.right a ha),e1,e2]
 .rintro⟨y,hy,rfl⟩;obtain⟨a,ha,rfl⟩:=eT.1 ((hxm _).1 hy);refine⟨a,ha,?_⟩;rw[Wp hK hs ht (hQ.right a ha),e1,e2]
def Ws(k:bD)(cl s:kI Int)(p y:kI Clue):Prop:=∃x,l7 (p.map (l8 k s (upTo' k.decl.symbols.length))) x/\y=bK (aK k) (dz (aK k) cl x) x
structure O3(k:bD)(G:List (List Int))(cl:List Int)(p y:List Clue):Prop where
 mem:∃s∈G,Ws k cl s p y
 least:∀s∈G,∀z,Ws k cl s p z->¬qG z y<0
def O3.uniq{G:kI (kI Int)}{cl:kI Int}{y z:kI Clue}(h:O3 k G cl p y)(h2:O3 k G cl p z):y=z:=by
 obtain⟨s,hs,hy⟩:=h.mem;obtain⟨s2,hs2,hz⟩:=h2.mem;exact Vd (h2.least s hs y hy) (h.least s2 hs2 z hz)
structure Wt(k:bD)(G:List (List Int))(cl:List Int):Prop where
 grp:Grp k.grid.cells.length G
 keep:∀s∈G,lc k s (upTo' k.decl.symbols.length)
 NN:Bz k cl
section
variable {k:bD} {G:kI (kI Int)} {cl:kI Int} {p x y:kI Clue} {s t:kI Int}
def Wt.img(h:Wt k G cl)(hK:dH k)(hQ:age k p)(hs:s∈G)(ht:lI k.decl.symbols.length cl t)(hx:l7 (p.map (l8 k s (upTo' k.decl.symbols.length))) x)(hy:l7 (p.map (l8 k s t)) y):y=bK (aK k) t x:=
 hy.uniq (ahC hK (h.keep s hs) ((h.NN.keeps hK).1 ht) hQ hx)
end
end Go.Proofs.YtoilpafpgndilaaGreat
namespace Go.Proofs.YtoilpafpgndilaaGreat
open Tryz (prog)
open Go.Ideal Kd Canon
section
variable {P:Program} {B:kI Nat} {w0:Wd} {kl kl':kI OA} {F:kI aO} {K:KO} {ds:kI Tmp} {rest:kI bV} {n:Nat} {l:qr} {D:kI Deferred} {pm:x8 FrameMode} {ro:x8 Nat} {d:Nat} {g:x8 (Tmp×Bool)}
def alz{x:aaB}{b:Nat}{cs:kI vI}{v:vI}(j:Nat)
 (next:R (λh=>aH P ds rest (act n ((d,v)::l) D pm ro) h K) B w0 kl F)
 (hx:ev l x=.pointer (some ⟨b,0+j,none⟩):=by rfl) (hk:gY b 0 cs∈F:=by exact vW) (hv:jU cs j=some v:=by rfl) (hn:Nat.blt d n=true:=by rfl) (hg:cZ l g=true:=by rfl):
 R (λh=>aH P ds (⟨⟨some d,g,.ah2 x⟩,[]⟩::rest) (act n l D pm ro) h K) B w0 kl F:=(ab3 hn hg hx hk hv).h next
end
def an6{v:vI}{xs:kI Int}(hl:xs.length<=1000000):bA prog (.func 325) [v] [] [] [ai ae v xs] (λv':vI=>v') (λ_=>[]) (λv'=>[ai ae v' (bW xs)]) (λ_=>True):=by
 refine gB 325 λB w0=>?_;refine gC (am8 (xs:=xs) hl) λa _=>?_;refine gC (Oq (a:=a) (zs:=xs) rfl z7) λ_ _=>?_;refine gZ (gz (E:=ae) (v:=.slice a xs.length xs.length) (xs:=bW xs)) ?_;refine go ?_;exact gQ (.slice a xs.length xs.length) trivial
variable{a b:kI Int}{va vb:vI}
def an7(ha:a.length<=1000000)(hb:b.length<=1000000):dD prog 234 [va,vb] [ai ae va a,ai ae vb b] (.bool (xV a b)):=by
 have hsl:=AV a;refine gB 234 λB w0=>?_;refine gC (an6 (xs:=a) ha) λv1 _=>?_;refine gC (an6 (xs:=b) hb) λv2 _=>?_;refine gC (Bf (xs:=bW a) (ys:=bW b) z7) λ_ _=>?_;exact afN
def aqB(ha:a.length<=1000000)(hb:b.length<=1000000):dD prog 235 [va,vb] [ai ae va a,ai ae vb b] (.bool (Bc a b)):=by
 have hrl:b.reverse.length=b.length:=akP;refine gB 235 λB w0=>?_;refine gC (am8 (xs:=b) hb) λc _=>?_;refine gC (alL (a:=c) (xs:=b) hb) λ_ _=>?_;refine aie (A:=ap ae (.slice c b.length b.length) b.reverse) (fs:=[ai ae (.slice c b.length b.length) b.reverse]) gz (h:=?_);refine gC (Bf (xs:=a) (ys:=b) z7) λ_ _=>?_;refine gH ?_ ?_<;>intro h1
 rotate_left
 .refine acM ?_;rw[Fy.2 (.inl h1)];rfl
 refine gC (Bf (xs:=a) (ys:=b.reverse) z7) λ_ _=>?_;refine acM ?_;unfold Bc;rw[aR h1,Bool.false_or];rfl
abbrev ckL(k:bD)(vh vs vr vc vu gh gc vn vl sc st:vI):kI vI:=[.string k.decl.name,iV k.decl.version,iV k.decl.shape,iV k.decl.w,iV k.decl.h,vh,vs,vr,vc,vu,iV k.grid.shape,iV k.grid.w,iV k.grid.h,gh,gc,vn,vl,sc,st]
abbrev ckF(k:bD)(s t:kI Int)(vs vn vl sc st:vI):kI aO:=[ai ae sc s,ai ae st t,ai fF vs k.decl.symbols,ai (ak ae) vn k.aQ,ai (ak (ak ae)) vl k.lists]
variable{w:kI Int}
def al7{b:Nat}{vw:vI}(hw:w.length<=1000000)(x:kI Int)(hx:x.length<=1000000):OC prog (.func 324) [] [ptr' b] [gY b 0 [vw],ai ae vw w] (λx=>xV x w) x:=by
 intro v;rw[dY];refine gB 324 λB w0=>?_;refine gC (an7 (a:=x) (b:=w) hx hw) λ_ _=>?_;exact afN
abbrev amv(P:Program)(fe:Fn)(eq:kI Int->kI Int->Bool):Prop:=∀(va vb:vI) (a b:kI Int),a.length<=1000000->b.length<=1000000->bA P fe [va,vb] [] [] [ai ae va a,ai ae vb b] (λ_:Unit=>.bool (eq a b)) (λ_=>[]) (λ_=>[]) (λ_=>True)
structure alj(n:Nat)(k:bD)(s:List Int)(r:bN)(L:List (List Int)):Prop where
 f0:0<=r.family
 hL:k.lists[r.family.toNat]? =some L
 kE:pJ n L r.family
 ps:dF n s
 n0:0<n
 n1:n<=1000000
 len:L.length<=1000000
 lens:∀l∈L,l.length<=1000000
variable{L:kI (kI Int)}{s l:kI Int}{eq:kI Int->kI Int->Bool}{f:Int}{j:Nat}
def ak8(hl:L[j]? =some l)(h:NI L s f eq l j=false):mZ L s f eq=false:=by
 cases e:mZ L s f eq with
 |false=>rfl
 |true=>
  unfold mZ at e;exact tv
def ak9{i:Int}(hi:lH L s f (j:Int)=i)(h:NI L s f eq l j=true):0<=i/\xV (L.getD i.toNat []) (img s l)=true/\eq (L.getD i.toNat []) (img s l)=true:=by
 unfold NI at h;rw[hi,afD,afD,lM]at h;exact h
def amw{m:Nat}{l':kI Int}(hi:lH L s f (j:Int)=(m:Int))(hl':L[m]? =some l')(h1:xV l' (img s l)=true)(h2:eq l' (img s l)=true):NI L s f eq l j=true:=by
 unfold NI;rw[hi,kJ,j5 hl',h1,h2];simp
def aqC(h:0<=zo L w):(zo L w).toNat<L.length:=by
 obtain⟨l,h1,_⟩:=UU h;exact(bq.1 h1).1
def anc{n:Nat}{k:bD}{t:kI Int}{r:bN}{fe:Fn}{vh vs vr vc vu gh gc vn vl sc st v1 v2:vI}(H:alj n k s r L)(he:amv prog fe eq):
 fC prog 233 [.agg ⟨ckL k vh vs vr vc vu gh gc vn vl sc st⟩,.agg ⟨lV r v1 v2⟩,.func fe ⟨[]⟩ ⟨[]⟩] (ckF k s t vs vn vl sc st) (λ_:Unit=>.bool (mZ L s r.family eq)) (λ_=>True):=by
 have hsl:=H.ps.len;have hn0:=H.n0;have hn1:=H.n1;have hll:=H.len;have ai0:=H.lens;obtain⟨rn,ro,rk,rf,dA,dB,amx,amy,iD,iE,iF,iG⟩:=r;have hf0:0<=rf:=H.f0;obtain⟨f,rfl⟩:=jA hf0;have hLf:k.lists[f]? =some L:=by have:=H.hL;rwa [kJ]at this
 refine gB 233 λB w0=>?_;refine gF ae sc s λasc csc esc=>?_;subst esc;refine go ?_;intro b3 b4;refine gP b3 ?_;refine gP b4 ?_;have hfl:=(bq.1 hLf).1;refine gX (ak (ak ae)) (xs:=k.lists) λ_ _ L2 (vL:vI) hL2=>?_;rw[hLf]at hL2;obtain rfl:L=L2:=Option.some.inj hL2;refine gF (ak ae) vL L λaL cL eL=>?_;subst eL;generalize hrf:(f:Int)=rf at *;refine gN L.length 24 (λj=>j<=L.length/\∀i',i'<j->∀x,L[i']? =some x->NI L s rf eq x i'=true) ⟨bR _,λi' h=>absurd h (ak5 _)⟩ ?_;rintro j ⟨hj,hall⟩;refine gIf ?_ ?_<;>intro h1
 .refine gX (ak ae) (xs:=L) λ_ _ l (vl2:vI) hl=>?_;have hlm:=aZ hl;have hlr:=H.kE.fG l hlm;have hlen:=ai0 l hlm;have hil:(img s l).length=l.length:=NG s l;refine gF ae vl2 l λal cl el=>?_;subst el;refine go ?_;refine IK l.length ⟨z7,z7,z7⟩ λbw=>?_;rw[ahb];refine go ?_;intro b10;refine go ?_;refine aU (λi:Nat=>l.length - i) (λi=>[(34,iV (i:Int))]) (λi=>[pt bw (.cells ((sw (img s (l.take i)) l.length).map iV)),pt b10 (.cells [.slice (some ⟨bw,0,some 0⟩) l.length l.length])]) (λ_=>[]) (λi=>i<=l.length) 0 (bR _) (hk:=As) (body:=?_);intro i hi;have hcl:(img s (l.take i)).length=i:=by rw[NG,gT];omega
  refine gIf ?_ ?_<;>intro h2
  .refine go ?_;intro _ _ x hx;have Dh:=hlr x (aZ hx);obtain⟨m,rfl⟩:=jA Dh.1;refine go ?_;refine alz 17 ?_;refine go ?_;intro _ _ z hz;have hzg:=ji hz;have htk:img s (l.take (i+1))=img s (l.take i)++[z]:=by
    unfold img;rw[bZ hx,fP,sQ,hzg]
   refine go ?_;refine qI (b:=bw) (o:=0+i*1) (cs:=(sw (img s (l.take i)) l.length).map iV) (v:=iV z) (cs':=(sw (img s (l.take (i+1))) l.length).map iV) (by rw[fo,uw,<- DD,ag8 hcl.symm z7,htk]) (by rw[bY,ag7 z7];omega) ?_;refine go ?_;exact aN (i+1) I0 AK
  have hie:i=l.length:=z7
  subst hie;rw[bU]at hcl⊢;rw[ag9 hcl];refine aie (A:=pt bw (.cells ((img s l).map iV))) (fs:=[ai ae (.slice (some ⟨bw,0,some 0⟩) l.length l.length) (img s l)]) (by have:=uR (b:=bw) (f:=0) (c:=l.length) (xs:=img s l) (hc:=by rw[hil];exact bT _);rw[hil]at this;exact this) (h:=?_);refine gP b10 ?_;refine go ?_;refine alz 17 ?_;refine go ?_;intro _ _ z0 hz0;refine gIf ?_ ?_<;>intro c0
  .refine gIf (λ_=>?_) (λh=>absurd c0 h);dsimp only at c0;have hjs:j<s.length:=by
    have:=H.kE.len C0;omega
   refine go ?_;refine alz 17 ?_;refine go ?_;intro _ _ i hi;have hig:=ji hi;have FJ:lH L s rf (j:Int)=i:=by unfold lH;rw[if_pos C0];exact hig
   have hi0:0<=i:=(H.ps.fG i (aZ hi)).1;have Wy:i<(L.length:Int):=by
    have h1:=(H.ps.fG i (aZ hi)).2;have h2:=H.kE.len C0;omega
   exact be
  refine gIf ?_ ?_<;>intro c4
  .refine gIf (λ_=>?_) (λh=>absurd c4 h);dsimp only at c4;have hjs:j<s.length:=by
    have:=H.kE.len C1;omega
   refine go ?_;refine alz 17 ?_;refine go ?_;intro _ _ i hi;have hig:=ji hi;have FJ:lH L s rf (j:Int)=i:=by unfold lH;rw[if_pos C1];exact hig
   have hi0:0<=i:=(H.ps.fG i (aZ hi)).1;have Wy:i<(L.length:Int):=by
    have h1:=(H.ps.fG i (aZ hi)).2;have h2:=H.kE.len C1;omega
   exact be
  refine gIf ?_ ?_<;>intro c5
  .dsimp only at c5;have hjs:j<s.length:=by
    have:=H.kE.len C2;omega
   refine go ?_;refine alz 17 ?_;refine go ?_;intro _ _ i hi;have hig:=ji hi;have FJ:lH L s rf (j:Int)=i:=by unfold lH;rw[if_pos C2];exact hig
   have hi0:0<=i:=(H.ps.fG i (aZ hi)).1;have Wy:i<(L.length:Int):=by
    have h1:=(H.ps.fG i (aZ hi)).2;have h2:=H.kE.len C2;omega
   exact be
  dsimp only at c0 c4 c5;refine gC (an3 (fn:=.func 324) (first:=[]) (cap:=[ptr' b10]) (F1:=[gY b10 0 [.slice (some ⟨bw,0,some 0⟩) l.length l.length],ai ae (.slice (some ⟨bw,0,some 0⟩) l.length l.length) (img s l)]) (p:=λx=>xV x (img s l)) (va:=.slice aL L.length cL) (xs:=L) z7 (λx hx=>al7 C3 x (ai0 x hx))) λ_ _=>?_;have FJ:lH L s rf (j:Int)=ajB (λx=>xV x (img s l)) L:=by
   unfold lH;rw[if_neg (by unfold u7;simp[c0,c4,c5]),kJ,j5 hl];exact(amu L (img s l)).symm
  have hlt:0<=ajB (λx=>xV x (img s l)) L->ajB (λx=>xV x (img s l)) L<(L.length:Int):=λh=>by
   have:=aqC (L:=L) (w:=img s l) h;have e:ajB (λx=>xV x (img s l)) L=zo L (img s l):=amu L (img s l);omega
  generalize ajB (λx=>xV x (img s l)) L=i at FJ hlt⊢;by_cases hi0:0<=i
  .have Wy:=hlt hi0;exact be
  .refine gH ?_ ?_<;>intro hneg
   .exact absurd hneg z7
   refine acM ?_;rw[ak8 hl (by
    cases e:NI L s rf eq l j with
    |false=>rfl
    |true=>exact absurd (ak9 FJ e).1 hi0)];rfl
 have iR:j=L.length:=z7
 subst iR;refine acM ?_;have:mZ L s rf eq=true:=by
  unfold mZ;rw[Da];exact λi x hx=>hall i (bq.1 hx).1 x hx
 rw[this];rfl
abbrev FnK(P:Program)(fn:Fn)(k:bD)(s t:kI Int)(r:bN)(vh vs vr vc vu gh gc vn vl sc st v1 v2:vI)(c:Bool):Prop:=
 bA P fn [.agg ⟨ckL k vh vs vr vc vu gh gc vn vl sc st⟩,.agg ⟨lV r v1 v2⟩] [] [] (ckF k s t vs vn vl sc st) (λ_:Unit=>.bool c) (λ_=>[]) (λ_=>[]) (λ_=>True)
section
variable {n:Nat} {k:bD} {s t:kI Int} {r:bN} {L:kI (kI Int)} {vh vs vr vc vu gh gc vn vl sc st v1 v2:vI}
def aqD(H:alj n k s r L):FnK prog (.func 155) k s t r vh vs vr vc vu gh gc vn vl sc st v1 v2 (mZ L s r.family xV):=by
 have he:amv prog (.func 234) xV:=λva vb a b ha hb=>an7 ha hb;refine gB 155 λB w0=>?_;refine go ?_;intro b2 b3;refine gC (anc (t:=t) (eq:=xV) (sc:=sc) (st:=st) (v1:=v1) (v2:=v2) H he) λ_ _=>?_;exact afN
def aqE(H:alj n k s r L):FnK prog (.func 157) k s t r vh vs vr vc vu gh gc vn vl sc st v1 v2 (mZ L s r.family Bb):=by
 have he:amv prog (.func 58) Bb:=λva vb a b ha hb=>Bf z7;refine gB 157 λB w0=>?_;refine go ?_;intro b2 b3;refine gC (anc (t:=t) (eq:=Bb) (sc:=sc) (st:=st) (v1:=v1) (v2:=v2) H he) λ_ _=>?_;exact afN
def aqF(H:alj n k s r L):FnK prog (.func 158) k s t r vh vs vr vc vu gh gc vn vl sc st v1 v2 (mZ L s r.family Bc):=by
 have he:amv prog (.func 235) Bc:=λva vb a b ha hb=>aqB ha hb;refine gB 158 λB w0=>?_;refine go ?_;intro b2 b3;refine gC (anc (t:=t) (eq:=Bc) (sc:=sc) (st:=st) (v1:=v1) (v2:=v2) H he) λ_ _=>?_;exact afN
end
end Go.Proofs.YtoilpafpgndilaaGreat
namespace Go.Proofs.YtoilpafpgndilaaGreat
open Tryz (prog)
open Go.Ideal Kd Canon
variable{k:bD}
def amz{i:Nat}{x:mU}(h:k.decl.symbols[i]? =some x):aB (su k) (i:Int)=x.value:=by
 apply ji;unfold su;rw[dm,h];rfl
section
variable {m:Nat} {k:bD} {s t:kI Int} {r:bN} {vh vs vr vc vu gh gc vn vl sc st v1 v2:vI}
def aqG(hm:k.decl.symbols.length=m)(ht:dF m t)(hl:m<=4096):FnK prog (.func 156) k s t r vh vs vr vc vu gh gc vn vl sc st v1 v2 (qL (su k) t):=by
 have htl:=ht.len;refine gB 156 λB w0=>?_;refine gF ae st t λuS ct et=>?_;subst et;refine gF fF vs k.decl.symbols λkY cs1 es1=>?_;subst es1;refine go ?_;intro b2 b3;refine gP b2 ?_;refine gN t.length 11 (λj=>j<=t.length/\∀i',i'<j->∀x,t[i']? =some x->aB (su k) (i':Int)=aB (su k) x) ⟨bR _,λi' h=>absurd h (ak5 _)⟩ ?_;rintro j ⟨hj,hall⟩;refine gIf ?_ ?_<;>intro h1
 .refine go ?_;intro _ _ x hx;have Dh:=ht.fG x (aZ hx);obtain⟨i,rfl⟩:=jA Dh.1;refine gX fF (xs:=k.decl.symbols) (k:=j) λ_ _ y (_:Unit) hy=>?_;have e1:=amz hy;refine gX fF (xs:=k.decl.symbols) (k:=i) λ_ _ z (_:Unit) hz=>?_;have e2:=amz hz;refine gIf ?_ ?_<;>intro h2
  .exact gv
  exact jp
 exact lR
def al8(set i:Nat):set>>>i&&&1=(set.testBit i).toNat:=by
 rw[Nat.and_one_is_mod,anF,Nat.toNat_testBit]
def amA{a b:Bool}:((a.toNat:Nat):Int)=((b.toNat:Nat):Int)↔a=b:=by cases a<;>cases b<;>decide
def aqH{set other:Nat}(hs:r.set=(set:Int)/\set<2^63)(ho:r.other=(other:Int)/\other<2^63)(ht:dF m t)(hl:m<=60):FnK prog (.func 120) k s t r vh vs vr vc vu gh gc vn vl sc st v1 v2 (xW set other t):=by
 have htl:=ht.len;obtain⟨hs1,hs2⟩:=hs;obtain⟨ho1,ho2⟩:=ho;obtain⟨rn,ro,rk,rf,dA,dB,amx,amy,iD,iE,iF,iG⟩:=r;dsimp only at hs1 ho1;subst hs1 ho1;refine gB 120 λB w0=>?_;refine gF ae st t λuS ct et=>?_;subst et;refine go ?_;intro b2 b3;refine gP b2 ?_;refine gP b3 ?_;refine gN t.length 11 (λj=>j<=t.length/\∀i',i'<j->∀x,t[i']? =some x->set.testBit i'=set.testBit x.toNat/\other.testBit i'=other.testBit x.toNat) ⟨bR _,λi' h=>absurd h (ak5 _)⟩ ?_;rintro j ⟨hj,hall⟩;refine gIf ?_ ?_<;>intro h1
 .refine go ?_;intro _ _ x hx;have Dh:=ht.fG x (aZ hx);obtain⟨i,rfl⟩:=jA Dh.1;have hno:¬(set.testBit j=set.testBit i/\other.testBit j=other.testBit i)->xW set other t=false:=λh=>by
   cases e:xW set other t with
   |false=>rfl
   |true=>
    unfold xW at e;rw[Da]at e;have:=e j _ hx;dsimp only at this;rw[kJ,afD,lM,lM]at this;exact absurd this h
  refine go ?_;refine(fA rfl rfl (alZ (a:=set) (b:=j) rfl rfl z7)).h ?_;refine(fA rfl rfl (al0 (a:=set>>>j) (b:=1) rfl rfl (ami (amQ _ _) hs2) z7)).h ?_;rw[al8 set j];refine go ?_;refine(fA rfl rfl (alZ (a:=set) (b:=i) rfl rfl z7)).h ?_;refine(fA rfl rfl (al0 (a:=set>>>i) (b:=1) rfl rfl (ami (amQ _ _) hs2) z7)).h ?_;rw[al8 set i];refine gH ?_ ?_<;>intro h2
  rotate_left
  .refine acM ?_;rw[hno (λq=>h2 (amA.2 q.1))];rfl
  have h2:=amA.1 (ic.1 h2);refine go ?_;refine(fA rfl rfl (alZ (a:=other) (b:=j) rfl rfl z7)).h ?_;refine(fA rfl rfl (al0 (a:=other>>>j) (b:=1) rfl rfl (ami (amQ _ _) ho2) z7)).h ?_;rw[al8 other j];refine go ?_;refine(fA rfl rfl (alZ (a:=other) (b:=i) rfl rfl z7)).h ?_;refine(fA rfl rfl (al0 (a:=other>>>i) (b:=1) rfl rfl (ami (amQ _ _) ho2) z7)).h ?_;rw[al8 other i];refine gIf ?_ ?_<;>intro h3
  .refine acM ?_;rw[hno (λq=>h3 (amA.2 q.2))];rfl
  have h3:=amA.1 (ic.1 h3);refine go ?_;refine aN (j+1) z7 ⟨z7,λi' hi' x hx'=>?_⟩;by_cases e:i'=j
  .subst e;rw[hx]at hx';cases hx';rw[kJ];exact⟨h2,h3⟩
  .exact hall i' z7 x hx'
 have iR:j=t.length:=z7
 subst iR;refine acM ?_;have:xW set other t=true:=by
  unfold xW;rw[Da];intro i x hx;have:=hall i (bq.1 hx).1 x hx;dsimp only;rw[this.1,this.2];simp
 rw[this];rfl
def aqI{n:Nat}(hN:wC n k.aQ)(hs:dF n s)(hl:n<=1000000)(hll:∀l∈k.aQ,l.length<=1000000):FnK prog (.func 159) k s t r vh vs vr vc vu gh gc vn vl sc st v1 v2 (pI k.aQ s):=by
 have hsl:=hs.len;have hnl:=hN.1;refine gB 159 λB w0=>?_;refine gF ae sc s λasc csc esc=>?_;subst esc;refine gF (ak ae) vn k.aQ λan cn en=>?_;subst en;refine go ?_;intro b2 b3;refine gP b2 ?_;refine gN k.aQ.length 13 (λj=>j<=k.aQ.length/\∀i',i'<j->∀l,k.aQ[i']? =some l->∀b∈l,aB s b∈k.aQ.getD (aB s (i':Int)).toNat []) ⟨bR _,λi' h=>absurd h (ak5 _)⟩ ?_;rintro j ⟨hj,hall⟩;refine gIf ?_ ?_<;>intro h1
 .refine gX (ak ae) (xs:=k.aQ) λ_ _ l (vl2:vI) hl2=>?_;have hlm:=aZ hl2;have hlr:=hN.2 l hlm;have hlen:=hll l hlm;refine gF ae vl2 l λal cl el=>?_;subst el;refine gN l.length 20 (λi=>i<=l.length/\∀b∈l.take i,aB s b∈k.aQ.getD (aB s (j:Int)).toNat []) ⟨bR _,An⟩ ?_;rintro i ⟨hi,FV⟩;refine gIf ?_ ?_<;>intro h2
  .refine go ?_;intro _ _ b hb;have hbr:=hlr b (aZ hb);obtain⟨bn,rfl⟩:=jA hbr.1;refine go ?_;refine alz 17 ?_;refine go ?_;intro _ _ u hu;have Pw:=ji hu;have hur:=hs.fG u (aZ hu);obtain⟨un,rfl⟩:=jA hur.1;refine gX (ak ae) (xs:=k.aQ) (k:=un) λ_ _ l2 (vl3:vI) hl3=>?_;have aqJ:=hll l2 (aZ hl3);refine go ?_;refine alz 17 ?_;refine go ?_;intro _ _ z hz;have hzg:=ji hz;refine gC (apQ (xs:=l2) (z:=z) z7) λ_ _=>?_;have hd:k.aQ.getD (aB s (j:Int)).toNat []=l2:=by rw[Pw,kJ];exact j5 hl3
   refine go ?_;refine fq rfl (λh3=>?_) (λh3=>?_)
   .exact fh
   refine go ?_;refine aN (i+1) I0 ⟨z7,λb hb'=>?_⟩;rw[bZ hb]at hb';rcases dX.1 hb' with hb'|hb'
   .exact FV b hb'
   .rw[bM.1 hb',hd,hzg];exact h3
  have hie:i=l.length:=z7
  subst hie;rw[bU]at FV;refine go ?_;refine aN (j+1) (by show k.aQ.length - (j+1)<k.aQ.length - j;omega) ⟨z7,λi' hi' l' hl'=>?_⟩;exact sg
 exact j7
end
abbrev fv(f:agR):vI:=.func (.func f) ⟨[]⟩ ⟨[]⟩
structure amB where
 b1:Nat
 b2:Nat
 b3:Nat
 b4:Nat
 b5:Nat
 b6:Nat
 b7:Nat
 b8:Nat
 b9:Nat
 b10:Nat
abbrev ane(y:amB):kI vI:=[.slice none 0 0,.slice (some ⟨y.b1,0,some 0⟩) 1 1,.slice (some ⟨y.b2,0,some 0⟩) 1 1,.slice (some ⟨y.b3,0,some 0⟩) 2 2,.slice (some ⟨y.b4,0,some 0⟩) 2 2,.slice (some ⟨y.b5,0,some 0⟩) 1 1,.slice (some ⟨y.b6,0,some 0⟩) 1 1,.slice (some ⟨y.b7,0,some 0⟩) 2 2,.slice (some ⟨y.b8,0,some 0⟩) 1 1,.slice (some ⟨y.b9,0,some 0⟩) 1 1,.slice (some ⟨y.b10,0,some 0⟩) 1 1,.slice none 0 0]
abbrev ak3(y:amB):kI aO:=[gY y.b1 0 [fv 155],gY y.b2 0 [fv 155],gY y.b3 0 [fv 155,fv 156],gY y.b4 0 [fv 157,fv 156],gY y.b5 0 [fv 158],gY y.b6 0 [fv 159],gY y.b7 0 [fv 159,fv 156],gY y.b8 0 [fv 159],gY y.b9 0 [fv 159],gY y.b10 0 [fv 159]]
def aqK:bA prog (.func 118) [] [] [] [] (λy:amB=>.agg ⟨ane y⟩) (λ_=>[]) (λy=>ak3 y) (λ_=>True):=by
 refine gB 118 λB w0=>?_;refine go ?_;intro b0 b1 b2 b3 b4 b5 b6 b7 b8 b9 b10;refine go ?_;refine gP b1 ?_;refine gP b2 ?_;refine gP b3 ?_;refine gP b4 ?_;refine gP b5 ?_;refine gP b6 ?_;refine gP b7 ?_;refine gP b8 ?_;refine gP b9 ?_;refine gP b10 ?_;exact gQ ⟨b1,b2,b3,b4,b5,b6,b7,b8,b9,b10⟩ trivial
section
variable {k:bD} {s t:kI Int} {r:bN} {vh vs vr vc vu gh gc vn vl sc st v1 v2:vI} {bc br:Nat}
abbrev kpF(k:bD)(s t:kI Int)(r:bN)(vh vs vr vc vu gh gc vn vl sc st v1 v2:vI)(bc br:Nat):kI aO:=gY bc 0 (ckL k vh vs vr vc vu gh gc vn vl sc st)::gY br 0 (lV r v1 v2)::ckF k s t vs vn vl sc st
def al9{f:agR}{c:Bool}(h:FnK prog (.func f) k s t r vh vs vr vc vu gh gc vn vl sc st v1 v2 c):bA prog (.func 119) [fv f] [ptr' bc,ptr' br] [] (kpF k s t r vh vs vr vc vu gh gc vn vl sc st v1 v2 bc br) (λ_:Unit=>.bool (!c)) (λ_=>[]) (λ_=>[]) (λ_=>True):=by
 refine gB 119 λB w0=>?_;refine gC h λ_ _=>?_;exact afN
variable{fn:Fn}{first cap fs:kI vI}{F1:kI aO}{b:Nat}{p:Nat->Bool}
def aqL(hl:fs.length<=100)(hp:∀i f,fs[i]? =some f->bA prog fn (first++[f]) cap [] F1 (λ_:Unit=>.bool (p i)) (λ_=>[]) (λ_=>[]) (λ_=>True)):
 fC prog 160 [.slice (some ⟨b,0,some 0⟩) fs.length fs.length,.func fn ⟨first⟩ ⟨cap⟩] (gY b 0 fs::F1) (λx:Int=>iV x) (λx=>0<=x↔∃i,i<fs.length/\p i=true):=by
 refine gB 160 λB w0=>?_;refine gN fs.length 8 (λj=>j<=fs.length/\∀i,i<j->p i=false) ⟨bR _,λi h=>absurd h (ak5 _)⟩ ?_;rintro j ⟨hj,hall⟩;refine gIf ?_ ?_<;>intro h1
 .have hf:fs[j]? =some fs[j]:=bP z7;generalize fs[j]=f at hf;refine go ?_;refine(ab3 (b:=b) (o:=0) (j:=j*1) (cs:=fs) (v:=f) rfl rfl rfl (cB ..) (by rw[sZ,uw];exact hf)).h ?_;refine gC (hp j f hf) λ_ _=>?_;refine go ?_;refine kw rfl (λh2=>?_) (λh2=>?_)
  .refine go ?_;exact gQ (j:Int) ⟨λ_=>⟨j,z7,h2⟩,λ_=>by omega⟩
  refine go ?_;refine aN (j+1) z7 ⟨z7,λi hi=>?_⟩;by_cases e:i=j
  .subst e;exact h2
  .exact hall i z7
 refine go ?_;exact gQ (-1) ⟨λh=>by omega,λ⟨i,hi,h⟩=>by rw[hall i z7]at h;cases h⟩
def an8(hl:fs.length<=100)(hp:∀i f,fs[i]? =some f->bA prog fn (first++[f]) cap [] F1 (λ_:Unit=>.bool (p i)) (λ_=>[]) (λ_=>[]) (λ_=>True)):
 fC prog 121 [.slice (some ⟨b,0,some 0⟩) fs.length fs.length,.func fn ⟨first⟩ ⟨cap⟩] (gY b 0 fs::F1) (λc:Bool=>.bool c) (λc=>c=true↔∃i,i<fs.length/\p i=true):=by
 refine gB 121 λB w0=>?_;refine gC (aqL (b:=b) hl hp) λx hx=>?_;refine go ?_;refine gQ (decide (0<=x)) ?_;rw[lM];exact hx
def aqM:fC prog 121 [.slice none 0 0,.func fn ⟨first⟩ ⟨cap⟩] F1 (λc:Bool=>.bool c) (λc=>c=false):=by
 have h0:fC prog 160 [.slice none 0 0,.func fn ⟨first⟩ ⟨cap⟩] F1 (λ_:Unit=>iV (-1)) (λ_=>True):=by
  refine gB 160 λB w0=>?_;refine go ?_;refine mR ?_;exact afN
 refine gB 121 λB w0=>?_;refine gC h0 λ_ _=>?_;refine go ?_;exact gQ false rfl
structure anf(k:bD)(s t:List Int)(r:bN):Prop where
 ps:dF k.grid.cells.length s
 pt:dF k.decl.symbols.length t
 n1:k.grid.cells.length<=256
 m1:k.decl.symbols.length<=16
 aQ:wC k.grid.cells.length k.aQ
 nbl:∀l∈k.aQ,l.length<=1000000
 kind:1<=r.kind/\r.kind<=11
 lst:alj k.grid.cells.length k s r (k.lists.getD r.family.toNat [])
 st:r.set=((r.set.toNat:Nat):Int)/\r.set.toNat<2^63
 ot:r.other=((r.other.toNat:Nat):Int)/\r.other.toNat<2^63
def aoa(H:anf k s t r)(y:amB):∃v,(ane y)[r.kind.toNat]? =some v/\fC prog 121 [v,.func (.func 119) ⟨[]⟩ ⟨[ptr' bc,ptr' br]⟩] (ak3 y++kpF k s t r vh vs vr vc vu gh gc vn vl sc st v1 v2 bc br) (λc:Bool=>.bool c) (λc=>c=true↔Dq k s t r=false):=by
 have hF:=al9 (bc:=bc) (br:=br) (aqD (t:=t) (vh:=vh) (vs:=vs) (vr:=vr) (vc:=vc) (vu:=vu) (gh:=gh) (gc:=gc) (vn:=vn) (vl:=vl) (sc:=sc) (st:=st) (v1:=v1) (v2:=v2) H.lst);have hO:=al9 (bc:=bc) (br:=br) (aqE (t:=t) (vh:=vh) (vs:=vs) (vr:=vr) (vc:=vc) (vu:=vu) (gh:=gh) (gc:=gc) (vn:=vn) (vl:=vl) (sc:=sc) (st:=st) (v1:=v1) (v2:=v2) H.lst);have hL:=al9 (bc:=bc) (br:=br) (aqF (t:=t) (vh:=vh) (vs:=vs) (vr:=vr) (vc:=vc) (vu:=vu) (gh:=gh) (gc:=gc) (vn:=vn) (vl:=vl) (sc:=sc) (st:=st) (v1:=v1) (v2:=v2) H.lst);have hV:=al9 (bc:=bc) (br:=br) (aqG (s:=s) (r:=r) (vh:=vh) (vs:=vs) (vr:=vr) (vc:=vc) (vu:=vu) (gh:=gh) (gc:=gc) (vn:=vn) (vl:=vl) (sc:=sc) (st:=st) (v1:=v1) (v2:=v2) rfl H.pt (by have:=H.m1;omega));have hB:=al9 (bc:=bc) (br:=br) (aqI (t:=t) (r:=r) (vh:=vh) (vs:=vs) (vr:=vr) (vc:=vc) (vu:=vu) (gh:=gh) (gc:=gc) (vn:=vn) (vl:=vl) (sc:=sc) (st:=st) (v1:=v1) (v2:=v2) H.aQ H.ps (by have:=H.n1;omega) H.nbl);have one:∀(b:Nat) (f:agR) (c:Bool),bA prog (.func 119) [fv f] [ptr' bc,ptr' br] [] (kpF k s t r vh vs vr vc vu gh gc vn vl sc st v1 v2 bc br) (λ_:Unit=>.bool (!c)) (λ_=>[]) (λ_=>[]) (λ_=>True)->gY b 0 [fv f]∈ak3 y->Dq k s t r=c->
  fC prog 121 [.slice (some ⟨b,0,some 0⟩) 1 1,.func (.func 119) ⟨[]⟩ ⟨[ptr' bc,ptr' br]⟩] (ak3 y++kpF k s t r vh vs vr vc vu gh gc vn vl sc st v1 v2 bc br) (λc:Bool=>.bool c) (λc=>c=true↔Dq k s t r=false):=λb f c h hm hc=>by
  have h1:=an8 (b:=b) (fs:=[fv f]) (p:=λ_=>!c) (fn:=.func 119) (first:=[]) (cap:=[ptr' bc,ptr' br]) An (λi g hg=>by
   match i,hg with
   |0,hg=>cases hg;exact h
   |i+1,hg=>simp at hg)
  refine((h1.facts (F2:=ak3 y++kpF k s t r vh vs vr vc vu gh gc vn vl sc st v1 v2 bc br) (λf hf=>?_))).weak λc' hc'=>?_
  .exact vm
  .rw[hc',hc];constructor
   .rintro⟨_,_,e⟩;simpa using e
   .intro e;exact⟨0,An,by rw[e];rfl⟩
 have two:∀(b:Nat) (f g:agR) (c d:Bool),bA prog (.func 119) [fv f] [ptr' bc,ptr' br] [] (kpF k s t r vh vs vr vc vu gh gc vn vl sc st v1 v2 bc br) (λ_:Unit=>.bool (!c)) (λ_=>[]) (λ_=>[]) (λ_=>True)->bA prog (.func 119) [fv g] [ptr' bc,ptr' br] [] (kpF k s t r vh vs vr vc vu gh gc vn vl sc st v1 v2 bc br) (λ_:Unit=>.bool (!d)) (λ_=>[]) (λ_=>[]) (λ_=>True)->gY b 0 [fv f,fv g]∈ak3 y->Dq k s t r=(c&&d)->
  fC prog 121 [.slice (some ⟨b,0,some 0⟩) 2 2,.func (.func 119) ⟨[]⟩ ⟨[ptr' bc,ptr' br]⟩] (ak3 y++kpF k s t r vh vs vr vc vu gh gc vn vl sc st v1 v2 bc br) (λc:Bool=>.bool c) (λc=>c=true↔Dq k s t r=false):=λb f g c d h h2 hm hc=>by
  have h1:=an8 (b:=b) (fs:=[fv f,fv g]) (p:=λi=>if i=0 then !c else !d) (fn:=.func 119) (first:=[]) (cap:=[ptr' bc,ptr' br]) An (λi g hg=>by
   match i,hg with
   |0,hg=>cases hg;exact h
   |1,hg=>cases hg;exact h2
   |i+2,hg=>simp at hg)
  refine((h1.facts (F2:=ak3 y++kpF k s t r vh vs vr vc vu gh gc vn vl sc st v1 v2 bc br) (λf hf=>?_))).weak λc' hc'=>?_
  .exact vm
  .rw[hc',hc];constructor
   .rintro⟨i,hi,e⟩;by_cases e0:i=0
    .rw[if_pos e0]at e;cases c<;>simp_all
    .rw[if_neg e0]at e;cases d<;>simp_all
   .intro e;cases hcc:c with
    |false=>exact⟨0,An,rfl⟩
    |true=>
     rw[hcc,amK]at e;exact⟨1,An,by rw[e];rfl⟩
 have hk:=H.kind;obtain⟨kn,hkn⟩:=jA (by omega:0<=r.kind);have ahd:kn=1\/kn=2\/kn=3\/kn=4\/kn=5\/kn=6\/kn=7\/kn=8\/kn=9\/kn=10\/kn=11:=z7
 rcases ahd with rfl|rfl|rfl|rfl|rfl|rfl|rfl|rfl|rfl|rfl|rfl
 .exact⟨_,by rw[hkn];rfl,one y.b1 _ _ hF An (by unfold Dq;rw[if_pos (.inl hkn)])⟩
 .exact⟨_,by rw[hkn];rfl,one y.b2 _ _ hF An (by unfold Dq;rw[if_pos (.inr hkn)])⟩
 .exact⟨_,by rw[hkn];rfl,two y.b3 _ _ _ _ hF hV An (by unfold Dq;rw[if_neg z7,if_pos z7])⟩
 .exact⟨_,by rw[hkn];rfl,two y.b4 _ _ _ _ hO hV An (by unfold Dq;rw[if_neg z7,if_neg z7,if_pos z7])⟩
 .exact⟨_,by rw[hkn];rfl,one y.b5 _ _ hL An (by unfold Dq;rw[if_neg z7,if_neg z7,if_neg z7,if_pos z7])⟩
 .exact⟨_,by rw[hkn];rfl,one y.b6 _ _ hB An Kx⟩
 .exact⟨_,by rw[hkn];rfl,two y.b7 _ _ _ _ hB hV An (by unfold Dq;rw[if_neg z7,if_neg z7,if_neg z7,if_neg z7,if_pos z7])⟩
 .exact⟨_,by rw[hkn];rfl,one y.b8 _ _ hB An Kx⟩
 .exact⟨_,by rw[hkn];rfl,one y.b9 _ _ hB An Kx⟩
 .exact⟨_,by rw[hkn];rfl,one y.b10 _ _ hB An Kx⟩
 .refine⟨.slice none 0 0,by rw[hkn];rfl,?_⟩;refine(aqM (F1:=ak3 y++kpF k s t r vh vs vr vc vu gh gc vn vl sc st v1 v2 bc br)).weak λc' hc'=>?_;have:Dq k s t r=true:=by unfold Dq;rw[if_neg z7,if_neg z7,if_neg z7,if_neg z7,if_neg z7,if_neg z7]
  rw[hc',this];simp
end
def dH.set(h:dH k){r:bN}(hr:r∈k.decl.rules):(r.set=((r.set.toNat:Nat):Int)/\r.set.toNat<2^63)/\(r.other=((r.other.toNat:Nat):Int)/\r.other.toNat<2^63):=by
 obtain⟨q,hq,hre⟩:=h.rV hr;have hro:=h.b.rs.rV q hq;have hsl:=h.typ.lim.s1;have aob:r.set=((gK (bX k.decl) q.names:Nat):Int):=D4
 have aoc:r.other=((gK (bX k.decl) q.others:Nat):Int):=D4
 have hsn:(bX k.decl).length<=16:=by unfold bX;rw[bY];exact hsl
 have hl1:=anY hsn q.names hro.names;have hl2:=anY hsn q.others hro.others;refine⟨⟨by rw[aob];omega,by rw[aob];omega⟩,⟨by rw[aoc];omega,by rw[aoc];omega⟩⟩
def dH.Vm(h:dH k):k.grid.cells.length<=256:=by
 have:=h.cZ.len;rw[h.grid];exact this
def dH.npos(h:dH k):0<k.grid.cells.length:=by
 rw[h.grid];exact apG h.cZ
def dH.aod(h:dH k){s t:kI Int}(hs:dF k.grid.cells.length s)(ht:dF k.decl.symbols.length t){r:bN}(hr:r∈k.decl.rules):anf k s t r:=by
 have hin:=(h.inr hr).kE;have hL:k.lists[r.family.toNat]? =some (k.lists[r.family.toNat]'(z7)):=bP _;have mI:=h.We hL;rw[vM hin.1]at mI;have aln:∀r∈k.decl.regions,CZ (aT k.decl) r.lists:=λr hr=>(h.typ.Dl r hr).1.2;have alo:=amZ h.cZ aln;have hlin:=amW h.cZ aln;rw[<- h.lists]at alo hlin;have hn:=h.Vm;refine⟨hs,ht,h.Vm,h.typ.lim.s1,h.OQ,λl hl=>?_,h.kinds hr,⟨hin.1,?_,?_,hs,h.npos,z7,?_,?_⟩,(h.set hr).1,(h.set hr).2⟩
 .rw[h.aQ]at hl;have:=Nq l hl;omega
 .rw[j5 hL];exact hL
 .rw[j5 hL];exact mI
 .rw[j5 hL];have:=alo _ (aZ hL);omega
 .rw[j5 hL];intro l hl;have:=(hlin _ (aZ hL) l hl).1;omega
variable{s t:kI Int}{vh vs vr vc vu gh gc vn vl sc st:vI}
def aqN(hK:dH k)(hs:s.length<2^63)(ht:t.length<2^63):
 fC prog 89 [.agg ⟨kZ k vh vs vr vc vu gh gc vn vl⟩,.agg ⟨[sc,st]⟩] (ai ae sc s::ai ae st t::j6 k vh vs vr vc vu gh gc vn vl []) (λb:Bool=>.bool b) (λb=>b=true↔lc k s t):=by
 have hn:=hK.Vm;have hm:=hK.typ.lim.s1;have yc:=hK.typ.lim.u;refine gB 89 λB w0=>?_;dsimp only[j6];refine gF ae gc k.grid.cells λag cg eg=>?_;subst eg;refine gF fF vs k.decl.symbols λkY cs1 es1=>?_;subst es1;refine gF aY vu k.decl.rules λau cu eu=>?_;subst eu;refine go ?_;intro b2 b3;refine gP b2 ?_;refine gP b3 ?_;refine gC (an5 (xs:=s) (n:=k.grid.cells.length) hn hs) λe1 he1=>?_;refine gH ?_ ?_<;>intro h1
 rotate_left
 .refine go ?_;exact gQ false ⟨(λh=>by cases h),λh=>absurd (he1.2 h.pc) h1⟩
 have hps:=he1.1 (ic.1 h1);refine gC (an5 (xs:=t) (n:=k.decl.symbols.length) z7 ht) λe2 he2=>?_;refine gIf ?_ ?_<;>intro h2
 .refine go ?_;exact gQ false ⟨(λh=>by cases h),λh=>absurd (he2.2 h.ps) h2⟩
 have hpt:=he2.1 (ic.1 h2);refine go ?_;intro b5 b6;refine ay aqK (next:=λy _=>?_);refine go ?_;refine gP b5 ?_;refine gP b6 ?_;refine gN k.decl.rules.length 36 (λj=>j<=k.decl.rules.length/\∀r∈k.decl.rules.take j,keepR k s t r=true) ⟨bR _,An⟩ ?_;rintro j ⟨hj,hall⟩;refine gIf ?_ ?_<;>intro h3
 .refine gX aY (xs:=k.decl.rules) λ_ _ r (w:vI×vI) hr=>?_;have hrm:=aZ hr;have H:=hK.aod hps hpt hrm;have hkd:=H.kind;have hno:keepR k s t r=false->∀b:Bool,b=false->(b=true↔lc k s t):=λh b hb=>⟨(λe=>by rw[hb]at e;cases e),λq=>by have:=q.rV r hrm;rw[h]at this;cases this⟩
  obtain⟨vk,hvk,hcon⟩:=aoa (bc:=b5) (br:=0) (vh:=vh) (vs:=.slice kY k.decl.symbols.length cs1) (vr:=vr) (vc:=vc) (vu:=.slice au k.decl.rules.length cu) (gh:=gh) (gc:=.slice ag k.grid.cells.length cg) (vn:=vn) (vl:=vl) (sc:=sc) (st:=st) (v1:=w.1) (v2:=w.2) H y;clear hcon;refine go ?_;intro b8;obtain⟨vk2,aof,hcon⟩:=aoa (bc:=b5) (br:=b8) (vh:=vh) (vs:=.slice kY k.decl.symbols.length cs1) (vr:=vr) (vc:=vc) (vu:=.slice au k.decl.rules.length cu) (gh:=gh) (gc:=.slice ag k.grid.cells.length cg) (vn:=vn) (vl:=vl) (sc:=sc) (st:=st) (v1:=w.1) (v2:=w.2) H y;obtain rfl:vk2=vk:=by rw[hvk]at aof;exact(Option.some.inj aof).symm
  refine go ?_;refine gP b8 ?_;refine gC (aqH (k:=k) (s:=s) (r:=r) (set:=r.set.toNat) (other:=r.other.toNat) (vh:=vh) (vs:=.slice kY k.decl.symbols.length cs1) (vr:=vr) (vc:=vc) (vu:=.slice au k.decl.rules.length cu) (gh:=gh) (gc:=.slice ag k.grid.cells.length cg) (vn:=vn) (vl:=vl) (sc:=sc) (st:=st) (v1:=w.1) (v2:=w.2) H.st H.ot hpt z7) λ_ _=>?_;cases hset:xW r.set.toNat r.other.toNat t with
  |false=>
   refine go ?_;exact gQ false (hno (by unfold keepR;rw[hset];rfl) _ rfl)
  |true=>
  obtain⟨kn,hkn⟩:=jA (by omega:0<=r.kind);rw[hkn,kJ]at hvk;rw[hkn];refine go ?_;refine(ab3 (b:=b6) (o:=0) (j:=kn*1) (cs:=ane y) (v:=vk2) rfl rfl rfl I2 (by rw[sZ,uw];exact hvk)).h ?_;rw[<- hkn];refine go ?_;dsimp only[ak3,kpF,ckF,List.cons_append,List.nil_append]at hcon;refine ay hcon (hF:=by repeat (first|exact Sub.nil|(apply Sub.cons;(focus (repeat (first|exact cB .. |apply cO)))))) (next:=λc hc=>?_);refine go ?_;cases c with
  |true=>
   refine go ?_;exact gQ false (hno (by unfold keepR;rw[hc.1 rfl,Bool.and_false]) _ rfl)
  |false=>
  have hcd:Dq k s t r=true:=by
   cases e:Dq k s t r with
   |true=>rfl
   |false=>exact absurd (hc.2 e) An
  refine go ?_;refine aN (j+1) I3 ⟨z7,λx hx=>?_⟩;rw[bZ hr]at hx;rcases dX.1 hx with hx|hx
  .exact hall x hx
  .rw[bM.1 hx];unfold keepR;rw[hset,hcd];rfl
 have iR:j=k.decl.rules.length:=z7
 subst iR;rw[bU]at hall;refine go ?_;exact gQ true ⟨λ_=>⟨hps,hpt,hall⟩,λ_=>rfl⟩
structure KpP(k:bD)(s t:List Int)(y:Bool×Int):Prop where
 nk:¬dH k->y=(false,180)
 ok:dH k->y.2=0/\(y.1=true↔lc k s t)
def aqO(hS:nZ k)(hs:s.length<2^63)(ht:t.length<2^63):
 fC prog 92 [.agg ⟨kZ k vh vs vr vc vu gh gc vn vl⟩,.agg ⟨[sc,st]⟩] (ai ae sc s::ai ae st t::j6 k vh vs vr vc vu gh gc vn vl []) (λy:Bool×Int=>.tuple ⟨[.bool y.1,iV y.2]⟩) (KpP k s t):=by
 refine gB 92 λB w0=>?_;dsimp only[j6];refine go ?_;intro b2 b3;refine gC (agV (k:=k) (vh:=vh) (vs:=vs) (vr:=vr) (vc:=vc) (vu:=vu) (gh:=gh) (gc:=gc) (vn:=vn) (vl:=vl) hS) λb hb=>?_;cases b with
 |false=>
  exact nB
 |true=>
 have hK:=hb.1 rfl;dsimp only[cond];refine gC (aqN (k:=k) (s:=s) (t:=t) (vh:=vh) (vs:=vs) (vr:=vr) (vc:=vc) (vu:=vu) (gh:=gh) (gc:=gc) (vn:=vn) (vl:=vl) (sc:=sc) (st:=st) hK hs ht) λc hc=>?_;refine go ?_;exact gQ (c,0) ⟨λh=>absurd hK h,λ_=>⟨rfl,hc⟩⟩
structure aoh(k:bD)(s t:List Int)(e:Int):Prop where
 nk:¬dH k->e=180
 ns:dH k->¬lc k s t->e=230
 ok:dH k->lc k s t->e=0
def aqP(hS:nZ k)(hs:s.length<2^63)(ht:t.length<2^63):
 fC prog 50 [.agg ⟨kZ k vh vs vr vc vu gh gc vn vl⟩,.agg ⟨[sc,st]⟩] (ai ae sc s::ai ae st t::j6 k vh vs vr vc vu gh gc vn vl []) (λe:Int=>iV e) (aoh k s t):=by
 refine gB 50 λB w0=>?_;dsimp only[j6];refine go ?_;intro b2 b3;refine gC (agV (k:=k) (vh:=vh) (vs:=vs) (vr:=vr) (vc:=vc) (vu:=vu) (gh:=gh) (gc:=gc) (vn:=vn) (vl:=vl) hS) λb hb=>?_;cases b with
 |false=>
  exact da
 |true=>
 have hK:=hb.1 rfl;dsimp only[cond];refine gC (aqO (k:=k) (s:=s) (t:=t) (vh:=vh) (vs:=vs) (vr:=vr) (vc:=vc) (vu:=vu) (gh:=gh) (gc:=gc) (vn:=vn) (vl:=vl) (sc:=sc) (st:=st) hS hs ht) λy hy=>?_;obtain⟨c,e⟩:=y;obtain⟨he,hc⟩:=hy.ok hK;dsimp only at he hc;subst he;refine go ?_;cases c with
 |false=>
  exact nw
 |true=>
  exact sB
