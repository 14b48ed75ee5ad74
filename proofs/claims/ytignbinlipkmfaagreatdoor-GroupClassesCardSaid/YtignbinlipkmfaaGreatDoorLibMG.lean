/- Part. -/
import Derived.Test.YtignbinlipkmfaaGreatDoorIdealPG
import Derived.Test.YtignbinlipkmfaaGreatDoorLibHG
set_option linter.all false
set_option maxRecDepth 10000
set_option maxHeartbeats 4000000
namespace Go.Proofs.YtignbinlipkmfaaGreatDoor
open Tryz (prog)
open Go.Ideal Kd
variable{xs:ae Int}
def Zb{v:ah}(hl:xs.length<=1000000):bA prog (.func 173) [v] [] [] [aA ai v xs] (λa:aj Addr=>.slice a xs.length xs.length) (λa=>[ap ai (.slice a xs.length xs.length) xs]) (λ_=>[]) (λ_=>True):=by
 refine nZ LP QL λB w0=>?_;refine KF ai v (xs:=xs) λaJ hxy=>?_;have hlen:aJ.length=xs.length:=by rw[<- hxy,aS]
 refine Wj (aJ:=aJ) (v:=v) (E:=ai) ?_;refine air (v:=v) (aJ:=aJ) ai (λe c ev=>?_) (λe i o f c ev=>?_) (λhne i o f c ev=>?_)
 .subst e ev;have hx:xs=[]:=by rw[<- hxy];rfl
  subst hx;simp only[wU];refine go ?_;refine(bV rfl rfl (G6 (e:=3) qk rfl)).h ?_;refine go ?_;refine mF ai ?_;exact gQ none trivial
 .subst e ev;have hx:xs=[]:=by rw[<- hxy];rfl
  subst hx;simp only[wU];refine go ?_;refine(bV rfl rfl (AU (e:=3) qk rfl)).h ?_;refine go ?_;intro b;refine go ?_;refine KH (b:=b) ?_;refine go ?_;refine O6 ai aC.here ?_;exact gQ (some ⟨b,0,some 0⟩) trivial
 .subst ev;refine go ?_;refine(bV rfl rfl (AU (e:=3) qk rfl)).h ?_;refine go ?_;intro b;refine go ?_;refine KI (b:=b) ai aJ hne p0 (λb'=>?_);refine go ?_;refine wB (b:=b') (m:=aJ.length) (f:=ai.n) ai (aJ:=aJ) rfl (.inr rfl) ?_ (hk:=aC.here);refine ahD (aJ:=aJ) hne ?_ (λw h=>h _ qe);rw[hxy,hlen];exact gQ (some ⟨b',0,some ai.n⟩) trivial
def zn(xs zs:ae Int)(k:Nat):Prop:=zs.length=xs.length/\∀i,i<xs.length->zs[i]? =if i<k\/xs.length - 1 - i<k then xs[xs.length - 1 - i]? else xs[i]?
def zn.zero(xs:ae Int):zn xs xs 0:=⟨rfl,λi hi=>by rw[if_neg p0]⟩
variable{zs:ae Int}{k:Nat}
def zn.step{x y:Int}(h:zn xs zs k)(hk:k<xs.length - 1 - k)(hx:zs[k]? =some x)(hy:zs[xs.length - 1 - k]? =some y):zn xs ((zs.set k y).set (xs.length - 1 - k) x) (k+1):=by
 obtain⟨h1,h2⟩:=h;refine⟨by rw[jD,jD];exact h1,λi hi=>?_⟩;have hx':=h2 k p0;have hy':=h2 (xs.length - 1 - k) p0;rw[if_neg p0,hx]at hx';rw[if_neg p0,hy]at hy';rw[ow,jD,h1];by_cases e:xs.length - 1 - k=i
 .rw[if_pos e,if_pos p0,if_pos p0,show xs.length - 1 - i=k by omega,hx']
 .rw[if_neg e,ow,h1];by_cases e2:k=i
  .subst e2;rw[if_pos rfl,if_pos hi,if_pos p0,hy']
  .rw[if_neg e2,h2 i hi];by_cases c:i<k\/xs.length - 1 - i<k
   .rw[if_pos c,if_pos p0]
   .rw[if_neg c,if_neg p0]
def zn.done(h:zn xs zs k)(hk:¬k<xs.length - 1 - k)(hle:2*k<=xs.length+1):zs=xs.reverse:=by
 obtain⟨h1,h2⟩:=h;apply iK;intro i;by_cases hi:i<xs.length
 .rw[h2 i hi,List.getElem?_reverse hi];by_cases c:i<k\/xs.length - 1 - i<k
  .rw[if_pos c]
  .rw[if_neg c,show xs.length - 1 - i=i by omega]
 .rw[dY p0,dY (by rw[SV];omega)]
variable{a:aj Addr}
def al9{c:Nat}:fC prog 267 [.slice a 0 c] [] (λ_:Unit=>.tuple ⟨[]⟩) (λ_=>True):=by
 refine gB 267 λB w0=>?_;refine go ?_;refine pO ?_;exact fH
def ama{b f:Nat}{pre:ae ah}(hl:xs.length<=1000000)(hf:f=0\/f=1):bA prog (.func 267) [.slice (some ⟨b,pre.length,some f⟩) xs.length xs.length] [] [pt b (.cells (pre++xs.map iV))] [] (λ_:Unit=>.tuple ⟨[]⟩) (λ_=>[pt b (.cells (pre++xs.reverse.map iV))]) (λ_=>[]) (λ_=>True):=by
 refine gB 267 λB w0=>?_;refine go ?_;refine dS (λy:Nat×ae Int=>xs.length - y.1) (λy=>[(3,iV ((xs.length:Int) - 1 - (y.1:Int))),(2,iV (y.1:Int))]) (λy=>[pt b (.cells (pre++y.2.map iV))]) (λ_=>[]) (λy=>zn xs y.2 y.1/\2*y.1<=xs.length+1) (0,xs) ⟨zn.zero xs,by show 2*0<=_;omega⟩ (hl:=by dsimp only[Int.natCast_zero];rw[Int.sub_zero];repeat (first|exact trivial|refine⟨rfl,?_⟩)) (hk:=qn) (body:=?_);rintro⟨k,zs⟩ ⟨hR,hle⟩;dsimp only at hR hle⊢;have hzl:=hR.1;refine aP ?_ ?_<;>intro h1
 .have hk1:k<xs.length - 1 - k:=by omega
  have hj:((xs.length:Int) - 1 - (k:Int))=((xs.length - 1 - k:Nat):Int):=p0
  rw[hj];generalize hjj:xs.length - 1 - k=j at hk1 hj⊢;have hx:zs[k]? =some zs[k]:=bH p0;have hy:zs[j]? =some zs[j]:=bH p0;generalize zs[k]=x at hx;generalize zs[j]=z at hy;have hst:=hR.step p0 hx (by rw[hjj];exact hy);rw[hjj]at hst;refine go ?_;refine oN (b:=b) (o:=pre.length+j*1) (cs:=pre++zs.map iV) (iV z) (K8 hy) ?_;refine go ?_;refine oN (b:=b) (o:=pre.length+k*1) (cs:=pre++zs.map iV) (iV x) (K8 hx) ?_;refine go ?_;refine jG (b:=b) (o:=pre.length+k*1) (cs:=pre++zs.map iV) (v:=iV z) (cs':=pre++(zs.set k z).map iV) EB (by rw[dL,aS];omega) ?_;refine go ?_;refine jG (b:=b) (o:=pre.length+j*1) (cs:=pre++(zs.set k z).map iV) (v:=iV x) (cs':=pre++((zs.set k z).set j x).map iV) EB (by rw[dL,aS,jD];omega) ?_;refine go ?_;refine aY (k+1,(zs.set k z).set j x) An ⟨hst,by show 2*(k+1)<=_;omega⟩ (hl:=by dsimp only;rw[show(xs.length:Int) - 1 - ((k+1:Nat):Int)=(j:Int) - 1 by omega];repeat (first|exact trivial|refine⟨rfl,?_⟩))
 have hz:=hR.done p0 hle;subst hz;exact fH
def amb(hl:xs.length<=1000000):bA prog (.func 267) [.slice a xs.length xs.length] [] [ap ai (.slice a xs.length xs.length) xs] [] (λ_:Unit=>.tuple ⟨[]⟩) (λ_=>[ap ai (.slice a xs.length xs.length) xs.reverse]) (λ_=>[]) (λ_=>True):=by
 by_cases hne:0<xs.length
 .exact bA.aiw (args:=λa=>[.slice a xs.length xs.length]) (zs:=λ_=>xs.reverse) hne (λ_=>List.length_reverse) λb f pre hf=>ama hl hf
 .obtain rfl:xs=[]:=mo.1 p0;intro B w s;obtain⟨S1,s1,back⟩:=s.KC (k1:=[]) (bi:=[ap ai (.slice a 0 0) []]) (F1:=[]) .nil .nil;refine .ji _ (al9 (a:=a) (c:=0) S1 w s1) ?_;exact kx
def oZ(p:ae Int->Bool)(L:ae (ae Int)):Int:=match L.findIdx? p with
 |some i=>(i:Int)
 |none=> -1
variable{p:ae Int->Bool}{L:ae (ae Int)}
def Zc{x:ae Int}(h:(L.take k).any p=false)(hx:L[k]? =some x)(hp:p x=true):oZ p L=(k:Int):=by
 have hk:=(aT.1 hx).1;have:L.findIdx? p=some k:=by
  rw[acm];refine⟨hk,by rw[(aT.1 hx).2];exact hp,λj hj fF=>?_⟩;have h1:=IY.1 h L[j] (aV (i:=j) (by rw[qy,if_pos hj];exact bH p0));exact h1 fF
 unfold oZ;rw[this]
def Rq(h:L.any p=false):oZ p L= -1:=by
 have:L.findIdx? p=none:=by
  rw[SS];intro x hx;have:=IY.1 h x hx;simpa using this
 unfold oZ;rw[this]
def Zd(L:ae (ae Int))(w:ae Int):oZ (λx=>decide (bP x=bP w)) L=uV L w:=rfl
def Ze{fn:Fn}{first cap:ae ah}{F1:ae aH}{va:ah}{xs:ae (ae Int)}(hl:xs.length<2^63)(hp:∀x∈xs,zm prog fn first cap F1 p x):
 fC prog 72 [va,.func fn ⟨first⟩ ⟨cap⟩] (aA (az ai) va xs::F1) (λ_:Unit=>iV (oZ p xs)) (λ_=>True):=by
 refine nZ L9 Ra λB w0=>?_;refine gF (az ai) va xs λaa ca ea=>?_;subst ea;refine gN xs.length 8 (λk=>k<=xs.length/\(xs.take k).any p=false) ⟨p0,qe⟩ ?_;rintro k ⟨hk,hno⟩;refine aP ?_ ?_<;>intro h1
 .refine gX (az ai) (xs:=xs) λ_ _ x (u:ah) hx=>?_;refine gC (hp x (aV hx) u) λ_ _=>?_;refine go ?_;refine Aw rfl (λh2=>?_) (λh2=>?_)
  .refine bT ?_;rw[Zc hno hx h2];rfl
  .exact ii
 have hke:k=xs.length:=p0
 subst hke;rw[eH]at hno;refine bT ?_;rw[Rq hno];rfl
end Go.Proofs.YtignbinlipkmfaaGreatDoor
namespace Go.Proofs.YtignbinlipkmfaaGreatDoor
open Tryz (prog)
open Go.Ideal Kd
def sI(xs:ae Int):ae ah:=(List.range 256).map λj:Nat=>.bool (decide ((j:Int)∈xs))
def Zf(xs:ae Int):(sI xs).length=256:=by unfold sI;rw[aS,nP]
variable{j:Nat}{xs:ae Int}
def amc(hj:j<256):(sI xs)[0+j*1]? =some (.bool (decide ((j:Int)∈xs))):=by
 rw[eB,nQ];unfold sI;rw[bU,qw hj];rfl
def amd(hj:j<256):(sI xs).set (0+j*1) (.bool true)=sI (xs++[(j:Int)]):=by
 rw[eB,nQ];apply iK;intro i;rw[ow,Zf];unfold sI;by_cases hi:i<256
 .rw[bU,qw hi,bU,qw hi];by_cases e:j=i
  .subst e;simp[hj]
  .have e2:¬(i:Int)=(j:Int):=by omega
   simp[e,e2]
 .rw[dY tM,dY tM];by_cases e:j=i
  .rw[if_pos e,if_neg p0]
  .rw[if_neg e]
def ame:sI []=List.replicate 256 (.bool false):=by
 unfold sI;apply iK;intro i;rw[bU,Na];by_cases hi:i<256
 .rw[qw hi,if_pos hi];simp
 .rw[dY (by rw[nP];omega),if_neg hi];rfl
def amf{B:ae Nat}{w0:Wd}{kl:ae OA}{F:ae aH}{Q:IH->Prop}{A A':OA}(e:A=A')(h:R Q B w0 (A'::kl) F):R Q B w0 (A::kl) F:=by rw[e];exact h
variable{n:Nat}{v:ah}
def Zg(hn:n<=256)(hl:xs.length<2^63):fC prog 57 [v,iV (n:Int)] [aA ai v xs] (λb:Bool=>.bool b) (λb=>b=true↔bC n xs):=by
 refine gB 57 λB w0=>?_;refine gF ai v xs λav cv ev=>?_;subst ev;refine go ?_;intro b5;refine amf (A':=pt b5 (.cells (sI []))) (by rw[ame]<;>rfl) ?_;refine go ?_;refine dS (λk=>xs.length - k) (λk:Nat=>[(10,iV (k:Int))]) (λk=>[pt b5 (.cells (sI (xs.take k)))]) (λ_=>[]) (λk=>k<=xs.length/\(∀x∈xs.take k,0<=x/\x<(n:Int))/\(xs.take k).Nodup) 0 ⟨bS _,qe,qe⟩ (hk:=qn) (body:=?_);rintro k ⟨hk,hin,hnd⟩;refine aP ?_ ?_<;>intro h1
 .refine go ?_;intro _ _ x hx;have hxm:=aV hx;have htk:=gz hx;have hno:¬(0<=x/\x<(n:Int))->∀b:Bool,b=false->(b=true↔bC n xs):=λh b hb=>⟨(λe=>by rw[hb]at e;cases e),λq=>absurd (q.dN x hxm) h⟩
  refine gH ?_ ?_<;>intro h2
  rotate_left
  .exact pA
  refine gH ?_ ?_<;>intro h3
  rotate_left
  .exact pA
  obtain⟨m,rfl⟩:=iQ (by omega:0<=x);refine go ?_;refine oN (b:=b5) (o:=0+m*1) (cs:=sI (xs.take k)) (.bool (decide ((m:Int)∈xs.take k))) (amc p0) ?_;refine aP ?_ ?_<;>intro h4
  .refine go ?_;refine gQ false ⟨(λh=>by cases h),λq=>?_⟩;have h5:=q.nd.sublist (List.take_sublist (k+1) xs);rw[htk,iT]at h5;exact absurd rfl (h5.2.2 _ h4 _ (bF.2 rfl))
  refine go ?_;refine jG (b:=b5) (o:=0+m*1) (cs:=sI (xs.take k)) (v:=.bool true) (cs':=sI (xs.take (k+1))) (by rw[amd p0,htk]) (by rw[Zf];omega) ?_;refine go ?_;refine aY (k+1) p0 ⟨p0,?_,?_⟩
  .rw[htk];intro y hy;rcases fO.1 hy with hy|hy
   .exact hin y hy
   .rw[bF.1 hy];omega
  .rw[htk,iT];exact⟨hnd,qe,λa ha b hb=>by rw[bF.1 hb];exact λe=>h4 (e▸ha)⟩
 have hke:k=xs.length:=p0
 subst hke;rw[eH]at hin hnd;refine go ?_;refine gQ (decide ((xs.length:Int)=(n:Int))) ?_;rw[nE];exact⟨λe=>⟨p0,hin,hnd⟩,λq=>by have:=q.len;omega⟩
def Rs(hn:n<=256)(hl:xs.length<2^63):fC prog 45 [v,iV (n:Int)] [aA ai v xs] (λe:Int=>iV e) (λe=>e=0↔bC n xs):=by
 refine gB 45 λB w0=>?_;refine aP ?_ ?_<;>intro h1
 .exfalso;omega
 refine gC (Zg (xs:=xs) (n:=n) hn hl) λb hb=>?_;refine go ?_;cases b with
 |false=>
  refine go ?_;exact gQ 110 ⟨(λh=>by cases h),λh=>by have:=hb.2 h;cases this⟩
 |true=>
  refine go ?_;exact gQ 0 ⟨λ_=>hb.1 rfl,λ_=>rfl⟩
def gW(d:ae Int)(n:Nat):ae Int:=d++List.replicate (n - d.length) 0
variable{d:ae Int}
def zo(h:d.length<=n):(gW d n).length=n:=by unfold gW;rw[dL,zS];omega
def CW{k:Nat}{x:Int}(hk:k=d.length)(h:k<n):(gW d n).set k x=gW (d++[x]) n:=by
 subst hk;unfold gW;rw[zQ _ _ (bz _),mM,show n - d.length=(n - (d.length+1))+1 by omega,wV,List.set_cons_zero,dL,qA,fq];rfl
def CY(h:d.length=n):gW d n=d:=by unfold gW;rw[h,mM];simp
def Zh(n:Nat):gW [] n=List.replicate n 0:=by unfold gW;simp
def EX(n:Nat):zeros [iV 0] n=(gW [] n).map iV:=by
 rw[Zh];exact ov
def amg{va vb:ah}{a b:ae Int}(ha:a.length=n)(hb:kP n b)(hl:b.length<=1000000):bA prog (.func 58) [va,vb] [] [] [aA ai va a,aA ai vb b] (λbm:Nat=>.slice (some ⟨bm,0,some 0⟩) b.length b.length) (λbm=>[pt bm (.cells ((cz a b).map iV))]) (λ_=>[]) (λ_=>True):=by
 refine gB 58 λB w0=>?_;refine gF ai va a λaa ca ea=>?_;subst ea;refine gF ai vb b λab cb eb=>?_;subst eb;refine go ?_;refine ww b.length ⟨p0,p0,p0⟩ λbm=>?_;rw[EX];refine go ?_;refine dS (λk=>b.length - k) (λk:Nat=>[(13,iV (k:Int))]) (λk=>[pt bm (.cells ((gW (cz a (b.take k)) b.length).map iV))]) (λ_=>[]) (λk=>k<=b.length) 0 (bS _) (hk:=qn) (body:=?_);intro k hk;have hcl:(cz a (b.take k)).length=k:=by unfold cz;rw[aS,gq];omega
 refine aP ?_ ?_<;>intro h1
 .refine go ?_;intro _ _ x hx;have nO:=hb x (aV hx);obtain⟨m,rfl⟩:=iQ nO.1;refine go ?_;intro _ _ z hz;have hzg:=jB hz;have htk:cz a (b.take (k+1))=cz a (b.take k)++[z]:=by
   unfold cz;rw[gz hx,dQ,yo,hzg]
  refine go ?_;refine jG (b:=bm) (o:=0+k*1) (cs:=(gW (cz a (b.take k)) b.length).map iV) (v:=iV z) (cs':=(gW (cz a (b.take (k+1))) b.length).map iV) BT A0 ?_;refine go ?_;exact aY (k+1) p0 p0
 have hke:k=b.length:=p0
 subst hke;rw[eH]at hcl⊢;rw[CY hcl];refine go ?_;exact gQ bm trivial
end Go.Proofs.YtignbinlipkmfaaGreatDoor
namespace Go.Proofs.YtignbinlipkmfaaGreatDoor
open Tryz (prog)
open Go.Ideal Kd Canon Gph
def kY(k:aZ)(s t:ae Int)(r:dz):Bool:=
 if r.kind=1\/r.kind=2 then jM (k.lists.getD r.family.toNat []) s r.family kQ
 else if r.kind=3 then jM (k.lists.getD r.family.toNat []) s r.family kQ&&nN (ng k) t
 else if r.kind=4 then jM (k.lists.getD r.family.toNat []) s r.family xM&&nN (ng k) t
 else if r.kind=5 then jM (k.lists.getD r.family.toNat []) s r.family uW
 else if r.kind=7 then mH k.aN s&&nN (ng k) t
 else if r.kind=6\/r.kind=8\/r.kind=9\/r.kind=10 then mH k.aN s
 else true
def keepR(k:aZ)(s t:ae Int)(r:dz):Bool:=qh r.set.toNat r.other.toNat t&&kY k s t r
structure gY(k:aZ)(s t:List Int):Prop where
 pc:bC k.grid.cells.length s
 ps:bC k.decl.symbols.length t
 qP:∀r∈k.decl.rules,keepR k s t r=true
variable{k:aZ}
def bW.Mf(h:bW k){f:Nat}{L:ae (ae Int)}(hL:k.lists[f]? =some L):pU k.grid.cells.length L (f:Int):=by
 rw[h.lists]at hL;rw[h.grid];exact ajM h.bK (λr hr=>⟨(h.typ.CR r hr).1.2,(h.typ.CR r hr).2⟩) hL
def bW.Mg(h:bW k):uX k.grid.cells.length k.aN:=by
 rw[h.aN,h.grid];exact⟨A8 _,λl hl=>(Ls l hl).2⟩
def bW.kinds(h:bW k){r:dz}(hr:r∈k.decl.rules):1<=r.kind/\r.kind<=11:=by
 refine al8 ?_;have:=h.typ.read;unfold mZ at this;rw[List.filterMap_eq_nil_iff]at this;obtain⟨j,hj⟩:=ik hr;have:=this (r,j) (zU.2 hj);cases h:(iX r.kind).read with
 |true=>rfl
 |false=>simp[h]at this
def Zi(c:iR)(r:dz):Prop:=((r.kind=2\/r.kind=3)/\c.type=2/\c.family=r.family)\/(r.kind=5/\c.type=3/\c.family=r.family)\/(r.kind=11/\c.type=1/\c.family=0)
def bW.amh(h:bW k){r:dz}(hr:r∈k.decl.rules):(r.bD= -1/\r.kind≠5/\r.kind≠11)\/∃c,0<=r.bD/\k.decl.bY[r.bD.toNat]? =some c/\Zi c r:=by
 have hkd:=h.kinds hr;have hx:=(h.typ.form.pV r hr).clu _ rfl;have hcp:=λc (hc:k.decl.bY[r.bD.toNat]? =some c)=>(h.typ.form.mR _ c hc).2;have Rt:r.kind=1\/r.kind=2\/r.kind=3\/r.kind=4\/r.kind=5\/r.kind=6\/r.kind=7\/r.kind=8\/r.kind=9\/r.kind=10\/r.kind=11:=p0
 have key:∀need:Int,need=(if(iX r.kind).op=true/\r.ig≠EU then 2 else(iX r.kind).bD)->(need=0->r.kind≠5/\r.kind≠11)/\(need=2->r.kind=2\/r.kind=3)/\(need=3->r.kind=5)/\(need=1->r.kind=11)/\(need=0\/need=1\/need=2\/need=3):=by
  intro need hn;rcases Rt with e|e|e|e|e|e|e|e|e|e|e;all_goals (rw[e]at hn⊢;simp[iX]at hn;(try split at hn)<;>(refine⟨λh=>?_,λh=>?_,λh=>?_,λh=>?_,?_⟩<;>omega))
 obtain⟨k0,k2,k3,k1,kk⟩:=key _ rfl;generalize(if(iX r.kind).op=true/\r.ig≠EU then 2 else(iX r.kind).bD:Int)=need at hx k0 k1 k2 k3 kk;rcases hx with⟨a,_,b⟩|⟨a,b,_,c,c1,c2,c3⟩
 .exact .inl ⟨b,k0 a⟩
 .refine .inr ⟨c,b,c1,?_⟩;rcases kk with e|e|e|e
  .exact absurd e a
  .have:=hcp c c1;unfold zl at this;exact .inr (.inr ⟨k1 e,p0,p0⟩)
  .exact .inl ⟨k2 e,p0,p0⟩
  .exact .inr (.inl ⟨k3 e,p0,p0⟩)
def bW.ami(h:bW k){i:Nat}{c:iR}(hc:k.decl.bY[i]? =some c):∃r∈k.decl.rules,r.bD=(i:Int)/\Zi c r:=by
 have h1:=(h.typ.form.mR i c hc).1;have hm:(i:Int)∈k.decl.rules.map (·.bD):=List.count_pos_iff.1 p0;obtain⟨r,hr,e⟩:=cZ.1 hm;rcases h.amh hr with⟨a,_⟩|⟨c',b1,b2,b3⟩
 .omega
 .rw[e,ic,hc]at b2;cases b2;exact⟨r,hr,e,b3⟩
def wL(c:iR):ae Int->ae Int->Bool:=if c.type=3 then uW else kQ
variable{s t:ae Int}
def gY.rule(h:gY k s t){r:dz}(hr:r∈k.decl.rules):qh r.set.toNat r.other.toNat t=true/\
 ((r.kind=1\/r.kind=2\/r.kind=3)->jM (k.lists.getD r.family.toNat []) s r.family kQ=true)/\((r.kind=3\/r.kind=4\/r.kind=7)->nN (ng k) t=true)/\
 (r.kind=4->jM (k.lists.getD r.family.toNat []) s r.family xM=true)/\(r.kind=5->jM (k.lists.getD r.family.toNat []) s r.family uW=true)/\((6<=r.kind/\r.kind<=10)->mH k.aN s=true):=by
 have h1:=h.qP r hr;unfold keepR kY at h1;rw[dG]at h1;refine⟨h1.1,?_⟩;have h2:=h1.2;refine⟨λe=>?_,λe=>?_,λe=>?_,λe=>?_,λe=>?_⟩
 .rcases e with e|e|e
  .rw[if_pos (.inl e)]at h2;exact h2
  .rw[if_pos (.inr e)]at h2;exact h2
  .rw[if_neg p0,if_pos e,dG]at h2;exact h2.1
 .rcases e with e|e|e
  .rw[if_neg p0,if_pos e,dG]at h2;exact h2.2
  .rw[if_neg p0,if_neg p0,if_pos e,dG]at h2;exact h2.2
  .rw[if_neg p0,if_neg p0,if_neg p0,if_neg p0,if_pos e,dG]at h2;exact h2.2
 .rw[if_neg p0,if_neg p0,if_pos e,dG]at h2;exact h2.1
 .rw[if_neg p0,if_neg p0,if_neg p0,if_pos e]at h2;exact h2
 .rw[if_neg p0,if_neg p0,if_neg p0,if_neg p0]at h2;by_cases e7:r.kind=7
  .rw[if_pos e7,dG]at h2;exact h2.1
  .rw[if_neg e7,if_pos p0]at h2;exact h2
def amj(hK:bW k)(hk:gY k s t){i:Nat}{c:iR}(hc:k.decl.bY[i]? =some c):∃L,k.lists[c.family.toNat]? =some L/\pU k.grid.cells.length L c.family/\∀j,j<L.length->∃i,Goes L s c.family (wL c) j i:=by
 have hf:=hK.jl c (aV hc);have hL:k.lists[c.family.toNat]? =some (k.lists[c.family.toNat]'(p0)):=bH _;have lN:=hK.Mf hL;rw[yu hf.1]at lN;refine⟨_,hL,lN,?_⟩;obtain⟨r,hr,e,hcr⟩:=hK.ami hc;obtain⟨_,k1,_,_,k5,_⟩:=hk.rule hr;unfold wL;rcases hcr with⟨a,b,d⟩|⟨a,b,d⟩|⟨a,b,d⟩
 .rw[if_neg p0];have:=k1 p0;rw[<- d,gT hL]at this;exact(Bc lN hk.pc).1 this
 .rw[if_pos b];have:=k5 a;rw[<- d,gT hL]at this;exact(Bc lN hk.pc).1 this
 .rw[if_neg p0];intro j hj;have hl0:k.lists[c.family.toNat]? =some (nM k.grid.cells.length):=by
   rw[d,hK.lists,hK.grid];rfl
  rw[hL]at hl0;have hl0:=Option.some.inj hl0;have hn:(nM k.grid.cells.length).length=k.grid.cells.length:=Qa _;rw[hl0]at hj⊢;have hr2:=hk.pc.at_ (c:=(j:Int)) p0 p0;have hget:∀m,m<k.grid.cells.length->(nM k.grid.cells.length)[m]? =some [(m:Int)]:=λm hm=>by
   unfold nM;rw[bU,qw hm];rfl
  refine⟨(aO s (j:Int)).toNat,_,_,hget j p0,hget _ p0,?_,?_,λ_=>yu hr2.1⟩
  .rw[yu hr2.1];exact List.Perm.refl _
  .rw[yu hr2.1];exact CL.2 (List.Perm.refl _)
def pW(s l l':ae Int):Bool:=!decide (img s l=l')&&decide ((img s l).reverse=l')
def zq(c:iR)(s t l l' v:ae Int):ae Int:=if c.type=1 then img t v else if c.type=3/\pW s l l'=true then v.reverse else v
def mJ(k:aZ)(s t:ae Int)(g:Clue):Clue:=
 match k.decl.bY[g.bD.toNat]? with
 |none=>g
 |some c=>⟨g.bD,je (k.lists.getD c.family.toNat []) s c.family g.at_,zq c s t ((k.lists.getD c.family.toNat []).getD g.at_.toNat []) ((k.lists.getD c.family.toNat []).getD (je (k.lists.getD c.family.toNat []) s c.family g.at_).toNat []) g.values⟩
structure Ru(k:aZ)(s t:List Int)(g:Clue)(c:iR)(L:List (List Int))(j i:Nat)(l l':List Int):Prop where
 bD:0<=g.bD
 hc:k.decl.bY[g.bD.toNat]? =some c
 hL:k.lists[c.family.toNat]? =some L
 jl:pU k.grid.cells.length L c.family
 at_:g.at_=(j:Int)
 hl:L[j]? =some l
 hl':L[i]? =some l'
 goes:Goes L s c.family (wL c) j i
 perm:l'.Perm (img s l)
 eq:wL c l' (img s l)=true
 img:mJ k s t g=⟨g.bD,(i:Int),zq c s t l l' g.values⟩
 cells:nR k g=l
 cells':nR k (mJ k s t g)=l'
def CZ(hK:bW k)(hk:gY k s t){g:Clue}(hg:uT k g):∃c L j i l l',Ru k s t g c L j i l l':=by
 obtain⟨c,L,l,h1,h2,h3,h4,h5,h6,h7⟩:=hg.cells;obtain⟨L',hL',lN,hgo⟩:=amj hK hk h1;rw[h2]at hL';cases hL';obtain⟨j,hj⟩:=iQ h5;rw[hj,ic]at h3;obtain⟨i,hgi⟩:=hgo j p0;have hw:=hgi.je lN;have amk:=hgi;obtain⟨l0,l',a1,a2,a3,a4,a5⟩:=hgi;rw[h3]at a1;cases a1;have him:mJ k s t g=⟨g.bD,(i:Int),zq c s t l l' g.values⟩:=by
  unfold mJ;rw[h1];dsimp only;rw[gT h2,hj,hw,ic,ic,gT h3,gT a2]
 refine⟨c,L,j,i,l,l',h4,h1,h2,lN,hj,h3,a2,amk,a3,a4,him,h7,?_⟩;rw[him];unfold nR Qh;dsimp only;rw[h1];dsimp only;rw[gT h2,ic,gT a2]
def Zj(hK:bW k)(hk:gY k s t){g:Clue}(hg:uT k g):uT k (mJ k s t g):=by
 obtain⟨c,L,j,i,l,l',G⟩:=CZ hK hk hg;obtain⟨c',L',h1,h2,h3,h4,h5,h6⟩:=hg;rw[G.hc]at h2;cases h2;rw[G.img];have hi:=(aT.1 G.hl').1;refine⟨c,L,h1,G.hc,G.hL,by show(0:Int)<=(i:Int);omega,by show(i:Int)<_;omega,?_⟩;unfold zq;dsimp only;rcases h6 with⟨a,b,d⟩|⟨a,b,d⟩|⟨a,a2,b,d⟩
 .refine .inl ⟨a,?_⟩;rw[if_pos a,Qu];refine⟨b,λx hx=>?_⟩;obtain⟨v,hv,rfl⟩:=cZ.1 hx;have:=d v hv;have:=hk.ps.at_ (c:=v) p0 p0;omega
 .refine .inr (.inl ⟨a,?_⟩);rw[if_neg p0,if_neg p0];exact⟨b,d⟩
 .refine .inr (.inr ⟨a,a2,?_⟩);rw[if_neg a];split
  .rw[SV];exact⟨b,λx hx=>d x (List.mem_reverse.1 hx)⟩
  .exact⟨b,d⟩
def aml(hK:bW k)(hk:gY k s t){a b:Clue}(ha:uT k a)(hb:uT k b)(e:gV (mJ k s t a) (mJ k s t b)=0):gV a b=0:=by
 obtain⟨c,L,j,i,l,l',G⟩:=CZ hK hk ha;obtain⟨c2,L2,j2,i2,l2,l2',G2⟩:=CZ hK hk hb;rw[Ba,G.img,G2.img]at e;obtain⟨e1,e2⟩:=e;dsimp only at e1 e2;have h1:=G.hc;rw[e1,G2.hc]at h1;cases h1;have h2:=G.hL;rw[G2.hL]at h2;cases h2;have hii:i=i2:=p0
 subst hii;have:=G.goes.inj G.jl hk.pc G2.goes;rw[Ba,G.at_,G2.at_];exact⟨e1,p0⟩
variable{x p:ae Clue}
def amm(hK:bW k)(hk:gY k s t)(hQ:uU k p)(hx:lM (p.map (mJ k s t)) x):∀g,g∈x↔g∈p.map (mJ k s t):=by
 intro g;refine⟨hx.sub g,λhg=>?_⟩;obtain⟨a,ha,rfl⟩:=cZ.1 hg;obtain⟨r,hr,hp,_⟩:=hx.all _ hg;obtain⟨b,hb,rfl⟩:=cZ.1 (hx.sub r hr);have h0:=Ba.1 (aml hK hk (hQ.right a ha) (hQ.right b hb) hp);have:=ajf hQ ha hb h0.1 h0.2;subst this;exact hr
def amn(h:x.Pairwise λa b=>gV a b<0):∀(i:Nat) a b,x[i]? =some a->x[i+1]? =some b->gV a b<0:=by
 intro i a b ha hb;obtain⟨h1,h2⟩:=aT.1 ha;obtain⟨h3,h4⟩:=aT.1 hb;rw[<- h2,<- h4];exact zR.1 h i (i+1) h1 h3 p0
def amo(hK:bW k)(hk:gY k s t)(hQ:uU k p)(hx:lM (p.map (mJ k s t)) x):uU k x:=by
 refine⟨?_,λg hg=>?_,amn hx.inc⟩
 .have:=ajl hx;rw[aS]at this;have:=hQ.len;omega
 .obtain⟨a,ha,rfl⟩:=cZ.1 (hx.sub g hg);exact Zj hK hk (hQ.right a ha)
end Go.Proofs.YtignbinlipkmfaaGreatDoor
namespace Go.Proofs.YtignbinlipkmfaaGreatDoor
open Tryz (prog)
open Go.Ideal Kd Canon Gph
structure lQ(n m:Nat)(s t grid y:List Int):Prop where
 ps:bC n s
 pt:bC m t
 len:grid.length=n
 Ik:y.length=n
 wI:∀x∈grid,0<=x/\x<(m:Int)
 at_:∀c,0<=c->c<(n:Int)->aO y (aO s c)=aO t (aO grid c)
section
variable {n m:Nat} {s t grid y:ae Int}
def lQ.dN(h:lQ n m s t grid y){c:Int}(c0:0<=c)(c1:c<(n:Int)):0<=aO grid c/\aO grid c<(m:Int):=h.wI _ (Qr c0 (by rw[h.len];exact c1))
def lQ.mem(h:lQ n m s t grid y){d:Int}(hd:d∈y):0<=d/\d<(m:Int):=by
 obtain⟨i,hi⟩:=ik hd;have hl:=(aT.1 hi).1;obtain⟨c,c0,c1,hc⟩:=h.ps.onto (y:=(i:Int)) p0 (by have:=h.Ik;omega);have h1:=h.at_ c c0 c1;rw[hc,jB hi]at h1;rw[h1];have:=h.dN c0 c1;exact h.pt.at_ this.1 this.2
def Rv(grid:ae Int)(c:Int):sy grid c=(aO grid c).toNat:=rfl
def lQ.sy(h:lQ n m s t grid y){c:Int}(c0:0<=c)(c1:c<(n:Int)):sy y (aO s c)=(aO t (aO grid c)).toNat:=by rw[Rv,h.at_ c c0 c1]
def amq{α:Type}{f g:Int->α}:∀{l:ae Int},kP n l->(∀c,0<=c->c<(n:Int)->f (aO s c)=g c)->(img s l).map f=l.map g:=by
 intro l hl h;unfold img;rw[qB];exact vF λc hc=>h c (hl c hc).1 (hl c hc).2
def o8(m:Nat)(t:ae Int)(set:Nat):Prop:=∀v:Int,0<=v->v<(m:Int)->set.testBit (aO t v).toNat=set.testBit v.toNat
def Mh{set other:Nat}(ht:bC m t)(h:qh set other t=true):o8 m t set/\o8 m t other:=by
 unfold qh at h;rw[su]at h;constructor;all_goals (
  intro v v0 v1;have h1:=h v.toNat _ (qg v0 (by rw[ht.len];exact v1));dsimp only at h1;rw[dG,nE,nE]at h1)
 .exact h1.1.symm
 .exact h1.2.symm
def vz(m:Nat)(t vals:ae Int):Prop:=∀v:Int,0<=v->v<(m:Int)->aO vals (aO t v)=aO vals v
def Mi{vals:ae Int}(ht:bC m t)(h:nN vals t=true):vz m t vals:=by
 unfold nN at h;rw[su]at h;intro v v0 v1;have h1:=jT (h v.toNat _ (qg v0 (by rw[ht.len];exact v1)));dsimp only at h1;rw[yu v0]at h1;exact h1.symm
def lQ.bit(h:lQ n m s t grid y){set:Nat}(hS:o8 m t set){c:Int}(c0:0<=c)(c1:c<(n:Int)):set.testBit (Go.Proofs.YtignbinlipkmfaaGreatDoor.sy y (aO s c))=set.testBit (Go.Proofs.YtignbinlipkmfaaGreatDoor.sy grid c):=by
 have r:=h.dN c0 c1;rw[h.sy c0 c1,hS _ r.1 r.2,Rv]
def lQ.cnt(h:lQ n m s t grid y){set:Nat}(hS:o8 m t set){l l':ae Int}(hl:kP n l)(hp:l'.Perm (img s l)):Go.Proofs.YtignbinlipkmfaaGreatDoor.cnt y set l'=Go.Proofs.YtignbinlipkmfaaGreatDoor.cnt grid set l:=by
 unfold Go.Proofs.YtignbinlipkmfaaGreatDoor.cnt;rw[(hp.filter _).length_eq];exact Qz hl λc c0 c1=>h.bit hS c0 c1
def lQ.va(h:lQ n m s t grid y){vals:ae Int}(hV:vz m t vals){c:Int}(c0:0<=c)(c1:c<(n:Int)):va vals y (aO s c)=va vals grid c:=by
 have r:=h.dN c0 c1;have:=hV _ r.1 r.2;unfold Go.Proofs.YtignbinlipkmfaaGreatDoor.va;rw[h.sy c0 c1,Rv];exact this
def Mj(grid:ae Int)(set:Nat):∀(l:ae Int) (k:Nat),rn grid set k l=zf k (l.map λc=>set.testBit (sy grid c))
 |[],k=>rfl
 |c::l,k=>by
  rw[rn,fK];cases hb:set.testBit (sy grid c)with
  |true=>rw[if_pos rfl,ajD,Mj grid set l (k+1)]
  |false=>rw[if_neg qe,ajE,Mj grid set l 0]
def lQ.rn(h:lQ n m s t grid y){set:Nat}(hS:o8 m t set){l:ae Int}(hl:kP n l):rn y set 0 (img s l)=rn grid set 0 l:=by
 rw[Mj,Mj,amq (g:=λc=>set.testBit (Go.Proofs.YtignbinlipkmfaaGreatDoor.sy grid c)) hl (λc c0 c1=>h.bit hS c0 c1)]
end
structure xS(eq:List Int->List Int->Bool):Prop where
 symm:∀a b,eq a b=true->eq b a=true
 trans:∀a b c,eq a b=true->eq b c=true->eq a c=true
 img:∀s a b,eq a b=true->eq (img s a) (img s b)=true
def Il:xS kQ:=by
 refine⟨λa b h=>?_,λa b c h1 h2=>?_,λs a b h=>?_⟩
 .rw[CL]at h⊢;exact h.symm
 .rw[CL]at h1 h2⊢;exact h1.trans h2
 .rw[CL]at h⊢;exact LD s h
def Zk:xS xM:=by
 refine⟨λa b h=>?_,λa b c h1 h2=>?_,λs a b h=>?_⟩
 .unfold xM at h⊢;rw[nE]at h⊢;exact h.symm
 .unfold xM at h1 h2⊢;rw[nE]at h1 h2⊢;exact h1.trans h2
 .unfold xM at h⊢;rw[nE]at h⊢;rw[h]
def Rw:xS uW:=by
 refine⟨λa b h=>?_,λa b c h1 h2=>?_,λs a b h=>?_⟩
 .rw[EK]at h⊢;rcases h with rfl|rfl
  .exact .inl rfl
  .exact .inr (by rw[SX])
 .rw[EK]at h1 h2⊢;rcases h1 with rfl|rfl
  .exact h2
  .rcases h2 with rfl|rfl
   .exact .inr rfl
   .exact .inl (by rw[SX])
 .rw[EK]at h⊢;rcases h with rfl|rfl
  .exact .inl rfl
  .exact .inr (Qv s b)
def amr(c:iR):xS (wL c):=by
 unfold wL;split
 .exact Rw
 .exact Il
section
variable {n m:Nat} {s t s2 t2:ae Int} {L:ae (ae Int)} {f:Int} {eq:ae Int->ae Int->Bool}
def ams(hR:xS eq)(hK:pU n L f)(hs:bC n s){j i:Nat}(h:Goes L s f eq j i):Goes L (iP s) f eq i j:=by
 obtain⟨l,l',h1,h2,h3,h4,h5⟩:=h;have hl:=hK.dN l (aV h1);refine⟨l',l,h2,h1,?_,?_,λhb=>?_⟩
 .have:=LD (iP s) h3;rw[LB hs hl]at this;exact this.symm
 .have:=hR.img (iP s) _ _ h4;rw[LB hs hl]at this;exact hR.symm _ _ this
 .have hn:=hK.len hb;have:=(aT.1 h1).1;rw[h5 hb,hs.wF p0 p0]
def amt(hR:xS eq)(hK:pU n L f)(hs:bC n s)(h:jM L s f eq=true):jM L (iP s) f eq=true:=by
 have h:=(Bc hK hs).1 h;refine(Bc hK hs.inv).2 λi hi=>?_;obtain⟨j,hj⟩:=ajC hK hs h hi;exact⟨j,ams hR hK hs hj⟩
def Zl(hR:xS eq)(hK:pU n L f)(hs:bC n s)(hs2:bC n s2){j i i2:Nat}(h:Goes L s f eq j i)(h2:Goes L s2 f eq i i2):Goes L (cz s2 s) f eq j i2:=by
 obtain⟨l,l',a1,a2,a3,a4,a5⟩:=h;obtain⟨l0,l2,b1,b2,b3,b4,b5⟩:=h2;rw[a2]at b1;cases b1;have hl:=hK.dN l (aV a1);have hc:img (cz s2 s) l=img s2 (img s l):=LC (by rw[hs.len];exact hl);refine⟨l,l2,a1,b2,?_,?_,λhb=>?_⟩
 .rw[hc];exact b3.trans (LD s2 a3)
 .rw[hc];exact hR.trans _ _ _ b4 (hR.img s2 _ _ a4)
 .have hn:=hK.len hb;have:=(aT.1 a1).1;rw[b5 hb,a5 hb,ze p0 (by rw[hs.len];omega)]
def amu(hR:xS eq)(hK:pU n L f)(hs:bC n s)(hs2:bC n s2)(h:jM L s f eq=true)(h2:jM L s2 f eq=true):jM L (cz s2 s) f eq=true:=by
 have h:=(Bc hK hs).1 h;have h2:=(Bc hK hs2).1 h2;refine(Bc hK (hs2.comp hs)).2 λj hj=>?_;obtain⟨i,hi⟩:=h j hj;obtain⟨i2,hi2⟩:=h2 i hi.lt.2;exact⟨i2,Zl hR hK hs hs2 hi hi2⟩
variable{set:Nat}
def Rx{other:Nat}(ht:bC m t)(h1:o8 m t set)(h2:o8 m t other):qh set other t=true:=by
 unfold qh;rw[su];intro i x hx;have hl:=(aT.1 hx).1;have hlen:=ht.len;have e:=jB hx;have a:=h1 (i:Int) p0 p0;have b:=h2 (i:Int) p0 p0;rw[e,ic]at a b;dsimp only;rw[dG,nE,nE];exact⟨a.symm,b.symm⟩
variable{vals:ae Int}
def Ry(ht:bC m t)(h:vz m t vals):nN vals t=true:=by
 unfold nN;rw[su];intro i x hx;have hl:=(aT.1 hx).1;have hlen:=ht.len;have a:=h (i:Int) p0 p0;rw[jB hx]at a;exact fo a.symm
def o8.inv(ht:bC m t)(h:o8 m t set):o8 m (iP t) set:=by
 exact jz
def vz.inv(ht:bC m t)(h:vz m t vals):vz m (iP t) vals:=by
 exact jz
def o8.comp(ht:bC m t)(h:o8 m t set)(h2:o8 m t2 set):o8 m (cz t2 t) set:=by
 exact j8
def vz.comp(ht:bC m t)(h:vz m t vals)(h2:vz m t2 vals):vz m (cz t2 t) vals:=by
 exact j8
variable{aN:ae (ae Int)}
def amv(hN:uX n aN)(hs:bC n s)(h:mH aN s=true):mH aN (iP s)=true:=by
 have h:=(EL hN hs).1 h;refine(EL hN hs.inv).2 λa b hab=>?_;obtain⟨c,d,hcd,rfl,rfl⟩:=X6 hN hs h hab;have hr:=hcd.dN hN;rw[hs.wF hr.1.1 hr.1.2,hs.wF hr.2.1 hr.2.2];exact hcd
def amw(hN:uX n aN)(hs:bC n s)(hs2:bC n s2)(h:mH aN s=true)(h2:mH aN s2=true):mH aN (cz s2 s)=true:=by
 have h:=(EL hN hs).1 h;have h2:=(EL hN hs2).1 h2;refine(EL hN (hs2.comp hs)).2 λa b hab=>?_;have hr:=hab.dN hN;have hl:=hs.len;rw[ze hr.1.1 p0,ze hr.2.1 p0];exact h2 _ _ (h _ _ hab)
end
variable{s t:ae Int}{k:aZ}
def amx{s' t':ae Int}{r:dz}(hS:qh r.set.toNat r.other.toNat t=true->qh r.set.toNat r.other.toNat t'=true)
 (hL:∀eq,xS eq->jM (k.lists.getD r.family.toNat []) s r.family eq=true->jM (k.lists.getD r.family.toNat []) s' r.family eq=true)
 (hV:nN (ng k) t=true->nN (ng k) t'=true) (hN:mH k.aN s=true->mH k.aN s'=true) (h:keepR k s t r=true):keepR k s' t' r=true:=by
 unfold keepR kY at h⊢;rw[dG]at h⊢;refine⟨hS h.1,?_⟩;have h2:=h.2;split at h2
 .rename_i e;rw[if_pos e];exact hL _ Il h2
 rename_i e;rw[if_neg e];split at h2
 .rename_i e;rw[if_pos e];rw[dG]at h2⊢;exact⟨hL _ Il h2.1,hV h2.2⟩
 rename_i e;rw[if_neg e];split at h2
 .rename_i e;rw[if_pos e];rw[dG]at h2⊢;exact⟨hL _ Zk h2.1,hV h2.2⟩
 rename_i e;rw[if_neg e];split at h2
 .rename_i e;rw[if_pos e];exact hL _ Rw h2
 rename_i e;rw[if_neg e];split at h2
 .rename_i e;rw[if_pos e];rw[dG]at h2⊢;exact⟨hN h2.1,hV h2.2⟩
 rename_i e;rw[if_neg e];split at h2
 .rename_i e;rw[if_pos e];exact hN h2
 rename_i e;rw[if_neg e]
def bW.Rz(hK:bW k){r:dz}(hr:r∈k.decl.rules):pU k.grid.cells.length (k.lists.getD r.family.toNat []) r.family:=by
 have hin:=(hK.inr hr).jl;have hL:k.lists[r.family.toNat]? =some (k.lists[r.family.toNat]'(p0)):=bH _;have lN:=hK.Mf hL;rw[yu hin.1]at lN;rw[gT hL];exact lN
def gY.inv(hK:bW k)(h:gY k s t):gY k (iP s) (iP t):=by
 refine⟨h.pc.inv,h.ps.inv,λr hr=>?_⟩;refine amx (λa=>?_) (λeq hR a=>amt hR (hK.Rz hr) h.pc a) (λa=>Ry h.ps.inv (vz.inv h.ps (Mi h.ps a))) (λa=>amv hK.Mg h.pc a) (h.qP r hr);obtain⟨b,c⟩:=Mh h.ps a;exact Rx h.ps.inv (o8.inv h.ps b) (o8.inv h.ps c)
variable{s2 t2:ae Int}
def gY.comp(hK:bW k)(h:gY k s t)(h2:gY k s2 t2):gY k (cz s2 s) (cz t2 t):=by
 refine⟨h2.pc.comp h.pc,h2.ps.comp h.ps,λr hr=>?_⟩;have g2:=h2.qP r hr;have k2:=h2.rule hr;unfold keepR kY at g2⊢;have g1:=h.qP r hr;unfold keepR kY at g1;rw[dG]at g1 g2⊢;have lN:=hK.Rz hr;have L1:∀eq,xS eq->jM (k.lists.getD r.family.toNat []) s r.family eq=true->jM (k.lists.getD r.family.toNat []) s2 r.family eq=true->jM (k.lists.getD r.family.toNat []) (cz s2 s) r.family eq=true:=λeq hR a b=>amu hR lN h.pc h2.pc a b;have V1:nN (ng k) t=true->nN (ng k) t2=true->nN (ng k) (cz t2 t)=true:=λa b=>Ry (h2.ps.comp h.ps) (vz.comp h.ps (Mi h.ps a) (Mi h2.ps b));have N1:mH k.aN s=true->mH k.aN s2=true->mH k.aN (cz s2 s)=true:=λa b=>amw hK.Mg h.pc h2.pc a b;obtain⟨b,c⟩:=Mh h.ps g1.1;obtain⟨b2,c2⟩:=Mh h2.ps g2.1;refine⟨Rx (h2.ps.comp h.ps) (o8.comp h.ps b b2) (o8.comp h.ps c c2),?_⟩;have g1:=g1.2;have g2:=g2.2;split at g1
 .rename_i e;rw[if_pos e]at g2⊢;exact L1 _ Il g1 g2
 rename_i e;rw[if_neg e]at g2⊢;split at g1
 .rename_i e;rw[if_pos e]at g2⊢;rw[dG]at g1 g2⊢;exact⟨L1 _ Il g1.1 g2.1,V1 g1.2 g2.2⟩
 rename_i e;rw[if_neg e]at g2⊢;split at g1
 .rename_i e;rw[if_pos e]at g2⊢;rw[dG]at g1 g2⊢;exact⟨L1 _ Zk g1.1 g2.1,V1 g1.2 g2.2⟩
 rename_i e;rw[if_neg e]at g2⊢;split at g1
 .rename_i e;rw[if_pos e]at g2⊢;exact L1 _ Rw g1 g2
 rename_i e;rw[if_neg e]at g2⊢;split at g1
 .rename_i e;rw[if_pos e]at g2⊢;rw[dG]at g1 g2⊢;exact⟨N1 g1.1 g2.1,V1 g1.2 g2.2⟩
 rename_i e;rw[if_neg e]at g2⊢;split at g1
 .rename_i e;rw[if_pos e]at g2⊢;exact N1 g1 g2
 rename_i e;rw[if_neg e]
variable{l l':ae Int}{c:iR}
def Zm(h3:c.type=3)(he:wL c l' (img s l)=true)(h:pW s l l'=false):l'=img s l:=by
 unfold wL at he;rw[if_pos h3,EK]at he;rcases he with e|e
 .exact e
 .unfold pW at h;rw[e]at h;simp at h;rw[e];exact h.symm
def Zn(h:pW s l l'=true):img s l≠l'/\(img s l).reverse=l':=by
 unfold pW at h;simp at h;exact h
def amy(h1:img s l≠l')(h2:(img s l).reverse=l'):pW s l l'=true:=by
 unfold pW;simp[h1,h2]
def Zo:pW s l (img s l)=false:=by
 unfold pW;simp
def Ru.vals{g:Clue}{L:ae (ae Int)}{j i:Nat}(G:Ru k s t g c L j i l l')(hR:uT k g):c.type=1->∀x∈g.values,0<=x/\x<(k.decl.symbols.length:Int):=by
 intro h1 x hx;obtain⟨c',L',a1,a2,a3,a4,a5,a6⟩:=hR;rw[G.hc]at a2;cases a2;rcases a6 with⟨_,_,b⟩|⟨b,_⟩|⟨b,_⟩
 .have:=b x hx;omega
 .omega
 .omega
def Zp(hK:bW k)(hk:gY k s t)(hk2:gY k s2 t2){g:Clue}(hg:uT k g):mJ k s2 t2 (mJ k s t g)=mJ k (cz s2 s) (cz t2 t) g:=by
 obtain⟨c,L,j,i,l,l',G⟩:=CZ hK hk hg;have hg2:=Zj hK hk hg;obtain⟨c2,L2,i2,j2,m',m,G2⟩:=CZ hK hk2 hg2;obtain⟨c3,L3,j3,j4,m3,m4,G3⟩:=CZ hK (hk.comp hK hk2) hg;have h1:=G2.hc;rw[G.img]at h1;dsimp only at h1;rw[G.hc]at h1;cases h1;have h1:=G3.hc;rw[G.hc]at h1;cases h1;have h2:=G2.hL;rw[G.hL]at h2;cases h2;have h2:=G3.hL;rw[G.hL]at h2;cases h2;have h3:=G2.at_;rw[G.img]at h3;dsimp only at h3;have hii:i2=i:=p0
 subst hii;have h3:=G3.at_;rw[G.at_]at h3;have hjj:j3=j:=p0
 subst hjj;have hgc:=Zl (amr c) G.jl hk.pc hk2.pc G.goes G2.goes;have h4:=hgc.je G.jl;have h5:=G3.goes.je G.jl;have hjj:j4=j2:=p0
 subst hjj;have h6:=G2.hl;rw[G.hl']at h6;cases h6;have h6:=G3.hl;rw[G.hl]at h6;cases h6;have h7:=G3.hl';rw[G2.hl']at h7;cases h7;have hl:=G.jl.dN l (aV G.hl);have hl':=G.jl.dN l' (aV G.hl');have hcc:img (cz s2 s) l=img s2 (img s l):=LC (by rw[hk.pc.len];exact hl);rw[G2.img,G3.img,G.img];dsimp only;have hval:zq c s2 t2 l' m (zq c s t l l' g.values)=zq c (cz s2 s) (cz t2 t) l m g.values:=by
  unfold zq;by_cases t1:c.type=1
  .rw[if_pos t1,if_pos t1,if_pos t1,LC (by rw[hk.ps.len];exact G.vals hg t1)]
  .rw[if_neg t1,if_neg t1,if_neg t1];by_cases t3:c.type=3
   .cases hT:pW s l l' with
    |false=>
     have e:=Zm t3 G.eq hT;have:pW (cz s2 s) l m=pW s2 l' m:=by
      unfold pW;rw[hcc,<- e]
     rw[this,if_neg (by simp:¬(c.type=3/\false=true))]
    |true=>
     obtain⟨a,b⟩:=Zn hT;rw[if_pos (⟨t3,rfl⟩:c.type=3/\true=true)];have e2:img s2 l'=(img (cz s2 s) l).reverse:=by rw[<- b,Qv,hcc]
     have hsl:=kP.img hk.pc hl;have hne:img (cz s2 s) l≠(img (cz s2 s) l).reverse:=λq=>a (by
      rw[hcc,<- Qv]at q;rw[<- b];exact X4 hk2.pc hsl (λx hx=>hsl x (List.mem_reverse.1 hx)) q)
     cases EW:pW s2 l' m with
     |false=>
      have e:=Zm t3 G2.eq EW;have:pW (cz s2 s) l m=true:=by
       refine amy ?_ ?_
       .rw[e,e2];exact hne
       .rw[e,e2]
      rw[this,if_neg qe,if_pos ⟨t3,rfl⟩]
     |true=>
      obtain⟨a2,b2⟩:=Zn EW;have e3:m=img (cz s2 s) l:=by rw[<- b2,e2,SX]
      have:pW (cz s2 s) l m=false:=by rw[e3];exact Zo
      rw[this,if_pos ⟨t3,rfl⟩,if_neg qe,SX]
   .rw[if_neg (λq=>t3 q.1),if_neg (λq=>t3 q.1),if_neg (λq=>t3 q.1)]
 rw[hval]
def amz{n:Nat}{a b:ae Int}(ha:a.length=n)(hb:b.length=n)(h:∀c:Int,0<=c->c<(n:Int)->aO a c=aO b c):a=b:=by
 apply iK;intro i;by_cases hi:i<n
 .have h1:=qg (p:=a) (c:=(i:Int)) p0 p0;have h2:=qg (p:=b) (c:=(i:Int)) p0 p0;rw[ic]at h1 h2;rw[h1,h2,h _ p0 p0]
 .rw[dY p0,dY p0]
section
variable {n m:Nat} {s t s2 t2 grid y z:ae Int}
def lQ.uniq(h:lQ n m s t grid y)(h2:lQ n m s t grid z):y=z:=by
 refine amz h.Ik h2.Ik λd d0 d1=>?_;obtain⟨c,c0,c1,rfl⟩:=h.ps.onto d0 d1;rw[h.at_ c c0 c1,h2.at_ c c0 c1]
def lQ.back(h:lQ n m s t grid y):lQ n m (iP s) (iP t) y grid:=by
 refine⟨h.ps.inv,h.pt.inv,h.Ik,h.len,λx hx=>h.mem hx,λd d0 d1=>?_⟩;obtain⟨c,c0,c1,rfl⟩:=h.ps.onto d0 d1;have r:=h.dN c0 c1;rw[h.ps.wF c0 c1,h.at_ c c0 c1,h.pt.wF r.1 r.2]
def lQ.comp(h:lQ n m s t grid y)(h2:lQ n m s2 t2 y z):lQ n m (cz s2 s) (cz t2 t) grid z:=by
 refine⟨h2.ps.comp h.ps,h2.pt.comp h.pt,h.len,h2.Ik,h.wI,λc c0 c1=>?_⟩;have r:=h.ps.at_ c0 c1;have g:=h.dN c0 c1;rw[ze c0 (by rw[h.ps.len];exact c1),h2.at_ _ r.1 r.2,h.at_ c c0 c1,ze g.1 (by rw[h.pt.len];exact g.2)]
end
end Go.Proofs.YtignbinlipkmfaaGreatDoor
namespace Go.Proofs.YtignbinlipkmfaaGreatDoor
open Tryz (prog)
open Go.Ideal Kd Canon Gph
def ni(k:aZ)(a b:Int):Prop:=∀r∈k.decl.rules,r.set.toNat.testBit a.toNat=r.set.toNat.testBit b.toNat/\r.other.toNat.testBit a.toNat=r.other.toNat.testBit b.toNat/\((r.kind=3\/r.kind=4\/r.kind=7)->aO (ng k) a=aO (ng k) b)
def ni.refl(k:aZ)(a:Int):ni k a a:=λ_ _=>⟨rfl,rfl,λ_=>rfl⟩
variable{k:aZ}{a b:Int}
def ni.symm(h:ni k a b):ni k b a:=λr hr=>⟨(h r hr).1.symm,(h r hr).2.1.symm,λe=>((h r hr).2.2 e).symm⟩
def ni.trans{c:Int}(h:ni k a b)(h2:ni k b c):ni k a c:=λr hr=>⟨(h r hr).1.trans (h2 r hr).1,(h r hr).2.1.trans (h2 r hr).2.1,λe=>((h r hr).2.2 e).trans ((h2 r hr).2.2 e)⟩
variable{n:Nat}
def RA{l:ae Int}(h:kP n l):img (upTo' n) l=l:=by
 unfold img;conv=>rhs;rw[<- Fy l]
 exact vF λc hc=>tO (h c hc).1 (h c hc).2
def Mk{L:ae (ae Int)}{f:Int}{eq:ae Int->ae Int->Bool}(hr:∀l,eq l l=true)(hK:pU n L f):jM L (upTo' n) f eq=true:=by
 refine(Bc hK (bC.ident n)).2 λj hj=>⟨j,L[j],L[j],bH hj,bH hj,?_,?_,λhb=>?_⟩
 .rw[RA (hK.dN _ (wR hj))]
 .rw[RA (hK.dN _ (wR hj))];exact hr _
 .have:=hK.len hb;rw[tO p0 p0]
def amA{aN:ae (ae Int)}(hN:uX n aN):mH aN (upTo' n)=true:=by
 refine(EL hN (bC.ident n)).2 λa b hab=>?_;have hr:=hab.dN hN;rw[tO hr.1.1 hr.1.2,tO hr.2.1 hr.2.2];exact hab
def RB(l:ae Int):kQ l l=true:=CL.2 (List.Perm.refl _)
def amB(l:ae Int):xM l l=true:=fo rfl
def Zq(l:ae Int):uW l l=true:=EK.2 (.inl rfl)
def RD(hK:bW k){t:ae Int}:gY k (upTo' k.grid.cells.length) t↔bC k.decl.symbols.length t/\∀v:Int,0<=v->v<(k.decl.symbols.length:Int)->ni k v (aO t v):=by
 constructor
 .intro h;refine⟨h.ps,λv v0 v1 r hr=>?_⟩;obtain⟨k0,_,k3,_⟩:=h.rule hr;obtain⟨s1,s2⟩:=Mh h.ps k0;exact⟨(s1 v v0 v1).symm,(s2 v v0 v1).symm,λe=>(Mi h.ps (k3 e) v v0 v1).symm⟩
 .rintro⟨ht,h⟩;refine⟨bC.ident _,ht,λr hr=>?_⟩;have lN:=hK.Rz hr;have hset:qh r.set.toNat r.other.toNat t=true:=Rx ht (λv v0 v1=>(h v v0 v1 r hr).1.symm) (λv v0 v1=>(h v v0 v1 r hr).2.1.symm);have hval:(r.kind=3\/r.kind=4\/r.kind=7)->nN (ng k) t=true:=λe=>Ry ht λv v0 v1=>((h v v0 v1 r hr).2.2 e).symm;have hn:=amA hK.Mg;unfold keepR kY;rw[hset,Bool.true_and];split
  .exact Mk RB lN
  split
  .rename_i e;rw[Mk RB lN,hval (.inl e)];rfl
  split
  .rename_i e;rw[Mk amB lN,hval (.inr (.inl e))];rfl
  split
  .exact Mk Zq lN
  split
  .rename_i e;rw[hn,hval (.inr (.inr e))];rfl
  split
  .exact hn
  .rfl
def amC(hK:bW k){s t:ae Int}(hs:gY k s (upTo' k.decl.symbols.length))(ht:gY k (upTo' k.grid.cells.length) t):gY k s t:=by
 have h:=hs.comp hK ht;have e1:cz (upTo' k.grid.cells.length) s=s:=EO hs.pc;have e2:cz t (upTo' k.decl.symbols.length)=t:=Yf ht.ps
 rwa [e1,e2]at h
def mg(m:Nat)(i j:Nat):ae Int:=((upTo' m).set i (j:Int)).set j (i:Int)
variable{m i j:Nat}
def Im(hi:i<m)(hj:j<m){v:Int}(v0:0<=v)(v1:v<(m:Int)):aO (mg m i j) v=if v=(j:Int)then(i:Int)else if v=(i:Int)then(j:Int)else v:=by
 unfold mg;have hl:=jL m;have h1:=H7 (l:=(upTo' m).set i (j:Int)) (s:=(j:Int)) (x:=(i:Int)) (u:=v) p0 tU v0;rw[ic]at h1;rw[h1];split
 .rfl
 .have h2:=H7 (l:=upTo' m) (s:=(i:Int)) (x:=(j:Int)) (u:=v) p0 p0 v0;rw[ic]at h2;rw[h2,tO v0 v1]
def amD(hi:i<m)(hj:j<m):bC m (mg m i j):=by
 have hl:(mg m i j).length=m:=by unfold mg;rw[jD,jD,jL]
 refine⟨hl,λx hx=>?_,?_⟩
 .obtain⟨a,ha⟩:=ik hx;have hal:=(aT.1 ha).1;have h:=Im hi hj (v:=(a:Int)) p0 p0;rw[jB ha]at h;rw[h];split
  .omega
  .split<;>omega
 .unfold List.Nodup;rw[zR];intro a b ha hb hab e;have h1:=Im hi hj (v:=(a:Int)) p0 p0;have h2:=Im hi hj (v:=(b:Int)) p0 p0;rw[jB (bH ha)]at h1;rw[jB (bH hb)]at h2;rw[h1,h2]at e;split at e<;>split at e<;>(try split at e)<;>(try split at e)<;>omega
def Zr(hK:bW k){i j:Nat}(hi:i<k.decl.symbols.length)(hj:j<k.decl.symbols.length):gY k (upTo' k.grid.cells.length) (mg k.decl.symbols.length i j)↔ni k (i:Int) (j:Int):=by
 rw[RD hK];constructor
 .rintro⟨_,h⟩;have:=h (j:Int) p0 p0;rw[Im hi hj p0 p0,if_pos rfl]at this;exact this.symm
 .intro h;refine⟨amD hi hj,λv v0 v1=>?_⟩;rw[Im hi hj v0 v1];split
  .rename_i e;rw[e];exact h.symm
  .split
   .rename_i e;rw[e];exact h
   .exact ni.refl _ _
structure C8(k:aZ)(cl:List Int):Prop where
 len:cl.length=k.decl.symbols.length
 at_:∀j:Nat,j<k.decl.symbols.length->∃i:Nat,aO cl (j:Int)=(i:Int)/\i<=j/\ni k (i:Int) (j:Int)/\∀u:Nat,u<i->¬ni k (u:Int) (j:Int)
variable{cl:ae Int}
def C8.same(h:C8 k cl){a b:Nat}(ha:a<k.decl.symbols.length)(hb:b<k.decl.symbols.length):aO cl (a:Int)=aO cl (b:Int)↔ni k (a:Int) (b:Int):=by
 obtain⟨i,h1,h2,h3,h4⟩:=h.at_ a ha;obtain⟨j,k1,k2,k3,k4⟩:=h.at_ b hb;rw[h1,k1];constructor
 .intro e;have:i=j:=by omega
  subst this;exact h3.symm.trans k3
 .intro e;rcases SL i j with hl|hl|hl
  .exact absurd (h3.trans e) (k4 i hl)
  .rw[hl]
  .exact absurd (k3.trans e.symm) (h4 j hl)
def C8.ok(h:C8 k cl):ajN k.decl.symbols.length cl:=by
 refine⟨h.len,λa ha=>?_⟩;obtain⟨i,h1,h2,h3,h4⟩:=h.at_ a ha;refine⟨p0,p0,?_⟩;have e:=(h.same (by omega:i<k.decl.symbols.length) ha).2 h3;rw[h1]at e⊢;exact e
def C8.keeps(hK:bW k)(h:C8 k cl){t:ae Int}:oV k.decl.symbols.length cl t↔gY k (upTo' k.grid.cells.length) t:=by
 rw[RD hK];constructor
 .intro ht;refine⟨ht.p,λv v0 v1=>?_⟩;have r:=ht.p.at_ v0 v1;have:=ht.c v v0 v1;obtain⟨a,rfl⟩:=iQ v0;obtain⟨b,hb⟩:=iQ r.1;rw[hb]at this r⊢;exact((h.same p0 p0).1 this).symm
 .rintro⟨ht,hc⟩;refine⟨ht,λv v0 v1=>?_⟩;have r:=ht.at_ v0 v1;have:=hc v v0 v1;obtain⟨a,rfl⟩:=iQ v0;obtain⟨b,hb⟩:=iQ r.1;rw[hb]at this r⊢;exact((h.same p0 p0).2 this).symm
end Go.Proofs.YtignbinlipkmfaaGreatDoor
namespace Go.Proofs.YtignbinlipkmfaaGreatDoor
open Tryz (prog)
open Go.Ideal Kd Canon Gph
def xU(k:aZ)(c:Int):Bool:=match k.decl.bY[c.toNat]? with
 |some x=>decide (x.type=1)
 |none=>false
variable{k:aZ}
def Zt{g:Clue}{c:iR}(h:k.decl.bY[g.bD.toNat]? =some c):xU k g.bD=decide (c.type=1):=by unfold xU;rw[h]
variable{p:ae Clue}
def uU.wI(h:uU k p):LJ (xU k) k.decl.symbols.length p:=by
 intro g hg hs;obtain⟨c,L,h1,h2,h3,h4,h5,h6⟩:=h.right g hg;rw[Zt h2,nE]at hs;rcases h6 with⟨_,a,b⟩|⟨a,_⟩|⟨a,_⟩
 .match hgv:g.values,a with
  |[v],_=>
   have:=b v (by rw[hgv];exact bF.2 rfl);exact⟨v,rfl,p0,p0⟩
 .omega
 .omega
def amE(hK:bW k){t:ae Int}(hk:gY k (upTo' k.grid.cells.length) t){g:Clue}(hg:uT k g):mJ k (upTo' k.grid.cells.length) t g=QB (xU k) t g:=by
 obtain⟨c,L,j,i,l,l',G⟩:=CZ hK hk hg;have hl:=G.jl.dN l (aV G.hl);have e1:=RA hl;have hr:∀a,wL c a a=true:=λa=>by
  unfold wL;split
  .exact Zq a
  .exact RB a
 have hjl:=(aT.1 G.hl).1;have hgo:Goes L (upTo' k.grid.cells.length) c.family (wL c) j j:=by
  refine⟨l,l,G.hl,G.hl,by rw[e1],by rw[e1];exact hr l,λhb=>?_⟩;have:=G.jl.len hb;rw[tO p0 p0]
 have hij:i=j:=by
  have h1:=hgo.je G.jl;have h2:=G.goes.je G.jl;omega
 subst hij;have hll:l'=l:=by
  have h1:=G.hl';rw[G.hl]at h1;exact(Option.some.inj h1).symm
 subst hll;rw[G.img];unfold QB zq;rw[Zt G.hc,<- G.at_];by_cases h1:c.type=1
 .rw[if_pos h1,if_pos (by simp[h1])]
 .have:pW (upTo' k.grid.cells.length) l' l'=false:=by
   have h2:=Zo (s:=upTo' k.grid.cells.length) (l:=l');rw[e1]at h2;exact h2
  rw[if_neg h1,this,if_neg (show¬(c.type=3/\false=true)from λq=>by cases q.2),if_neg (show¬(decide (c.type=1)=true)by simp[h1])]
def amF{sy:Int->Bool}{t:ae Int}(h:p.Pairwise λa b=>gV a b<0):(CO sy t p).Pairwise λa b=>gV a b<0:=by
 unfold CO;rw[BG];exact h.imp λ{a b} hab=>by rw[xK]at hab⊢;exact hab
def amG(h:p.Pairwise λa b=>gV a b<0):lM p p:=⟨h,λ_ h=>h,λx hx=>⟨x,hx,by rw[Ba];exact⟨rfl,rfl⟩,y3⟩⟩
def amH(hK:bW k){t:ae Int}{p:ae Clue}(hk:gY k (upTo' k.grid.cells.length) t)(hQ:uU k p):p.map (mJ k (upTo' k.grid.cells.length) t)=CO (xU k) t p:=vF λg hg=>amE hK hk (hQ.right g hg)
def amI(hK:bW k){s t:ae Int}{p x:ae Clue}(hs:gY k s (upTo' k.decl.symbols.length))(ht:gY k (upTo' k.grid.cells.length) t)(hQ:uU k p)(hx:lM (p.map (mJ k s (upTo' k.decl.symbols.length))) x):lM (p.map (mJ k s t)) (CO (xU k) t x):=by
 have hQx:=amo hK hs hQ hx;have h1:lM (x.map (mJ k (upTo' k.grid.cells.length) t)) (CO (xU k) t x):=by
  rw[amH hK ht hQx];exact amG (amF hx.inc)
 have hxm:=amm hK hs hQ hx;have e1:cz (upTo' k.grid.cells.length) s=s:=EO hs.pc;have e2:cz t (upTo' k.decl.symbols.length)=t:=Yf ht.ps;refine h1.XT λg=>?_;rw[cZ,cZ];constructor
 .rintro⟨a,ha,rfl⟩;refine⟨mJ k s (upTo' k.decl.symbols.length) a,(hxm _).2 (cZ.2 ⟨a,ha,rfl⟩),?_⟩;rw[Zp hK hs ht (hQ.right a ha),e1,e2]
 .rintro⟨y,hy,rfl⟩;obtain⟨a,ha,rfl⟩:=cZ.1 ((hxm _).1 hy);refine⟨a,ha,?_⟩;rw[Zp hK hs ht (hQ.right a ha),e1,e2]
def Zu(k:aZ)(cl s:ae Int)(p y:ae Clue):Prop:=∃x,lM (p.map (mJ k s (upTo' k.decl.symbols.length))) x/\y=CO (xU k) (ajR (xU k) cl x) x
structure RF(k:aZ)(G:List (List Int))(cl:List Int)(p y:List Clue):Prop where
 mem:∃s∈G,Zu k cl s p y
 least:∀s∈G,∀z,Zu k cl s p z->¬GA z y<0
def RF.uniq{G:ae (ae Int)}{cl:ae Int}{y z:ae Clue}(h:RF k G cl p y)(h2:RF k G cl p z):y=z:=by
 obtain⟨s,hs,hy⟩:=h.mem;obtain⟨s2,hs2,hz⟩:=h2.mem;exact ajS (h2.least s hs y hy) (h.least s2 hs2 z hz)
structure EY(k:aZ)(G:List (List Int))(cl:List Int):Prop where
 EP:H8 k.grid.cells.length G
 keep:∀s∈G,gY k s (upTo' k.decl.symbols.length)
 xN:C8 k cl
section
variable {k:aZ} {G:ae (ae Int)} {cl:ae Int} {p x y:ae Clue} {s t:ae Int}
def EY.both(h:EY k G cl)(hK:bW k)(hs:s∈G)(ht:oV k.decl.symbols.length cl t):gY k s t:=amC hK (h.keep s hs) ((h.xN.keeps hK).1 ht)
def EY.img(h:EY k G cl)(hK:bW k)(hQ:uU k p)(hs:s∈G)(ht:oV k.decl.symbols.length cl t)(hx:lM (p.map (mJ k s (upTo' k.decl.symbols.length))) x)(hy:lM (p.map (mJ k s t)) y):y=CO (xU k) t x:=
 hy.uniq (amI hK (h.keep s hs) ((h.xN.keeps hK).1 ht) hQ hx)
end
end Go.Proofs.YtignbinlipkmfaaGreatDoor
namespace Go.Proofs.YtignbinlipkmfaaGreatDoor
open Tryz (prog)
open Go.Ideal Kd Canon
structure EZ(k:aZ)(j i:Nat):Prop where
 le:i<=j
 cnd:ni k (i:Int) (j:Int)
 least:∀u:Nat,u<i->¬ni k (u:Int) (j:Int)
variable{k:aZ}
def amK(hK:bW k):gY k (upTo' k.grid.cells.length) (upTo' k.decl.symbols.length):=
 (RD hK).2 ⟨bC.ident _,λv v0 v1=>by rw[tO v0 v1];exact ni.refl _ _⟩
def amL(hK:bW k){fB l G:ae (ae Int)}{cl:ae Int}(hgm:∀x∈fB,gY k x (upTo' k.decl.symbols.length))(hC:oh k.grid.cells.length fB l l.length)(hperm:G.Perm l)(Bi:cl.length=k.decl.symbols.length)(hcls:∀u:Nat,u<k.decl.symbols.length->∃i:Nat,cl[u]? =some (i:Int)/\EZ k u i):EY k G cl where
 EP:=by
  have h:=hC.EP;exact⟨λa ha=>h.perm a (hperm.mem_iff.1 ha),hperm.mem_iff.2 h.one,λa ha b hb=>hperm.mem_iff.2 (h.comp a (hperm.mem_iff.1 ha) b (hperm.mem_iff.1 hb)),λa ha=>hperm.mem_iff.2 (h.inv a (hperm.mem_iff.1 ha))⟩
 keep:=λs hs=>hC.all (P:=λs=>gY k s (upTo' k.decl.symbols.length)) (amK hK) (λg hg q _ hq=>by
  have:=hq.comp hK (hgm g hg)
  rwa [show cz (upTo' k.decl.symbols.length) (upTo' k.decl.symbols.length)=upTo' k.decl.symbols.length from EO (bC.ident _)]at this) s (hperm.mem_iff.1 hs)
 xN:=⟨Bi,λj hj=>by
  obtain⟨i,h1,h2⟩:=hcls j hj;exact⟨i,jB h1,h2.le,h2.cnd,h2.least⟩⟩
end Go.Proofs.YtignbinlipkmfaaGreatDoor
namespace Go.Proofs.YtignbinlipkmfaaGreatDoor
open Tryz (prog)
open Go.Ideal Kd Canon
section
variable {P:Program} {B:ae Nat} {w0:Wd} {kl kl':ae OA} {F:ae aH} {K:KO} {ds:ae Tmp} {rest:ae bJ} {n:Nat} {l:qr} {D:ae Deferred} {pm:aj FrameMode} {ro:aj Nat} {d:Nat} {g:aj (Tmp×Bool)}
def C9{x:ak}{b:Nat}{cs:ae ah}{v:ah}(j:Nat)
 (next:R (λh=>aK P ds rest (act n ((d,v)::l) D pm ro) h K) B w0 kl F)
 (hx:ev l x=.pointer (some ⟨b,0+j,none⟩):=by rfl) (hk:dx b 0 cs∈F:=by exact gM) (hv:ko cs j=some v:=by rfl) (hn:Nat.blt d n=true:=by rfl) (hg:bK l g=true:=by rfl):
 R (λh=>aK P ds (⟨⟨some d,g,.gJ x⟩,[]⟩::rest) (act n l D pm ro) h K) B w0 kl F:=(Kb hn hg hx hk hv).h next
end
def Zv{v:ah}{xs:ae Int}(hl:xs.length<=1000000):bA prog (.func 266) [v] [] [] [aA ai v xs] (λv':ah=>v') (λ_=>[]) (λv'=>[aA ai v' (bP xs)]) (λ_=>True):=by
 refine gB 266 λB w0=>?_;refine gC (Zb (xs:=xs) hl) λa _=>?_;refine gC (LU (a:=a) (zs:=xs) rfl p0) λ_ _=>?_;refine gZ (jk (E:=ai) (v:=.slice a xs.length xs.length) (xs:=bP xs)) ?_;refine go ?_;exact gQ (.slice a xs.length xs.length) trivial
variable{a b:ae Int}{va vb:ah}
def Zw(ha:a.length<=1000000)(hb:b.length<=1000000):eU prog 199 [va,vb] [aA ai va a,aA ai vb b] (.bool (kQ a b)):=by
 have hsl:=AO a;refine gB 199 λB w0=>?_;refine gC (Zv (xs:=a) ha) λv1 _=>?_;refine gC (Zv (xs:=b) hb) λv2 _=>?_;refine gC (uY (xs:=bP a) (ys:=bP b) p0) λ_ _=>?_;exact fH
def amM(ha:a.length<=1000000)(hb:b.length<=1000000):eU prog 200 [va,vb] [aA ai va a,aA ai vb b] (.bool (uW a b)):=by
 have hrl:b.reverse.length=b.length:=SV;refine gB 200 λB w0=>?_;refine gC (Zb (xs:=b) hb) λc _=>?_;refine gC (amb (a:=c) (xs:=b) hb) λ_ _=>?_;refine qN (A:=ap ai (.slice c b.length b.length) b.reverse) (fs:=[aA ai (.slice c b.length b.length) b.reverse]) jk (h:=?_);refine gC (uY (xs:=a) (ys:=b) p0) λ_ _=>?_;refine gH ?_ ?_<;>intro h1
 rotate_left
 .refine bT ?_;rw[EK.2 (.inl h1)];rfl
 refine gC (uY (xs:=a) (ys:=b.reverse) p0) λ_ _=>?_;refine bT ?_;unfold uW;rw[di h1,Bool.false_or];rfl
abbrev RG(k:aZ)(vh vs vr vc vu gh gc vn vl sc st:ah):ae ah:=[.string k.decl.name,iV k.decl.version,iV k.decl.shape,iV k.decl.w,iV k.decl.h,vh,vs,vr,vc,vu,iV k.grid.shape,iV k.grid.w,iV k.grid.h,gh,gc,vn,vl,sc,st]
abbrev Ml(k:aZ)(s t:ae Int)(vs vn vl sc st:ah):ae aH:=[aA ai sc s,aA ai st t,aA jH vs k.decl.symbols,aA (az ai) vn k.aN,aA (az (az ai)) vl k.lists]
variable{w:ae Int}
def Io{b:Nat}{vw:ah}(hw:w.length<=1000000)(x:ae Int)(hx:x.length<=1000000):zm prog (.func 265) [] [ptr' b] [dx b 0 [vw],aA ai vw w] (λx=>kQ x w) x:=by
 intro v;rw[dW];refine gB 265 λB w0=>?_;refine gC (Zw (a:=x) (b:=w) hx hw) λ_ _=>?_;exact fH
abbrev Mm(P:Program)(fe:Fn)(eq:ae Int->ae Int->Bool):Prop:=∀(va vb:ah) (a b:ae Int),a.length<=1000000->b.length<=1000000->bA P fe [va,vb] [] [] [aA ai va a,aA ai vb b] (λ_:Unit=>.bool (eq a b)) (λ_=>[]) (λ_=>[]) (λ_=>True)
structure Ip(n:Nat)(k:aZ)(s:List Int)(r:dz)(L:List (List Int)):Prop where
 f0:0<=r.family
 hL:k.lists[r.family.toNat]? =some L
 jl:pU n L r.family
 ps:bC n s
 n0:0<n
 n1:n<=1000000
 len:L.length<=1000000
 lens:∀l∈L,l.length<=1000000
variable{L:ae (ae Int)}{s l:ae Int}{eq:ae Int->ae Int->Bool}{f:Int}{j:Nat}
def zu(hl:L[j]? =some l)(h:oU L s f eq l j=false):jM L s f eq=false:=by
 cases e:jM L s f eq with
 |false=>rfl
 |true=>
  unfold jM at e;rw[su]at e;have:=e j l hl;dsimp only at this;rw[h]at this;cases this
def zw{i:Int}(hi:je L s f (j:Int)=i)(h:oU L s f eq l j=true):0<=i/\kQ (L.getD i.toNat []) (img s l)=true/\eq (L.getD i.toNat []) (img s l)=true:=by
 unfold oU at h;rw[hi,dG,dG,nE]at h;exact h
def Mo{m:Nat}{l':ae Int}(hi:je L s f (j:Int)=(m:Int))(hl':L[m]? =some l')(h1:kQ l' (img s l)=true)(h2:eq l' (img s l)=true):oU L s f eq l j=true:=by
 unfold oU;rw[hi,ic,gT hl',h1,h2];simp
def amN(h:0<=uV L w):(uV L w).toNat<L.length:=by
 obtain⟨l,h1,_⟩:=Qw h;exact(aT.1 h1).1
def RH{n:Nat}{k:aZ}{t:ae Int}{r:dz}{fe:Fn}{vh vs vr vc vu gh gc vn vl sc st v1 v2:ah}(H:Ip n k s r L)(he:Mm prog fe eq):
 fC prog 198 [.agg ⟨RG k vh vs vr vc vu gh gc vn vl sc st⟩,.agg ⟨tJ r v1 v2⟩,.func fe ⟨[]⟩ ⟨[]⟩] (Ml k s t vs vn vl sc st) (λ_:Unit=>.bool (jM L s r.family eq)) (λ_=>True):=by
 have hsl:=H.ps.len;have hn0:=H.n0;have hn1:=H.n1;have hll:=H.len;have E5:=H.lens;obtain⟨rn,ro,rk,rf,rns,ros,amQ,amR,rop,rnn,rby,rcl⟩:=r;have hf0:0<=rf:=H.f0;obtain⟨f,rfl⟩:=iQ hf0;have Iq:k.lists[f]? =some L:=by have:=H.hL;rwa [ic]at this
 refine gB 198 λB w0=>?_;refine gF ai sc s λasc csc esc=>?_;subst esc;refine go ?_;intro b3 b4;refine gP b3 ?_;refine gP b4 ?_;have hfl:=(aT.1 Iq).1;refine gX (az (az ai)) (xs:=k.lists) λ_ _ L2 (vL:ah) hL2=>?_;rw[Iq]at hL2;obtain rfl:L=L2:=Option.some.inj hL2;refine gF (az ai) vL L λaL cL eL=>?_;subst eL;generalize hrf:(f:Int)=rf at *;refine gN L.length 24 (λj=>j<=L.length/\∀i',i'<j->∀x,L[i']? =some x->oU L s rf eq x i'=true) ⟨bS _,λi' h=>absurd h (zK _)⟩ ?_;rintro j ⟨hj,hall⟩;refine aP ?_ ?_<;>intro h1
 .refine gX (az ai) (xs:=L) λ_ _ l (Mq:ah) hl=>?_;have hlm:=aV hl;have hlr:=H.jl.dN l hlm;have hlen:=E5 l hlm;have hil:(img s l).length=l.length:=Qu s l;refine gF ai Mq l λal cl el=>?_;subst el;refine go ?_;refine ww l.length ⟨p0,p0,p0⟩ λbw=>?_;rw[EX];refine go ?_;intro b10;refine go ?_;refine dS (λi:Nat=>l.length - i) (λi=>[(34,iV (i:Int))]) (λi=>[pt bw (.cells ((gW (img s (l.take i)) l.length).map iV)),pt b10 (.cells [.slice (some ⟨bw,0,some 0⟩) l.length l.length])]) (λ_=>[]) (λi=>i<=l.length) 0 (bS _) (hk:=qn) (body:=?_);intro i hi;have hcl:(img s (l.take i)).length=i:=by rw[Qu,gq];omega
  refine aP ?_ ?_<;>intro h2
  .refine go ?_;intro _ _ x hx;have nO:=hlr x (aV hx);obtain⟨m,rfl⟩:=iQ nO.1;refine go ?_;refine C9 17 ?_;refine go ?_;intro _ _ z hz;have hzg:=jB hz;have htk:img s (l.take (i+1))=img s (l.take i)++[z]:=by
    unfold img;rw[gz hx,dQ,yo,hzg]
   refine go ?_;refine jG (b:=bw) (o:=0+i*1) (cs:=(gW (img s (l.take i)) l.length).map iV) (v:=iV z) (cs':=(gW (img s (l.take (i+1))) l.length).map iV) BT A0 ?_;refine go ?_;exact aY (i+1) AD sX
  have hie:i=l.length:=p0
  subst hie;rw[eH]at hcl⊢;rw[CY hcl];refine qN (A:=pt bw (.cells ((img s l).map iV))) (fs:=[aA ai (.slice (some ⟨bw,0,some 0⟩) l.length l.length) (img s l)]) (by have:=Av (b:=bw) (f:=0) (c:=l.length) (xs:=img s l) (hc:=by rw[hil];exact bz _);rw[hil]at this;exact this) (h:=?_);refine gP b10 ?_;refine go ?_;refine C9 17 ?_;refine go ?_;intro _ _ z0 hz0;refine aP ?_ ?_<;>intro c0
  .refine aP (λ_=>?_) (λh=>absurd c0 h);dsimp only at c0;have hjs:j<s.length:=by
    have:=H.jl.len wq;omega
   refine go ?_;refine C9 17 ?_;refine go ?_;intro _ _ i hi;have hig:=jB hi;have ol:je L s rf (j:Int)=i:=by unfold je;rw[if_pos wq];exact hig
   have hi0:0<=i:=(H.ps.dN i (aV hi)).1;have RI:i<(L.length:Int):=by
    have h1:=(H.ps.dN i (aV hi)).2;have h2:=H.jl.len wq;omega
   exact be
  refine aP ?_ ?_<;>intro c4
  .refine aP (λ_=>?_) (λh=>absurd c4 h);dsimp only at c4;have hjs:j<s.length:=by
    have:=H.jl.len wv;omega
   refine go ?_;refine C9 17 ?_;refine go ?_;intro _ _ i hi;have hig:=jB hi;have ol:je L s rf (j:Int)=i:=by unfold je;rw[if_pos wv];exact hig
   have hi0:0<=i:=(H.ps.dN i (aV hi)).1;have RI:i<(L.length:Int):=by
    have h1:=(H.ps.dN i (aV hi)).2;have h2:=H.jl.len wv;omega
   exact be
  refine aP ?_ ?_<;>intro c5
  .dsimp only at c5;have hjs:j<s.length:=by
    have:=H.jl.len wx;omega
   refine go ?_;refine C9 17 ?_;refine go ?_;intro _ _ i hi;have hig:=jB hi;have ol:je L s rf (j:Int)=i:=by unfold je;rw[if_pos wx];exact hig
   have hi0:0<=i:=(H.ps.dN i (aV hi)).1;have RI:i<(L.length:Int):=by
    have h1:=(H.ps.dN i (aV hi)).2;have h2:=H.jl.len wx;omega
   exact be
  dsimp only at c0 c4 c5;refine gC (Ze (fn:=.func 265) (first:=[]) (cap:=[ptr' b10]) (F1:=[dx b10 0 [.slice (some ⟨bw,0,some 0⟩) l.length l.length],aA ai (.slice (some ⟨bw,0,some 0⟩) l.length l.length) (img s l)]) (p:=λx=>kQ x (img s l)) (va:=.slice aL L.length cL) (xs:=L) p0 (λx hx=>Io (by rw[hil];omega) x (E5 x hx))) λ_ _=>?_;have ol:je L s rf (j:Int)=oZ (λx=>kQ x (img s l)) L:=by
   unfold je;rw[if_neg (by unfold mX;simp[c0,c4,c5]),ic,gT hl];exact(Zd L (img s l)).symm
  have hlt:0<=oZ (λx=>kQ x (img s l)) L->oZ (λx=>kQ x (img s l)) L<(L.length:Int):=λh=>by
   have:=amN (L:=L) (w:=img s l) h;have e:oZ (λx=>kQ x (img s l)) L=uV L (img s l):=Zd L (img s l);omega
  generalize oZ (λx=>kQ x (img s l)) L=i at ol hlt⊢;by_cases hi0:0<=i
  .have RI:=hlt hi0;exact be
  .refine gH ?_ ?_<;>intro hneg
   .exact absurd hneg p0
   refine bT ?_;rw[zu hl (by
    cases e:oU L s rf eq l j with
    |false=>rfl
    |true=>exact absurd (zw ol e).1 hi0)];rfl
 have om:j=L.length:=p0
 subst om;refine bT ?_;have:jM L s rf eq=true:=by
  unfold jM;rw[su];exact λi x hx=>hall i (aT.1 hx).1 x hx
 rw[this];rfl
abbrev Da(P:Program)(fn:Fn)(k:aZ)(s t:ae Int)(r:dz)(vh vs vr vc vu gh gc vn vl sc st v1 v2:ah)(c:Bool):Prop:=
 bA P fn [.agg ⟨RG k vh vs vr vc vu gh gc vn vl sc st⟩,.agg ⟨tJ r v1 v2⟩] [] [] (Ml k s t vs vn vl sc st) (λ_:Unit=>.bool c) (λ_=>[]) (λ_=>[]) (λ_=>True)
section
variable {n:Nat} {k:aZ} {s t:ae Int} {r:dz} {L:ae (ae Int)} {vh vs vr vc vu gh gc vn vl sc st v1 v2:ah}
def amY(H:Ip n k s r L):Da prog (.func 117) k s t r vh vs vr vc vu gh gc vn vl sc st v1 v2 (jM L s r.family kQ):=by
 have he:Mm prog (.func 199) kQ:=λva vb a b ha hb=>Zw ha hb;refine gB 117 λB w0=>?_;refine go ?_;intro b2 b3;refine gC (RH (t:=t) (eq:=kQ) (sc:=sc) (st:=st) (v1:=v1) (v2:=v2) H he) λ_ _=>?_;exact fH
def amZ(H:Ip n k s r L):Da prog (.func 119) k s t r vh vs vr vc vu gh gc vn vl sc st v1 v2 (jM L s r.family xM):=by
 have he:Mm prog (.func 48) xM:=λva vb a b ha hb=>uY p0;refine gB 119 λB w0=>?_;refine go ?_;intro b2 b3;refine gC (RH (t:=t) (eq:=xM) (sc:=sc) (st:=st) (v1:=v1) (v2:=v2) H he) λ_ _=>?_;exact fH
def am0(H:Ip n k s r L):Da prog (.func 120) k s t r vh vs vr vc vu gh gc vn vl sc st v1 v2 (jM L s r.family uW):=by
 have he:Mm prog (.func 200) uW:=λva vb a b ha hb=>amM ha hb;refine gB 120 λB w0=>?_;refine go ?_;intro b2 b3;refine gC (RH (t:=t) (eq:=uW) (sc:=sc) (st:=st) (v1:=v1) (v2:=v2) H he) λ_ _=>?_;exact fH
end
end Go.Proofs.YtignbinlipkmfaaGreatDoor
namespace Go.Proofs.YtignbinlipkmfaaGreatDoor
open Tryz (prog)
open Go.Ideal Kd Canon
variable{k:aZ}
def Zx{i:Nat}{x:mP}(h:k.decl.symbols[i]? =some x):aO (ng k) (i:Int)=x.value:=by
 apply jB;unfold ng;rw[bU,h];rfl
section
variable {m:Nat} {k:aZ} {s t:ae Int} {r:dz} {vh vs vr vc vu gh gc vn vl sc st v1 v2:ah}
def am1(hm:k.decl.symbols.length=m)(ht:bC m t)(hl:m<=4096):Da prog (.func 118) k s t r vh vs vr vc vu gh gc vn vl sc st v1 v2 (nN (ng k) t):=by
 have htl:=ht.len;refine gB 118 λB w0=>?_;refine gF ai st t λqK ct et=>?_;subst et;refine gF jH vs k.decl.symbols λwK cs1 es1=>?_;subst es1;refine go ?_;intro b2 b3;refine gP b2 ?_;refine gN t.length 11 (λj=>j<=t.length/\∀i',i'<j->∀x,t[i']? =some x->aO (ng k) (i':Int)=aO (ng k) x) ⟨bS _,λi' h=>absurd h (zK _)⟩ ?_;rintro j ⟨hj,hall⟩;refine aP ?_ ?_<;>intro h1
 .refine go ?_;intro _ _ x hx;have nO:=ht.dN x (aV hx);obtain⟨i,rfl⟩:=iQ nO.1;refine gX jH (xs:=k.decl.symbols) (k:=j) λ_ _ y (_:Unit) hy=>?_;have e1:=Zx hy;refine gX jH (xs:=k.decl.symbols) (k:=i) λ_ _ z (_:Unit) hz=>?_;have e2:=Zx hz;refine aP ?_ ?_<;>intro h2
  .refine bT ?_;have:nN (ng k) t=false:=by
    cases e:nN (ng k) t with
    |false=>rfl
    |true=>
     unfold nN at e;rw[su]at e;have:=jT (e j _ hx);dsimp only at this;rw[e1,e2]at this;exact absurd this h2
   rw[this];rfl
  refine go ?_;refine aY (j+1) p0 ⟨p0,λi' hi' x hx'=>?_⟩;by_cases e:i'=j
  .subst e;rw[hx]at hx';cases hx';rw[e1,e2];exact lV.1 h2
  .exact pw
 have om:j=t.length:=p0
 subst om;refine bT ?_;have:nN (ng k) t=true:=by
  unfold nN;rw[su];exact λi x hx=>fo (hall i (aT.1 hx).1 x hx)
 rw[this];rfl
def Mr(set i:Nat):set>>>i&&&1=(set.testBit i).toNat:=by
 rw[Nat.and_one_is_mod,Nf,Nat.toNat_testBit]
def Ms{a b:Bool}:((a.toNat:Nat):Int)=((b.toNat:Nat):Int)↔a=b:=by cases a<;>cases b<;>decide
def am2{set other:Nat}(hs:r.set=(set:Int)/\set<2^63)(ho:r.other=(other:Int)/\other<2^63)(ht:bC m t)(hl:m<=60):Da prog (.func 75) k s t r vh vs vr vc vu gh gc vn vl sc st v1 v2 (qh set other t):=by
 have htl:=ht.len;obtain⟨hs1,hs2⟩:=hs;obtain⟨ho1,ho2⟩:=ho;obtain⟨rn,ro,rk,rf,rns,ros,amQ,amR,rop,rnn,rby,rcl⟩:=r;dsimp only at hs1 ho1;subst hs1 ho1;refine gB 75 λB w0=>?_;refine gF ai st t λqK ct et=>?_;subst et;refine go ?_;intro b2 b3;refine gP b2 ?_;refine gP b3 ?_;refine gN t.length 11 (λj=>j<=t.length/\∀i',i'<j->∀x,t[i']? =some x->set.testBit i'=set.testBit x.toNat/\other.testBit i'=other.testBit x.toNat) ⟨bS _,λi' h=>absurd h (zK _)⟩ ?_;rintro j ⟨hj,hall⟩;refine aP ?_ ?_<;>intro h1
 .refine go ?_;intro _ _ x hx;have nO:=ht.dN x (aV hx);obtain⟨i,rfl⟩:=iQ nO.1;have hno:¬(set.testBit j=set.testBit i/\other.testBit j=other.testBit i)->qh set other t=false:=λh=>by
   cases e:qh set other t with
   |false=>rfl
   |true=>
    unfold qh at e;rw[su]at e;have:=e j _ hx;dsimp only at this;rw[ic,dG,nE,nE]at this;exact absurd this h
  refine go ?_;refine(bV rfl rfl (Kv (a:=set) (b:=j) rfl rfl p0)).h ?_;refine(bV rfl rfl (Ky (a:=set>>>j) (b:=1) rfl rfl (Ng (SY _ _) hs2) p0)).h ?_;rw[Mr set j];refine go ?_;refine(bV rfl rfl (Kv (a:=set) (b:=i) rfl rfl p0)).h ?_;refine(bV rfl rfl (Ky (a:=set>>>i) (b:=1) rfl rfl (Ng (SY _ _) hs2) p0)).h ?_;rw[Mr set i];refine gH ?_ ?_<;>intro h2
  rotate_left
  .refine bT ?_;rw[hno (λq=>h2 (Ms.2 q.1))];rfl
  have h2:=Ms.1 (lV.1 h2);refine go ?_;refine(bV rfl rfl (Kv (a:=other) (b:=j) rfl rfl p0)).h ?_;refine(bV rfl rfl (Ky (a:=other>>>j) (b:=1) rfl rfl (Ng (SY _ _) ho2) p0)).h ?_;rw[Mr other j];refine go ?_;refine(bV rfl rfl (Kv (a:=other) (b:=i) rfl rfl p0)).h ?_;refine(bV rfl rfl (Ky (a:=other>>>i) (b:=1) rfl rfl (Ng (SY _ _) ho2) p0)).h ?_;rw[Mr other i];refine aP ?_ ?_<;>intro h3
  .refine bT ?_;rw[hno (λq=>h3 (Ms.2 q.2))];rfl
  have h3:=Ms.1 (lV.1 h3);refine go ?_;refine aY (j+1) p0 ⟨p0,λi' hi' x hx'=>?_⟩;by_cases e:i'=j
  .subst e;rw[hx]at hx';cases hx';rw[ic];exact⟨h2,h3⟩
  .exact pw
 have om:j=t.length:=p0
 subst om;refine bT ?_;have:qh set other t=true:=by
  unfold qh;rw[su];intro i x hx;have:=hall i (aT.1 hx).1 x hx;dsimp only;rw[this.1,this.2];simp
 rw[this];rfl
def am3{n:Nat}(hN:uX n k.aN)(hs:bC n s)(hl:n<=1000000)(hll:∀l∈k.aN,l.length<=1000000):Da prog (.func 121) k s t r vh vs vr vc vu gh gc vn vl sc st v1 v2 (mH k.aN s):=by
 have hsl:=hs.len;have hnl:=hN.1;refine gB 121 λB w0=>?_;refine gF ai sc s λasc csc esc=>?_;subst esc;refine gF (az ai) vn k.aN λan cn en=>?_;subst en;refine go ?_;intro b2 b3;refine gP b2 ?_;refine gN k.aN.length 13 (λj=>j<=k.aN.length/\∀i',i'<j->∀l,k.aN[i']? =some l->∀b∈l,aO s b∈k.aN.getD (aO s (i':Int)).toNat []) ⟨bS _,λi' h=>absurd h (zK _)⟩ ?_;rintro j ⟨hj,hall⟩;refine aP ?_ ?_<;>intro h1
 .refine gX (az ai) (xs:=k.aN) λ_ _ l (Mq:ah) hl2=>?_;have hlm:=aV hl2;have hlr:=hN.2 l hlm;have hlen:=hll l hlm;refine gF ai Mq l λal cl el=>?_;subst el;refine gN l.length 20 (λi=>i<=l.length/\∀b∈l.take i,aO s b∈k.aN.getD (aO s (j:Int)).toNat []) ⟨bS _,qe⟩ ?_;rintro i ⟨hi,RJ⟩;refine aP ?_ ?_<;>intro h2
  .refine go ?_;intro _ _ b hb;have hbr:=hlr b (aV hb);obtain⟨bn,rfl⟩:=iQ hbr.1;refine go ?_;refine C9 17 ?_;refine go ?_;intro _ _ u hu;have hug:=jB hu;have hur:=hs.dN u (aV hu);obtain⟨un,rfl⟩:=iQ hur.1;refine gX (az ai) (xs:=k.aN) (k:=un) λ_ _ l2 (vl3:ah) hl3=>?_;have ar0:=hll l2 (aV hl3);refine go ?_;refine C9 17 ?_;refine go ?_;intro _ _ z hz;have hzg:=jB hz;refine gC (aj6 (xs:=l2) (z:=z) p0) λ_ _=>?_;have hd:k.aN.getD (aO s (j:Int)).toNat []=l2:=by rw[hug,ic];exact gT hl3
   refine go ?_;refine sZ rfl (λh3=>?_) (λh3=>?_)
   .refine bT ?_;have:mH k.aN s=false:=by
     cases e:mH k.aN s with
     |false=>rfl
     |true=>
      unfold mH at e;rw[su]at e;have:=e j l hl2;rw[iE]at this;have:=jT (this _ (aV hb));dsimp only at this;rw[hd,hzg]at this;exact absurd this h3
    rw[this];rfl
   refine go ?_;refine aY (i+1) AD ⟨p0,λb hb'=>?_⟩;rw[gz hb]at hb';rcases fO.1 hb' with hb'|hb'
   .exact RJ b hb'
   .rw[bF.1 hb',hd,hzg];exact h3
  have hie:i=l.length:=p0
  subst hie;rw[eH]at RJ;refine go ?_;refine aY (j+1) (by show k.aN.length - (j+1)<k.aN.length - j;omega) ⟨p0,λi' hi' l' hl'=>?_⟩;by_cases e:i'=j
  .subst e;rw[hl2]at hl';cases hl';exact RJ
  .exact hall i' p0 l' hl'
 have om:j=k.aN.length:=p0
 subst om;refine bT ?_;have:mH k.aN s=true:=by
  unfold mH;rw[su];intro i l hl';rw[iE];exact λb hb=>fo (hall i (aT.1 hl').1 l hl' b hb)
 rw[this];rfl
end
abbrev fv(f:eD):ah:=.func (.func f) ⟨[]⟩ ⟨[]⟩
structure Mt where
 b1:Nat
 b2:Nat
 b3:Nat
 b4:Nat
 b5:Nat
 b6:Nat
 b7:Nat
 b8:Nat
 b9:Nat
 b10:Nat
abbrev RN(y:Mt):ae ah:=[.slice none 0 0,.slice (some ⟨y.b1,0,some 0⟩) 1 1,.slice (some ⟨y.b2,0,some 0⟩) 1 1,.slice (some ⟨y.b3,0,some 0⟩) 2 2,.slice (some ⟨y.b4,0,some 0⟩) 2 2,.slice (some ⟨y.b5,0,some 0⟩) 1 1,.slice (some ⟨y.b6,0,some 0⟩) 1 1,.slice (some ⟨y.b7,0,some 0⟩) 2 2,.slice (some ⟨y.b8,0,some 0⟩) 1 1,.slice (some ⟨y.b9,0,some 0⟩) 1 1,.slice (some ⟨y.b10,0,some 0⟩) 1 1,.slice none 0 0]
abbrev xV(y:Mt):ae aH:=[dx y.b1 0 [fv 117],dx y.b2 0 [fv 117],dx y.b3 0 [fv 117,fv 118],dx y.b4 0 [fv 119,fv 118],dx y.b5 0 [fv 120],dx y.b6 0 [fv 121],dx y.b7 0 [fv 121,fv 118],dx y.b8 0 [fv 121],dx y.b9 0 [fv 121],dx y.b10 0 [fv 121]]
def am6:bA prog (.func 73) [] [] [] [] (λy:Mt=>.agg ⟨RN y⟩) (λ_=>[]) (λy=>xV y) (λ_=>True):=by
 refine gB 73 λB w0=>?_;refine go ?_;intro b0 b1 b2 b3 b4 b5 b6 b7 b8 b9 b10;refine go ?_;refine gP b1 ?_;refine gP b2 ?_;refine gP b3 ?_;refine gP b4 ?_;refine gP b5 ?_;refine gP b6 ?_;refine gP b7 ?_;refine gP b8 ?_;refine gP b9 ?_;refine gP b10 ?_;exact gQ ⟨b1,b2,b3,b4,b5,b6,b7,b8,b9,b10⟩ trivial
section
variable {k:aZ} {s t:ae Int} {r:dz} {vh vs vr vc vu gh gc vn vl sc st v1 v2:ah} {bc br:Nat}
abbrev wO(k:aZ)(s t:ae Int)(r:dz)(vh vs vr vc vu gh gc vn vl sc st v1 v2:ah)(bc br:Nat):ae aH:=dx bc 0 (RG k vh vs vr vc vu gh gc vn vl sc st)::dx br 0 (tJ r v1 v2)::Ml k s t vs vn vl sc st
def Ir{f:eD}{c:Bool}(h:Da prog (.func f) k s t r vh vs vr vc vu gh gc vn vl sc st v1 v2 c):bA prog (.func 74) [fv f] [ptr' bc,ptr' br] [] (wO k s t r vh vs vr vc vu gh gc vn vl sc st v1 v2 bc br) (λ_:Unit=>.bool (!c)) (λ_=>[]) (λ_=>[]) (λ_=>True):=by
 refine gB 74 λB w0=>?_;refine gC h λ_ _=>?_;exact fH
variable{fn:Fn}{first cap fs:ae ah}{F1:ae aH}{b:Nat}{p:Nat->Bool}
def am7(hl:fs.length<=100)(hp:∀i f,fs[i]? =some f->bA prog fn (first++[f]) cap [] F1 (λ_:Unit=>.bool (p i)) (λ_=>[]) (λ_=>[]) (λ_=>True)):
 fC prog 122 [.slice (some ⟨b,0,some 0⟩) fs.length fs.length,.func fn ⟨first⟩ ⟨cap⟩] (dx b 0 fs::F1) (λx:Int=>iV x) (λx=>0<=x↔∃i,i<fs.length/\p i=true):=by
 refine gB 122 λB w0=>?_;refine gN fs.length 8 (λj=>j<=fs.length/\∀i,i<j->p i=false) ⟨bS _,λi h=>absurd h (zK _)⟩ ?_;rintro j ⟨hj,hall⟩;refine aP ?_ ?_<;>intro h1
 .have hf:fs[j]? =some fs[j]:=bH p0;generalize fs[j]=f at hf;refine go ?_;refine(Kb (b:=b) (o:=0) (j:=j*1) (cs:=fs) (v:=f) rfl rfl rfl (dP ..) (by rw[rP,nQ];exact hf)).h ?_;refine gC (hp j f hf) λ_ _=>?_;refine go ?_;refine Aw rfl (λh2=>?_) (λh2=>?_)
  .refine go ?_;exact gQ (j:Int) ⟨λ_=>⟨j,p0,h2⟩,λ_=>by omega⟩
  refine go ?_;refine aY (j+1) p0 ⟨p0,λi hi=>?_⟩;by_cases e:i=j
  .subst e;exact h2
  .exact hall i p0
 refine go ?_;exact gQ (-1) ⟨λh=>by omega,λ⟨i,hi,h⟩=>by rw[hall i p0]at h;cases h⟩
def Zy(hl:fs.length<=100)(hp:∀i f,fs[i]? =some f->bA prog fn (first++[f]) cap [] F1 (λ_:Unit=>.bool (p i)) (λ_=>[]) (λ_=>[]) (λ_=>True)):
 fC prog 76 [.slice (some ⟨b,0,some 0⟩) fs.length fs.length,.func fn ⟨first⟩ ⟨cap⟩] (dx b 0 fs::F1) (λc:Bool=>.bool c) (λc=>c=true↔∃i,i<fs.length/\p i=true):=by
 refine gB 76 λB w0=>?_;refine gC (am7 (b:=b) hl hp) λx hx=>?_;refine go ?_;refine gQ (decide (0<=x)) ?_;rw[nE];exact hx
def am8:fC prog 76 [.slice none 0 0,.func fn ⟨first⟩ ⟨cap⟩] F1 (λc:Bool=>.bool c) (λc=>c=false):=by
 have h0:fC prog 122 [.slice none 0 0,.func fn ⟨first⟩ ⟨cap⟩] F1 (λ_:Unit=>iV (-1)) (λ_=>True):=by
  refine gB 122 λB w0=>?_;refine go ?_;refine pO ?_;exact fH
 refine gB 76 λB w0=>?_;refine gC h0 λ_ _=>?_;refine go ?_;exact gQ false rfl
structure Zz(k:aZ)(s t:List Int)(r:dz):Prop where
 ps:bC k.grid.cells.length s
 pt:bC k.decl.symbols.length t
 n1:k.grid.cells.length<=256
 m1:k.decl.symbols.length<=16
 aN:uX k.grid.cells.length k.aN
 nbl:∀l∈k.aN,l.length<=1000000
 kind:1<=r.kind/\r.kind<=11
 RO:Ip k.grid.cells.length k s r (k.lists.getD r.family.toNat [])
 st:r.set=((r.set.toNat:Nat):Int)/\r.set.toNat<2^63
 ot:r.other=((r.other.toNat:Nat):Int)/\r.other.toNat<2^63
def ZA(H:Zz k s t r)(y:Mt):∃v,(RN y)[r.kind.toNat]? =some v/\fC prog 76 [v,.func (.func 74) ⟨[]⟩ ⟨[ptr' bc,ptr' br]⟩] (xV y++wO k s t r vh vs vr vc vu gh gc vn vl sc st v1 v2 bc br) (λc:Bool=>.bool c) (λc=>c=true↔kY k s t r=false):=by
 have hF:=Ir (bc:=bc) (br:=br) (amY (t:=t) (vh:=vh) (vs:=vs) (vr:=vr) (vc:=vc) (vu:=vu) (gh:=gh) (gc:=gc) (vn:=vn) (vl:=vl) (sc:=sc) (st:=st) (v1:=v1) (v2:=v2) H.RO);have hO:=Ir (bc:=bc) (br:=br) (amZ (t:=t) (vh:=vh) (vs:=vs) (vr:=vr) (vc:=vc) (vu:=vu) (gh:=gh) (gc:=gc) (vn:=vn) (vl:=vl) (sc:=sc) (st:=st) (v1:=v1) (v2:=v2) H.RO);have hL:=Ir (bc:=bc) (br:=br) (am0 (t:=t) (vh:=vh) (vs:=vs) (vr:=vr) (vc:=vc) (vu:=vu) (gh:=gh) (gc:=gc) (vn:=vn) (vl:=vl) (sc:=sc) (st:=st) (v1:=v1) (v2:=v2) H.RO);have hV:=Ir (bc:=bc) (br:=br) (am1 (s:=s) (r:=r) (vh:=vh) (vs:=vs) (vr:=vr) (vc:=vc) (vu:=vu) (gh:=gh) (gc:=gc) (vn:=vn) (vl:=vl) (sc:=sc) (st:=st) (v1:=v1) (v2:=v2) rfl H.pt (by have:=H.m1;omega));have hB:=Ir (bc:=bc) (br:=br) (am3 (t:=t) (r:=r) (vh:=vh) (vs:=vs) (vr:=vr) (vc:=vc) (vu:=vu) (gh:=gh) (gc:=gc) (vn:=vn) (vl:=vl) (sc:=sc) (st:=st) (v1:=v1) (v2:=v2) H.aN H.ps (by have:=H.n1;omega) H.nbl);have one:∀(b:Nat) (f:eD) (c:Bool),bA prog (.func 74) [fv f] [ptr' bc,ptr' br] [] (wO k s t r vh vs vr vc vu gh gc vn vl sc st v1 v2 bc br) (λ_:Unit=>.bool (!c)) (λ_=>[]) (λ_=>[]) (λ_=>True)->dx b 0 [fv f]∈xV y->kY k s t r=c->
  fC prog 76 [.slice (some ⟨b,0,some 0⟩) 1 1,.func (.func 74) ⟨[]⟩ ⟨[ptr' bc,ptr' br]⟩] (xV y++wO k s t r vh vs vr vc vu gh gc vn vl sc st v1 v2 bc br) (λc:Bool=>.bool c) (λc=>c=true↔kY k s t r=false):=λb f c h hm hc=>by
  have h1:=Zy (b:=b) (fs:=[fv f]) (p:=λ_=>!c) (fn:=.func 74) (first:=[]) (cap:=[ptr' bc,ptr' br]) qe (λi g hg=>by
   match i,hg with
   |0,hg=>cases hg;exact h
   |i+1,hg=>simp at hg)
  refine((h1.facts (F2:=xV y++wO k s t r vh vs vr vc vu gh gc vn vl sc st v1 v2 bc br) (λf hf=>?_))).weak λc' hc'=>?_
  .exact oy
  .rw[hc',hc];constructor
   .rintro⟨_,_,e⟩;simpa using e
   .intro e;exact⟨0,qe,by rw[e];rfl⟩
 have two:∀(b:Nat) (f g:eD) (c d:Bool),bA prog (.func 74) [fv f] [ptr' bc,ptr' br] [] (wO k s t r vh vs vr vc vu gh gc vn vl sc st v1 v2 bc br) (λ_:Unit=>.bool (!c)) (λ_=>[]) (λ_=>[]) (λ_=>True)->bA prog (.func 74) [fv g] [ptr' bc,ptr' br] [] (wO k s t r vh vs vr vc vu gh gc vn vl sc st v1 v2 bc br) (λ_:Unit=>.bool (!d)) (λ_=>[]) (λ_=>[]) (λ_=>True)->dx b 0 [fv f,fv g]∈xV y->kY k s t r=(c&&d)->
  fC prog 76 [.slice (some ⟨b,0,some 0⟩) 2 2,.func (.func 74) ⟨[]⟩ ⟨[ptr' bc,ptr' br]⟩] (xV y++wO k s t r vh vs vr vc vu gh gc vn vl sc st v1 v2 bc br) (λc:Bool=>.bool c) (λc=>c=true↔kY k s t r=false):=λb f g c d h h2 hm hc=>by
  have h1:=Zy (b:=b) (fs:=[fv f,fv g]) (p:=λi=>if i=0 then !c else !d) (fn:=.func 74) (first:=[]) (cap:=[ptr' bc,ptr' br]) qe (λi g hg=>by
   match i,hg with
   |0,hg=>cases hg;exact h
   |1,hg=>cases hg;exact h2
   |i+2,hg=>simp at hg)
  refine((h1.facts (F2:=xV y++wO k s t r vh vs vr vc vu gh gc vn vl sc st v1 v2 bc br) (λf hf=>?_))).weak λc' hc'=>?_
  .exact oy
  .rw[hc',hc];constructor
   .rintro⟨i,hi,e⟩;by_cases e0:i=0
    .rw[if_pos e0]at e;cases c<;>simp_all
    .rw[if_neg e0]at e;cases d<;>simp_all
   .intro e;cases hcc:c with
    |false=>exact⟨0,qe,rfl⟩
    |true=>
     rw[hcc,Bool.true_and]at e;exact⟨1,qe,by rw[e];rfl⟩
 have hk:=H.kind;obtain⟨kn,hkn⟩:=iQ (by omega:0<=r.kind);have Rt:kn=1\/kn=2\/kn=3\/kn=4\/kn=5\/kn=6\/kn=7\/kn=8\/kn=9\/kn=10\/kn=11:=p0
 rcases Rt with rfl|rfl|rfl|rfl|rfl|rfl|rfl|rfl|rfl|rfl|rfl
 .exact⟨_,by rw[hkn];rfl,one y.b1 _ _ hF qe (by unfold kY;rw[if_pos (.inl hkn)])⟩
 .exact⟨_,by rw[hkn];rfl,one y.b2 _ _ hF qe (by unfold kY;rw[if_pos (.inr hkn)])⟩
 .exact⟨_,by rw[hkn];rfl,two y.b3 _ _ _ _ hF hV qe (by unfold kY;rw[if_neg p0,if_pos p0])⟩
 .exact⟨_,by rw[hkn];rfl,two y.b4 _ _ _ _ hO hV qe (by unfold kY;rw[if_neg p0,if_neg p0,if_pos p0])⟩
 .exact⟨_,by rw[hkn];rfl,one y.b5 _ _ hL qe (by unfold kY;rw[if_neg p0,if_neg p0,if_neg p0,if_pos p0])⟩
 .exact⟨_,by rw[hkn];rfl,one y.b6 _ _ hB qe Bs⟩
 .exact⟨_,by rw[hkn];rfl,two y.b7 _ _ _ _ hB hV qe (by unfold kY;rw[if_neg p0,if_neg p0,if_neg p0,if_neg p0,if_pos p0])⟩
 .exact⟨_,by rw[hkn];rfl,one y.b8 _ _ hB qe Bs⟩
 .exact⟨_,by rw[hkn];rfl,one y.b9 _ _ hB qe Bs⟩
 .exact⟨_,by rw[hkn];rfl,one y.b10 _ _ hB qe Bs⟩
 .refine⟨.slice none 0 0,by rw[hkn];rfl,?_⟩;refine(am8 (F1:=xV y++wO k s t r vh vs vr vc vu gh gc vn vl sc st v1 v2 bc br)).weak λc' hc'=>?_;have:kY k s t r=true:=by unfold kY;rw[if_neg p0,if_neg p0,if_neg p0,if_neg p0,if_neg p0,if_neg p0]
  rw[hc',this];simp
end
def bW.set(h:bW k){r:dz}(hr:r∈k.decl.rules):(r.set=((r.set.toNat:Nat):Int)/\r.set.toNat<2^63)/\(r.other=((r.other.toNat:Nat):Int)/\r.other.toNat<2^63):=by
 obtain⟨q,hq,hre⟩:=h.qP hr;have hro:=h.b.rs.qP q hq;have hsl:=h.typ.lim.s1;have ZB:r.set=((kW (iO k.decl) q.names:Nat):Int):=by rw[hre];rfl
 have ZC:r.other=((kW (iO k.decl) q.others:Nat):Int):=by rw[hre];rfl
 have hsn:(iO k.decl).length<=16:=by unfold iO;rw[aS];exact hsl
 have hl1:=Za hsn q.names hro.names;have hl2:=Za hsn q.others hro.others;refine⟨⟨by rw[ZB];omega,by rw[ZB];omega⟩,⟨by rw[ZC];omega,by rw[ZC];omega⟩⟩
def bW.EQ(h:bW k):k.grid.cells.length<=256:=by
 have:=h.bK.len;rw[h.grid];exact this
def bW.npos(h:bW k):0<k.grid.cells.length:=by
 rw[h.grid];exact XP h.bK
def bW.ana(h:bW k){s t:ae Int}(hs:bC k.grid.cells.length s)(ht:bC k.decl.symbols.length t){r:dz}(hr:r∈k.decl.rules):Zz k s t r:=by
 have hin:=(h.inr hr).jl;have hL:k.lists[r.family.toNat]? =some (k.lists[r.family.toNat]'(p0)):=bH _;have lN:=h.Mf hL;rw[yu hin.1]at lN;have ZE:∀r∈k.decl.regions,wD (bI k.decl) r.lists:=λr hr=>(h.typ.CR r hr).1.2;have ZF:=Qm h.bK ZE;have hlin:=ai3 h.bK ZE;rw[<- h.lists]at ZF hlin;have hn:=h.EQ;refine⟨hs,ht,h.EQ,h.typ.lim.s1,h.Mg,λl hl=>?_,h.kinds hr,⟨hin.1,?_,?_,hs,h.npos,p0,?_,?_⟩,(h.set hr).1,(h.set hr).2⟩
 .rw[h.aN]at hl;have:=Ll l hl;omega
 .rw[gT hL];exact hL
 .rw[gT hL];exact lN
 .rw[gT hL];have:=ZF _ (aV hL);omega
 .rw[gT hL];intro l hl;have:=(hlin _ (aV hL) l hl).1;omega
variable{s t:ae Int}{vh vs vr vc vu gh gc vn vl sc st:ah}
def RP(hK:bW k)(hs:s.length<2^63)(ht:t.length<2^63):
 fC prog 39 [.agg ⟨oW k vh vs vr vc vu gh gc vn vl⟩,.agg ⟨[sc,st]⟩] (aA ai sc s::aA ai st t::jO k vh vs vr vc vu gh gc vn vl []) (λb:Bool=>.bool b) (λb=>b=true↔gY k s t):=by
 have hn:=hK.EQ;have hm:=hK.typ.lim.s1;have qi:=hK.typ.lim.u;refine gB 39 λB w0=>?_;dsimp only[jO];refine gF ai gc k.grid.cells λag cg eg=>?_;subst eg;refine gF jH vs k.decl.symbols λwK cs1 es1=>?_;subst es1;refine gF bQ vu k.decl.rules λau cu eu=>?_;subst eu;refine go ?_;intro b2 b3;refine gP b2 ?_;refine gP b3 ?_;refine gC (Rs (xs:=s) (n:=k.grid.cells.length) hn hs) λe1 he1=>?_;refine gH ?_ ?_<;>intro h1
 rotate_left
 .refine go ?_;exact gQ false ⟨(λh=>by cases h),λh=>absurd (he1.2 h.pc) h1⟩
 have hps:=he1.1 (lV.1 h1);refine gC (Rs (xs:=t) (n:=k.decl.symbols.length) p0 ht) λe2 he2=>?_;refine aP ?_ ?_<;>intro h2
 .refine go ?_;exact gQ false ⟨(λh=>by cases h),λh=>absurd (he2.2 h.ps) h2⟩
 have hpt:=he2.1 (lV.1 h2);refine go ?_;intro b5 b6;refine jY am6 (next:=λy _=>?_);refine go ?_;refine gP b5 ?_;refine gP b6 ?_;refine gN k.decl.rules.length 36 (λj=>j<=k.decl.rules.length/\∀r∈k.decl.rules.take j,keepR k s t r=true) ⟨bS _,qe⟩ ?_;rintro j ⟨hj,hall⟩;refine aP ?_ ?_<;>intro h3
 .refine gX bQ (xs:=k.decl.rules) λ_ _ r (w:ah×ah) hr=>?_;have hrm:=aV hr;have H:=hK.ana hps hpt hrm;have hkd:=H.kind;have hno:keepR k s t r=false->∀b:Bool,b=false->(b=true↔gY k s t):=λh b hb=>⟨(λe=>by rw[hb]at e;cases e),λq=>by have:=q.qP r hrm;rw[h]at this;cases this⟩
  obtain⟨vk,hvk,hcon⟩:=ZA (bc:=b5) (br:=0) (vh:=vh) (vs:=.slice wK k.decl.symbols.length cs1) (vr:=vr) (vc:=vc) (vu:=.slice au k.decl.rules.length cu) (gh:=gh) (gc:=.slice ag k.grid.cells.length cg) (vn:=vn) (vl:=vl) (sc:=sc) (st:=st) (v1:=w.1) (v2:=w.2) H y;clear hcon;refine go ?_;intro b8;obtain⟨ZG,ZH,hcon⟩:=ZA (bc:=b5) (br:=b8) (vh:=vh) (vs:=.slice wK k.decl.symbols.length cs1) (vr:=vr) (vc:=vc) (vu:=.slice au k.decl.rules.length cu) (gh:=gh) (gc:=.slice ag k.grid.cells.length cg) (vn:=vn) (vl:=vl) (sc:=sc) (st:=st) (v1:=w.1) (v2:=w.2) H y;obtain rfl:ZG=vk:=by rw[hvk]at ZH;exact(Option.some.inj ZH).symm
  refine go ?_;refine gP b8 ?_;refine gC (am2 (k:=k) (s:=s) (r:=r) (set:=r.set.toNat) (other:=r.other.toNat) (vh:=vh) (vs:=.slice wK k.decl.symbols.length cs1) (vr:=vr) (vc:=vc) (vu:=.slice au k.decl.rules.length cu) (gh:=gh) (gc:=.slice ag k.grid.cells.length cg) (vn:=vn) (vl:=vl) (sc:=sc) (st:=st) (v1:=w.1) (v2:=w.2) H.st H.ot hpt p0) λ_ _=>?_;cases hset:qh r.set.toNat r.other.toNat t with
  |false=>
   refine go ?_;exact gQ false (hno (by unfold keepR;rw[hset];rfl) _ rfl)
  |true=>
  obtain⟨kn,hkn⟩:=iQ (by omega:0<=r.kind);rw[hkn,ic]at hvk;rw[hkn];refine go ?_;refine(Kb (b:=b6) (o:=0) (j:=kn*1) (cs:=RN y) (v:=ZG) rfl rfl rfl (by repeat (first|exact dP .. |apply dO)) (by rw[rP,nQ];exact hvk)).h ?_;rw[<- hkn];refine go ?_;dsimp only[xV,wO,Ml,List.cons_append,List.nil_append]at hcon;refine jY hcon (hF:=by repeat (first|exact Sub.nil|(apply Sub.cons;(focus (repeat (first|exact dP .. |apply dO)))))) (next:=λc hc=>?_);refine go ?_;cases c with
  |true=>
   refine go ?_;exact gQ false (hno (by unfold keepR;rw[hc.1 rfl,Bool.and_false]) _ rfl)
  |false=>
  have hcd:kY k s t r=true:=by
   cases e:kY k s t r with
   |true=>rfl
   |false=>exact absurd (hc.2 e) qe
  refine go ?_;refine aY (j+1) (by show k.decl.rules.length - (j+1)<k.decl.rules.length - j;omega) ⟨p0,λx hx=>?_⟩;rw[gz hr]at hx;rcases fO.1 hx with hx|hx
  .exact hall x hx
  .rw[bF.1 hx];unfold keepR;rw[hset,hcd];rfl
 have om:j=k.decl.rules.length:=p0
 subst om;rw[eH]at hall;refine go ?_;exact gQ true ⟨λ_=>⟨hps,hpt,hall⟩,λ_=>rfl⟩
structure KpP(k:aZ)(s t:List Int)(y:Bool×Int):Prop where
 nk:¬bW k->y=(false,180)
 ok:bW k->y.2=0/\(y.1=true↔gY k s t)
def ZI(hS:tX k)(hs:s.length<2^63)(ht:t.length<2^63):
 fC prog 18 [.agg ⟨oW k vh vs vr vc vu gh gc vn vl⟩,.agg ⟨[sc,st]⟩] (aA ai sc s::aA ai st t::jO k vh vs vr vc vu gh gc vn vl []) (λy:Bool×Int=>.tuple ⟨[.bool y.1,iV y.2]⟩) (KpP k s t):=by
 refine gB 18 λB w0=>?_;dsimp only[jO];refine go ?_;intro b2 b3;refine gC (Ro (k:=k) (vh:=vh) (vs:=vs) (vr:=vr) (vc:=vc) (vu:=vu) (gh:=gh) (gc:=gc) (vn:=vn) (vl:=vl) hS) λb hb=>?_;cases b with
 |false=>
  have hno:¬bW k:=λh=>by have:=hb.2 h;cases this
  dsimp only[cond];refine go ?_;exact gQ (false,180) ⟨λ_=>rfl,λh=>absurd h hno⟩
 |true=>
 have hK:=hb.1 rfl;dsimp only[cond];refine gC (RP (k:=k) (s:=s) (t:=t) (vh:=vh) (vs:=vs) (vr:=vr) (vc:=vc) (vu:=vu) (gh:=gh) (gc:=gc) (vn:=vn) (vl:=vl) (sc:=sc) (st:=st) hK hs ht) λc hc=>?_;refine go ?_;exact gQ (c,0) ⟨λh=>absurd hK h,λ_=>⟨rfl,hc⟩⟩
structure ar1(k:aZ)(s t:List Int)(e:Int):Prop where
 nk:¬bW k->e=180
 ns:bW k->¬gY k s t->e=230
 ok:bW k->gY k s t->e=0
