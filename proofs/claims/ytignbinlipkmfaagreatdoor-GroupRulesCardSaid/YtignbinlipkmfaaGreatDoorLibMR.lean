/- Part. -/
import Derived.Test.YtignbinlipkmfaaGreatDoorIdealPR
import Derived.Test.YtignbinlipkmfaaGreatDoorLibHR
set_option linter.all false
set_option maxRecDepth 10000
set_option maxHeartbeats 4000000
namespace Go.Proofs.YtignbinlipkmfaaGreatDoor
open Tryz (prog)
open Go.Ideal Kd
variable{xs:ae Int}
def acg{v:ah}(hl:xs.length<=1000000):bG prog (.func 173) [v] [] [] [aj ai v xs] (λa:ak Addr=>.slice a xs.length xs.length) (λa=>[ap ai (.slice a xs.length xs.length) xs]) (λ_=>[]) (λ_=>True):=by
 refine jD Pz UZ λB w0=>?_;refine Gx ai v (xs:=xs) λaD hxy=>?_;have hlen:aD.length=xs.length:=by rw[<- hxy,bC]
 refine Om (aD:=aD) (v:=v) (E:=ai) ?_;refine alZ (v:=v) (aD:=aD) ai (λe c ev=>?_) (λe i o f c ev=>?_) (λhne i o f c ev=>?_)
 .subst e ev;have hx:xs=[]:=by rw[<- hxy];rfl
  subst hx;simp only[Bw];refine go ?_;refine(cZ rfl rfl (J3 (e:=3) th rfl)).h ?_;refine go ?_;refine gK ai ?_;exact gQ none trivial
 .subst e ev;have hx:xs=[]:=by rw[<- hxy];rfl
  subst hx;simp only[Bw];refine go ?_;refine(cZ rfl rfl (Cu (e:=3) th rfl)).h ?_;refine go ?_;intro b;refine go ?_;refine Oq (b:=b) ?_;refine go ?_;refine aj3 ai aB.here ?_;exact gQ (some ⟨b,0,some 0⟩) trivial
 .subst ev;refine go ?_;refine(cZ rfl rfl (Cu (e:=3) th rfl)).h ?_;refine go ?_;intro b;refine go ?_;refine Ot (b:=b) ai aD hne tf (λb'=>?_);refine go ?_;refine wQ (b:=b') (m:=aD.length) (f:=ai.n) ai (aD:=aD) rfl (.inr rfl) ?_ (hk:=aB.here);refine Z5 (aD:=aD) hne ?_ (λw h=>h _ tg);rw[hxy,hlen];exact gQ (some ⟨b',0,some ai.n⟩) trivial
def Bb(xs zs:ae Int)(k:Nat):Prop:=zs.length=xs.length/\∀i,i<xs.length->zs[i]? =if i<k\/xs.length - 1 - i<k then xs[xs.length - 1 - i]? else xs[i]?
def Bb.zero(xs:ae Int):Bb xs xs 0:=⟨rfl,λi hi=>by rw[if_neg tf]⟩
variable{zs:ae Int}{k:Nat}
def Bb.step{x y:Int}(h:Bb xs zs k)(hk:k<xs.length - 1 - k)(hx:zs[k]? =some x)(hy:zs[xs.length - 1 - k]? =some y):Bb xs ((zs.set k y).set (xs.length - 1 - k) x) (k+1):=by
 obtain⟨h1,h2⟩:=h;refine⟨by rw[oU,oU];exact h1,λi hi=>?_⟩;have hx':=h2 k tf;have hy':=h2 (xs.length - 1 - k) tf;rw[if_neg tf,hx]at hx';rw[if_neg tf,hy]at hy';rw[xE,oU,h1];by_cases e:xs.length - 1 - k=i
 .rw[if_pos e,if_pos tf,if_pos tf,show xs.length - 1 - i=k by omega,hx']
 .rw[if_neg e,xE,h1];by_cases e2:k=i
  .subst e2;rw[if_pos rfl,if_pos hi,if_pos tf,hy']
  .rw[if_neg e2,h2 i hi];by_cases c:i<k\/xs.length - 1 - i<k
   .rw[if_pos c,if_pos tf]
   .rw[if_neg c,if_neg tf]
def Bb.done(h:Bb xs zs k)(hk:¬k<xs.length - 1 - k)(hle:2*k<=xs.length+1):zs=xs.reverse:=by
 obtain⟨h1,h2⟩:=h;apply jr;intro i;by_cases hi:i<xs.length
 .rw[h2 i hi,List.getElem?_reverse hi];by_cases c:i<k\/xs.length - 1 - i<k
  .rw[if_pos c]
  .rw[if_neg c,show xs.length - 1 - i=i by omega]
 .rw[iJ tf,iJ (by rw[WJ];omega)]
variable{a:ak Addr}
def apr{c:Nat}:fC prog 267 [.slice a 0 c] [] (λ_:Unit=>.tuple ⟨[]⟩) (λ_=>True):=by
 refine gB 267 λB w0=>?_;refine go ?_;refine qX ?_;exact fQ
def aps{b f:Nat}{pre:ae ah}(hl:xs.length<=1000000)(hf:f=0\/f=1):bG prog (.func 267) [.slice (some ⟨b,pre.length,some f⟩) xs.length xs.length] [] [pt b (.cells (pre++xs.map iV))] [] (λ_:Unit=>.tuple ⟨[]⟩) (λ_=>[pt b (.cells (pre++xs.reverse.map iV))]) (λ_=>[]) (λ_=>True):=by
 refine gB 267 λB w0=>?_;refine go ?_;refine di (λy:Nat×ae Int=>xs.length - y.1) (λy=>[(3,iV ((xs.length:Int) - 1 - (y.1:Int))),(2,iV (y.1:Int))]) (λy=>[pt b (.cells (pre++y.2.map iV))]) (λ_=>[]) (λy=>Bb xs y.2 y.1/\2*y.1<=xs.length+1) (0,xs) ⟨Bb.zero xs,by show 2*0<=_;omega⟩ (hl:=by dsimp only[Int.natCast_zero];rw[Int.sub_zero];repeat (first|exact trivial|refine⟨rfl,?_⟩)) (hk:=tj) (body:=?_);rintro⟨k,zs⟩ ⟨hR,hle⟩;dsimp only at hR hle⊢;have hzl:=hR.1;refine aC ?_ ?_<;>intro h1
 .have hk1:k<xs.length - 1 - k:=by omega
  have hj:((xs.length:Int) - 1 - (k:Int))=((xs.length - 1 - k:Nat):Int):=tf
  rw[hj];generalize hjj:xs.length - 1 - k=j at hk1 hj⊢;have hx:zs[k]? =some zs[k]:=bY tf;have hy:zs[j]? =some zs[j]:=bY tf;generalize zs[k]=x at hx;generalize zs[j]=z at hy;have hst:=hR.step tf hx (by rw[hjj];exact hy);rw[hjj]at hst;refine go ?_;refine rJ (b:=b) (o:=pre.length+j*1) (cs:=pre++zs.map iV) (iV z) (aal hy) ?_;refine go ?_;refine rJ (b:=b) (o:=pre.length+k*1) (cs:=pre++zs.map iV) (iV x) (aal hx) ?_;refine go ?_;refine l9 (b:=b) (o:=pre.length+k*1) (cs:=pre++zs.map iV) (v:=iV z) (cs':=pre++(zs.set k z).map iV) aam (by rw[fV,bC];omega) ?_;refine go ?_;refine l9 (b:=b) (o:=pre.length+j*1) (cs:=pre++(zs.set k z).map iV) (v:=iV x) (cs':=pre++((zs.set k z).set j x).map iV) aam (by rw[fV,bC,oU];omega) ?_;refine go ?_;refine aO (k+1,(zs.set k z).set j x) C0 ⟨hst,by show 2*(k+1)<=_;omega⟩ (hl:=by dsimp only;rw[show(xs.length:Int) - 1 - ((k+1:Nat):Int)=(j:Int) - 1 by omega];repeat (first|exact trivial|refine⟨rfl,?_⟩))
 have hz:=hR.done tf hle;subst hz;exact fQ
def apt(hl:xs.length<=1000000):bG prog (.func 267) [.slice a xs.length xs.length] [] [ap ai (.slice a xs.length xs.length) xs] [] (λ_:Unit=>.tuple ⟨[]⟩) (λ_=>[ap ai (.slice a xs.length xs.length) xs.reverse]) (λ_=>[]) (λ_=>True):=by
 by_cases hne:0<xs.length
 .exact bG.al5 (args:=λa=>[.slice a xs.length xs.length]) (zs:=λ_=>xs.reverse) hne (λ_=>List.length_reverse) λb f pre hf=>aps hl hf
 .obtain rfl:xs=[]:=lW.1 tf;intro B w s;obtain⟨S1,s1,back⟩:=s.Oi (k1:=[]) (bM:=[ap ai (.slice a 0 0) []]) (F1:=[]) .nil .nil;refine .jP _ (apr (a:=a) (c:=0) S1 w s1) ?_;exact oE
def tu(p:ae Int->Bool)(L:ae (ae Int)):Int:=match L.findIdx? p with
 |some i=>(i:Int)
 |none=> -1
variable{p:ae Int->Bool}{L:ae (ae Int)}
def ach{x:ae Int}(h:(L.take k).any p=false)(hx:L[k]? =some x)(hp:p x=true):tu p L=(k:Int):=by
 have hk:=(bJ.1 hx).1;have:L.findIdx? p=some k:=by
  rw[afS];refine⟨hk,by rw[(bJ.1 hx).2];exact hp,λj hj iC=>?_⟩;have h1:=M0.1 h L[j] (aU (i:=j) (by rw[vZ,if_pos hj];exact bY tf));exact h1 iC
 unfold tu;rw[this]
def aci(h:L.any p=false):tu p L= -1:=by
 have:L.findIdx? p=none:=by
  rw[afT];intro x hx;have:=M0.1 h x hx;simpa using this
 unfold tu;rw[this]
def acj(L:ae (ae Int))(w:ae Int):tu (λx=>decide (cK x=cK w)) L=wX L w:=rfl
def apu{fn:Fn}{first cap:ae ah}{F1:ae aM}{va:ah}{xs:ae (ae Int)}(hl:xs.length<2^63)(hp:∀x∈xs,EN prog fn first cap F1 p x):
 fC prog 72 [va,.func fn ⟨first⟩ ⟨cap⟩] (aj (ay ai) va xs::F1) (λ_:Unit=>iV (tu p xs)) (λ_=>True):=by
 refine jD PN Vi λB w0=>?_;refine gF (ay ai) va xs λaa ca ea=>?_;subst ea;refine gN xs.length 8 (λk=>k<=xs.length/\(xs.take k).any p=false) ⟨tf,tg⟩ ?_;rintro k ⟨hk,hno⟩;refine aC ?_ ?_<;>intro h1
 .refine gX (ay ai) (xs:=xs) λ_ _ x (u:ah) hx=>?_;refine gC (hp x (aU hx) u) λ_ _=>?_;refine go ?_;refine kX rfl (λh2=>?_) (λh2=>?_)
  .refine aP ?_;rw[ach hno hx h2];rfl
  .exact mL
 have hke:k=xs.length:=tf
 subst hke;rw[bP]at hno;refine aP ?_;rw[aci hno];rfl
end Go.Proofs.YtignbinlipkmfaaGreatDoor
namespace Go.Proofs.YtignbinlipkmfaaGreatDoor
open Tryz (prog)
open Go.Ideal Kd
def uL(xs:ae Int):ae ah:=(List.range 256).map λj:Nat=>.bool (decide ((j:Int)∈xs))
def ack(xs:ae Int):(uL xs).length=256:=by unfold uL;rw[bC,tV]
variable{j:Nat}{xs:ae Int}
def apv(hj:j<256):(uL xs)[0+j*1]? =some (.bool (decide ((j:Int)∈xs))):=by
 rw[gI,pY];unfold uL;rw[dZ,yR hj];rfl
def apw(hj:j<256):(uL xs).set (0+j*1) (.bool true)=uL (xs++[(j:Int)]):=by
 rw[gI,pY];apply jr;intro i;rw[xE,ack];unfold uL;by_cases hi:i<256
 .rw[dZ,yR hi,dZ,yR hi];by_cases e:j=i
  .subst e;simp[hj]
  .have e2:¬(i:Int)=(j:Int):=by omega
   simp[e,e2]
 .rw[iJ yb,iJ yb];by_cases e:j=i
  .rw[if_pos e,if_neg tf]
  .rw[if_neg e]
def apx:uL []=List.replicate 256 (.bool false):=by
 unfold uL;apply jr;intro i;rw[dZ,List.getElem?_replicate];by_cases hi:i<256
 .rw[yR hi,if_pos hi];simp
 .rw[iJ (by rw[tV];omega),if_neg hi];rfl
def apy{B:ae Nat}{w0:Wd}{kl:ae OA}{F:ae aM}{Q:IH->Prop}{A A':OA}(e:A=A')(h:R Q B w0 (A'::kl) F):R Q B w0 (A::kl) F:=by rw[e];exact h
variable{n:Nat}{v:ah}
def acm(hn:n<=256)(hl:xs.length<2^63):fC prog 57 [v,iV (n:Int)] [aj ai v xs] (λb:Bool=>.bool b) (λb=>b=true↔bQ n xs):=by
 refine gB 57 λB w0=>?_;refine gF ai v xs λav cv ev=>?_;subst ev;refine go ?_;intro b5;refine apy (A':=pt b5 (.cells (uL []))) (by rw[apx]<;>rfl) ?_;refine go ?_;refine di (λk=>xs.length - k) (λk:Nat=>[(10,iV (k:Int))]) (λk=>[pt b5 (.cells (uL (xs.take k)))]) (λ_=>[]) (λk=>k<=xs.length/\(∀x∈xs.take k,0<=x/\x<(n:Int))/\(xs.take k).Nodup) 0 ⟨bH _,tg,tg⟩ (hk:=tj) (body:=?_);rintro k ⟨hk,hin,hnd⟩;refine aC ?_ ?_<;>intro h1
 .refine go ?_;intro _ _ x hx;have hxm:=aU hx;have htk:=bU hx;have hno:¬(0<=x/\x<(n:Int))->∀b:Bool,b=false->(b=true↔bQ n xs):=λh b hb=>⟨(λe=>by rw[hb]at e;cases e),λq=>absurd (q.eY x hxm) h⟩
  refine gH ?_ ?_<;>intro h2
  rotate_left
  .exact sx
  refine gH ?_ ?_<;>intro h3
  rotate_left
  .exact sx
  obtain⟨m,rfl⟩:=jK (by omega:0<=x);refine go ?_;refine rJ (b:=b5) (o:=0+m*1) (cs:=uL (xs.take k)) (.bool (decide ((m:Int)∈xs.take k))) (apv tf) ?_;refine aC ?_ ?_<;>intro h4
  .refine go ?_;refine gQ false ⟨(λh=>by cases h),λq=>?_⟩;have h5:=q.nd.sublist (Q6 (k+1) xs);rw[htk,jV]at h5;exact absurd rfl (h5.2.2 _ h4 _ (bS.2 rfl))
  refine go ?_;refine l9 (b:=b5) (o:=0+m*1) (cs:=uL (xs.take k)) (v:=.bool true) (cs':=uL (xs.take (k+1))) (by rw[apw tf,htk]) (by rw[ack];omega) ?_;refine go ?_;refine aO (k+1) tf ⟨tf,?_,?_⟩
  .rw[htk];intro y hy;rcases eP.1 hy with hy|hy
   .exact hin y hy
   .rw[bS.1 hy];omega
  .rw[htk,jV];exact⟨hnd,tg,λa ha b hb=>by rw[bS.1 hb];exact λe=>h4 (e▸ha)⟩
 have hke:k=xs.length:=tf
 subst hke;rw[bP]at hin hnd;refine go ?_;refine gQ (decide ((xs.length:Int)=(n:Int))) ?_;rw[qL];exact⟨λe=>⟨tf,hin,hnd⟩,λq=>by have:=q.len;omega⟩
def acn(hn:n<=256)(hl:xs.length<2^63):fC prog 45 [v,iV (n:Int)] [aj ai v xs] (λe:Int=>iV e) (λe=>e=0↔bQ n xs):=by
 refine gB 45 λB w0=>?_;refine aC ?_ ?_<;>intro h1
 .exfalso;omega
 refine gC (acm (xs:=xs) (n:=n) hn hl) λb hb=>?_;refine go ?_;cases b with
 |false=>
  refine go ?_;exact gQ 110 ⟨(λh=>by cases h),λh=>by have:=hb.2 h;cases this⟩
 |true=>
  refine go ?_;exact gQ 0 ⟨λ_=>hb.1 rfl,λ_=>rfl⟩
def iP(d:ae Int)(n:Nat):ae Int:=d++List.replicate (n - d.length) 0
variable{d:ae Int}
def Bc(h:d.length<=n):(iP d n).length=n:=by unfold iP;rw[fV,Du];omega
def ES{k:Nat}{x:Int}(hk:k=d.length)(h:k<n):(iP d n).set k x=iP (d++[x]) n:=by
 subst hk;unfold iP;rw[Dr _ _ (bI _),tQ,show n - d.length=(n - (d.length+1))+1 by omega,yT,List.set_cons_zero,fV,BD,iO];rfl
def ET(h:d.length=n):iP d n=d:=by unfold iP;rw[h,tQ];simp
def aco(n:Nat):iP [] n=List.replicate n 0:=by unfold iP;simp
def Hf(n:Nat):zeros [iV 0] n=(iP [] n).map iV:=by
 rw[aco];exact rL
def apz{va vb:ah}{a b:ae Int}(ha:a.length=n)(hb:mo n b)(hl:b.length<=1000000):bG prog (.func 58) [va,vb] [] [] [aj ai va a,aj ai vb b] (λbm:Nat=>.slice (some ⟨bm,0,some 0⟩) b.length b.length) (λbm=>[pt bm (.cells ((dA a b).map iV))]) (λ_=>[]) (λ_=>True):=by
 refine gB 58 λB w0=>?_;refine gF ai va a λaa ca ea=>?_;subst ea;refine gF ai vb b λab cb eb=>?_;subst eb;refine go ?_;refine ym b.length ⟨tf,tf,tf⟩ λbm=>?_;rw[Hf];refine go ?_;refine di (λk=>b.length - k) (λk:Nat=>[(13,iV (k:Int))]) (λk=>[pt bm (.cells ((iP (dA a (b.take k)) b.length).map iV))]) (λ_=>[]) (λk=>k<=b.length) 0 (bH _) (hk:=tj) (body:=?_);intro k hk;have hcl:(dA a (b.take k)).length=k:=by unfold dA;rw[bC,gM];omega
 refine aC ?_ ?_<;>intro h1
 .refine go ?_;intro _ _ x hx;have qF:=hb x (aU hx);obtain⟨m,rfl⟩:=jK qF.1;refine go ?_;intro _ _ z hz;have hzg:=mU hz;have htk:dA a (b.take (k+1))=dA a (b.take k)++[z]:=by
   unfold dA;rw[bU hx,ek,ww,hzg]
  refine go ?_;refine l9 (b:=bm) (o:=0+k*1) (cs:=(iP (dA a (b.take k)) b.length).map iV) (v:=iV z) (cs':=(iP (dA a (b.take (k+1))) b.length).map iV) DQ DH ?_;refine go ?_;exact aO (k+1) tf tf
 have hke:k=b.length:=tf
 subst hke;rw[bP]at hcl⊢;rw[ET hcl];refine go ?_;exact gQ bm trivial
end Go.Proofs.YtignbinlipkmfaaGreatDoor
namespace Go.Proofs.YtignbinlipkmfaaGreatDoor
open Tryz (prog)
open Go.Ideal Kd Canon Gph
def mD(k:aZ)(s t:ae Int)(r:bE):Bool:=
 if r.kind=1\/r.kind=2 then kF (k.lists.getD r.family.toNat []) s r.family lT
 else if r.kind=3 then kF (k.lists.getD r.family.toNat []) s r.family lT&&pG (oL k) t
 else if r.kind=4 then kF (k.lists.getD r.family.toNat []) s r.family zG&&pG (oL k) t
 else if r.kind=5 then kF (k.lists.getD r.family.toNat []) s r.family wY
 else if r.kind=7 then nZ k.aR s&&pG (oL k) t
 else if r.kind=6\/r.kind=8\/r.kind=9\/r.kind=10 then nZ k.aR s
 else true
def keepR(k:aZ)(s t:ae Int)(r:bE):Bool:=rP r.set.toNat r.other.toNat t&&mD k s t r
structure iQ(k:aZ)(s t:List Int):Prop where
 pc:bQ k.grid.cells.length s
 ps:bQ k.decl.symbols.length t
 pE:∀r∈k.decl.rules,keepR k s t r=true
variable{k:aZ}
def dz.PU(h:dz k){f:Nat}{L:ae (ae Int)}(hL:k.lists[f]? =some L):ru k.grid.cells.length L (f:Int):=by
 rw[h.lists]at hL;rw[h.grid];exact anf h.bV (λr hr=>⟨(h.typ.zN r hr).1.2,(h.typ.zN r hr).2⟩) hL
def dz.PV(h:dz k):wZ k.grid.cells.length k.aR:=by
 rw[h.aR,h.grid];exact⟨yA _,λl hl=>(Kj l hl).2⟩
def dz.kinds(h:dz k){r:bE}(hr:r∈k.decl.rules):1<=r.kind/\r.kind<=11:=by
 refine acd ?_;have:=h.typ.read;exact i6
def acp(c:iT)(r:bE):Prop:=((r.kind=2\/r.kind=3)/\c.type=2/\c.family=r.family)\/(r.kind=5/\c.type=3/\c.family=r.family)\/(r.kind=11/\c.type=1/\c.family=0)
def dz.apA(h:dz k){r:bE}(hr:r∈k.decl.rules):(r.aS= -1/\r.kind≠5/\r.kind≠11)\/∃c,0<=r.aS/\k.decl.aQ[r.aS.toNat]? =some c/\acp c r:=by
 have hkd:=h.kinds hr;have hx:=(h.typ.form.lH r hr).Vh _ rfl;have hcp:=λc (hc:k.decl.aQ[r.aS.toNat]? =some c)=>(h.typ.form.jS _ c hc).2;have Vp:r.kind=1\/r.kind=2\/r.kind=3\/r.kind=4\/r.kind=5\/r.kind=6\/r.kind=7\/r.kind=8\/r.kind=9\/r.kind=10\/r.kind=11:=tf
 have key:∀need:Int,need=(if(fK r.kind).op=true/\r.dm≠qm then 2 else(fK r.kind).aS)->(need=0->r.kind≠5/\r.kind≠11)/\(need=2->r.kind=2\/r.kind=3)/\(need=3->r.kind=5)/\(need=1->r.kind=11)/\(need=0\/need=1\/need=2\/need=3):=by
  intro need hn;rcases Vp with e|e|e|e|e|e|e|e|e|e|e;all_goals (rw[e]at hn⊢;simp[fK]at hn;(try split at hn)<;>(refine⟨λh=>?_,λh=>?_,λh=>?_,λh=>?_,?_⟩<;>omega))
 obtain⟨k0,k2,k3,k1,kk⟩:=key _ rfl;generalize(if(fK r.kind).op=true/\r.dm≠qm then 2 else(fK r.kind).aS:Int)=need at hx k0 k1 k2 k3 kk;rcases hx with⟨a,_,b⟩|⟨a,b,_,c,c1,c2,c3⟩
 .exact .inl ⟨b,k0 a⟩
 .refine .inr ⟨c,b,c1,?_⟩;rcases kk with e|e|e|e
  .exact absurd e a
  .have:=hcp c c1;unfold qG at this;exact .inr (.inr ⟨k1 e,tf,tf⟩)
  .exact .inl ⟨k2 e,tf,tf⟩
  .exact .inr (.inl ⟨k3 e,tf,tf⟩)
def dz.apB(h:dz k){i:Nat}{c:iT}(hc:k.decl.aQ[i]? =some c):∃r∈k.decl.rules,r.aS=(i:Int)/\acp c r:=by
 have h1:=(h.typ.form.jS i c hc).1;have hm:(i:Int)∈k.decl.rules.map (·.aS):=List.count_pos_iff.1 tf;obtain⟨r,hr,e⟩:=dM.1 hm;rcases h.apA hr with⟨a,_⟩|⟨c',b1,b2,b3⟩
 .omega
 .rw[e,jJ,hc]at b2;cases b2;exact⟨r,hr,e,b3⟩
def yK(c:iT):ae Int->ae Int->Bool:=if c.type=3 then wY else lT
variable{s t:ae Int}
def iQ.rule(h:iQ k s t){r:bE}(hr:r∈k.decl.rules):rP r.set.toNat r.other.toNat t=true/\
 ((r.kind=1\/r.kind=2\/r.kind=3)->kF (k.lists.getD r.family.toNat []) s r.family lT=true)/\((r.kind=3\/r.kind=4\/r.kind=7)->pG (oL k) t=true)/\
 (r.kind=4->kF (k.lists.getD r.family.toNat []) s r.family zG=true)/\(r.kind=5->kF (k.lists.getD r.family.toNat []) s r.family wY=true)/\((6<=r.kind/\r.kind<=10)->nZ k.aR s=true):=by
 have h1:=h.pE r hr;unfold keepR mD at h1;rw[eU]at h1;refine⟨h1.1,?_⟩;have h2:=h1.2;refine⟨λe=>?_,λe=>?_,λe=>?_,λe=>?_,λe=>?_⟩
 .rcases e with e|e|e
  .rw[if_pos (.inl e)]at h2;exact h2
  .rw[if_pos (.inr e)]at h2;exact h2
  .rw[if_neg tf,if_pos e,eU]at h2;exact h2.1
 .rcases e with e|e|e
  .rw[if_neg tf,if_pos e,eU]at h2;exact h2.2
  .rw[if_neg tf,if_neg tf,if_pos e,eU]at h2;exact h2.2
  .rw[if_neg tf,if_neg tf,if_neg tf,if_neg tf,if_pos e,eU]at h2;exact h2.2
 .rw[if_neg tf,if_neg tf,if_pos e,eU]at h2;exact h2.1
 .rw[if_neg tf,if_neg tf,if_neg tf,if_pos e]at h2;exact h2
 .rw[if_neg tf,if_neg tf,if_neg tf,if_neg tf]at h2;by_cases e7:r.kind=7
  .rw[if_pos e7,eU]at h2;exact h2.1
  .rw[if_neg e7,if_pos tf]at h2;exact h2
def apC(hK:dz k)(hk:iQ k s t){i:Nat}{c:iT}(hc:k.decl.aQ[i]? =some c):∃L,k.lists[c.family.toNat]? =some L/\ru k.grid.cells.length L c.family/\∀j,j<L.length->∃i,Goes L s c.family (yK c) j i:=by
 have hf:=hK.jL c (aU hc);have hL:k.lists[c.family.toNat]? =some (k.lists[c.family.toNat]'(tf)):=bY _;have oh:=hK.PU hL;rw[BC hf.1]at oh;refine⟨_,hL,oh,?_⟩;obtain⟨r,hr,e,hcr⟩:=hK.apB hc;obtain⟨_,k1,_,_,k5,_⟩:=hk.rule hr;unfold yK;rcases hcr with⟨a,b,d⟩|⟨a,b,d⟩|⟨a,b,d⟩
 .rw[if_neg tf];have:=k1 tf;rw[<- d,iR hL]at this;exact(CG oh hk.pc).1 this
 .rw[if_pos b];have:=k5 a;rw[<- d,iR hL]at this;exact(CG oh hk.pc).1 this
 .rw[if_neg tf];intro j hj;have hl0:k.lists[c.family.toNat]? =some (mh k.grid.cells.length):=by
   rw[d,hK.lists,hK.grid];rfl
  rw[hL]at hl0;have hl0:=Option.some.inj hl0;have hn:(mh k.grid.cells.length).length=k.grid.cells.length:=O3 _;rw[hl0]at hj⊢;have hr2:=hk.pc.at_ (c:=(j:Int)) tf tf;have hget:∀m,m<k.grid.cells.length->(mh k.grid.cells.length)[m]? =some [(m:Int)]:=λm hm=>by
   unfold mh;rw[dZ,yR hm];rfl
  refine⟨(aV s (j:Int)).toNat,_,_,hget j tf,hget _ tf,?_,?_,λ_=>BC hr2.1⟩
  .rw[BC hr2.1];exact List.Perm.refl _
  .rw[BC hr2.1];exact EC.2 (List.Perm.refl _)
def rC(s l l':ae Int):Bool:=!decide (img s l=l')&&decide ((img s l).reverse=l')
def Bd(c:iT)(s t l l' v:ae Int):ae Int:=if c.type=1 then img t v else if c.type=3/\rC s l l'=true then v.reverse else v
def ol(k:aZ)(s t:ae Int)(g:Clue):Clue:=
 match k.decl.aQ[g.aS.toNat]? with
 |none=>g
 |some c=>⟨g.aS,jZ (k.lists.getD c.family.toNat []) s c.family g.at_,Bd c s t ((k.lists.getD c.family.toNat []).getD g.at_.toNat []) ((k.lists.getD c.family.toNat []).getD (jZ (k.lists.getD c.family.toNat []) s c.family g.at_).toNat []) g.values⟩
structure Vq(k:aZ)(s t:List Int)(g:Clue)(c:iT)(L:List (List Int))(j i:Nat)(l l':List Int):Prop where
 aS:0<=g.aS
 hc:k.decl.aQ[g.aS.toNat]? =some c
 hL:k.lists[c.family.toNat]? =some L
 jL:ru k.grid.cells.length L c.family
 at_:g.at_=(j:Int)
 hl:L[j]? =some l
 hl':L[i]? =some l'
 goes:Goes L s c.family (yK c) j i
 perm:l'.Perm (img s l)
 eq:yK c l' (img s l)=true
 img:ol k s t g=⟨g.aS,(i:Int),Bd c s t l l' g.values⟩
 cells:qa k g=l
 cells':qa k (ol k s t g)=l'
def EU(hK:dz k)(hk:iQ k s t){g:Clue}(hg:wV k g):∃c L j i l l',Vq k s t g c L j i l l':=by
 obtain⟨c,L,l,h1,h2,h3,h4,h5,h6,h7⟩:=hg.cells;obtain⟨L',hL',oh,hgo⟩:=apC hK hk h1;rw[h2]at hL';cases hL';obtain⟨j,hj⟩:=jK h5;rw[hj,jJ]at h3;obtain⟨i,hgi⟩:=hgo j tf;have hw:=hgi.jZ oh;have apD:=hgi;obtain⟨l0,l',a1,a2,a3,a4,a5⟩:=hgi;rw[h3]at a1;cases a1;have him:ol k s t g=⟨g.aS,(i:Int),Bd c s t l l' g.values⟩:=by
  unfold ol;rw[h1];dsimp only;rw[iR h2,hj,hw,jJ,jJ,iR h3,iR a2]
 refine⟨c,L,j,i,l,l',h4,h1,h2,oh,hj,h3,a2,apD,a3,a4,him,h7,?_⟩;rw[him];unfold qa Uk;dsimp only;rw[h1];dsimp only;rw[iR h2,jJ,iR a2]
def acr(hK:dz k)(hk:iQ k s t){g:Clue}(hg:wV k g):wV k (ol k s t g):=by
 obtain⟨c,L,j,i,l,l',G⟩:=EU hK hk hg;obtain⟨c',L',h1,h2,h3,h4,h5,h6⟩:=hg;rw[G.hc]at h2;cases h2;rw[G.img];have hi:=(bJ.1 G.hl').1;refine⟨c,L,h1,G.hc,G.hL,by show(0:Int)<=(i:Int);omega,by show(i:Int)<_;omega,?_⟩;unfold Bd;dsimp only;rcases h6 with⟨a,b,d⟩|⟨a,b,d⟩|⟨a,a2,b,d⟩
 .refine .inl ⟨a,?_⟩;rw[if_pos a,UB];refine⟨b,λx hx=>?_⟩;obtain⟨v,hv,rfl⟩:=dM.1 hx;have:=d v hv;have:=hk.ps.at_ (c:=v) tf tf;omega
 .refine .inr (.inl ⟨a,?_⟩);rw[if_neg tf,if_neg tf];exact⟨b,d⟩
 .refine .inr (.inr ⟨a,a2,?_⟩);rw[if_neg a];split
  .rw[WJ];exact⟨b,λx hx=>d x (List.mem_reverse.1 hx)⟩
  .exact⟨b,d⟩
def apE(hK:dz k)(hk:iQ k s t){a b:Clue}(ha:wV k a)(hb:wV k b)(e:iU (ol k s t a) (ol k s t b)=0):iU a b=0:=by
 obtain⟨c,L,j,i,l,l',G⟩:=EU hK hk ha;obtain⟨c2,L2,j2,i2,l2,l2',G2⟩:=EU hK hk hb;rw[CB,G.img,G2.img]at e;obtain⟨e1,e2⟩:=e;dsimp only at e1 e2;have h1:=G.hc;rw[e1,G2.hc]at h1;cases h1;have h2:=G.hL;rw[G2.hL]at h2;cases h2;have hii:i=i2:=tf
 subst hii;have:=G.goes.inj G.jL hk.pc G2.goes;rw[CB,G.at_,G2.at_];exact⟨e1,tf⟩
variable{x p:ae Clue}
def apF(hK:dz k)(hk:iQ k s t)(hQ:uD k p)(hx:mV (p.map (ol k s t)) x):∀g,g∈x↔g∈p.map (ol k s t):=by
 intro g;refine⟨hx.sub g,λhg=>?_⟩;obtain⟨a,ha,rfl⟩:=dM.1 hg;obtain⟨r,hr,hp,_⟩:=hx.all _ hg;obtain⟨b,hb,rfl⟩:=dM.1 (hx.sub r hr);have h0:=CB.1 (apE hK hk (hQ.right a ha) (hQ.right b hb) hp);have:=aaS hQ ha hb h0.1 h0.2;subst this;exact hr
def apG(h:x.Pairwise λa b=>iU a b<0):∀(i:Nat) a b,x[i]? =some a->x[i+1]? =some b->iU a b<0:=by
 intro i a b ha hb;obtain⟨h1,h2⟩:=bJ.1 ha;obtain⟨h3,h4⟩:=bJ.1 hb;rw[<- h2,<- h4];exact xI.1 h i (i+1) h1 h3 tf
def apH(hK:dz k)(hk:iQ k s t)(hQ:uD k p)(hx:mV (p.map (ol k s t)) x):uD k x:=by
 refine⟨?_,λg hg=>?_,apG hx.inc⟩
 .have:=amL hx;rw[bC]at this;have:=hQ.len;omega
 .obtain⟨a,ha,rfl⟩:=dM.1 (hx.sub g hg);exact acr hK hk (hQ.right a ha)
end Go.Proofs.YtignbinlipkmfaaGreatDoor
namespace Go.Proofs.YtignbinlipkmfaaGreatDoor
open Tryz (prog)
open Go.Ideal Kd Canon Gph
structure mX(n m:Nat)(s t grid y:List Int):Prop where
 ps:bQ n s
 pt:bQ m t
 len:grid.length=n
 KM:y.length=n
 yG:∀x∈grid,0<=x/\x<(m:Int)
 at_:∀c,0<=c->c<(n:Int)->aV y (aV s c)=aV t (aV grid c)
section
variable {n m:Nat} {s t grid y:ae Int}
def mX.eY(h:mX n m s t grid y){c:Int}(c0:0<=c)(c1:c<(n:Int)):0<=aV grid c/\aV grid c<(m:Int):=h.yG _ (Uy c0 (by rw[h.len];exact c1))
def mX.mem(h:mX n m s t grid y){d:Int}(hd:d∈y):0<=d/\d<(m:Int):=by
 obtain⟨i,hi⟩:=iI hd;have hl:=(bJ.1 hi).1;obtain⟨c,c0,c1,hc⟩:=h.ps.onto (y:=(i:Int)) tf (by have:=h.KM;omega);have h1:=h.at_ c c0 c1;rw[hc,mU hi]at h1;rw[h1];have:=h.eY c0 c1;exact h.pt.at_ this.1 this.2
def Vr(grid:ae Int)(c:Int):sy grid c=(aV grid c).toNat:=rfl
def mX.sy(h:mX n m s t grid y){c:Int}(c0:0<=c)(c1:c<(n:Int)):sy y (aV s c)=(aV t (aV grid c)).toNat:=by rw[Vr,h.at_ c c0 c1]
def apI{α:Type}{f g:Int->α}:∀{l:ae Int},mo n l->(∀c,0<=c->c<(n:Int)->f (aV s c)=g c)->(img s l).map f=l.map g:=by
 intro l hl h;unfold img;rw[sj];exact yS λc hc=>h c (hl c hc).1 (hl c hc).2
def qH(m:Nat)(t:ae Int)(set:Nat):Prop:=∀v:Int,0<=v->v<(m:Int)->set.testBit (aV t v).toNat=set.testBit v.toNat
def PW{set other:Nat}(ht:bQ m t)(h:rP set other t=true):qH m t set/\qH m t other:=by
 unfold rP at h;rw[uE]at h;constructor;all_goals (
  intro v v0 v1;have h1:=h v.toNat _ (rO v0 (by rw[ht.len];exact v1));dsimp only at h1;rw[eU,qL,qL]at h1)
 .exact h1.1.symm
 .exact h1.2.symm
def xe(m:Nat)(t vals:ae Int):Prop:=∀v:Int,0<=v->v<(m:Int)->aV vals (aV t v)=aV vals v
def PX{vals:ae Int}(ht:bQ m t)(h:pG vals t=true):xe m t vals:=by
 unfold pG at h;rw[uE]at h;intro v v0 v1;have h1:=iN (h v.toNat _ (rO v0 (by rw[ht.len];exact v1)));dsimp only at h1;rw[BC v0]at h1;exact h1.symm
def mX.bit(h:mX n m s t grid y){set:Nat}(hS:qH m t set){c:Int}(c0:0<=c)(c1:c<(n:Int)):set.testBit (Go.Proofs.YtignbinlipkmfaaGreatDoor.sy y (aV s c))=set.testBit (Go.Proofs.YtignbinlipkmfaaGreatDoor.sy grid c):=by
 have r:=h.eY c0 c1;rw[h.sy c0 c1,hS _ r.1 r.2,Vr]
def mX.cnt(h:mX n m s t grid y){set:Nat}(hS:qH m t set){l l':ae Int}(hl:mo n l)(hp:l'.Perm (img s l)):Go.Proofs.YtignbinlipkmfaaGreatDoor.cnt y set l'=Go.Proofs.YtignbinlipkmfaaGreatDoor.cnt grid set l:=by
 unfold Go.Proofs.YtignbinlipkmfaaGreatDoor.cnt;rw[(hp.filter _).length_eq];exact UG hl λc c0 c1=>h.bit hS c0 c1
def mX.va(h:mX n m s t grid y){vals:ae Int}(hV:xe m t vals){c:Int}(c0:0<=c)(c1:c<(n:Int)):va vals y (aV s c)=va vals grid c:=by
 have r:=h.eY c0 c1;have:=hV _ r.1 r.2;unfold Go.Proofs.YtignbinlipkmfaaGreatDoor.va;rw[h.sy c0 c1,Vr];exact this
def PY(grid:ae Int)(set:Nat):∀(l:ae Int) (k:Nat),rn grid set k l=AZ k (l.map λc=>set.testBit (sy grid c))
 |[],k=>rfl
 |c::l,k=>by
  rw[rn,kv];cases hb:set.testBit (sy grid c)with
  |true=>rw[if_pos rfl,am5,PY grid set l (k+1)]
  |false=>rw[if_neg tg,am6,PY grid set l 0]
def mX.rn(h:mX n m s t grid y){set:Nat}(hS:qH m t set){l:ae Int}(hl:mo n l):rn y set 0 (img s l)=rn grid set 0 l:=by
 rw[PY,PY,apI (g:=λc=>set.testBit (Go.Proofs.YtignbinlipkmfaaGreatDoor.sy grid c)) hl (λc c0 c1=>h.bit hS c0 c1)]
end
structure zO(eq:List Int->List Int->Bool):Prop where
 symm:∀a b,eq a b=true->eq b a=true
 trans:∀a b c,eq a b=true->eq b c=true->eq a c=true
 img:∀s a b,eq a b=true->eq (img s a) (img s b)=true
def KN:zO lT:=by
 refine⟨λa b h=>?_,λa b c h1 h2=>?_,λs a b h=>?_⟩
 .rw[EC]at h⊢;exact h.symm
 .rw[EC]at h1 h2⊢;exact h1.trans h2
 .rw[EC]at h⊢;exact Pp s h
def acs:zO zG:=by
 refine⟨λa b h=>?_,λa b c h1 h2=>?_,λs a b h=>?_⟩
 .unfold zG at h⊢;rw[qL]at h⊢;exact h.symm
 .unfold zG at h1 h2⊢;rw[qL]at h1 h2⊢;exact h1.trans h2
 .unfold zG at h⊢;rw[qL]at h⊢;rw[h]
def Vs:zO wY:=by
 refine⟨λa b h=>?_,λa b c h1 h2=>?_,λs a b h=>?_⟩
 .rw[GU]at h⊢;rcases h with rfl|rfl
  .exact .inl rfl
  .exact .inr (by rw[WK])
 .rw[GU]at h1 h2⊢;rcases h1 with rfl|rfl
  .exact h2
  .rcases h2 with rfl|rfl
   .exact .inr rfl
   .exact .inl (by rw[WK])
 .rw[GU]at h⊢;rcases h with rfl|rfl
  .exact .inl rfl
  .exact .inr (UC s b)
def apJ(c:iT):zO (yK c):=by
 unfold yK;split
 .exact Vs
 .exact KN
section
variable {n m:Nat} {s t s2 t2:ae Int} {L:ae (ae Int)} {f:Int} {eq:ae Int->ae Int->Bool}
def apK(hR:zO eq)(hK:ru n L f)(hs:bQ n s){j i:Nat}(h:Goes L s f eq j i):Goes L (jl s) f eq i j:=by
 obtain⟨l,l',h1,h2,h3,h4,h5⟩:=h;have hl:=hK.eY l (aU h1);refine⟨l',l,h2,h1,?_,?_,λhb=>?_⟩
 .have:=Pp (jl s) h3;rw[Pn hs hl]at this;exact this.symm
 .have:=hR.img (jl s) _ _ h4;rw[Pn hs hl]at this;exact hR.symm _ _ this
 .have hn:=hK.len hb;have:=(bJ.1 h1).1;rw[h5 hb,hs.yD tf tf]
def apL(hR:zO eq)(hK:ru n L f)(hs:bQ n s)(h:kF L s f eq=true):kF L (jl s) f eq=true:=by
 have h:=(CG hK hs).1 h;refine(CG hK hs.inv).2 λi hi=>?_;obtain⟨j,hj⟩:=am4 hK hs h hi;exact⟨j,apK hR hK hs hj⟩
def acu(hR:zO eq)(hK:ru n L f)(hs:bQ n s)(hs2:bQ n s2){j i i2:Nat}(h:Goes L s f eq j i)(h2:Goes L s2 f eq i i2):Goes L (dA s2 s) f eq j i2:=by
 obtain⟨l,l',a1,a2,a3,a4,a5⟩:=h;obtain⟨l0,l2,b1,b2,b3,b4,b5⟩:=h2;rw[a2]at b1;cases b1;have hl:=hK.eY l (aU a1);have hc:img (dA s2 s) l=img s2 (img s l):=Po (by rw[hs.len];exact hl);refine⟨l,l2,a1,b2,?_,?_,λhb=>?_⟩
 .rw[hc];exact b3.trans (Pp s2 a3)
 .rw[hc];exact hR.trans _ _ _ b4 (hR.img s2 _ _ a4)
 .have hn:=hK.len hb;have:=(bJ.1 a1).1;rw[b5 hb,a5 hb,AY tf (by rw[hs.len];omega)]
def apM(hR:zO eq)(hK:ru n L f)(hs:bQ n s)(hs2:bQ n s2)(h:kF L s f eq=true)(h2:kF L s2 f eq=true):kF L (dA s2 s) f eq=true:=by
 have h:=(CG hK hs).1 h;have h2:=(CG hK hs2).1 h2;refine(CG hK (hs2.comp hs)).2 λj hj=>?_;obtain⟨i,hi⟩:=h j hj;obtain⟨i2,hi2⟩:=h2 i hi.lt.2;exact⟨i2,acu hR hK hs hs2 hi hi2⟩
variable{set:Nat}
def Vt{other:Nat}(ht:bQ m t)(h1:qH m t set)(h2:qH m t other):rP set other t=true:=by
 unfold rP;rw[uE];intro i x hx;have hl:=(bJ.1 hx).1;have hlen:=ht.len;have e:=mU hx;have a:=h1 (i:Int) tf tf;have b:=h2 (i:Int) tf tf;rw[e,jJ]at a b;dsimp only;rw[eU,qL,qL];exact⟨a.symm,b.symm⟩
variable{vals:ae Int}
def Vu(ht:bQ m t)(h:xe m t vals):pG vals t=true:=by
 unfold pG;rw[uE];intro i x hx;have hl:=(bJ.1 hx).1;have hlen:=ht.len;have a:=h (i:Int) tf tf;rw[mU hx]at a;exact dQ a.symm
def qH.inv(ht:bQ m t)(h:qH m t set):qH m (jl t) set:=by
 exact n9
def xe.inv(ht:bQ m t)(h:xe m t vals):xe m (jl t) vals:=by
 exact n9
def qH.comp(ht:bQ m t)(h:qH m t set)(h2:qH m t2 set):qH m (dA t2 t) set:=by
 exact oe
def xe.comp(ht:bQ m t)(h:xe m t vals)(h2:xe m t2 vals):xe m (dA t2 t) vals:=by
 exact oe
variable{aR:ae (ae Int)}
def apO(hN:wZ n aR)(hs:bQ n s)(h:nZ aR s=true):nZ aR (jl s)=true:=by
 have h:=(GV hN hs).1 h;refine(GV hN hs.inv).2 λa b hab=>?_;obtain⟨c,d,hcd,rfl,rfl⟩:=aa9 hN hs h hab;have hr:=hcd.eY hN;rw[hs.yD hr.1.1 hr.1.2,hs.yD hr.2.1 hr.2.2];exact hcd
def apP(hN:wZ n aR)(hs:bQ n s)(hs2:bQ n s2)(h:nZ aR s=true)(h2:nZ aR s2=true):nZ aR (dA s2 s)=true:=by
 have h:=(GV hN hs).1 h;have h2:=(GV hN hs2).1 h2;refine(GV hN (hs2.comp hs)).2 λa b hab=>?_;have hr:=hab.eY hN;have hl:=hs.len;rw[AY hr.1.1 tf,AY hr.2.1 tf];exact h2 _ _ (h _ _ hab)
end
variable{s t:ae Int}{k:aZ}
def apQ{s' t':ae Int}{r:bE}(hS:rP r.set.toNat r.other.toNat t=true->rP r.set.toNat r.other.toNat t'=true)
 (hL:∀eq,zO eq->kF (k.lists.getD r.family.toNat []) s r.family eq=true->kF (k.lists.getD r.family.toNat []) s' r.family eq=true)
 (hV:pG (oL k) t=true->pG (oL k) t'=true) (hN:nZ k.aR s=true->nZ k.aR s'=true) (h:keepR k s t r=true):keepR k s' t' r=true:=by
 unfold keepR mD at h⊢;rw[eU]at h⊢;refine⟨hS h.1,?_⟩;have h2:=h.2;split at h2
 .rename_i e;rw[if_pos e];exact hL _ KN h2
 rename_i e;rw[if_neg e];split at h2
 .rename_i e;rw[if_pos e];rw[eU]at h2⊢;exact⟨hL _ KN h2.1,hV h2.2⟩
 rename_i e;rw[if_neg e];split at h2
 .rename_i e;rw[if_pos e];rw[eU]at h2⊢;exact⟨hL _ acs h2.1,hV h2.2⟩
 rename_i e;rw[if_neg e];split at h2
 .rename_i e;rw[if_pos e];exact hL _ Vs h2
 rename_i e;rw[if_neg e];split at h2
 .rename_i e;rw[if_pos e];rw[eU]at h2⊢;exact⟨hN h2.1,hV h2.2⟩
 rename_i e;rw[if_neg e];split at h2
 .rename_i e;rw[if_pos e];exact hN h2
 rename_i e;rw[if_neg e]
def dz.Vv(hK:dz k){r:bE}(hr:r∈k.decl.rules):ru k.grid.cells.length (k.lists.getD r.family.toNat []) r.family:=by
 have hin:=(hK.inr hr).jL;have hL:k.lists[r.family.toNat]? =some (k.lists[r.family.toNat]'(tf)):=bY _;have oh:=hK.PU hL;rw[BC hin.1]at oh;rw[iR hL];exact oh
def iQ.inv(hK:dz k)(h:iQ k s t):iQ k (jl s) (jl t):=by
 refine⟨h.pc.inv,h.ps.inv,λr hr=>?_⟩;refine apQ (λa=>?_) (λeq hR a=>apL hR (hK.Vv hr) h.pc a) (λa=>Vu h.ps.inv (xe.inv h.ps (PX h.ps a))) (λa=>apO hK.PV h.pc a) (h.pE r hr);obtain⟨b,c⟩:=PW h.ps a;exact Vt h.ps.inv (qH.inv h.ps b) (qH.inv h.ps c)
variable{s2 t2:ae Int}
def iQ.comp(hK:dz k)(h:iQ k s t)(h2:iQ k s2 t2):iQ k (dA s2 s) (dA t2 t):=by
 refine⟨h2.pc.comp h.pc,h2.ps.comp h.ps,λr hr=>?_⟩;have g2:=h2.pE r hr;have k2:=h2.rule hr;unfold keepR mD at g2⊢;have g1:=h.pE r hr;unfold keepR mD at g1;rw[eU]at g1 g2⊢;have oh:=hK.Vv hr;have L1:∀eq,zO eq->kF (k.lists.getD r.family.toNat []) s r.family eq=true->kF (k.lists.getD r.family.toNat []) s2 r.family eq=true->kF (k.lists.getD r.family.toNat []) (dA s2 s) r.family eq=true:=λeq hR a b=>apM hR oh h.pc h2.pc a b;have V1:pG (oL k) t=true->pG (oL k) t2=true->pG (oL k) (dA t2 t)=true:=λa b=>Vu (h2.ps.comp h.ps) (xe.comp h.ps (PX h.ps a) (PX h2.ps b));have N1:nZ k.aR s=true->nZ k.aR s2=true->nZ k.aR (dA s2 s)=true:=λa b=>apP hK.PV h.pc h2.pc a b;obtain⟨b,c⟩:=PW h.ps g1.1;obtain⟨b2,c2⟩:=PW h2.ps g2.1;refine⟨Vt (h2.ps.comp h.ps) (qH.comp h.ps b b2) (qH.comp h.ps c c2),?_⟩;have g1:=g1.2;have g2:=g2.2;split at g1
 .rename_i e;rw[if_pos e]at g2⊢;exact L1 _ KN g1 g2
 rename_i e;rw[if_neg e]at g2⊢;split at g1
 .rename_i e;rw[if_pos e]at g2⊢;rw[eU]at g1 g2⊢;exact⟨L1 _ KN g1.1 g2.1,V1 g1.2 g2.2⟩
 rename_i e;rw[if_neg e]at g2⊢;split at g1
 .rename_i e;rw[if_pos e]at g2⊢;rw[eU]at g1 g2⊢;exact⟨L1 _ acs g1.1 g2.1,V1 g1.2 g2.2⟩
 rename_i e;rw[if_neg e]at g2⊢;split at g1
 .rename_i e;rw[if_pos e]at g2⊢;exact L1 _ Vs g1 g2
 rename_i e;rw[if_neg e]at g2⊢;split at g1
 .rename_i e;rw[if_pos e]at g2⊢;rw[eU]at g1 g2⊢;exact⟨N1 g1.1 g2.1,V1 g1.2 g2.2⟩
 rename_i e;rw[if_neg e]at g2⊢;split at g1
 .rename_i e;rw[if_pos e]at g2⊢;exact N1 g1 g2
 rename_i e;rw[if_neg e]
variable{l l':ae Int}{c:iT}
def acv(h3:c.type=3)(he:yK c l' (img s l)=true)(h:rC s l l'=false):l'=img s l:=by
 unfold yK at he;rw[if_pos h3,GU]at he;rcases he with e|e
 .exact e
 .unfold rC at h;rw[e]at h;simp at h;rw[e];exact h.symm
def acw(h:rC s l l'=true):img s l≠l'/\(img s l).reverse=l':=by
 unfold rC at h;simp at h;exact h
def apR(h1:img s l≠l')(h2:(img s l).reverse=l'):rC s l l'=true:=by
 unfold rC;simp[h1,h2]
def acy:rC s l (img s l)=false:=by
 unfold rC;simp
def Vq.vals{g:Clue}{L:ae (ae Int)}{j i:Nat}(G:Vq k s t g c L j i l l')(hR:wV k g):c.type=1->∀x∈g.values,0<=x/\x<(k.decl.symbols.length:Int):=by
 intro h1 x hx;obtain⟨c',L',a1,a2,a3,a4,a5,a6⟩:=hR;rw[G.hc]at a2;cases a2;rcases a6 with⟨_,_,b⟩|⟨b,_⟩|⟨b,_⟩
 .have:=b x hx;omega
 .omega
 .omega
def acz(hK:dz k)(hk:iQ k s t)(hk2:iQ k s2 t2){g:Clue}(hg:wV k g):ol k s2 t2 (ol k s t g)=ol k (dA s2 s) (dA t2 t) g:=by
 obtain⟨c,L,j,i,l,l',G⟩:=EU hK hk hg;have hg2:=acr hK hk hg;obtain⟨c2,L2,i2,j2,m',m,G2⟩:=EU hK hk2 hg2;obtain⟨c3,L3,j3,j4,m3,m4,G3⟩:=EU hK (hk.comp hK hk2) hg;have h1:=G2.hc;rw[G.img]at h1;dsimp only at h1;rw[G.hc]at h1;cases h1;have h1:=G3.hc;rw[G.hc]at h1;cases h1;have h2:=G2.hL;rw[G.hL]at h2;cases h2;have h2:=G3.hL;rw[G.hL]at h2;cases h2;have h3:=G2.at_;rw[G.img]at h3;dsimp only at h3;have hii:i2=i:=tf
 subst hii;have h3:=G3.at_;rw[G.at_]at h3;have hjj:j3=j:=tf
 subst hjj;have hgc:=acu (apJ c) G.jL hk.pc hk2.pc G.goes G2.goes;have h4:=hgc.jZ G.jL;have h5:=G3.goes.jZ G.jL;have hjj:j4=j2:=tf
 subst hjj;have h6:=G2.hl;rw[G.hl']at h6;cases h6;have h6:=G3.hl;rw[G.hl]at h6;cases h6;have h7:=G3.hl';rw[G2.hl']at h7;cases h7;have hl:=G.jL.eY l (aU G.hl);have hl':=G.jL.eY l' (aU G.hl');have hcc:img (dA s2 s) l=img s2 (img s l):=Po (by rw[hk.pc.len];exact hl);rw[G2.img,G3.img,G.img];dsimp only;have hval:Bd c s2 t2 l' m (Bd c s t l l' g.values)=Bd c (dA s2 s) (dA t2 t) l m g.values:=by
  unfold Bd;by_cases t1:c.type=1
  .rw[if_pos t1,if_pos t1,if_pos t1,Po (by rw[hk.ps.len];exact G.vals hg t1)]
  .rw[if_neg t1,if_neg t1,if_neg t1];by_cases t3:c.type=3
   .cases hT:rC s l l' with
    |false=>
     have e:=acv t3 G.eq hT;have:rC (dA s2 s) l m=rC s2 l' m:=by
      unfold rC;rw[hcc,<- e]
     rw[this,if_neg (by simp:¬(c.type=3/\false=true))]
    |true=>
     obtain⟨a,b⟩:=acw hT;rw[if_pos (⟨t3,rfl⟩:c.type=3/\true=true)];have e2:img s2 l'=(img (dA s2 s) l).reverse:=by rw[<- b,UC,hcc]
     have hsl:=mo.img hk.pc hl;have hne:img (dA s2 s) l≠(img (dA s2 s) l).reverse:=λq=>a (by
      rw[hcc,<- UC]at q;rw[<- b];exact aa7 hk2.pc hsl (λx hx=>hsl x (List.mem_reverse.1 hx)) q)
     cases uK:rC s2 l' m with
     |false=>
      have e:=acv t3 G2.eq uK;have:rC (dA s2 s) l m=true:=by
       refine apR ?_ ?_
       .rw[e,e2];exact hne
       .rw[e,e2]
      rw[this,if_neg tg,if_pos ⟨t3,rfl⟩]
     |true=>
      obtain⟨a2,b2⟩:=acw uK;have e3:m=img (dA s2 s) l:=by rw[<- b2,e2,WK]
      have:rC (dA s2 s) l m=false:=by rw[e3];exact acy
      rw[this,if_pos ⟨t3,rfl⟩,if_neg tg,WK]
   .rw[if_neg (λq=>t3 q.1),if_neg (λq=>t3 q.1),if_neg (λq=>t3 q.1)]
 rw[hval]
def apS{n:Nat}{a b:ae Int}(ha:a.length=n)(hb:b.length=n)(h:∀c:Int,0<=c->c<(n:Int)->aV a c=aV b c):a=b:=by
 apply jr;intro i;by_cases hi:i<n
 .have h1:=rO (p:=a) (c:=(i:Int)) tf tf;have h2:=rO (p:=b) (c:=(i:Int)) tf tf;rw[jJ]at h1 h2;rw[h1,h2,h _ tf tf]
 .rw[iJ tf,iJ tf]
section
variable {n m:Nat} {s t s2 t2 grid y z:ae Int}
def mX.uniq(h:mX n m s t grid y)(h2:mX n m s t grid z):y=z:=by
 refine apS h.KM h2.KM λd d0 d1=>?_;obtain⟨c,c0,c1,rfl⟩:=h.ps.onto d0 d1;rw[h.at_ c c0 c1,h2.at_ c c0 c1]
def mX.back(h:mX n m s t grid y):mX n m (jl s) (jl t) y grid:=by
 refine⟨h.ps.inv,h.pt.inv,h.KM,h.len,λx hx=>h.mem hx,λd d0 d1=>?_⟩;obtain⟨c,c0,c1,rfl⟩:=h.ps.onto d0 d1;have r:=h.eY c0 c1;rw[h.ps.yD c0 c1,h.at_ c c0 c1,h.pt.yD r.1 r.2]
def mX.comp(h:mX n m s t grid y)(h2:mX n m s2 t2 y z):mX n m (dA s2 s) (dA t2 t) grid z:=by
 refine⟨h2.ps.comp h.ps,h2.pt.comp h.pt,h.len,h2.KM,h.yG,λc c0 c1=>?_⟩;have r:=h.ps.at_ c0 c1;have g:=h.eY c0 c1;rw[AY c0 (by rw[h.ps.len];exact c1),h2.at_ _ r.1 r.2,h.at_ c c0 c1,AY g.1 (by rw[h.pt.len];exact g.2)]
end
end Go.Proofs.YtignbinlipkmfaaGreatDoor
namespace Go.Proofs.YtignbinlipkmfaaGreatDoor
open Tryz (prog)
open Go.Ideal Kd Canon Gph
def nO(k:aZ)(a b:Int):Prop:=∀r∈k.decl.rules,r.set.toNat.testBit a.toNat=r.set.toNat.testBit b.toNat/\r.other.toNat.testBit a.toNat=r.other.toNat.testBit b.toNat/\((r.kind=3\/r.kind=4\/r.kind=7)->aV (oL k) a=aV (oL k) b)
def nO.refl(k:aZ)(a:Int):nO k a a:=λ_ _=>⟨rfl,rfl,λ_=>rfl⟩
variable{k:aZ}{a b:Int}
def nO.symm(h:nO k a b):nO k b a:=λr hr=>⟨(h r hr).1.symm,(h r hr).2.1.symm,λe=>((h r hr).2.2 e).symm⟩
def nO.trans{c:Int}(h:nO k a b)(h2:nO k b c):nO k a c:=λr hr=>⟨(h r hr).1.trans (h2 r hr).1,(h r hr).2.1.trans (h2 r hr).2.1,λe=>((h r hr).2.2 e).trans ((h2 r hr).2.2 e)⟩
variable{n:Nat}
def Vw{l:ae Int}(h:mo n l):img (upTo' n) l=l:=by
 unfold img;conv=>rhs;rw[<- Ih l]
 exact yS λc hc=>wW (h c hc).1 (h c hc).2
def PZ{L:ae (ae Int)}{f:Int}{eq:ae Int->ae Int->Bool}(hr:∀l,eq l l=true)(hK:ru n L f):kF L (upTo' n) f eq=true:=by
 refine(CG hK (bQ.ident n)).2 λj hj=>⟨j,L[j],L[j],bY hj,bY hj,?_,?_,λhb=>?_⟩
 .rw[Vw (hK.eY _ (rY hj))]
 .rw[Vw (hK.eY _ (rY hj))];exact hr _
 .have:=hK.len hb;rw[wW tf tf]
def apT{aR:ae (ae Int)}(hN:wZ n aR):nZ aR (upTo' n)=true:=by
 refine(GV hN (bQ.ident n)).2 λa b hab=>?_;have hr:=hab.eY hN;rw[wW hr.1.1 hr.1.2,wW hr.2.1 hr.2.2];exact hab
def Vx(l:ae Int):lT l l=true:=EC.2 (List.Perm.refl _)
def apU(l:ae Int):zG l l=true:=dQ rfl
def acA(l:ae Int):wY l l=true:=GU.2 (.inl rfl)
def Vy(hK:dz k){t:ae Int}:iQ k (upTo' k.grid.cells.length) t↔bQ k.decl.symbols.length t/\∀v:Int,0<=v->v<(k.decl.symbols.length:Int)->nO k v (aV t v):=by
 constructor
 .intro h;refine⟨h.ps,λv v0 v1 r hr=>?_⟩;obtain⟨k0,_,k3,_⟩:=h.rule hr;obtain⟨s1,s2⟩:=PW h.ps k0;exact⟨(s1 v v0 v1).symm,(s2 v v0 v1).symm,λe=>(PX h.ps (k3 e) v v0 v1).symm⟩
 .rintro⟨ht,h⟩;refine⟨bQ.ident _,ht,λr hr=>?_⟩;have oh:=hK.Vv hr;have hset:rP r.set.toNat r.other.toNat t=true:=Vt ht (λv v0 v1=>(h v v0 v1 r hr).1.symm) (λv v0 v1=>(h v v0 v1 r hr).2.1.symm);have hval:(r.kind=3\/r.kind=4\/r.kind=7)->pG (oL k) t=true:=λe=>Vu ht λv v0 v1=>((h v v0 v1 r hr).2.2 e).symm;have hn:=apT hK.PV;unfold keepR mD;rw[hset,Bool.true_and];split
  .exact PZ Vx oh
  split
  .rename_i e;rw[PZ Vx oh,hval (.inl e)];rfl
  split
  .rename_i e;rw[PZ apU oh,hval (.inr (.inl e))];rfl
  split
  .exact PZ acA oh
  split
  .rename_i e;rw[hn,hval (.inr (.inr e))];rfl
  split
  .exact hn
  .rfl
def yL(m:Nat)(i j:Nat):ae Int:=((upTo' m).set i (j:Int)).set j (i:Int)
variable{m i j:Nat}
def KP(hi:i<m)(hj:j<m){v:Int}(v0:0<=v)(v1:v<(m:Int)):aV (yL m i j) v=if v=(j:Int)then(i:Int)else if v=(i:Int)then(j:Int)else v:=by
 unfold yL;have hl:=jH m;have h1:=UI (l:=(upTo' m).set i (j:Int)) (s:=(j:Int)) (x:=(i:Int)) (u:=v) tf (by rw[oU];omega) v0;rw[jJ]at h1;rw[h1];split
 .rfl
 .have h2:=UI (l:=upTo' m) (s:=(i:Int)) (x:=(j:Int)) (u:=v) tf tf v0;rw[jJ]at h2;rw[h2,wW v0 v1]
def apV(hi:i<m)(hj:j<m):bQ m (yL m i j):=by
 have hl:(yL m i j).length=m:=by unfold yL;rw[oU,oU,jH]
 refine⟨hl,λx hx=>?_,?_⟩
 .obtain⟨a,ha⟩:=iI hx;have hal:=(bJ.1 ha).1;have h:=KP hi hj (v:=(a:Int)) tf tf;rw[mU ha]at h;rw[h];split
  .omega
  .split<;>omega
 .unfold List.Nodup;rw[xI];intro a b ha hb hab e;have h1:=KP hi hj (v:=(a:Int)) tf tf;have h2:=KP hi hj (v:=(b:Int)) tf tf;rw[mU (bY ha)]at h1;rw[mU (bY hb)]at h2;rw[h1,h2]at e;split at e<;>split at e<;>(try split at e)<;>(try split at e)<;>omega
def apW(hK:dz k){i j:Nat}(hi:i<k.decl.symbols.length)(hj:j<k.decl.symbols.length):iQ k (upTo' k.grid.cells.length) (yL k.decl.symbols.length i j)↔nO k (i:Int) (j:Int):=by
 rw[Vy hK];constructor
 .rintro⟨_,h⟩;have:=h (j:Int) tf tf;rw[KP hi hj tf tf,if_pos rfl]at this;exact this.symm
 .intro h;refine⟨apV hi hj,λv v0 v1=>?_⟩;rw[KP hi hj v0 v1];split
  .rename_i e;rw[e];exact h.symm
  .split
   .rename_i e;rw[e];exact h
   .exact nO.refl _ _
structure EW(k:aZ)(cl:List Int):Prop where
 len:cl.length=k.decl.symbols.length
 at_:∀j:Nat,j<k.decl.symbols.length->∃i:Nat,aV cl (j:Int)=(i:Int)/\i<=j/\nO k (i:Int) (j:Int)/\∀u:Nat,u<i->¬nO k (u:Int) (j:Int)
variable{cl:ae Int}
def EW.same(h:EW k cl){a b:Nat}(ha:a<k.decl.symbols.length)(hb:b<k.decl.symbols.length):aV cl (a:Int)=aV cl (b:Int)↔nO k (a:Int) (b:Int):=by
 obtain⟨i,h1,h2,h3,h4⟩:=h.at_ a ha;obtain⟨j,k1,k2,k3,k4⟩:=h.at_ b hb;rw[h1,k1];constructor
 .intro e;have:i=j:=by omega
  subst this;exact h3.symm.trans k3
 .intro e;rcases WH i j with hl|hl|hl
  .exact absurd (h3.trans e) (k4 i hl)
  .rw[hl]
  .exact absurd (k3.trans e.symm) (h4 j hl)
def EW.ok(h:EW k cl):ang k.decl.symbols.length cl:=by
 refine⟨h.len,λa ha=>?_⟩;obtain⟨i,h1,h2,h3,h4⟩:=h.at_ a ha;refine⟨tf,tf,?_⟩;have e:=(h.same (by omega:i<k.decl.symbols.length) ha).2 h3;rw[h1]at e⊢;exact e
def EW.keeps(hK:dz k)(h:EW k cl){t:ae Int}:yH k.decl.symbols.length cl t↔iQ k (upTo' k.grid.cells.length) t:=by
 rw[Vy hK];constructor
 .intro ht;refine⟨ht.p,λv v0 v1=>?_⟩;have r:=ht.p.at_ v0 v1;have:=ht.c v v0 v1;obtain⟨a,rfl⟩:=jK v0;obtain⟨b,hb⟩:=jK r.1;rw[hb]at this r⊢;exact((h.same tf tf).1 this).symm
 .rintro⟨ht,hc⟩;refine⟨ht,λv v0 v1=>?_⟩;have r:=ht.at_ v0 v1;have:=hc v v0 v1;obtain⟨a,rfl⟩:=jK v0;obtain⟨b,hb⟩:=jK r.1;rw[hb]at this r⊢;exact((h.same tf tf).2 this).symm
end Go.Proofs.YtignbinlipkmfaaGreatDoor
namespace Go.Proofs.YtignbinlipkmfaaGreatDoor
open Tryz (prog)
open Go.Ideal Kd Canon Gph
def zP(k:aZ)(c:Int):Bool:=match k.decl.aQ[c.toNat]? with
 |some x=>decide (x.type=1)
 |none=>false
variable{k:aZ}
def acB{g:Clue}{c:iT}(h:k.decl.aQ[g.aS.toNat]? =some c):zP k g.aS=decide (c.type=1):=by unfold zP;rw[h]
variable{p:ae Clue}
def uD.yG(h:uD k p):Pv (zP k) k.decl.symbols.length p:=by
 intro g hg hs;obtain⟨c,L,h1,h2,h3,h4,h5,h6⟩:=h.right g hg;rw[acB h2,qL]at hs;rcases h6 with⟨_,a,b⟩|⟨a,_⟩|⟨a,_⟩
 .match hgv:g.values,a with
  |[v],_=>
   have:=b v (by rw[hgv];exact bS.2 rfl);exact⟨v,rfl,tf,tf⟩
 .omega
 .omega
def apX(hK:dz k){t:ae Int}(hk:iQ k (upTo' k.grid.cells.length) t){g:Clue}(hg:wV k g):ol k (upTo' k.grid.cells.length) t g=UJ (zP k) t g:=by
 obtain⟨c,L,j,i,l,l',G⟩:=EU hK hk hg;have hl:=G.jL.eY l (aU G.hl);have e1:=Vw hl;have hr:∀a,yK c a a=true:=λa=>by
  unfold yK;split
  .exact acA a
  .exact Vx a
 have hjl:=(bJ.1 G.hl).1;have hgo:Goes L (upTo' k.grid.cells.length) c.family (yK c) j j:=by
  refine⟨l,l,G.hl,G.hl,by rw[e1],by rw[e1];exact hr l,λhb=>?_⟩;have:=G.jL.len hb;rw[wW tf tf]
 have hij:i=j:=by
  have h1:=hgo.jZ G.jL;have h2:=G.goes.jZ G.jL;omega
 subst hij;have hll:l'=l:=by
  have h1:=G.hl';rw[G.hl]at h1;exact(Option.some.inj h1).symm
 subst hll;rw[G.img];unfold UJ Bd;rw[acB G.hc,<- G.at_];by_cases h1:c.type=1
 .rw[if_pos h1,if_pos (by simp[h1])]
 .have:rC (upTo' k.grid.cells.length) l' l'=false:=by
   have h2:=acy (s:=upTo' k.grid.cells.length) (l:=l');rw[e1]at h2;exact h2
  rw[if_neg h1,this,if_neg (show¬(c.type=3/\false=true)from λq=>by cases q.2),if_neg (show¬(decide (c.type=1)=true)by simp[h1])]
def apY{sy:Int->Bool}{t:ae Int}(h:p.Pairwise λa b=>iU a b<0):(ED sy t p).Pairwise λa b=>iU a b<0:=by
 unfold ED;rw[yV];exact h.imp λ{a b} hab=>by rw[AV]at hab⊢;exact hab
def apZ(h:p.Pairwise λa b=>iU a b<0):mV p p:=⟨h,λ_ h=>h,λx hx=>⟨x,hx,by rw[CB];exact⟨rfl,rfl⟩,Cp⟩⟩
def ap0(hK:dz k){t:ae Int}{p:ae Clue}(hk:iQ k (upTo' k.grid.cells.length) t)(hQ:uD k p):p.map (ol k (upTo' k.grid.cells.length) t)=ED (zP k) t p:=yS λg hg=>apX hK hk (hQ.right g hg)
def ap1(hK:dz k){s t:ae Int}{p x:ae Clue}(hs:iQ k s (upTo' k.decl.symbols.length))(ht:iQ k (upTo' k.grid.cells.length) t)(hQ:uD k p)(hx:mV (p.map (ol k s (upTo' k.decl.symbols.length))) x):mV (p.map (ol k s t)) (ED (zP k) t x):=by
 have hQx:=apH hK hs hQ hx;have h1:mV (x.map (ol k (upTo' k.grid.cells.length) t)) (ED (zP k) t x):=by
  rw[ap0 hK ht hQx];exact apZ (apY hx.inc)
 have hxm:=apF hK hs hQ hx;have e1:dA (upTo' k.grid.cells.length) s=s:=Kw hs.pc;have e2:dA t (upTo' k.decl.symbols.length)=t:=abk ht.ps;refine h1.aaW λg=>?_;rw[dM,dM];constructor
 .rintro⟨a,ha,rfl⟩;refine⟨ol k s (upTo' k.decl.symbols.length) a,(hxm _).2 (dM.2 ⟨a,ha,rfl⟩),?_⟩;rw[acz hK hs ht (hQ.right a ha),e1,e2]
 .rintro⟨y,hy,rfl⟩;obtain⟨a,ha,rfl⟩:=dM.1 ((hxm _).1 hy);refine⟨a,ha,?_⟩;rw[acz hK hs ht (hQ.right a ha),e1,e2]
def acC(k:aZ)(cl s:ae Int)(p y:ae Clue):Prop:=∃x,mV (p.map (ol k s (upTo' k.decl.symbols.length))) x/\y=ED (zP k) (ank (zP k) cl x) x
structure Vz(k:aZ)(G:List (List Int))(cl:List Int)(p y:List Clue):Prop where
 mem:∃s∈G,acC k cl s p y
 least:∀s∈G,∀z,acC k cl s p z->¬NT z y<0
def Vz.uniq{G:ae (ae Int)}{cl:ae Int}{y z:ae Clue}(h:Vz k G cl p y)(h2:Vz k G cl p z):y=z:=by
 obtain⟨s,hs,hy⟩:=h.mem;obtain⟨s2,hs2,hz⟩:=h2.mem;exact anl (h2.least s hs y hy) (h.least s2 hs2 z hz)
structure C8(k:aZ)(G:List (List Int))(cl:List Int):Prop where
 CO:CK k.grid.cells.length G
 keep:∀s∈G,iQ k s (upTo' k.decl.symbols.length)
 CJ:EW k cl
section
variable {k:aZ} {G:ae (ae Int)} {cl:ae Int} {p x y:ae Clue} {s t:ae Int}
def C8.img(h:C8 k G cl)(hK:dz k)(hQ:uD k p)(hs:s∈G)(ht:yH k.decl.symbols.length cl t)(hx:mV (p.map (ol k s (upTo' k.decl.symbols.length))) x)(hy:mV (p.map (ol k s t)) y):y=ED (zP k) t x:=
 hy.uniq (ap1 hK (h.keep s hs) ((h.CJ.keeps hK).1 ht) hQ hx)
end
end Go.Proofs.YtignbinlipkmfaaGreatDoor
namespace Go.Proofs.YtignbinlipkmfaaGreatDoor
open Tryz (prog)
open Go.Ideal Kd Canon
structure Hg(k:aZ)(j i:Nat):Prop where
 le:i<=j
 cnd:nO k (i:Int) (j:Int)
 least:∀u:Nat,u<i->¬nO k (u:Int) (j:Int)
variable{k:aZ}
def ap3(hK:dz k):iQ k (upTo' k.grid.cells.length) (upTo' k.decl.symbols.length):=
 (Vy hK).2 ⟨bQ.ident _,λv v0 v1=>by rw[wW v0 v1];exact nO.refl _ _⟩
def ap4(hK:dz k){gy l G:ae (ae Int)}{cl:ae Int}(hgm:∀x∈gy,iQ k x (upTo' k.decl.symbols.length))(hC:oF k.grid.cells.length gy l l.length)(hperm:G.Perm l)(C9:cl.length=k.decl.symbols.length)(hcls:∀u:Nat,u<k.decl.symbols.length->∃i:Nat,cl[u]? =some (i:Int)/\Hg k u i):C8 k G cl where
 CO:=by
  have h:=hC.CO;exact⟨λa ha=>h.perm a (hperm.mem_iff.1 ha),hperm.mem_iff.2 h.one,λa ha b hb=>hperm.mem_iff.2 (h.comp a (hperm.mem_iff.1 ha) b (hperm.mem_iff.1 hb)),λa ha=>hperm.mem_iff.2 (h.inv a (hperm.mem_iff.1 ha))⟩
 keep:=λs hs=>hC.all (P:=λs=>iQ k s (upTo' k.decl.symbols.length)) (ap3 hK) (λg hg q _ hq=>by
  have:=hq.comp hK (hgm g hg)
  rwa [show dA (upTo' k.decl.symbols.length) (upTo' k.decl.symbols.length)=upTo' k.decl.symbols.length from Kw (bQ.ident _)]at this) s (hperm.mem_iff.1 hs)
 CJ:=⟨C9,λj hj=>by
  obtain⟨i,h1,h2⟩:=hcls j hj;exact⟨i,mU h1,h2.le,h2.cnd,h2.least⟩⟩
end Go.Proofs.YtignbinlipkmfaaGreatDoor
namespace Go.Proofs.YtignbinlipkmfaaGreatDoor
open Tryz (prog)
open Go.Ideal Kd Canon
section
variable {P:Program} {B:ae Nat} {w0:Wd} {kl kl':ae OA} {F:ae aM} {K:KO} {ds:ae Tmp} {rest:ae bW} {n:Nat} {l:qr} {D:ae Deferred} {pm:ak FrameMode} {ro:ak Nat} {d:Nat} {g:ak (Tmp×Bool)}
def EX{x:az}{b:Nat}{cs:ae ah}{v:ah}(j:Nat)
 (next:R (λh=>aJ P ds rest (act n ((d,v)::l) D pm ro) h K) B w0 kl F)
 (hx:ev l x=.pointer (some ⟨b,0+j,none⟩):=by rfl) (hk:dO b 0 cs∈F:=by exact ic) (hv:lu cs j=some v:=by rfl) (hn:Nat.blt d n=true:=by rfl) (hg:bV l g=true:=by rfl):
 R (λh=>aJ P ds (⟨⟨some d,g,.fE x⟩,[]⟩::rest) (act n l D pm ro) h K) B w0 kl F:=(NW hn hg hx hk hv).h next
end
def acD{v:ah}{xs:ae Int}(hl:xs.length<=1000000):bG prog (.func 266) [v] [] [] [aj ai v xs] (λv':ah=>v') (λ_=>[]) (λv'=>[aj ai v' (cK xs)]) (λ_=>True):=by
 refine gB 266 λB w0=>?_;refine gC (acg (xs:=xs) hl) λa _=>?_;refine gC (PE (a:=a) (zs:=xs) rfl tf) λ_ _=>?_;refine gZ (gD (E:=ai) (v:=.slice a xs.length xs.length) (xs:=cK xs)) ?_;refine go ?_;exact gQ (.slice a xs.length xs.length) trivial
variable{a b:ae Int}{va vb:ah}
def acE(ha:a.length<=1000000)(hb:b.length<=1000000):dF prog 199 [va,vb] [aj ai va a,aj ai vb b] (.bool (lT a b)):=by
 have hsl:=Cr a;refine gB 199 λB w0=>?_;refine gC (acD (xs:=a) ha) λv1 _=>?_;refine gC (acD (xs:=b) hb) λv2 _=>?_;refine gC (yI (xs:=cK a) (ys:=cK b) tf) λ_ _=>?_;exact fQ
def ap5(ha:a.length<=1000000)(hb:b.length<=1000000):dF prog 200 [va,vb] [aj ai va a,aj ai vb b] (.bool (wY a b)):=by
 have hrl:b.reverse.length=b.length:=WJ;refine gB 200 λB w0=>?_;refine gC (acg (xs:=b) hb) λc _=>?_;refine gC (apt (a:=c) (xs:=b) hb) λ_ _=>?_;refine uy (A:=ap ai (.slice c b.length b.length) b.reverse) (fs:=[aj ai (.slice c b.length b.length) b.reverse]) gD (h:=?_);refine gC (yI (xs:=a) (ys:=b) tf) λ_ _=>?_;refine gH ?_ ?_<;>intro h1
 rotate_left
 .refine aP ?_;rw[GU.2 (.inl h1)];rfl
 refine gC (yI (xs:=a) (ys:=b.reverse) tf) λ_ _=>?_;refine aP ?_;unfold wY;rw[aW h1,Bool.false_or];rfl
abbrev VA(k:aZ)(vh vs vr vc vu gh gc vn vl sc st:ah):ae ah:=[.string k.decl.name,iV k.decl.version,iV k.decl.shape,iV k.decl.w,iV k.decl.h,vh,vs,vr,vc,vu,iV k.grid.shape,iV k.grid.w,iV k.grid.h,gh,gc,vn,vl,sc,st]
abbrev P5(k:aZ)(s t:ae Int)(vs vn vl sc st:ah):ae aM:=[aj ai sc s,aj ai st t,aj fG vs k.decl.symbols,aj (ay ai) vn k.aR,aj (ay (ay ai)) vl k.lists]
variable{w:ae Int}
def KQ{b:Nat}{vw:ah}(hw:w.length<=1000000)(x:ae Int)(hx:x.length<=1000000):EN prog (.func 265) [] [ptr' b] [dO b 0 [vw],aj ai vw w] (λx=>lT x w) x:=by
 intro v;rw[dP];refine gB 265 λB w0=>?_;refine gC (acE (a:=x) (b:=w) hx hw) λ_ _=>?_;exact fQ
abbrev P6(P:Program)(fe:Fn)(eq:ae Int->ae Int->Bool):Prop:=∀(va vb:ah) (a b:ae Int),a.length<=1000000->b.length<=1000000->bG P fe [va,vb] [] [] [aj ai va a,aj ai vb b] (λ_:Unit=>.bool (eq a b)) (λ_=>[]) (λ_=>[]) (λ_=>True)
structure KS(n:Nat)(k:aZ)(s:List Int)(r:bE)(L:List (List Int)):Prop where
 f0:0<=r.family
 hL:k.lists[r.family.toNat]? =some L
 jL:ru n L r.family
 ps:bQ n s
 n0:0<n
 n1:n<=1000000
 len:L.length<=1000000
 lens:∀l∈L,l.length<=1000000
variable{L:ae (ae Int)}{s l:ae Int}{eq:ae Int->ae Int->Bool}{f:Int}{j:Nat}
def Be(hl:L[j]? =some l)(h:qE L s f eq l j=false):kF L s f eq=false:=by
 cases e:kF L s f eq with
 |false=>rfl
 |true=>
  unfold kF at e;rw[uE]at e;have:=e j l hl;dsimp only at this;rw[h]at this;cases this
def Bf{i:Int}(hi:jZ L s f (j:Int)=i)(h:qE L s f eq l j=true):0<=i/\lT (L.getD i.toNat []) (img s l)=true/\eq (L.getD i.toNat []) (img s l)=true:=by
 unfold qE at h;rw[hi,eU,eU,qL]at h;exact h
def P7{m:Nat}{l':ae Int}(hi:jZ L s f (j:Int)=(m:Int))(hl':L[m]? =some l')(h1:lT l' (img s l)=true)(h2:eq l' (img s l)=true):qE L s f eq l j=true:=by
 unfold qE;rw[hi,jJ,iR hl',h1,h2];simp
def ap6(h:0<=wX L w):(wX L w).toNat<L.length:=by
 obtain⟨l,h1,_⟩:=UD h;exact(bJ.1 h1).1
def VB{n:Nat}{k:aZ}{t:ae Int}{r:bE}{fe:Fn}{vh vs vr vc vu gh gc vn vl sc st v1 v2:ah}(H:KS n k s r L)(he:P6 prog fe eq):
 fC prog 198 [.agg ⟨VA k vh vs vr vc vu gh gc vn vl sc st⟩,.agg ⟨mg r v1 v2⟩,.func fe ⟨[]⟩ ⟨[]⟩] (P5 k s t vs vn vl sc st) (λ_:Unit=>.bool (kF L s r.family eq)) (λ_=>True):=by
 have hsl:=H.ps.len;have hn0:=H.n0;have hn1:=H.n1;have hll:=H.len;have Hl:=H.lens;obtain⟨rn,ro,rk,rf,dI,dJ,ap7,ap8,ja,jc,jd,je⟩:=r;have hf0:0<=rf:=H.f0;obtain⟨f,rfl⟩:=jK hf0;have KT:k.lists[f]? =some L:=by have:=H.hL;rwa [jJ]at this
 refine gB 198 λB w0=>?_;refine gF ai sc s λasc csc esc=>?_;subst esc;refine go ?_;intro b3 b4;refine gP b3 ?_;refine gP b4 ?_;have hfl:=(bJ.1 KT).1;refine gX (ay (ay ai)) (xs:=k.lists) λ_ _ L2 (vL:ah) hL2=>?_;rw[KT]at hL2;obtain rfl:L=L2:=Option.some.inj hL2;refine gF (ay ai) vL L λaL cL eL=>?_;subst eL;generalize hrf:(f:Int)=rf at *;refine gN L.length 24 (λj=>j<=L.length/\∀i',i'<j->∀x,L[i']? =some x->qE L s rf eq x i'=true) ⟨bH _,λi' h=>absurd h (Dx _)⟩ ?_;rintro j ⟨hj,hall⟩;refine aC ?_ ?_<;>intro h1
 .refine gX (ay ai) (xs:=L) λ_ _ l (P8:ah) hl=>?_;have hlm:=aU hl;have hlr:=H.jL.eY l hlm;have hlen:=Hl l hlm;have hil:(img s l).length=l.length:=UB s l;refine gF ai P8 l λal cl el=>?_;subst el;refine go ?_;refine ym l.length ⟨tf,tf,tf⟩ λbw=>?_;rw[Hf];refine go ?_;intro b10;refine go ?_;refine di (λi:Nat=>l.length - i) (λi=>[(34,iV (i:Int))]) (λi=>[pt bw (.cells ((iP (img s (l.take i)) l.length).map iV)),pt b10 (.cells [.slice (some ⟨bw,0,some 0⟩) l.length l.length])]) (λ_=>[]) (λi=>i<=l.length) 0 (bH _) (hk:=tj) (body:=?_);intro i hi;have hcl:(img s (l.take i)).length=i:=by rw[UB,gM];omega
  refine aC ?_ ?_<;>intro h2
  .refine go ?_;intro _ _ x hx;have qF:=hlr x (aU hx);obtain⟨m,rfl⟩:=jK qF.1;refine go ?_;refine EX 17 ?_;refine go ?_;intro _ _ z hz;have hzg:=mU hz;have htk:img s (l.take (i+1))=img s (l.take i)++[z]:=by
    unfold img;rw[bU hx,ek,ww,hzg]
   refine go ?_;refine l9 (b:=bw) (o:=0+i*1) (cs:=(iP (img s (l.take i)) l.length).map iV) (v:=iV z) (cs':=(iP (img s (l.take (i+1))) l.length).map iV) DQ DH ?_;refine go ?_;exact aO (i+1) C2 tI
  have hie:i=l.length:=tf
  subst hie;rw[bP]at hcl⊢;rw[ET hcl];refine uy (A:=pt bw (.cells ((img s l).map iV))) (fs:=[aj ai (.slice (some ⟨bw,0,some 0⟩) l.length l.length) (img s l)]) (by have:=zm (b:=bw) (f:=0) (c:=l.length) (xs:=img s l) (hc:=by rw[hil];exact bI _);rw[hil]at this;exact this) (h:=?_);refine gP b10 ?_;refine go ?_;refine EX 17 ?_;refine go ?_;intro _ _ z0 hz0;refine aC ?_ ?_<;>intro c0
  .refine aC (λ_=>?_) (λh=>absurd c0 h);dsimp only at c0;have hjs:j<s.length:=by
    have:=H.jL.len AT;omega
   refine go ?_;refine EX 17 ?_;refine go ?_;intro _ _ i hi;have hig:=mU hi;have mW:jZ L s rf (j:Int)=i:=by unfold jZ;rw[if_pos AT];exact hig
   have hi0:0<=i:=(H.ps.eY i (aU hi)).1;have Ho:i<(L.length:Int):=by
    have h1:=(H.ps.eY i (aU hi)).2;have h2:=H.jL.len AT;omega
   exact be
  refine aC ?_ ?_<;>intro c4
  .refine aC (λ_=>?_) (λh=>absurd c4 h);dsimp only at c4;have hjs:j<s.length:=by
    have:=H.jL.len AW;omega
   refine go ?_;refine EX 17 ?_;refine go ?_;intro _ _ i hi;have hig:=mU hi;have mW:jZ L s rf (j:Int)=i:=by unfold jZ;rw[if_pos AW];exact hig
   have hi0:0<=i:=(H.ps.eY i (aU hi)).1;have Ho:i<(L.length:Int):=by
    have h1:=(H.ps.eY i (aU hi)).2;have h2:=H.jL.len AW;omega
   exact be
  refine aC ?_ ?_<;>intro c5
  .dsimp only at c5;have hjs:j<s.length:=by
    have:=H.jL.len A0;omega
   refine go ?_;refine EX 17 ?_;refine go ?_;intro _ _ i hi;have hig:=mU hi;have mW:jZ L s rf (j:Int)=i:=by unfold jZ;rw[if_pos A0];exact hig
   have hi0:0<=i:=(H.ps.eY i (aU hi)).1;have Ho:i<(L.length:Int):=by
    have h1:=(H.ps.eY i (aU hi)).2;have h2:=H.jL.len A0;omega
   exact be
  dsimp only at c0 c4 c5;refine gC (apu (fn:=.func 265) (first:=[]) (cap:=[ptr' b10]) (F1:=[dO b10 0 [.slice (some ⟨bw,0,some 0⟩) l.length l.length],aj ai (.slice (some ⟨bw,0,some 0⟩) l.length l.length) (img s l)]) (p:=λx=>lT x (img s l)) (va:=.slice aL L.length cL) (xs:=L) tf (λx hx=>KQ (by rw[hil];omega) x (Hl x hx))) λ_ _=>?_;have mW:jZ L s rf (j:Int)=tu (λx=>lT x (img s l)) L:=by
   unfold jZ;rw[if_neg (by unfold oD;simp[c0,c4,c5]),jJ,iR hl];exact(acj L (img s l)).symm
  have hlt:0<=tu (λx=>lT x (img s l)) L->tu (λx=>lT x (img s l)) L<(L.length:Int):=λh=>by
   have:=ap6 (L:=L) (w:=img s l) h;have e:tu (λx=>lT x (img s l)) L=wX L (img s l):=acj L (img s l);omega
  generalize tu (λx=>lT x (img s l)) L=i at mW hlt⊢;by_cases hi0:0<=i
  .have Ho:=hlt hi0;exact be
  .refine gH ?_ ?_<;>intro hneg
   .exact absurd hneg tf
   refine aP ?_;rw[Be hl (by
    cases e:qE L s rf eq l j with
    |false=>rfl
    |true=>exact absurd (Bf mW e).1 hi0)];rfl
 have j5:j=L.length:=tf
 subst j5;refine aP ?_;have:kF L s rf eq=true:=by
  unfold kF;rw[uE];exact λi x hx=>hall i (bJ.1 hx).1 x hx
 rw[this];rfl
abbrev EY(P:Program)(fn:Fn)(k:aZ)(s t:ae Int)(r:bE)(vh vs vr vc vu gh gc vn vl sc st v1 v2:ah)(c:Bool):Prop:=
 bG P fn [.agg ⟨VA k vh vs vr vc vu gh gc vn vl sc st⟩,.agg ⟨mg r v1 v2⟩] [] [] (P5 k s t vs vn vl sc st) (λ_:Unit=>.bool c) (λ_=>[]) (λ_=>[]) (λ_=>True)
section
variable {n:Nat} {k:aZ} {s t:ae Int} {r:bE} {L:ae (ae Int)} {vh vs vr vc vu gh gc vn vl sc st v1 v2:ah}
def aqb(H:KS n k s r L):EY prog (.func 117) k s t r vh vs vr vc vu gh gc vn vl sc st v1 v2 (kF L s r.family lT):=by
 have he:P6 prog (.func 199) lT:=λva vb a b ha hb=>acE ha hb;refine gB 117 λB w0=>?_;refine go ?_;intro b2 b3;refine gC (VB (t:=t) (eq:=lT) (sc:=sc) (st:=st) (v1:=v1) (v2:=v2) H he) λ_ _=>?_;exact fQ
def aqc(H:KS n k s r L):EY prog (.func 119) k s t r vh vs vr vc vu gh gc vn vl sc st v1 v2 (kF L s r.family zG):=by
 have he:P6 prog (.func 48) zG:=λva vb a b ha hb=>yI tf;refine gB 119 λB w0=>?_;refine go ?_;intro b2 b3;refine gC (VB (t:=t) (eq:=zG) (sc:=sc) (st:=st) (v1:=v1) (v2:=v2) H he) λ_ _=>?_;exact fQ
def aqd(H:KS n k s r L):EY prog (.func 120) k s t r vh vs vr vc vu gh gc vn vl sc st v1 v2 (kF L s r.family wY):=by
 have he:P6 prog (.func 200) wY:=λva vb a b ha hb=>ap5 ha hb;refine gB 120 λB w0=>?_;refine go ?_;intro b2 b3;refine gC (VB (t:=t) (eq:=wY) (sc:=sc) (st:=st) (v1:=v1) (v2:=v2) H he) λ_ _=>?_;exact fQ
end
end Go.Proofs.YtignbinlipkmfaaGreatDoor
namespace Go.Proofs.YtignbinlipkmfaaGreatDoor
open Tryz (prog)
open Go.Ideal Kd Canon
variable{k:aZ}
def acF{i:Nat}{x:oz}(h:k.decl.symbols[i]? =some x):aV (oL k) (i:Int)=x.value:=by
 apply mU;unfold oL;rw[dZ,h];rfl
section
variable {m:Nat} {k:aZ} {s t:ae Int} {r:bE} {vh vs vr vc vu gh gc vn vl sc st v1 v2:ah}
def aqe(hm:k.decl.symbols.length=m)(ht:bQ m t)(hl:m<=4096):EY prog (.func 118) k s t r vh vs vr vc vu gh gc vn vl sc st v1 v2 (pG (oL k) t):=by
 have htl:=ht.len;refine gB 118 λB w0=>?_;refine gF ai st t λvz ct et=>?_;subst et;refine gF fG vs k.decl.symbols λrz cs1 es1=>?_;subst es1;refine go ?_;intro b2 b3;refine gP b2 ?_;refine gN t.length 11 (λj=>j<=t.length/\∀i',i'<j->∀x,t[i']? =some x->aV (oL k) (i':Int)=aV (oL k) x) ⟨bH _,λi' h=>absurd h (Dx _)⟩ ?_;rintro j ⟨hj,hall⟩;refine aC ?_ ?_<;>intro h1
 .refine go ?_;intro _ _ x hx;have qF:=ht.eY x (aU hx);obtain⟨i,rfl⟩:=jK qF.1;refine gX fG (xs:=k.decl.symbols) (k:=j) λ_ _ y (_:Unit) hy=>?_;have e1:=acF hy;refine gX fG (xs:=k.decl.symbols) (k:=i) λ_ _ z (_:Unit) hz=>?_;have e2:=acF hz;refine aC ?_ ?_<;>intro h2
  .refine aP ?_;have:pG (oL k) t=false:=by
    cases e:pG (oL k) t with
    |false=>rfl
    |true=>
     unfold pG at e;rw[uE]at e;have:=iN (e j _ hx);dsimp only at this;rw[e1,e2]at this;exact absurd this h2
   rw[this];rfl
  refine go ?_;refine aO (j+1) tf ⟨tf,λi' hi' x hx'=>?_⟩;by_cases e:i'=j
  .subst e;rw[hx]at hx';cases hx';rw[e1,e2];exact iX.1 h2
  .exact hall i' tf x hx'
 have j5:j=t.length:=tf
 subst j5;refine aP ?_;have:pG (oL k) t=true:=by
  unfold pG;rw[uE];exact λi x hx=>dQ (hall i (bJ.1 hx).1 x hx)
 rw[this];rfl
def P9(set i:Nat):set>>>i&&&1=(set.testBit i).toNat:=by
 rw[Nat.and_one_is_mod,QX,Nat.toNat_testBit]
def Qa{a b:Bool}:((a.toNat:Nat):Int)=((b.toNat:Nat):Int)↔a=b:=by cases a<;>cases b<;>decide
def aqf{set other:Nat}(hs:r.set=(set:Int)/\set<2^63)(ho:r.other=(other:Int)/\other<2^63)(ht:bQ m t)(hl:m<=60):EY prog (.func 75) k s t r vh vs vr vc vu gh gc vn vl sc st v1 v2 (rP set other t):=by
 have htl:=ht.len;obtain⟨hs1,hs2⟩:=hs;obtain⟨ho1,ho2⟩:=ho;obtain⟨rn,ro,rk,rf,dI,dJ,ap7,ap8,ja,jc,jd,je⟩:=r;dsimp only at hs1 ho1;subst hs1 ho1;refine gB 75 λB w0=>?_;refine gF ai st t λvz ct et=>?_;subst et;refine go ?_;intro b2 b3;refine gP b2 ?_;refine gP b3 ?_;refine gN t.length 11 (λj=>j<=t.length/\∀i',i'<j->∀x,t[i']? =some x->set.testBit i'=set.testBit x.toNat/\other.testBit i'=other.testBit x.toNat) ⟨bH _,λi' h=>absurd h (Dx _)⟩ ?_;rintro j ⟨hj,hall⟩;refine aC ?_ ?_<;>intro h1
 .refine go ?_;intro _ _ x hx;have qF:=ht.eY x (aU hx);obtain⟨i,rfl⟩:=jK qF.1;have hno:¬(set.testBit j=set.testBit i/\other.testBit j=other.testBit i)->rP set other t=false:=λh=>by
   cases e:rP set other t with
   |false=>rfl
   |true=>
    unfold rP at e;rw[uE]at e;have:=e j _ hx;dsimp only at this;rw[jJ,eU,qL,qL]at this;exact absurd this h
  refine go ?_;refine(cZ rfl rfl (Ob (a:=set) (b:=j) rfl rfl tf)).h ?_;refine(cZ rfl rfl (Od (a:=set>>>j) (b:=1) rfl rfl (QY (WL _ _) hs2) tf)).h ?_;rw[P9 set j];refine go ?_;refine(cZ rfl rfl (Ob (a:=set) (b:=i) rfl rfl tf)).h ?_;refine(cZ rfl rfl (Od (a:=set>>>i) (b:=1) rfl rfl (QY (WL _ _) hs2) tf)).h ?_;rw[P9 set i];refine gH ?_ ?_<;>intro h2
  rotate_left
  .refine aP ?_;rw[hno (λq=>h2 (Qa.2 q.1))];rfl
  have h2:=Qa.1 (iX.1 h2);refine go ?_;refine(cZ rfl rfl (Ob (a:=other) (b:=j) rfl rfl tf)).h ?_;refine(cZ rfl rfl (Od (a:=other>>>j) (b:=1) rfl rfl (QY (WL _ _) ho2) tf)).h ?_;rw[P9 other j];refine go ?_;refine(cZ rfl rfl (Ob (a:=other) (b:=i) rfl rfl tf)).h ?_;refine(cZ rfl rfl (Od (a:=other>>>i) (b:=1) rfl rfl (QY (WL _ _) ho2) tf)).h ?_;rw[P9 other i];refine aC ?_ ?_<;>intro h3
  .refine aP ?_;rw[hno (λq=>h3 (Qa.2 q.2))];rfl
  have h3:=Qa.1 (iX.1 h3);refine go ?_;refine aO (j+1) tf ⟨tf,λi' hi' x hx'=>?_⟩;by_cases e:i'=j
  .subst e;rw[hx]at hx';cases hx';rw[jJ];exact⟨h2,h3⟩
  .exact hall i' tf x hx'
 have j5:j=t.length:=tf
 subst j5;refine aP ?_;have:rP set other t=true:=by
  unfold rP;rw[uE];intro i x hx;have:=hall i (bJ.1 hx).1 x hx;dsimp only;rw[this.1,this.2];simp
 rw[this];rfl
def aqg{n:Nat}(hN:wZ n k.aR)(hs:bQ n s)(hl:n<=1000000)(hll:∀l∈k.aR,l.length<=1000000):EY prog (.func 121) k s t r vh vs vr vc vu gh gc vn vl sc st v1 v2 (nZ k.aR s):=by
 have hsl:=hs.len;have hnl:=hN.1;refine gB 121 λB w0=>?_;refine gF ai sc s λasc csc esc=>?_;subst esc;refine gF (ay ai) vn k.aR λan cn en=>?_;subst en;refine go ?_;intro b2 b3;refine gP b2 ?_;refine gN k.aR.length 13 (λj=>j<=k.aR.length/\∀i',i'<j->∀l,k.aR[i']? =some l->∀b∈l,aV s b∈k.aR.getD (aV s (i':Int)).toNat []) ⟨bH _,λi' h=>absurd h (Dx _)⟩ ?_;rintro j ⟨hj,hall⟩;refine aC ?_ ?_<;>intro h1
 .refine gX (ay ai) (xs:=k.aR) λ_ _ l (P8:ah) hl2=>?_;have hlm:=aU hl2;have hlr:=hN.2 l hlm;have hlen:=hll l hlm;refine gF ai P8 l λal cl el=>?_;subst el;refine gN l.length 20 (λi=>i<=l.length/\∀b∈l.take i,aV s b∈k.aR.getD (aV s (j:Int)).toNat []) ⟨bH _,tg⟩ ?_;rintro i ⟨hi,VC⟩;refine aC ?_ ?_<;>intro h2
  .refine go ?_;intro _ _ b hb;have hbr:=hlr b (aU hb);obtain⟨bn,rfl⟩:=jK hbr.1;refine go ?_;refine EX 17 ?_;refine go ?_;intro _ _ u hu;have hug:=mU hu;have hur:=hs.eY u (aU hu);obtain⟨un,rfl⟩:=jK hur.1;refine gX (ay ai) (xs:=k.aR) (k:=un) λ_ _ l2 (vl3:ah) hl3=>?_;have awU:=hll l2 (aU hl3);refine go ?_;refine EX 17 ?_;refine go ?_;intro _ _ z hz;have hzg:=mU hz;refine gC (anz (xs:=l2) (z:=z) tf) λ_ _=>?_;have hd:k.aR.getD (aV s (j:Int)).toNat []=l2:=by rw[hug,jJ];exact iR hl3
   refine go ?_;refine fP rfl (λh3=>?_) (λh3=>?_)
   .refine aP ?_;have:nZ k.aR s=false:=by
     cases e:nZ k.aR s with
     |false=>rfl
     |true=>
      unfold nZ at e;rw[uE]at e;have:=e j l hl2;rw[jN]at this;have:=iN (this _ (aU hb));dsimp only at this;rw[hd,hzg]at this;exact absurd this h3
    rw[this];rfl
   refine go ?_;refine aO (i+1) C2 ⟨tf,λb hb'=>?_⟩;rw[bU hb]at hb';rcases eP.1 hb' with hb'|hb'
   .exact VC b hb'
   .rw[bS.1 hb',hd,hzg];exact h3
  have hie:i=l.length:=tf
  subst hie;rw[bP]at VC;refine go ?_;refine aO (j+1) (by show k.aR.length - (j+1)<k.aR.length - j;omega) ⟨tf,λi' hi' l' hl'=>?_⟩;by_cases e:i'=j
  .subst e;rw[hl2]at hl';cases hl';exact VC
  .exact hall i' tf l' hl'
 have j5:j=k.aR.length:=tf
 subst j5;refine aP ?_;have:nZ k.aR s=true:=by
  unfold nZ;rw[uE];intro i l hl';rw[jN];exact λb hb=>dQ (hall i (bJ.1 hl').1 l hl' b hb)
 rw[this];rfl
end
abbrev fv(f:fI):ah:=.func (.func f) ⟨[]⟩ ⟨[]⟩
structure Qb where
 b1:Nat
 b2:Nat
 b3:Nat
 b4:Nat
 b5:Nat
 b6:Nat
 b7:Nat
 b8:Nat
 b9:Nat
 b10:Nat
abbrev VD(y:Qb):ae ah:=[.slice none 0 0,.slice (some ⟨y.b1,0,some 0⟩) 1 1,.slice (some ⟨y.b2,0,some 0⟩) 1 1,.slice (some ⟨y.b3,0,some 0⟩) 2 2,.slice (some ⟨y.b4,0,some 0⟩) 2 2,.slice (some ⟨y.b5,0,some 0⟩) 1 1,.slice (some ⟨y.b6,0,some 0⟩) 1 1,.slice (some ⟨y.b7,0,some 0⟩) 2 2,.slice (some ⟨y.b8,0,some 0⟩) 1 1,.slice (some ⟨y.b9,0,some 0⟩) 1 1,.slice (some ⟨y.b10,0,some 0⟩) 1 1,.slice none 0 0]
abbrev zQ(y:Qb):ae aM:=[dO y.b1 0 [fv 117],dO y.b2 0 [fv 117],dO y.b3 0 [fv 117,fv 118],dO y.b4 0 [fv 119,fv 118],dO y.b5 0 [fv 120],dO y.b6 0 [fv 121],dO y.b7 0 [fv 121,fv 118],dO y.b8 0 [fv 121],dO y.b9 0 [fv 121],dO y.b10 0 [fv 121]]
def aqj:bG prog (.func 73) [] [] [] [] (λy:Qb=>.agg ⟨VD y⟩) (λ_=>[]) (λy=>zQ y) (λ_=>True):=by
 refine gB 73 λB w0=>?_;refine go ?_;intro b0 b1 b2 b3 b4 b5 b6 b7 b8 b9 b10;refine go ?_;refine gP b1 ?_;refine gP b2 ?_;refine gP b3 ?_;refine gP b4 ?_;refine gP b5 ?_;refine gP b6 ?_;refine gP b7 ?_;refine gP b8 ?_;refine gP b9 ?_;refine gP b10 ?_;exact gQ ⟨b1,b2,b3,b4,b5,b6,b7,b8,b9,b10⟩ trivial
section
variable {k:aZ} {s t:ae Int} {r:bE} {vh vs vr vc vu gh gc vn vl sc st v1 v2:ah} {bc br:Nat}
abbrev yO(k:aZ)(s t:ae Int)(r:bE)(vh vs vr vc vu gh gc vn vl sc st v1 v2:ah)(bc br:Nat):ae aM:=dO bc 0 (VA k vh vs vr vc vu gh gc vn vl sc st)::dO br 0 (mg r v1 v2)::P5 k s t vs vn vl sc st
def KU{f:fI}{c:Bool}(h:EY prog (.func f) k s t r vh vs vr vc vu gh gc vn vl sc st v1 v2 c):bG prog (.func 74) [fv f] [ptr' bc,ptr' br] [] (yO k s t r vh vs vr vc vu gh gc vn vl sc st v1 v2 bc br) (λ_:Unit=>.bool (!c)) (λ_=>[]) (λ_=>[]) (λ_=>True):=by
 refine gB 74 λB w0=>?_;refine gC h λ_ _=>?_;exact fQ
variable{fn:Fn}{first cap fs:ae ah}{F1:ae aM}{b:Nat}{p:Nat->Bool}
def aqk(hl:fs.length<=100)(hp:∀i f,fs[i]? =some f->bG prog fn (first++[f]) cap [] F1 (λ_:Unit=>.bool (p i)) (λ_=>[]) (λ_=>[]) (λ_=>True)):
 fC prog 122 [.slice (some ⟨b,0,some 0⟩) fs.length fs.length,.func fn ⟨first⟩ ⟨cap⟩] (dO b 0 fs::F1) (λx:Int=>iV x) (λx=>0<=x↔∃i,i<fs.length/\p i=true):=by
 refine gB 122 λB w0=>?_;refine gN fs.length 8 (λj=>j<=fs.length/\∀i,i<j->p i=false) ⟨bH _,λi h=>absurd h (Dx _)⟩ ?_;rintro j ⟨hj,hall⟩;refine aC ?_ ?_<;>intro h1
 .have hf:fs[j]? =some fs[j]:=bY tf;generalize fs[j]=f at hf;refine go ?_;refine(NW (b:=b) (o:=0) (j:=j*1) (cs:=fs) (v:=f) rfl rfl rfl (fF ..) (by rw[uo,pY];exact hf)).h ?_;refine gC (hp j f hf) λ_ _=>?_;refine go ?_;refine kX rfl (λh2=>?_) (λh2=>?_)
  .refine go ?_;exact gQ (j:Int) ⟨λ_=>⟨j,tf,h2⟩,λ_=>by omega⟩
  refine go ?_;refine aO (j+1) tf ⟨tf,λi hi=>?_⟩;by_cases e:i=j
  .subst e;exact h2
  .exact hall i tf
 refine go ?_;exact gQ (-1) ⟨λh=>by omega,λ⟨i,hi,h⟩=>by rw[hall i tf]at h;cases h⟩
def acG(hl:fs.length<=100)(hp:∀i f,fs[i]? =some f->bG prog fn (first++[f]) cap [] F1 (λ_:Unit=>.bool (p i)) (λ_=>[]) (λ_=>[]) (λ_=>True)):
 fC prog 76 [.slice (some ⟨b,0,some 0⟩) fs.length fs.length,.func fn ⟨first⟩ ⟨cap⟩] (dO b 0 fs::F1) (λc:Bool=>.bool c) (λc=>c=true↔∃i,i<fs.length/\p i=true):=by
 refine gB 76 λB w0=>?_;refine gC (aqk (b:=b) hl hp) λx hx=>?_;refine go ?_;refine gQ (decide (0<=x)) ?_;rw[qL];exact hx
def aql:fC prog 76 [.slice none 0 0,.func fn ⟨first⟩ ⟨cap⟩] F1 (λc:Bool=>.bool c) (λc=>c=false):=by
 have h0:fC prog 122 [.slice none 0 0,.func fn ⟨first⟩ ⟨cap⟩] F1 (λ_:Unit=>iV (-1)) (λ_=>True):=by
  refine gB 122 λB w0=>?_;refine go ?_;refine qX ?_;exact fQ
 refine gB 76 λB w0=>?_;refine gC h0 λ_ _=>?_;refine go ?_;exact gQ false rfl
structure acH(k:aZ)(s t:List Int)(r:bE):Prop where
 ps:bQ k.grid.cells.length s
 pt:bQ k.decl.symbols.length t
 n1:k.grid.cells.length<=256
 m1:k.decl.symbols.length<=16
 aR:wZ k.grid.cells.length k.aR
 nbl:∀l∈k.aR,l.length<=1000000
 kind:1<=r.kind/\r.kind<=11
 VE:KS k.grid.cells.length k s r (k.lists.getD r.family.toNat [])
 st:r.set=((r.set.toNat:Nat):Int)/\r.set.toNat<2^63
 ot:r.other=((r.other.toNat:Nat):Int)/\r.other.toNat<2^63
def acI(H:acH k s t r)(y:Qb):∃v,(VD y)[r.kind.toNat]? =some v/\fC prog 76 [v,.func (.func 74) ⟨[]⟩ ⟨[ptr' bc,ptr' br]⟩] (zQ y++yO k s t r vh vs vr vc vu gh gc vn vl sc st v1 v2 bc br) (λc:Bool=>.bool c) (λc=>c=true↔mD k s t r=false):=by
 have hF:=KU (bc:=bc) (br:=br) (aqb (t:=t) (vh:=vh) (vs:=vs) (vr:=vr) (vc:=vc) (vu:=vu) (gh:=gh) (gc:=gc) (vn:=vn) (vl:=vl) (sc:=sc) (st:=st) (v1:=v1) (v2:=v2) H.VE);have hO:=KU (bc:=bc) (br:=br) (aqc (t:=t) (vh:=vh) (vs:=vs) (vr:=vr) (vc:=vc) (vu:=vu) (gh:=gh) (gc:=gc) (vn:=vn) (vl:=vl) (sc:=sc) (st:=st) (v1:=v1) (v2:=v2) H.VE);have hL:=KU (bc:=bc) (br:=br) (aqd (t:=t) (vh:=vh) (vs:=vs) (vr:=vr) (vc:=vc) (vu:=vu) (gh:=gh) (gc:=gc) (vn:=vn) (vl:=vl) (sc:=sc) (st:=st) (v1:=v1) (v2:=v2) H.VE);have hV:=KU (bc:=bc) (br:=br) (aqe (s:=s) (r:=r) (vh:=vh) (vs:=vs) (vr:=vr) (vc:=vc) (vu:=vu) (gh:=gh) (gc:=gc) (vn:=vn) (vl:=vl) (sc:=sc) (st:=st) (v1:=v1) (v2:=v2) rfl H.pt (by have:=H.m1;omega));have hB:=KU (bc:=bc) (br:=br) (aqg (t:=t) (r:=r) (vh:=vh) (vs:=vs) (vr:=vr) (vc:=vc) (vu:=vu) (gh:=gh) (gc:=gc) (vn:=vn) (vl:=vl) (sc:=sc) (st:=st) (v1:=v1) (v2:=v2) H.aR H.ps (by have:=H.n1;omega) H.nbl);have one:∀(b:Nat) (f:fI) (c:Bool),bG prog (.func 74) [fv f] [ptr' bc,ptr' br] [] (yO k s t r vh vs vr vc vu gh gc vn vl sc st v1 v2 bc br) (λ_:Unit=>.bool (!c)) (λ_=>[]) (λ_=>[]) (λ_=>True)->dO b 0 [fv f]∈zQ y->mD k s t r=c->
  fC prog 76 [.slice (some ⟨b,0,some 0⟩) 1 1,.func (.func 74) ⟨[]⟩ ⟨[ptr' bc,ptr' br]⟩] (zQ y++yO k s t r vh vs vr vc vu gh gc vn vl sc st v1 v2 bc br) (λc:Bool=>.bool c) (λc=>c=true↔mD k s t r=false):=λb f c h hm hc=>by
  have h1:=acG (b:=b) (fs:=[fv f]) (p:=λ_=>!c) (fn:=.func 74) (first:=[]) (cap:=[ptr' bc,ptr' br]) tg (λi g hg=>by
   match i,hg with
   |0,hg=>cases hg;exact h
   |i+1,hg=>simp at hg)
  refine((h1.facts (F2:=zQ y++yO k s t r vh vs vr vc vu gh gc vn vl sc st v1 v2 bc br) (λf hf=>?_))).weak λc' hc'=>?_
  .exact rS
  .rw[hc',hc];constructor
   .rintro⟨_,_,e⟩;simpa using e
   .intro e;exact⟨0,tg,by rw[e];rfl⟩
 have two:∀(b:Nat) (f g:fI) (c d:Bool),bG prog (.func 74) [fv f] [ptr' bc,ptr' br] [] (yO k s t r vh vs vr vc vu gh gc vn vl sc st v1 v2 bc br) (λ_:Unit=>.bool (!c)) (λ_=>[]) (λ_=>[]) (λ_=>True)->bG prog (.func 74) [fv g] [ptr' bc,ptr' br] [] (yO k s t r vh vs vr vc vu gh gc vn vl sc st v1 v2 bc br) (λ_:Unit=>.bool (!d)) (λ_=>[]) (λ_=>[]) (λ_=>True)->dO b 0 [fv f,fv g]∈zQ y->mD k s t r=(c&&d)->
  fC prog 76 [.slice (some ⟨b,0,some 0⟩) 2 2,.func (.func 74) ⟨[]⟩ ⟨[ptr' bc,ptr' br]⟩] (zQ y++yO k s t r vh vs vr vc vu gh gc vn vl sc st v1 v2 bc br) (λc:Bool=>.bool c) (λc=>c=true↔mD k s t r=false):=λb f g c d h h2 hm hc=>by
  have h1:=acG (b:=b) (fs:=[fv f,fv g]) (p:=λi=>if i=0 then !c else !d) (fn:=.func 74) (first:=[]) (cap:=[ptr' bc,ptr' br]) tg (λi g hg=>by
   match i,hg with
   |0,hg=>cases hg;exact h
   |1,hg=>cases hg;exact h2
   |i+2,hg=>simp at hg)
  refine((h1.facts (F2:=zQ y++yO k s t r vh vs vr vc vu gh gc vn vl sc st v1 v2 bc br) (λf hf=>?_))).weak λc' hc'=>?_
  .exact rS
  .rw[hc',hc];constructor
   .rintro⟨i,hi,e⟩;by_cases e0:i=0
    .rw[if_pos e0]at e;cases c<;>simp_all
    .rw[if_neg e0]at e;cases d<;>simp_all
   .intro e;cases hcc:c with
    |false=>exact⟨0,tg,rfl⟩
    |true=>
     rw[hcc,Bool.true_and]at e;exact⟨1,tg,by rw[e];rfl⟩
 have hk:=H.kind;obtain⟨kn,hkn⟩:=jK (by omega:0<=r.kind);have Vp:kn=1\/kn=2\/kn=3\/kn=4\/kn=5\/kn=6\/kn=7\/kn=8\/kn=9\/kn=10\/kn=11:=tf
 rcases Vp with rfl|rfl|rfl|rfl|rfl|rfl|rfl|rfl|rfl|rfl|rfl
 .exact⟨_,by rw[hkn];rfl,one y.b1 _ _ hF tg (by unfold mD;rw[if_pos (.inl hkn)])⟩
 .exact⟨_,by rw[hkn];rfl,one y.b2 _ _ hF tg (by unfold mD;rw[if_pos (.inr hkn)])⟩
 .exact⟨_,by rw[hkn];rfl,two y.b3 _ _ _ _ hF hV tg (by unfold mD;rw[if_neg tf,if_pos tf])⟩
 .exact⟨_,by rw[hkn];rfl,two y.b4 _ _ _ _ hO hV tg (by unfold mD;rw[if_neg tf,if_neg tf,if_pos tf])⟩
 .exact⟨_,by rw[hkn];rfl,one y.b5 _ _ hL tg (by unfold mD;rw[if_neg tf,if_neg tf,if_neg tf,if_pos tf])⟩
 .exact⟨_,by rw[hkn];rfl,one y.b6 _ _ hB tg DO⟩
 .exact⟨_,by rw[hkn];rfl,two y.b7 _ _ _ _ hB hV tg (by unfold mD;rw[if_neg tf,if_neg tf,if_neg tf,if_neg tf,if_pos tf])⟩
 .exact⟨_,by rw[hkn];rfl,one y.b8 _ _ hB tg DO⟩
 .exact⟨_,by rw[hkn];rfl,one y.b9 _ _ hB tg DO⟩
 .exact⟨_,by rw[hkn];rfl,one y.b10 _ _ hB tg DO⟩
 .refine⟨.slice none 0 0,by rw[hkn];rfl,?_⟩;refine(aql (F1:=zQ y++yO k s t r vh vs vr vc vu gh gc vn vl sc st v1 v2 bc br)).weak λc' hc'=>?_;have:mD k s t r=true:=by unfold mD;rw[if_neg tf,if_neg tf,if_neg tf,if_neg tf,if_neg tf,if_neg tf]
  rw[hc',this];simp
end
def dz.set(h:dz k){r:bE}(hr:r∈k.decl.rules):(r.set=((r.set.toNat:Nat):Int)/\r.set.toNat<2^63)/\(r.other=((r.other.toNat:Nat):Int)/\r.other.toNat<2^63):=by
 obtain⟨q,hq,hre⟩:=h.pE hr;have hro:=h.b.rs.pE q hq;have hsl:=h.typ.lim.s1;have acJ:r.set=((gY (bX k.decl) q.names:Nat):Int):=zc
 have acK:r.other=((gY (bX k.decl) q.others:Nat):Int):=zc
 have hsn:(bX k.decl).length<=16:=by unfold bX;rw[bC];exact hsl
 have hl1:=ace hsn q.names hro.names;have hl2:=ace hsn q.others hro.others;refine⟨⟨by rw[acJ];omega,by rw[acJ];omega⟩,⟨by rw[acK];omega,by rw[acK];omega⟩⟩
def dz.EE(h:dz k):k.grid.cells.length<=256:=by
 have:=h.bV.len;rw[h.grid];exact this
def dz.npos(h:dz k):0<k.grid.cells.length:=by
 rw[h.grid];exact aaT h.bV
def dz.aqn(h:dz k){s t:ae Int}(hs:bQ k.grid.cells.length s)(ht:bQ k.decl.symbols.length t){r:bE}(hr:r∈k.decl.rules):acH k s t r:=by
 have hin:=(h.inr hr).jL;have hL:k.lists[r.family.toNat]? =some (k.lists[r.family.toNat]'(tf)):=bY _;have oh:=h.PU hL;rw[BC hin.1]at oh;have acL:∀r∈k.decl.regions,wU (aT k.decl) r.lists:=λr hr=>(h.typ.zN r hr).1.2;have acM:=Uu h.bV acL;have hlin:=amt h.bV acL;rw[<- h.lists]at acM hlin;have hn:=h.EE;refine⟨hs,ht,h.EE,h.typ.lim.s1,h.PV,λl hl=>?_,h.kinds hr,⟨hin.1,?_,?_,hs,h.npos,tf,?_,?_⟩,(h.set hr).1,(h.set hr).2⟩
 .rw[h.aR]at hl;have:=Kh l hl;omega
 .rw[iR hL];exact hL
 .rw[iR hL];exact oh
 .rw[iR hL];have:=acM _ (aU hL);omega
 .rw[iR hL];intro l hl;have:=(hlin _ (aU hL) l hl).1;omega
variable{s t:ae Int}{vh vs vr vc vu gh gc vn vl sc st:ah}
def VF(hK:dz k)(hs:s.length<2^63)(ht:t.length<2^63):
 fC prog 39 [.agg ⟨og k vh vs vr vc vu gh gc vn vl⟩,.agg ⟨[sc,st]⟩] (aj ai sc s::aj ai st t::j6 k vh vs vr vc vu gh gc vn vl []) (λb:Bool=>.bool b) (λb=>b=true↔iQ k s t):=by
 have hn:=hK.EE;have hm:=hK.typ.lim.s1;have oG:=hK.typ.lim.u;refine gB 39 λB w0=>?_;dsimp only[j6];refine gF ai gc k.grid.cells λag cg eg=>?_;subst eg;refine gF fG vs k.decl.symbols λrz cs1 es1=>?_;subst es1;refine gF bi vu k.decl.rules λau cu eu=>?_;subst eu;refine go ?_;intro b2 b3;refine gP b2 ?_;refine gP b3 ?_;refine gC (acn (xs:=s) (n:=k.grid.cells.length) hn hs) λe1 he1=>?_;refine gH ?_ ?_<;>intro h1
 rotate_left
 .refine go ?_;exact gQ false ⟨(λh=>by cases h),λh=>absurd (he1.2 h.pc) h1⟩
 have hps:=he1.1 (iX.1 h1);refine gC (acn (xs:=t) (n:=k.decl.symbols.length) tf ht) λe2 he2=>?_;refine aC ?_ ?_<;>intro h2
 .refine go ?_;exact gQ false ⟨(λh=>by cases h),λh=>absurd (he2.2 h.ps) h2⟩
 have hpt:=he2.1 (iX.1 h2);refine go ?_;intro b5 b6;refine fD aqj (next:=λy _=>?_);refine go ?_;refine gP b5 ?_;refine gP b6 ?_;refine gN k.decl.rules.length 36 (λj=>j<=k.decl.rules.length/\∀r∈k.decl.rules.take j,keepR k s t r=true) ⟨bH _,tg⟩ ?_;rintro j ⟨hj,hall⟩;refine aC ?_ ?_<;>intro h3
 .refine gX bi (xs:=k.decl.rules) λ_ _ r (w:ah×ah) hr=>?_;have hrm:=aU hr;have H:=hK.aqn hps hpt hrm;have hkd:=H.kind;have hno:keepR k s t r=false->∀b:Bool,b=false->(b=true↔iQ k s t):=λh b hb=>⟨(λe=>by rw[hb]at e;cases e),λq=>by have:=q.pE r hrm;rw[h]at this;cases this⟩
  obtain⟨vk,hvk,hcon⟩:=acI (bc:=b5) (br:=0) (vh:=vh) (vs:=.slice rz k.decl.symbols.length cs1) (vr:=vr) (vc:=vc) (vu:=.slice au k.decl.rules.length cu) (gh:=gh) (gc:=.slice ag k.grid.cells.length cg) (vn:=vn) (vl:=vl) (sc:=sc) (st:=st) (v1:=w.1) (v2:=w.2) H y;clear hcon;refine go ?_;intro b8;obtain⟨vk2,acO,hcon⟩:=acI (bc:=b5) (br:=b8) (vh:=vh) (vs:=.slice rz k.decl.symbols.length cs1) (vr:=vr) (vc:=vc) (vu:=.slice au k.decl.rules.length cu) (gh:=gh) (gc:=.slice ag k.grid.cells.length cg) (vn:=vn) (vl:=vl) (sc:=sc) (st:=st) (v1:=w.1) (v2:=w.2) H y;obtain rfl:vk2=vk:=by rw[hvk]at acO;exact(Option.some.inj acO).symm
  refine go ?_;refine gP b8 ?_;refine gC (aqf (k:=k) (s:=s) (r:=r) (set:=r.set.toNat) (other:=r.other.toNat) (vh:=vh) (vs:=.slice rz k.decl.symbols.length cs1) (vr:=vr) (vc:=vc) (vu:=.slice au k.decl.rules.length cu) (gh:=gh) (gc:=.slice ag k.grid.cells.length cg) (vn:=vn) (vl:=vl) (sc:=sc) (st:=st) (v1:=w.1) (v2:=w.2) H.st H.ot hpt tf) λ_ _=>?_;cases hset:rP r.set.toNat r.other.toNat t with
  |false=>
   refine go ?_;exact gQ false (hno (by unfold keepR;rw[hset];rfl) _ rfl)
  |true=>
  obtain⟨kn,hkn⟩:=jK (by omega:0<=r.kind);rw[hkn,jJ]at hvk;rw[hkn];refine go ?_;refine(NW (b:=b6) (o:=0) (j:=kn*1) (cs:=VD y) (v:=vk2) rfl rfl rfl (by repeat (first|exact fF .. |apply iw)) (by rw[uo,pY];exact hvk)).h ?_;rw[<- hkn];refine go ?_;dsimp only[zQ,yO,P5,List.cons_append,List.nil_append]at hcon;refine fD hcon (hF:=by repeat (first|exact Sub.nil|(apply Sub.cons;(focus (repeat (first|exact fF .. |apply iw)))))) (next:=λc hc=>?_);refine go ?_;cases c with
  |true=>
   refine go ?_;exact gQ false (hno (by unfold keepR;rw[hc.1 rfl,Bool.and_false]) _ rfl)
  |false=>
  have hcd:mD k s t r=true:=by
   cases e:mD k s t r with
   |true=>rfl
   |false=>exact absurd (hc.2 e) tg
  refine go ?_;refine aO (j+1) (by show k.decl.rules.length - (j+1)<k.decl.rules.length - j;omega) ⟨tf,λx hx=>?_⟩;rw[bU hr]at hx;rcases eP.1 hx with hx|hx
  .exact hall x hx
  .rw[bS.1 hx];unfold keepR;rw[hset,hcd];rfl
 have j5:j=k.decl.rules.length:=tf
 subst j5;rw[bP]at hall;refine go ?_;exact gQ true ⟨λ_=>⟨hps,hpt,hall⟩,λ_=>rfl⟩
structure KpP(k:aZ)(s t:List Int)(y:Bool×Int):Prop where
 nk:¬dz k->y=(false,180)
 ok:dz k->y.2=0/\(y.1=true↔iQ k s t)
def acP(hS:rA k)(hs:s.length<2^63)(ht:t.length<2^63):
 fC prog 18 [.agg ⟨og k vh vs vr vc vu gh gc vn vl⟩,.agg ⟨[sc,st]⟩] (aj ai sc s::aj ai st t::j6 k vh vs vr vc vu gh gc vn vl []) (λy:Bool×Int=>.tuple ⟨[.bool y.1,iV y.2]⟩) (KpP k s t):=by
 refine gB 18 λB w0=>?_;dsimp only[j6];refine go ?_;intro b2 b3;refine gC (Vn (k:=k) (vh:=vh) (vs:=vs) (vr:=vr) (vc:=vc) (vu:=vu) (gh:=gh) (gc:=gc) (vn:=vn) (vl:=vl) hS) λb hb=>?_;cases b with
 |false=>
  have hno:¬dz k:=λh=>by have:=hb.2 h;cases this
  dsimp only[cond];refine go ?_;exact gQ (false,180) ⟨λ_=>rfl,λh=>absurd h hno⟩
 |true=>
 have hK:=hb.1 rfl;dsimp only[cond];refine gC (VF (k:=k) (s:=s) (t:=t) (vh:=vh) (vs:=vs) (vr:=vr) (vc:=vc) (vu:=vu) (gh:=gh) (gc:=gc) (vn:=vn) (vl:=vl) (sc:=sc) (st:=st) hK hs ht) λc hc=>?_;refine go ?_;exact gQ (c,0) ⟨λh=>absurd hK h,λ_=>⟨rfl,hc⟩⟩
structure awV(k:aZ)(s t:List Int)(e:Int):Prop where
 nk:¬dz k->e=180
 ns:dz k->¬iQ k s t->e=230
 ok:dz k->iQ k s t->e=0
