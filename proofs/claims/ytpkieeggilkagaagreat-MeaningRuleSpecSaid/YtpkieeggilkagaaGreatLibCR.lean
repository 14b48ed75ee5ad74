/-
  Part LibCR.
-/
import Derived.Test.YtpkieeggilkagaaGreatLibBR
set_option linter.all false
set_option maxRecDepth 10000
set_option maxHeartbeats 2000000
namespace Go.Proofs.YtpkieeggilkagaaGreat
open Go.Ideal Gph
theorem U7{vl:Value}{xs:List Int}{z:Int}(hl:xs.length<9223372036854775808):bV Tryz.prog 29 [vl,.int .i64 z] [ah aa vl xs] (.bool (decide (z∈xs))):=by
 refine aC _ (aF 29) λB w0=>?_;refine go ?_;refine aR (λk=>xs.length - k) (λk:Nat=>[(5,.int .i64 (k:Int))]) (λ_=>[]) (λ_=>[]) (λk=>k<=xs.length/\z∉xs.take k) 0 ⟨by omega,by simp⟩ (body:=?_);rintro k ⟨hk,hno⟩;refine go ?_;refine ay rfl (λh1=>?_) (λh1=>?_)
 ·refine go ?_;intro _ _ x hx;refine go ?_;refine ay rfl (λh2=>?_) (λh2=>?_)
  ·refine go ?_;refine ae () (hv:=?_) (hp:=trivial);subst h2;rw[dQ (aP hx)];rfl
  ·refine go ?_;refine aD (k+1) (by omega) ⟨by omega,?_⟩;rw[take_one hx,dB,not_or];exact⟨hno,by simp;exact λe=>h2 e.symm⟩
 refine go ?_;have:k=xs.length:=by omega
 subst this;rw[bC]at hno;refine ae () (hv:=?_) (hp:=trivial);rw[aS hno];rfl
theorem U8{vg:Value}{g:List (List Int)}(hll:∀l∈g,l.length<9223372036854775808):aV Tryz.prog (.func 155) [vg] [] [] [ah (ax aa) vg g] (λb:Bool=>.int .i64 (if b then 0 else 120)) (λ_=>[]) (λ_=>[]) (λb=>(b=true↔gX g)):=by
 refine aC _ (aF 155) λB w0=>?_;refine go ?_;refine ay rfl (λh1=>?_) (λh1=>?_)
 ·refine go ?_;exact ae false (hv:=rfl) (hp:=⟨(λh=>by cases h),(λh=>by have:=h.len;omega)⟩)
 refine go ?_;refine aR (λk=>g.length - k) (λk:Nat=>[(3,.int .i64 (k:Int))]) (λ_=>[]) (λ_=>[])
  (λi=>i<=g.length/\∀(i':Nat) l,i'<i->g[i']? =some l->∀(k:Nat) n,l[k]? =some n->0<=n/\n<g.length/\n≠i'/\(∀m,0<k->l[k - 1]? =some m->m<n)/\∀l',g[n.toNat]? =some l'->(i':Int)∈l') 0 ⟨by omega,λi' l h=>by omega⟩ (body:=?_)
 rintro i ⟨hi,hall⟩;refine go ?_;refine ay rfl (λh2=>?_) (λh2=>?_)
 ·obtain⟨l,nP⟩:∃l,g[i]? =some l:=⟨g[i]'(by omega),bN _⟩
  have hl1:=hll l (aP nP);refine go ?_;refine aR (λk=>l.length - k) (λk:Nat=>[(4,.int .i64 (k:Int))]) (λ_=>[]) (λ_=>[])
   (λk=>k<=l.length/\∀(k':Nat) n,k'<k->l[k']? =some n->0<=n/\n<g.length/\n≠i/\(∀m,0<k'->l[k' - 1]? =some m->m<n)/\∀l',g[n.toNat]? =some l'->(i:Int)∈l') 0 ⟨by omega,λk' n h=>by omega⟩ (body:=?_)
  rintro k ⟨hk,hin⟩;refine go ?_;refine aU (ax aa) (next:=λ_ _ l0 (zm:Value) hl0=>?_);cases nP.symm.trans hl0;refine go ?_;refine ay rfl (λh3=>?_) (λh3=>?_)
  ·refine go ?_;refine aU (ax aa) (next:=λ_ _ l0 (zm:Value) hl0=>?_);cases nP.symm.trans hl0;refine go ?_;intro _ _ n hn;have hbad:∀(_:¬(0<=n/\n<g.length/\n≠i/\(∀m,0<k->l[k - 1]? =some m->m<n)/\∀l',g[n.toNat]? =some l'->(i:Int)∈l')),¬gX g:=λh hG=>h (hG.ok i l nP k n hn);refine go ?_;refine gG (λh4=>?_) (λh4=>?_)
   rotate_left
   ·refine go ?_;exact ae false (hv:=rfl) (hp:=⟨(λh=>by cases h),λhG=>absurd hG (hbad (λh=>by omega))⟩)
   refine go ?_;refine gG (λh5=>?_) (λh5=>?_)
   rotate_left
   ·refine go ?_;exact ae false (hv:=rfl) (hp:=⟨(λh=>by cases h),λhG=>absurd hG (hbad (λh=>by omega))⟩)
   refine go ?_;refine gG (λh6=>?_) (λh6=>?_)
   rotate_left
   ·refine go ?_;exact ae false (hv:=rfl) (hp:=⟨(λh=>by cases h),λhG=>absurd hG (hbad (λh=>by omega))⟩)
   refine go ?_;obtain⟨n,rfl⟩:=dZ (show 0<=n by omega);refine gG (λh7=>?_) (λh7=>?_)
   ·have AV:∀m,0<k->l[k - 1]? =some m->m<(n:Int):=λm hm=>by omega
    refine go ?_;refine aU (ax aa) (next:=λ_ _ l' (NS:Value) hl'=>?_);have AX:=hll l' (aP hl');refine go ?_;refine aj (U7 (xs:=l') AX) (next:=λ_ _=>?_);refine go ?_;refine eX rfl (λh9=>?_) (λh9=>?_)
    ·refine go ?_;exact ae false (hv:=rfl) (hp:=⟨(λh=>by cases h),λhG=>absurd hG (hbad (λh=>h9 (h.2.2.2.2 l' (by simpa using hl'))))⟩)
    refine go ?_;refine aD (k+1) (by omega) ⟨by omega,λk' m hk' hm=>?_⟩;by_cases e:k'=k
    ·subst e;rw[hn]at hm;cases hm;refine⟨by omega,by omega,h6,AV,λl2 hl2=>?_⟩;rw[ku]at hl2;rw[hl2]at hl';cases hl';exact h9
    ·exact hin k' m (by omega) hm
   refine go ?_;obtain⟨k,rfl⟩:∃k',k=k'+1:=⟨k - 1,by omega⟩
   refine aU (ax aa) (next:=λ_ _ l0 (zm:Value) hl0=>?_);cases nP.symm.trans hl0;refine go ?_;intro _ _ m hm;rw[show(((k+1:Nat):Int) - 1).toNat=k by omega]at hm;refine go ?_;refine gG (λh8=>?_) (λh8=>?_)
   ·have AV:∀u,0<k+1->l[k+1 - 1]? =some u->u<(n:Int):=λu _ hu=>by
     rw[Kt,hm]at hu;cases hu;omega
    refine go ?_;refine aU (ax aa) (next:=λ_ _ l' (NS:Value) hl'=>?_);have AX:=hll l' (aP hl');refine go ?_;refine aj (U7 (xs:=l') AX) (next:=λ_ _=>?_);refine go ?_;refine eX rfl (λh9=>?_) (λh9=>?_)
    ·refine go ?_;exact ae false (hv:=rfl) (hp:=⟨(λh=>by cases h),λhG=>absurd hG (hbad (λh=>h9 (h.2.2.2.2 l' (by simpa using hl'))))⟩)
    refine go ?_;refine aD (k+1+1) (by omega) ⟨by omega,λk' m hk' hm=>?_⟩;by_cases e:k'=k+1
    ·subst e;rw[hn]at hm;cases hm;refine⟨by omega,by omega,h6,AV,λl2 hl2=>?_⟩;rw[ku]at hl2;rw[hl2]at hl';cases hl';exact h9
    ·exact hin k' m (by omega) hm
   refine go ?_;refine ae false (hv:=rfl) (hp:=⟨(λh=>by cases h),λhG=>absurd hG (hbad (λh=>by have:=h.2.2.2.1 m (by omega) (by rw[Kt];exact hm);omega))⟩)
  refine go ?_;refine aD (i+1) (by omega) ⟨by omega,λi' l2 hi' hl2=>?_⟩;by_cases e:i'=i
  ·subst e;rw[nP]at hl2;cases hl2;exact λk' n hn=>hin k' n (by have:=(bK.1 hn).1;omega) hn
  ·exact hall i' l2 (by omega) hl2
 refine go ?_;refine ae true (hv:=rfl) (hp:=⟨λ_=>⟨by omega,λi' l hl=>hall i' l (by have:=(bK.1 hl).1;omega) hl⟩,λ_=>rfl⟩)
theorem gX.dP{g:List (List Int)}(h:gX g):nM g:=λi l hl n hn=>by
 obtain⟨k,hk⟩:=nA hn;have:=h.ok i l hl k n hk;exact⟨⟨this.1,this.2.1⟩,this.2.2.2.2⟩
def NT(g:List (List Int))(ak:List Bool)(s:Int)(met:List Bool):Prop:=∀n:Nat,n<g.length->cO met n=true->kE g ak s n
def JD(ak met:List Bool)(l:List Int):Prop:=∀n∈l,cO ak n=true->cO met n=true
structure FE(g:List (List Int))(ak:List Bool)(s:Nat)(rR met:List Bool)(more:Bool):Prop where
 len:met.length=g.length
 snd:NT g ak s met
 st:cO met s=true
 same:more=false->met=rR
 less:more=true->left met<left rR
theorem CZ{l:List Bool}{n:Nat}(h:n<l.length):cO l n=l[n]:=by
 unfold cO;rw[ku,uo,bN h];rfl
theorem aeM{g:List (List Int)}{ak:List Bool}{s:Nat}{rR met:List Bool}{more:Bool}(h:FE g ak s rR met more){i n:Nat}{l:List Int}(hi:i<g.length)(hl:g[i]? =some l)(hn:(n:Int)∈l)(wR:n<g.length)
 (xR:cO met i=true) (hin:cO ak n=true) (hmn:cO met n=false):FE g ak s rR (met.set n true) true:=by
 have hnl:n<met.length:=by rw[h.len];exact wR
 have hb:∀m:Nat,cO (met.set n true) m=(decide ((m:Int)=(n:Int))||cO met m):=λm=>by
  have:=CP (met:=met) (a:=(n:Int)) (n:=(m:Int)) (by omega) (by omega) (by omega)
  rwa [ku]at this
 refine⟨by rw[um];exact h.len,λm hm hmm=>?_,by rw[hb];simp[h.st],λe=>(by cases e),λ_=>?_⟩
 ·rw[hb]at hmm;by_cases e:(m:Int)=n
  ·rw[e];exact .step (h.snd i hi xR) (by rw[ku];exact hl) hn hin
  ·simp[e]at hmm;exact h.snd m hm hmm
 ·have hs:met[n]? =some false:=by rw[bN hnl,<- CZ hnl,hmn]
  have:=Ng hs;cases more with
  |true=>have:=h.less rfl;omega
  |false=>have:=h.same rfl;subst this;omega
theorem U9{vg iP:Value}{g:List (List Int)}{ak:List Bool}{s:Nat}(hG:gX g)(hll:∀l∈g,l.length<9223372036854775808)(hin:ak.length=g.length)(hs:s<g.length):
 aV Tryz.prog (.func 180) [vg,iP,.int .i64 (s:Int)] [] [] [ah (ax aa) vg g,ah lC iP ak] (λy:Nat×List Bool=>zl y.1 g.length) (λy=>[pt y.1 (.cells (y.2.map .bool))]) (λ_=>[])
  (λy=>y.2.length=g.length/\∀n:Nat,n<g.length->(cO y.2 n=true↔kE g ak s n)):=by
 refine aC _ (aF 180) λB w0=>?_;have hlen:=hG.len;refine go ?_;refine Am g.length ⟨by omega,by omega,by omega⟩ λbm=>?_;rw[JB];refine go ?_;refine pg (o:=0+s*1) (cs:=(List.replicate g.length false).map .bool) (v:=.bool true) (cs':=(lG g.length s).map .bool) (by rw[lG,DT];simp) (by simp;omega) ?_;refine go ?_;have hst:∀m:Nat,cO (lG g.length s) m=decide ((m:Int)=(s:Int)):=λm=>by
  have:=CP (met:=List.replicate g.length false) (a:=(s:Int)) (n:=(m:Int)) (by omega) (by omega) (by rw[PK];omega);rw[lG,this];have:cO (List.replicate g.length false) m=false:=by
   unfold cO;rw[uo,WW];split<;>rfl
  rw[this,Bool.or_false]
 have aeN:NT g ak s (lG g.length s):=λn hn h=>by
  rw[hst]at h;rw[iw h];exact .refl
 refine aR (λx=>2*left x.1+if x.2 then 1 else 0) (λx:List Bool×Bool=>[(8,.bool x.2)]) (λx=>[pt bm (.cells (x.1.map .bool))]) (λ_=>[])
  (λx=>x.1.length=g.length/\NT g ak s x.1/\cO x.1 s=true/\(x.2=false->∀i l,g[i]? =some l->cO x.1 (i:Nat)=true->JD ak x.1 l)) (lG g.length s,true) ⟨Nh _ _,aeN,by rw[hst];simp,λh=>by cases h⟩ (body:=?_)
 rintro⟨rR,aeO⟩ ⟨hl0,NU,NV,hcl0⟩;dsimp only at hl0 NU NV hcl0⊢;refine go ?_;cases aeO with
 |false=>
  refine go ?_;refine ae (bm,rR) (hv:=rfl) (hp:=⟨hl0,λn hn=>⟨NU n hn,λh=>?_⟩⟩);have hsr:Rg g (s:Int):=⟨by omega,by omega⟩
  have:∀m:Int,kE g ak s m->cO rR m=true:=by
   intro m h;induction h with
   |refl=>exact NV
   |step r hl hn hi ih=>
    rename_i i n l;have hir:=kE.rg hG.dP hsr r;have hc:((i.toNat:Nat):Int)=i:=by unfold Rg at hir;omega
    exact hcl0 rfl i.toNat l hl (by rw[hc];exact ih) n hn hi
  exact this n h
 |true=>
 refine go ?_;refine aR (λx=>g.length - x.1) (λx:Nat×List Bool×Bool=>[(9,.int .i64 (x.1:Int)),(8,.bool x.2.2)]) (λx=>[pt bm (.cells (x.2.1.map .bool))]) (λ_=>[])
  (λx=>x.1<=g.length/\FE g ak s rR x.2.1 x.2.2/\(x.2.2=false->∀i l,i<x.1->g[i]? =some l->cO x.2.1 (i:Nat)=true->JD ak x.2.1 l)) (0,rR,false) ⟨bJ _,⟨hl0,NU,NV,λ_=>rfl,λh=>by cases h⟩,λ_ i l hi=>by omega⟩ (body:=?_)
 rintro⟨i,FH,FI⟩ ⟨hi,hs1,hc1⟩;dsimp only at hi hs1 hc1⊢;refine go ?_;refine ay rfl (λh1=>?_) (λh1=>?_)
 ·obtain⟨l,nP⟩:∃l,g[i]? =some l:=⟨g[i]'(by omega),bN _⟩
  have hl1:=hll l (aP nP);refine go ?_;refine aR (λx=>l.length - x.1) (λx:Nat×List Bool×Bool=>[(10,.int .i64 (x.1:Int)),(8,.bool x.2.2)]) (λx=>[pt bm (.cells (x.2.1.map .bool))]) (λ_=>[])
   (λx=>x.1<=l.length/\FE g ak s rR x.2.1 x.2.2/\(x.2.2=false->FI=false/\(cO x.2.1 (i:Nat)=true->JD ak x.2.1 (l.take x.1)))) (0,FH,FI) ⟨bJ _,hs1,λh=>⟨h,λ_ n hn=>by simp at hn⟩⟩ (body:=?_)
  rintro⟨k,mY,C8⟩ ⟨hk,hs2,hc2⟩;dsimp only at hk hs2 hc2⊢;refine go ?_;refine aU (ax aa) (next:=λ_ _ l0 (zm:Value) hl0=>?_);cases nP.symm.trans hl0;refine go ?_;refine ay rfl (λh2=>?_) (λh2=>?_)
  ·have him:i<mY.length:=by rw[hs2.len];omega
   have hbi:=CZ him;have hn:l[k]? =some (l[k]'(by omega)):=bN _;generalize l[k]'(by omega)=n at hn;have wR:=hG.ok i l nP k n hn;obtain⟨n,rfl⟩:=dZ wR.1;have hnm:n<mY.length:=by rw[hs2.len];omega
   have hbn:=CZ hnm;have hni:n<ak.length:=by omega
   have Ei:=CZ hni;refine go ?_;refine qG (o:=0+i*1) (cs:=mY.map .bool) (.bool mY[i]) (by rw[fC,wy,fw,bN him];rfl) ?_;refine go ?_;have skip:(mY[i]=true->ak[n]=true->mY[n]=true)->(k+1<=l.length/\FE g ak s rR mY C8/\(C8=false->FI=false/\(cO mY (i:Nat)=true->JD ak mY (l.take (k+1))))):=λh=>by
    refine⟨by omega,hs2,λhm=>⟨(hc2 hm).1,λhii m hmm xR=>?_⟩⟩;rw[take_one hn,dB]at hmm;rcases hmm with hmm|hmm
    ·exact(hc2 hm).2 hii m hmm xR
    ·rw[bM.1 hmm]at xR⊢;rw[hbn];exact h (by rw[<- hbi];exact hii) (by rw[<- Ei];exact xR)
   cases e1:mY[i]with
   |false=>
    refine go ?_;exact aD (k+1,mY,C8) (by show l.length - (k+1)<l.length - k;omega) (skip (λh=>by rw[e1]at h;cases h))
   |true=>
   refine go ?_;refine aU (ax aa) (next:=λ_ _ l0 (zm:Value) hl0=>?_);cases nP.symm.trans hl0;refine go ?_;intro _ _ n' hn';cases hn.symm.trans hn';refine go ?_;intro _ _ c hc;have hcn:ak[n]=c:=by rw[bN hni]at hc;exact Option.some.inj hc
   subst hcn;refine go ?_;cases e2:ak[n]with
   |false=>
    refine go ?_;exact aD (k+1,mY,C8) (by show l.length - (k+1)<l.length - k;omega) (skip (λ_ h=>by rw[e2]at h;cases h))
   |true=>
   refine go ?_;refine aU (ax aa) (next:=λ_ _ l0 (zm:Value) hl0=>?_);cases nP.symm.trans hl0;refine go ?_;intro _ _ n' hn';cases hn.symm.trans hn';refine go ?_;refine qG (o:=0+n*1) (cs:=mY.map .bool) (.bool mY[n]) (by rw[fC,wy,fw,bN hnm];rfl) ?_;refine go ?_;cases e3:mY[n]with
   |true=>
    refine go ?_;exact aD (k+1,mY,C8) (by show l.length - (k+1)<l.length - k;omega) (skip (λ_ _=>e3))
   |false=>
   refine go ?_;refine aU (ax aa) (next:=λ_ _ l0 (zm:Value) hl0=>?_);cases nP.symm.trans hl0;refine go ?_;intro _ _ n' hn';cases hn.symm.trans hn';refine go ?_;refine pg (o:=0+n*1) (cs:=mY.map .bool) (v:=.bool true) (cs':=(mY.set n true).map .bool) (by rw[DT];simp) (by simp;omega) ?_;refine go ?_;exact aD (k+1,mY.set n true,true) (by show l.length - (k+1)<l.length - k;omega)
    ⟨by show k+1<=_;omega,aeM hs2 (by omega) nP (aP hn) (by omega) (by rw[hbi,e1]) (by rw[Ei,e2]) (by rw[hbn,e3]),λh=>by cases h⟩
  have hkl:k=l.length:=by omega
  subst hkl;rw[bC]at hc2;refine go ?_;refine aD (i+1,mY,C8) (by show g.length - (i+1)<g.length - i;omega) ⟨by show i+1<=_;omega,hs2,λhm j l' hj hlj hjm=>?_⟩;by_cases e:j=i
  ·subst e;rw[nP]at hlj;cases hlj;exact(hc2 hm).2 hjm
  ·have e1:=hs2.same hm;have e2:=hs1.same (hc2 hm).1;subst e1;rw[<- e2]at hjm⊢;exact hc1 (hc2 hm).1 j l' (by show j<i;have:j<i+1:=hj;omega) hlj hjm
 have hil:i=g.length:=by omega
 subst hil;refine go ?_;refine aD (FH,FI) ?_ ⟨hs1.len,hs1.snd,hs1.st,λhm i l hl xR=>hc1 hm i l (bK.1 hl).1 hl xR⟩;cases FI with
 |true=>have:=hs1.less rfl;show 2*left FH+1<2*left rR+1;omega
 |false=>have:=hs1.same rfl;subst this;show 2*left FH+0<2*left FH+1;omega
def iV(ak:List Bool)(k:Nat):List Int:=((List.range k).filter λi=>cO ak ((i:Nat):Int)).map λi=>((i:Nat):Int)
theorem Va(ak:List Bool)(k:Nat):iV ak (k+1)=iV ak k++if cO ak (k:Nat)then[(k:Int)]else[]:=by
 rw[iV,Gj,uk,ed,<- iV];congr 1;simp only[zD,Kv];split<;>rfl
theorem Vb(ak:List Bool)(k:Nat):(iV ak k).length=tJ ak k:=by rw[iV,dV,tJ]
theorem FJ{ak:List Bool}{k:Nat}{z:Int}:z∈iV ak k↔∃n:Nat,z=n/\n<k/\cO ak (n:Nat)=true:=by
 simp only[iV,eT,pI,uf];constructor
 ·rintro⟨n,⟨h1,h2⟩,rfl⟩;exact⟨n,rfl,h1,h2⟩
 ·rintro⟨n,rfl,h1,h2⟩;exact⟨n,⟨h1,h2⟩,rfl⟩
theorem NW{ak:List Bool}:∀{k:Nat} {z:Int},(iV ak k)[0]? =some z->∃f:Nat,z=f/\f<k/\cO ak (f:Nat)=true/\∀j,j<f->cO ak (j:Nat)=false
 |0,z,h=>by simp[iV]at h
 |k+1,z,h=>by
  rw[Va]at h;by_cases hl:0<(iV ak k).length
  ·rw[qY hl]at h;obtain⟨f,h1,h2,h3⟩:=NW h;exact⟨f,h1,by omega,h3⟩
  ·have h0:iV ak k=[]:=jQ.1 (by omega);rw[h0,bY]at h;cases hb:cO ak ((k:Nat):Int)with
   |false=>rw[hb]at h;simp at h
   |true=>
    rw[hb]at h;simp at h;refine⟨k,h.symm,by omega,hb,λj hj=>?_⟩;cases hj':cO ak ((j:Nat):Int)with
    |false=>rfl
    |true=>
     have:(j:Int)∈iV ak k:=FJ.2 ⟨j,rfl,hj,hj'⟩;rw[h0]at this;cases this
theorem Vd{iP:Value}{ak:List Bool}(hl:ak.length<=1000000):aV Tryz.prog (.func 179) [iP] [] [] [ah lC iP ak] (λv:Value=>v) (λ_=>[]) (λv=>[ah aa v (iV ak ak.length)]) (λ_=>True):=by
 refine aC _ (aF 179) λB w0=>?_;refine go ?_;refine fJ aa ?_;refine aR (λx=>ak.length - x.1) (λx:Nat×Value=>[(4,.int .i64 (x.1:Int)),(3,x.2)]) (λx=>[ap aa x.2 (iV ak x.1)]) (λ_=>[]) (λx=>x.1<=ak.length) (0,.slice none 0 0) (bJ _)
  (hk:=by repeat (first|exact aJ.nil|(apply aJ.cons;(focus (repeat (first|exact aA.here|apply aA.there)))))) (body:=?_)
 rintro⟨k,v⟩ hk;dsimp only at hk⊢;have hsz:=Nj ak k;have hll:=Vb ak k;have hsucc:=Va ak k;refine go ?_;refine ay rfl (λh1=>?_) (λh1=>?_)
 ·refine go ?_;intro _ _ c hc;have hkl:k<ak.length:=by omega
  have hc':cO ak (k:Nat)=c:=by rw[CZ hkl];rw[bN hkl]at hc;exact Option.some.inj hc
  rw[hc']at hsucc;refine go ?_;cases c with
  |false=>
   rw[if_neg (by simp),gV]at hsucc;refine go ?_;exact aD (k+1,v) (by show ak.length - (k+1)<ak.length - k;omega) (by show k+1<=_;omega) (ha:=by dsimp only;rw[hsucc];repeat (first|exact aY.nil|apply aY.cons|exact aY.self|exact aY.app))
  |true=>
   rw[if_pos rfl]at hsucc;refine go ?_;intro b17;refine eG (xs:=iV ak k) aa (k:Int) () (by omega) (next:=λad=>?_);refine go ?_;exact aD (k+1,_) (by show ak.length - (k+1)<ak.length - k;omega) (by show k+1<=_;omega) (ha:=by dsimp only;rw[hsucc];repeat (first|exact aY.nil|apply aY.cons|exact aY.self|exact aY.app))
 have hkl:k=ak.length:=by omega
 subst hkl;refine go ?_;refine aW (fG (E:=aa) (v:=v) (xs:=iV ak ak.length)) (h:=?_);exact ae v (hv:=rfl) (hp:=trivial)
theorem Ve(g:List (List Int))(ak:List Bool):∀k,Gph.cnt g ak k<=k
 |0=>bU _
 |k+1=>by
  have:=Ve g ak k;rw[Gph.cnt];split<;>omega
theorem Vf{vg iP:Value}{g:List (List Int)}{ak:List Bool}(hll:∀l∈g,l.length<9223372036854775808):
 aV Tryz.prog (.func 136) [vg,iP] [] [] [ah (ax aa) vg g,ah lC iP ak] (λy:UZ=>.tuple ⟨[.slice y.a y.n y.n,.int .i64 y.e]⟩) (λ_=>[]) (λ_=>[])
  (λy=>(y.e=0↔gX g/\ak.length=g.length)/\(y.e=0->y.n=(eZ g ak g.length).2)):=by
 refine aC _ (aF 136) λB w0=>?_;refine go ?_;refine aj (U8 (g:=g) hll) (next:=λb hb=>?_);cases b with
 |false=>
  refine go ?_;exact ae ⟨none,0,120⟩ (hv:=rfl) (hp:=⟨⟨(λh=>by cases h),λh=>absurd (hb.2 h.1) (by simp)⟩,λh=>by cases h⟩)
 |true=>
 have hG:=hb.1 rfl;have hlen:=hG.len;refine go ?_;refine ay rfl (λh1=>?_) (λh1=>?_)
 ·refine go ?_;exact ae ⟨none,0,1⟩ (hv:=rfl) (hp:=⟨⟨(λh=>by cases h),λh=>absurd h.2 (by omega)⟩,λh=>by cases h⟩)
 have hin:ak.length=g.length:=by omega
 refine go ?_;refine fJ (ax aa) ?_;refine aR (λx=>g.length - x.1) (λx:Nat×Option Addr×List (List Int)=>[(7,.int .i64 (x.1:Int)),(6,.slice x.2.1 x.2.2.length x.2.2.length)]) (λx=>[ap (ax aa) (.slice x.2.1 x.2.2.length x.2.2.length) x.2.2]) (λ_=>[])
  (λx=>x.1<=g.length/\x.2.2.length=Gph.cnt g ak x.1) (0,none,[]) ⟨bJ _,rfl⟩
  (hk:=by repeat (first|exact aJ.nil|(apply aJ.cons;(focus (repeat (first|exact aA.here|apply aA.there)))))) (body:=?_)
 rintro⟨i,ad,xss⟩ ⟨hi,hxl⟩;dsimp only at hi hxl⊢;have hcl:=Ve g ak i;have hcs:Gph.cnt g ak (i+1)=_:=rfl;rw[Gph.cnt]at hcs;refine go ?_;refine ay rfl (λh2=>?_) (λh2=>?_)
 ·have hil:i<ak.length:=by omega
  refine go ?_;intro _ _ c hc;have hc':cO ak (i:Nat)=c:=by rw[CZ hil];rw[bN hil]at hc;exact Option.some.inj hc
  rw[hc']at hcs;refine go ?_;cases c with
  |false=>
   refine go ?_;exact aD (i+1,ad,xss) (by show g.length - (i+1)<g.length - i;omega) ⟨by show i+1<=_;omega,by show xss.length=Gph.cnt g ak (i+1);rw[Gph.cnt,hc',if_neg (by simp)];exact hxl⟩
  |true=>
   refine go ?_;refine aj (U9 (g:=g) (ak:=ak) (s:=i) hG hll hin (by omega)) (next:=λy hy=>?_);obtain⟨bm,met⟩:=y;obtain⟨hml,hmr⟩:=hy;dsimp only at hml hmr⊢;refine aW (EP (b:=bm) (f:=0) (c:=g.length) (xs:=met)) (h:=?_);rw[hml];refine go ?_;refine aj (Vd (ak:=met) (by omega)) (next:=λv _=>?_);refine aT (E:=aa) (v:=v) (xs:=iV met met.length) (by simp) λav cv ev=>?_;subst ev;have xR:(i:Int)∈iV met met.length:=FJ.2 ⟨i,rfl,by omega,(hmr i (by omega)).2 .refl⟩;have hpos:0<(iV met met.length).length:=List.length_pos_of_mem xR;refine go ?_;intro _ _ c0 hc0;obtain⟨f,rfl,hf,o8,sW⟩:=NW (show(iV met met.length)[0]? =some c0 by simpa using hc0);have hold:Fp g ak i i↔¬f=i:=by
    rw[adl hG.dP (by omega) hc'];constructor
    ·rintro⟨j,hj,hr⟩ e;have:=(hmr j (by omega)).2 hr;rw[sW j (by omega)]at this;cases this
    ·intro hne;refine⟨f,?_,(hmr f (by omega)).1 o8⟩;have:¬i<f:=λh=>by
      have:=sW i h;rw[(hmr i (by omega)).2 .refl]at this;cases this
     omega
   refine go ?_;refine ay rfl (λh3=>?_) (λh3=>?_)
   ·have hfi:f=i:=by omega
    refine go ?_;intro b40;refine eG (xs:=xss) (ax aa) (iV met met.length) (.slice av (iV met met.length).length cv) (by omega) (next:=λNY=>?_);refine go ?_;refine aD (i+1,NY,xss++[iV met met.length]) (by show g.length - (i+1)<g.length - i;omega) ⟨by show i+1<=_;omega,?_⟩
     (hl:=⟨rfl,by simp only[gU,uh];rfl,by repeat (first|exact trivial|refine⟨rfl,?_⟩)⟩) (ha:=by simp only[gU,uh];repeat (first|exact aY.nil|apply aY.cons|exact aY.self|exact aY.app))
    show(xss++[iV met met.length]).length=Gph.cnt g ak (i+1);rw[Gph.cnt,hc',if_pos ⟨rfl,λh=>hold.1 h hfi⟩,gU,uh,hxl]
   ·have hfi:¬f=i:=by omega
    refine go ?_;exact aD (i+1,ad,xss) (by show g.length - (i+1)<g.length - i;omega) ⟨by show i+1<=_;omega,by show xss.length=Gph.cnt g ak (i+1);rw[Gph.cnt,hc',if_neg (λh=>h.2 (hold.2 hfi))];exact hxl⟩
 have hil:i=g.length:=by omega
 subst hil;refine go ?_;exact ae ⟨ad,xss.length,0⟩ (hv:=rfl) (hp:=⟨⟨λ_=>⟨hG,hin⟩,λ_=>rfl⟩,λ_=>by rw[Je hG.rg _ (bU _)];exact hxl⟩)
theorem aeQ{vg iP:Value}{g:List (List Int)}{ak:List Bool}(hll:∀l∈g,l.length<9223372036854775808):
 aV Tryz.prog (.func 137) [vg,iP] [] [] [ah (ax aa) vg g,ah lC iP ak] (λy:Bool×Int=>.tuple ⟨[.bool y.1,.int .i64 y.2]⟩) (λ_=>[]) (λ_=>[])
  (λy=>(y.2=0↔gX g/\ak.length=g.length)/\(y.2=0->y.1=AA g ak)):=by
 refine aC _ (aF 137) λB w0=>?_;refine go ?_;refine aj (U8 (g:=g) hll) (next:=λb hb=>?_);cases b with
 |false=>
  refine go ?_;exact ae (false,120) (hv:=rfl) (hp:=⟨⟨(λh=>by cases h),λh=>absurd (hb.2 h.1) (by simp)⟩,λh=>by cases h⟩)
 |true=>
 have hG:=hb.1 rfl;have hlen:=hG.len;refine go ?_;refine ay rfl (λh1=>?_) (λh1=>?_)
 ·refine go ?_;exact ae (false,1) (hv:=rfl) (hp:=⟨⟨(λh=>by cases h),λh=>absurd h.2 (by omega)⟩,λh=>by cases h⟩)
 have hin:ak.length=g.length:=by omega
 have no:¬(Fj g ak g.length/\3<=tJ ak g.length/\(eZ g ak g.length).2=1)->((((false,0):Bool×Int).2=0↔gX g/\ak.length=g.length)/\(((false,0):Bool×Int).2=0->((false,0):Bool×Int).1=AA g ak)):=λh=>
  ⟨⟨λ_=>⟨hG,hin⟩,λ_=>rfl⟩,λ_=>(Nl h).symm⟩
 refine go ?_;refine aj (Vd (ak:=ak) (by omega)) (next:=λvl _=>?_);have aeR:=Vb ak ak.length;rw[hin]at aeR;rw[show iV ak ak.length=iV ak g.length by rw[hin]];have hsz:=Nj ak g.length;refine go ?_;refine ay rfl (λh2=>?_) (λh2=>?_)
 ·refine go ?_;exact ae (false,0) (hv:=rfl) (hp:=no (λh=>by have:=h.2.1;omega))
 have hpos:0<(iV ak g.length).length:=by omega
 refine go ?_;intro _ _ c0 hc0;obtain⟨f,rfl,hf,o8,sW⟩:=NW (show(iV ak g.length)[0]? =some c0 by simpa using hc0);refine go ?_;refine aj (U9 (g:=g) (ak:=ak) (s:=f) hG hll hin hf) (next:=λy hy=>?_);obtain⟨bm,met⟩:=y;obtain⟨hml,hmr⟩:=hy;dsimp only at hml hmr⊢;refine aW (EP (b:=bm) (f:=0) (c:=g.length) (xs:=met)) (h:=?_);rw[hml];refine go ?_;refine aR (λi=>(iV ak g.length).length - i) (λi:Nat=>[(8,.int .i64 (i:Int))]) (λ_=>[]) (λ_=>[])
  (λi=>i<=(iV ak g.length).length/\∀n:Nat,(n:Int)∈(iV ak g.length).take i->pz ak (g.getD n [])=2/\kE g ak f n) 0 ⟨bJ _,λn hn=>by simp at hn⟩ (body:=?_)
 rintro i ⟨hi,hall⟩;refine go ?_;refine ay rfl (λh3=>?_) (λh3=>?_)
 ·have hz:(iV ak g.length)[i]? =some ((iV ak g.length)[i]'(by omega)):=bN _;generalize(iV ak g.length)[i]'(by omega)=z at hz;obtain⟨n,rfl,hn,hnn⟩:=FJ.1 (aP hz);obtain⟨l,hl⟩:∃l,g[n]? =some l:=⟨g[n],bN _⟩
  have hl1:=hll l (aP hl);have hgd:g.getD n []=l:=by rw[uo,hl];rfl
  refine go ?_;refine aR (λj=>l.length - j) (λj:Nat=>[(10,.int .i64 (j:Int)),(9,.int .i64 (pz ak (l.take j):Int))]) (λ_=>[]) (λ_=>[]) (λj=>j<=l.length) 0 (bJ _) (body:=?_);intro j hj;refine go ?_;intro _ _ z hz';cases hz.symm.trans hz';refine go ?_;refine aU (ax aa) (next:=λ_ _ l0 (zm:Value) hl0=>?_);cases hl.symm.trans hl0;refine go ?_;refine ay rfl (λh4=>?_) (λh4=>?_)
  ·refine go ?_;intro _ _ z hz';cases hz.symm.trans hz';refine go ?_;refine aU (ax aa) (next:=λ_ _ l0 (zm:Value) hl0=>?_);cases hl.symm.trans hl0;refine go ?_;intro _ _ m hm;have aeS:=hG.ok n l hl j m hm;obtain⟨m,rfl⟩:=dZ aeS.1;refine go ?_;intro _ _ d hd;have hd':cO ak (m:Nat)=d:=by unfold cO;rw[ku,uo,hd];rfl
   have hstep:pz ak (l.take (j+1))=pz ak (l.take j)+if d then 1 else 0:=by
    rw[pz,take_one hm,uk,gU,<- pz];congr 1;simp only[zD,Kv,hd'];split<;>rfl
   have hdl:pz ak (l.take j)<=j:=by
    have:=DK (cO ak) (l.take j);rw[gL]at this;unfold pz;omega
   refine go ?_;cases d with
   |false=>
    refine go ?_;exact aD (j+1) (by omega) (by omega) (hl:=⟨rfl,by rw[hstep];rfl,by repeat (first|exact trivial|refine⟨rfl,?_⟩)⟩)
   |true=>
    refine go ?_;exact aD (j+1) (by omega) (by omega) (hl:=⟨rfl,by rw[hstep];rfl,by repeat (first|exact trivial|refine⟨rfl,?_⟩)⟩)
  have hjl:j=l.length:=by omega
  subst hjl;rw[bC];refine go ?_;refine gG (λh5=>?_) (λh5=>?_)
  rotate_left
  ·refine go ?_;refine ae (false,0) (hv:=rfl) (hp:=no (λh=>h5 ?_));have:=h.1 n hn hnn;rw[hgd]at this;rw[this];rfl
  refine go ?_;intro _ _ z hz';cases hz.symm.trans hz';refine go ?_;intro _ _ e he;have he':cO met (n:Nat)=e:=by unfold cO;rw[ku,uo,he];rfl
  refine go ?_;cases e with
  |false=>
   refine go ?_;refine ae (false,0) (hv:=rfl) (hp:=no (λh=>?_));have h1:=h.2.2;rw[Je hG.rg _ (bU _)]at h1;have:=(TJ hG.dP hf o8 sW).1 h1 n hn hnn;rw[(hmr n hn).2 this]at he';cases he'
  |true=>
   refine go ?_;refine aD (i+1) (by omega) ⟨by omega,λm hm=>?_⟩;rw[take_one hz,dB]at hm;rcases hm with hm|hm
   ·exact hall m hm
   ·have:m=n:=by simp at hm;omega
    subst this;exact⟨by rw[hgd];omega,(hmr m hn).1 he'⟩
 have hil:i=(iV ak g.length).length:=by omega
 subst hil;rw[bC]at hall;refine go ?_;refine ae (true,0) (hv:=rfl) (hp:=⟨⟨λ_=>⟨hG,hin⟩,λ_=>rfl⟩,λ_=>?_⟩)
 symm
 rw[show((true,0):Bool×Int).1=true from rfl,Nk];refine⟨λn hn hnn=>(hall n (FJ.2 ⟨n,rfl,hn,hnn⟩)).1,by omega,?_⟩;rw[Je hG.rg _ (bU _)];exact(TJ hG.dP hf o8 sW).2 λn hn hnn=>(hall n (FJ.2 ⟨n,rfl,hn,hnn⟩)).2
theorem aeT{vg:Value}{cells symbols:Int}{grid:List Int}(hl:grid.length<9223372036854775808):
 aV Tryz.prog (.func 42) [.int .i64 cells,.int .i64 symbols,vg] [] [] [ah aa vg grid] (λb:Bool=>.bool b) (λ_=>[]) (λ_=>[]) (λb=>(b=true↔Fin cells symbols grid)):=by
 refine aC _ (aF 42) λB w0=>?_;refine go ?_;refine ay rfl (λh1=>?_) (λh1=>?_)
 ·refine go ?_;exact ae false (hv:=rfl) (hp:=⟨(λh=>by cases h),λh=>absurd h.1 h1⟩)
 refine go ?_;refine aR (λk=>grid.length - k) (λk:Nat=>[(7,.int .i64 (k:Int))]) (λ_=>[]) (λ_=>[]) (λk=>k<=grid.length/\∀s∈grid.take k,0<=s/\s<symbols) 0 ⟨bJ _,by simp⟩ (body:=?_);rintro k ⟨hk,hall⟩;refine go ?_;refine ay rfl (λh2=>?_) (λh2=>?_)
 ·refine go ?_;intro _ _ x hx;have hxm:=aP hx;refine go ?_;refine gG (λh3=>?_) (λh3=>?_)
  rotate_left
  ·refine go ?_;exact ae false (hv:=rfl) (hp:=⟨(λh=>by cases h),λh=>by have:=h.2 x hxm;omega⟩)
  refine go ?_;intro _ _ x' hx';cases hx.symm.trans hx';refine go ?_;refine ay rfl (λh4=>?_) (λh4=>?_)
  ·refine go ?_;exact ae false (hv:=rfl) (hp:=⟨(λh=>by cases h),λh=>by have:=h.2 x hxm;omega⟩)
  refine go ?_;refine aD (k+1) (by omega) ⟨by omega,λs hs=>?_⟩;rw[take_one hx,dB]at hs;rcases hs with hs|hs
  ·exact hall s hs
  ·rw[bM.1 hs];omega
 have hkl:k=grid.length:=by omega
 subst hkl;rw[bC]at hall;refine go ?_;exact ae true (hv:=rfl) (hp:=⟨λ_=>⟨by omega,hall⟩,λ_=>rfl⟩)
theorem aeU{vg vc:Value}{grid cells:List Int}(hg:oN grid)(hc:oq grid cells):bV Tryz.prog 106 [vg,vc] [ah aa vg grid,ah aa vc cells] (.bool (zh grid cells)):=by
 refine aC _ (aF 106) λB w0=>?_;have hcl:=hc.len;have hgl:=hg.len;refine go ?_;refine aR (λk=>cells.length - k) (λk:Nat=>[(5,.int .i64 (k:Int))]) (λ_=>[]) (λ_=>[]) (λk=>k<=cells.length/\((cells.take k).map (sy grid)).Nodup) 0 ⟨bJ _,by simp⟩ (body:=?_);rintro k ⟨hk,hnd⟩;refine go ?_;refine ay rfl (λh1=>?_) (λh1=>?_)
 ·have hck:cells[k]? =some (cells[k]'(by omega)):=bN _;generalize cells[k]'(by omega)=c at hck;have hcc:=hc.cell c (aP hck);obtain⟨c,rfl⟩:=dZ hcc.1;have hcg:grid[c]? =some (grid[c]'(by omega)):=bN _;generalize grid[c]'(by omega)=x at hcg;have kw:=hg.dP x (aP hcg);obtain⟨x,rfl⟩:=dZ kw.1;have hmap:(cells.take (k+1)).map (sy grid)=(cells.take k).map (sy grid)++[x]:=by rw[take_one hck,ed];simp[tO hcg]
  refine go ?_;refine aR (λj=>k - j) (λj:Nat=>[(6,.int .i64 (j:Int))]) (λ_=>[]) (λ_=>[]) (λj=>j<=k/\x∉(cells.take j).map (sy grid)) 0 ⟨bJ _,by simp⟩ (body:=?_);rintro j ⟨hj,hno⟩;refine go ?_;refine ay rfl (λh2=>?_) (λh2=>?_)
  ·refine go ?_;intro _ _ c' hc';cases hck.symm.trans hc';refine go ?_;intro _ _ x' hx';cases hcg.symm.trans hx';refine go ?_;intro _ _ d hd;have hdd:=hc.cell d (aP hd);obtain⟨d,rfl⟩:=dZ hdd.1;refine go ?_;intro _ _ y hy;have nQ:=hg.dP y (aP hy);obtain⟨y,rfl⟩:=dZ nQ.1;have hmj:(cells.take (j+1)).map (sy grid)=(cells.take j).map (sy grid)++[y]:=by rw[take_one hd,ed];simp[tO hy]
   refine go ?_;refine ay rfl (λh3=>?_) (λh3=>?_)
   ·refine go ?_;refine ae () (hv:=?_) (hp:=trivial);have:zh grid cells=false:=by
     refine aS λhall=>?_;have h4:((cells.take (k+1)).map (sy grid)).Nodup:=List.Nodup.sublist (List.Sublist.map _ (DR _ _)) hall;rw[hmap,iq]at h4;have hm:y∈(cells.take k).map (sy grid):=by
      refine eT.2 ⟨(d:Int),List.mem_take_iff_getElem.2 ⟨j,by have:=(bK.1 hd).1;omega,(bK.1 hd).2⟩,tO hy⟩
     exact h4.2.2 y hm x (by simp) (by omega)
    rw[this];rfl
   refine go ?_;refine aD (j+1) (by omega) ⟨by omega,?_⟩;rw[hmj,dB,not_or];exact⟨hno,by simp;omega⟩
  have hjk:j=k:=by omega
  subst hjk;refine go ?_;refine aD (j+1) (by omega) ⟨by omega,?_⟩;rw[hmap,iq];exact⟨hnd,by simp,by rintro a ha b hb rfl;simp at hb;subst hb;exact hno ha⟩
 have hkl:k=cells.length:=by omega
 subst hkl;rw[bC]at hnd;refine go ?_;refine ae () (hv:=?_) (hp:=trivial);rw[zh,dQ hnd];rfl
theorem aeW{vg vc:Value}{grid cells:List Int}{set:Nat}(hg:oN grid)(hc:oq grid cells)(hs:set<9223372036854775808):
 bV Tryz.prog 107 [vg,vc,.int .i64 (set:Int)] [ah aa vg grid,ah aa vc cells] (.int .i64 (cnt grid set cells:Int)):=by
 refine aC _ (aF 107) λB w0=>?_;have hcl:=hc.len;have hgl:=hg.len;refine go ?_;refine aR (λk=>cells.length - k) (λk:Nat=>[(8,.int .i64 (k:Int)),(7,.int .i64 (cnt grid set (cells.take k):Int))]) (λ_=>[]) (λ_=>[]) (λk=>k<=cells.length/\cnt grid set (cells.take k)<=k) 0 ⟨by omega,by simp[cnt]⟩ (body:=?_);rintro k ⟨hk,hn⟩;refine go ?_;refine ay rfl (λh1=>?_) (λh1=>?_)
 ·refine go ?_;intro _ _ c hck;have hcc:=hc.cell c (aP hck);obtain⟨c,rfl⟩:=dZ hcc.1;refine go ?_;intro _ _ x hx;have kw:=hg.dP x (aP hx);obtain⟨x,rfl⟩:=dZ kw.1;refine aj (FD (set:=set) (dP:=x) hs (by omega)) (next:=λ_ _=>?_);have hstep:cnt grid set (cells.take (k+1))=cnt grid set (cells.take k)+if set.testBit x then 1 else 0:=by
   rw[cnt,take_one hck,uk,gU,<- cnt];congr 1;simp only[zD,Kv,tO hx];split<;>rfl
  refine go ?_;refine iZ rfl (λh2=>?_) (λh2=>?_)
  ·rw[if_pos h2]at hstep;refine go ?_;exact aD (k+1) (by omega) ⟨by omega,by omega⟩ (hl:=⟨rfl,by rw[hstep];rfl,by repeat (first|exact trivial|refine⟨rfl,?_⟩)⟩)
  ·rw[if_neg (by rw[h2];simp)]at hstep;refine go ?_;exact aD (k+1) (by omega) ⟨by omega,by omega⟩ (hl:=⟨rfl,by rw[hstep];rfl,by repeat (first|exact trivial|refine⟨rfl,?_⟩)⟩)
 refine go ?_;have:k=cells.length:=by omega
 subst this;refine ae () (hv:=?_) (hp:=trivial);rw[bC];rfl
theorem aeX{vv vg vc:Value}{values grid cells:List Int}(hg:oN grid)(hc:oq grid cells)(hv:AQ values grid):
 bV Tryz.prog 108 [vv,vg,vc] [ah aa vv values,ah aa vg grid,ah aa vc cells] (.int .i64 (lI values grid cells)):=by
 refine aC _ (aF 108) λB w0=>?_;have hcl:=hc.len;have hgl:=hg.len;refine go ?_;refine aR (λk=>cells.length - k) (λk:Nat=>[(8,.int .i64 (k:Int)),(7,.int .i64 (lI values grid (cells.take k)))]) (λ_=>[]) (λ_=>[]) (λk=>k<=cells.length/\0<=lI values grid (cells.take k)/\lI values grid (cells.take k)<=99*k) 0 ⟨by omega,by simp[lI],by simp[lI]⟩ (body:=?_);rintro k ⟨hk,hn0,hn⟩;refine go ?_;refine ay rfl (λh1=>?_) (λh1=>?_)
 ·refine go ?_;intro _ _ c hck;have hcc:=hc.cell c (aP hck);obtain⟨c,rfl⟩:=dZ hcc.1;refine go ?_;intro _ _ x hx;have kw:=hg.dP x (aP hx);have hxv:=hv.dP x (aP hx);obtain⟨x,rfl⟩:=dZ kw.1;refine go ?_;intro _ _ v lm;have hvv:=hv.val v (aP lm);have hstep:lI values grid (cells.take (k+1))=lI values grid (cells.take k)+v:=by
   rw[lI,take_one hck,ed,List.sum_append,<- lI];simp[AU hx lm]
  refine go ?_;exact aD (k+1) (by omega) ⟨by omega,by omega,by omega⟩ (hl:=⟨rfl,by rw[hstep];rfl,by repeat (first|exact trivial|refine⟨rfl,?_⟩)⟩)
 refine go ?_;have:k=cells.length:=by omega
 subst this;refine ae () (hv:=?_) (hp:=trivial);rw[bC];rfl
theorem aeY{a b n:Int}(ha:0<=a/\a<=1000)(hb:0<=b/\b<=1000):bV Tryz.prog 110 [.int .i64 a,.int .i64 b,.int .i64 n] [] (.bool (decide (n<=max (a - b) (b - a)))):=by
 refine aC _ (aF 110) λB w0=>?_;refine go ?_;refine gG (λh1=>?_) (λh1=>?_)
 ·refine go ?_;refine ae () (hv:=?_) (hp:=trivial);rw[show decide (n<=max (a - b) (b - a))=decide (n<=b - a)from l6.2 (by omega)];rfl
 refine go ?_;refine ae () (hv:=?_) (hp:=trivial);rw[dQ (show n<=max (a - b) (b - a)by omega)];rfl
theorem NZ{va vb:Value}{xs ys:List Int}(hal:xs.length<9223372036854775808):bV Tryz.prog 19 [va,vb] [ah aa va xs,ah aa vb ys] (.bool (decide (xs=ys))):=by
 refine aC _ (aF 19) λB w0=>?_;refine go ?_;refine ay rfl (λh1=>?_) (λh1=>?_)
 ·refine go ?_;refine ae () (hv:=?_) (hp:=trivial);rw[aS (λe=>h1 (by rw[e]))];rfl
 have hlen:xs.length=ys.length:=by omega
 refine go ?_;refine aR (λk=>xs.length - k) (λk:Nat=>[(5,.int .i64 (k:Int))]) (λ_=>[]) (λ_=>[]) (λk=>k<=xs.length/\∀j,j<k->xs[j]? =ys[j]?) 0 ⟨by omega,λj hj=>by omega⟩ (body:=?_);rintro k ⟨hkx,hsame⟩;refine go ?_;refine ay rfl (λh2=>?_) (λh2=>?_)
 ·refine go ?_;intro _ _ x hx _ _ y hy;refine go ?_;refine ay rfl (λh3=>?_) (λh3=>?_)
  ·refine go ?_;refine ae () (hv:=?_) (hp:=trivial);rw[aS (λe=>h3 (by rw[e,hy]at hx;cases hx;rfl))];rfl
  refine go ?_;refine aD (k+1) (by omega) ⟨by omega,λj hj=>?_⟩;by_cases e:j=k
  ·subst e;rw[hx,hy,gM.1 h3]
  ·exact hsame j (by omega)
 refine go ?_;refine ae () (hv:=?_) (hp:=trivial);have:xs=ys:=by
  apply kP;intro j;by_cases hj:j<k
  ·exact hsame j hj
  ·rw[iX (by omega),iX (by omega)]
 rw[dQ this];rfl
theorem aeZ{vn iP:Value}{aN:List (List Int)}{ak:List Bool}(hG:gX aN)(hll:∀l∈aN,l.length<9223372036854775808)(hin:ak.length=aN.length):
 bV Tryz.prog 93 [vn,iP] [ah (ax aa) vn aN,ah lC iP ak] (.bool (qd aN ak false)):=by
 refine aC _ (aF 93) λB w0=>?_;refine go ?_;refine aj (Vf (g:=aN) (ak:=ak) hll) (next:=λy hy=>?_);obtain⟨a,n,e⟩:=y;have he:e=0:=hy.1.2 ⟨hG,hin⟩;subst he;have hn:=hy.2 rfl;dsimp only at hn;refine go ?_;refine ae () (hv:=?_) (hp:=trivial);rw[qd,if_neg (by simp),<- hn];show Value.bool (decide ((n:Int)<=1))=_;rw[show decide ((n:Int)<=1)=decide (n<=1)from l6.2 (by omega)]
theorem ae0{vn iP:Value}{aN:List (List Int)}{ak:List Bool}(hG:gX aN)(hll:∀l∈aN,l.length<9223372036854775808)(hin:ak.length=aN.length):
 bV Tryz.prog 95 [vn,iP] [ah (ax aa) vn aN,ah lC iP ak] (.bool (qd aN ak true)):=by
 refine aC _ (aF 95) λB w0=>?_;refine go ?_;refine aj (Vf (g:=aN) (ak:=ak) hll) (next:=λy hy=>?_);obtain⟨a,n,e⟩:=y;have he:e=0:=hy.1.2 ⟨hG,hin⟩;subst he;have hn:=hy.2 rfl;dsimp only at hn;refine go ?_;refine aj (aeQ (g:=aN) (ak:=ak) hll) (next:=λz hz=>?_);obtain⟨r,e⟩:=z;have he:e=0:=hz.1.2 ⟨hG,hin⟩;subst he;have hr:=hz.2 rfl;dsimp only at hr;subst hr;refine go ?_;by_cases hn0:n=0
 ·rw[dQ (show(n:Int)=0 by omega)];refine go ?_;refine ae () (hv:=?_) (hp:=trivial);rw[qd,if_neg (by rw[<- hn];exact λh=>h.2 hn0),<- hn,dQ (show n<=1 by omega)];rfl
 ·rw[aS (show¬(n:Int)=0 by omega)];refine go ?_;refine ae () (hv:=?_) (hp:=trivial);rw[qd,if_pos ⟨rfl,by rw[<- hn];exact hn0⟩];rfl
theorem ae1{vg vc:Value}{grid cells:List Int}{set:Nat}(hg:oN grid)(hc:oq grid cells)(hs:set<9223372036854775808):
 aV Tryz.prog (.func 32) [vg,vc,.int .i64 (set:Int)] [] [] [ah aa vg grid,ah aa vc cells] (λv:Value=>v) (λ_=>[]) (λv=>[ah aa v (rn grid set 0 cells)]) (λ_=>True):=by
 refine aC _ (aF 32) λB w0=>?_;have hcl:=hc.len;have hgl:=hg.len;have hrl:=FC grid set cells 0;refine go ?_;refine fJ aa ?_;refine aR (λx=>cells.length - x.1) (λx:Nat×Nat×Value×List Int=>[(9,.int .i64 (x.1:Int)),(8,.int .i64 (x.2.1:Int)),(7,x.2.2.1)]) (λx=>[ap aa x.2.2.1 x.2.2.2]) (λ_=>[])
  (λx=>x.1<=cells.length/\x.2.1<=x.1/\x.2.2.2++rn grid set x.2.1 (cells.drop x.1)=rn grid set 0 cells) (0,0,.slice none 0 0,[]) ⟨bJ _,bU _,rfl⟩ (body:=?_)
 rintro⟨k,n,v,xs⟩ ⟨hk,hn,hxs⟩;dsimp only at hk hn hxs⊢;have hxl:xs.length<=cells.length+1:=by
  have:=congrArg List.length hxs;rw[gU]at this;omega
 refine go ?_;refine ay rfl (λh1=>?_) (λh1=>?_)
 ·refine go ?_;intro _ _ c hck;have hcc:=hc.cell c (aP hck);obtain⟨c,rfl⟩:=dZ hcc.1;have hdrop:cells.drop k=(c:Int)::cells.drop (k+1):=by
   obtain⟨hlt,he⟩:=bK.1 hck;rw[nR hlt,he]
  rw[hdrop]at hxs;refine go ?_;intro _ _ x hx;have kw:=hg.dP x (aP hx);obtain⟨x,rfl⟩:=dZ kw.1;rw[rn,tO hx]at hxs;refine aj (FD (set:=set) (dP:=x) hs (by omega)) (next:=λ_ _=>?_);refine go ?_;refine iZ rfl (λh2=>?_) (λh2=>?_)
  ·rw[if_pos h2]at hxs;refine go ?_;exact aD (k+1,n+1,v,xs) (by show cells.length - (k+1)<cells.length - k;omega) ⟨by show k+1<=_;omega,by show n+1<=k+1;omega,hxs⟩
  rw[if_neg (by rw[h2];simp)]at hxs;refine go ?_;refine ay rfl (λh3=>?_) (λh3=>?_)
  ·rw[if_pos (by omega)]at hxs;refine go ?_;intro JE;refine eG (xs:=xs) aa (n:Int) () (by omega) (next:=λad=>?_);refine go ?_;exact aD (k+1,0,_,xs++[(n:Int)]) (by show cells.length - (k+1)<cells.length - k;omega) ⟨by show k+1<=_;omega,bJ _,by show(xs++[(n:Int)])++_=_;rw[fI];exact hxs⟩
  ·rw[if_neg (by omega)]at hxs;refine go ?_;exact aD (k+1,0,v,xs) (by show cells.length - (k+1)<cells.length - k;omega) ⟨by show k+1<=_;omega,bJ _,hxs⟩
 have hkl:k=cells.length:=by omega
 subst hkl;rw[Gn,rn]at hxs;refine go ?_;refine ay rfl (λh3=>?_) (λh3=>?_)
 ·rw[if_pos (by omega)]at hxs;refine go ?_;intro vW;refine eG (xs:=xs) aa (n:Int) () (by omega) (next:=λad=>?_);refine go ?_;rw[hxs];refine aW (fG (E:=aa) (v:=.slice ad (xs.length+1) (xs.length+1)) (xs:=rn grid set 0 cells)) (h:=?_);exact ae (.slice ad (xs.length+1) (xs.length+1)) (hv:=rfl) (hp:=trivial)
 ·rw[if_neg (by omega),gV]at hxs;subst hxs;refine go ?_;refine aW (fG (E:=aa) (v:=v) (xs:=rn grid set 0 cells)) (h:=?_);exact ae v (hv:=rfl) (hp:=trivial)
theorem ae2{vv vg vc:Value}{values grid cells:List Int}(hg:oN grid)(hc:oq grid cells)(hv:AQ values grid):
 bV Tryz.prog 109 [vv,vg,vc] [ah aa vv values,ah aa vg grid,ah aa vc cells] (.bool (zi values grid cells)):=by
 refine aC _ (aF 109) λB w0=>?_;have hcl:=hc.len;have hgl:=hg.len;refine go ?_;refine aR (λk=>cells.length+1 - k) (λk:Nat=>[(7,.int .i64 (k:Int))]) (λ_=>[]) (λ_=>[]) (λk=>1<=k/\(k<=cells.length\/k=1)/\∀(i:Nat) a b,i+1<k->cells[i]? =some a->cells[i+1]? =some b->va values grid a<va values grid b) 1 ⟨by omega,.inr rfl,λi a b h=>by omega⟩ (body:=?_);rintro k ⟨hk1,hk,hall⟩;refine go ?_;refine ay rfl (λh1=>?_) (λh1=>?_)
 ·obtain⟨k,rfl⟩:∃k',k=k'+1:=⟨k - 1,by omega⟩
  refine go ?_;intro _ _ c hck;rw[show(((k+1:Nat):Int) - 1).toNat=k by omega]at hck;have hcc:=hc.cell c (aP hck);obtain⟨c,rfl⟩:=dZ hcc.1;refine go ?_;intro _ _ x hx;have kw:=hg.dP x (aP hx);have hxv:=hv.dP x (aP hx);obtain⟨x,rfl⟩:=dZ kw.1;refine go ?_;intro _ _ v lm;refine go ?_;intro _ _ d hdk;have hdd:=hc.cell d (aP hdk);obtain⟨d,rfl⟩:=dZ hdd.1;refine go ?_;intro _ _ y hy;have nQ:=hg.dP y (aP hy);have hyv:=hv.dP y (aP hy);obtain⟨y,rfl⟩:=dZ nQ.1;refine go ?_;intro _ _ u C9;refine go ?_;refine ay rfl (λh2=>?_) (λh2=>?_)
  ·refine go ?_;refine ae () (hv:=?_) (hp:=trivial);have:zi values grid cells=false:=by
    refine aS λhpw=>?_;rw[BC]at hpw;have:=(zH.1 hpw) k (k+1) (bK.1 hck).1 (bK.1 hdk).1 (by omega);rw[(bK.1 hck).2,(bK.1 hdk).2,AU hx lm,AU hy C9]at this;omega
   rw[this];rfl
  refine go ?_;refine aD (k+1+1) (by omega) ⟨by omega,.inl (by omega),λi a b hi ha hb=>?_⟩;by_cases e:i=k
  ·subst e;rw[hck]at ha;rw[hdk]at hb;cases ha;cases hb;rw[AU hx lm,AU hy C9];omega
  ·exact hall i a b (by omega) ha hb
 refine go ?_;refine ae () (hv:=?_) (hp:=trivial);have hstep:∀(i:Nat) a b,cells[i]? =some a->cells[i+1]? =some b->va values grid a<va values grid b:=λi a b ha hb=>hall i a b (by have:=(bK.1 hb).1;omega) ha hb;have:zi values grid cells=true:=by
  refine dQ ?_;rw[BC,zH];intro i j hi hj hij;have:∀d,∀hd:i+1+d<cells.length,va values grid cells[i]<va values grid cells[i+1+d]:=by
   intro d;induction d with
   |zero=>intro hd;exact hstep i _ _ (bN hi) (bN hd)
   |succ d ih=>
    intro hd;have h1:=ih (by omega);have h2:=hstep (i+1+d) _ _ (bN (by omega)) (bN (show i+1+d+1<cells.length by omega));exact Int.lt_trans h1 h2
  have:=this (j - (i+1)) (by omega);simpa[show i+1+(j - (i+1))=j by omega]using this
 rw[this];rfl
