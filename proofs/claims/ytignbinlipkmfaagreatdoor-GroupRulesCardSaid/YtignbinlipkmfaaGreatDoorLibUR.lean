/- Part. -/
import Derived.Test.YtignbinlipkmfaaGreatDoorLibSR
set_option linter.all false
set_option maxRecDepth 10000
set_option maxHeartbeats 4000000
namespace Go.Proofs.YtignbinlipkmfaaGreatDoor
open Tryz (prog)
open Go.Ideal Kd
noncomputable def adF:iL:=⟨2,[(.tmp 0)],(.seq (kO [kS 0 (.jh (.const vS))]) (.seq (kO [⟨⟨(some 1),none,(.yX 9 8 [vE,vE,vE,vE,vE,vE,vE,vE] [⟨0,⟨1,(.const (.string ⟨⟨[99,101,108,108,115]⟩⟩))⟩⟩,⟨1,⟨1,(.const (.string ⟨⟨[114,111,119,115]⟩⟩))⟩⟩,⟨2,⟨1,(.const (.string ⟨⟨[99,111,108,117,109,110,115]⟩⟩))⟩⟩,⟨3,⟨1,(.const (.string ⟨⟨[100,105,97,103,111,110,97,108,115]⟩⟩))⟩⟩,⟨4,⟨1,(.const (.string ⟨⟨[97,114,111,117,110,100]⟩⟩))⟩⟩,⟨5,⟨1,(.const (.string ⟨⟨[110,101,97,114]⟩⟩))⟩⟩,⟨6,⟨1,(.const (.string ⟨⟨[112,97,105,114,115]⟩⟩))⟩⟩,⟨7,⟨1,(.const (.string ⟨⟨[97,108,108]⟩⟩))⟩⟩])⟩,[]⟩,kS 0 (.jh 1)]) .ret))⟩
def asu:lF prog 131=some adF:=th
def K6{s:ByteArray}:∀{l:ae ByteArray} {k:Nat},l[k]? =some s->s∉l.take k->eD s l=k
 |[],k,h,_=>by simp at h
 |a::l,0,h,_=>by
  have h:a=s:=tw
  unfold eD;rw[if_pos h.symm]
 |a::l,k+1,h,hn=>by
  have h:l[k]? =some s:=tw
  rw[List.take_succ_cons,dB,not_or]at hn;unfold eD;rw[if_neg hn.1,K6 h hn.2]
def adG{α:Type}{xs:ae α}{k:Nat}{x:α}(hx:xs[k]? =some x):(xs.take (k+1)).Nodup↔(xs.take k).Nodup/\x∉xs.take k:=by
 rw[bU hx,jV];constructor
 .rintro⟨h1,_,h2⟩;exact⟨h1,λh=>h2 x h x (bS.2 rfl) rfl⟩
 .rintro⟨h1,h2⟩;exact⟨h1,tg,λa ha b hb e=>h2 (by rw[bS.1 hb]at e;rw[<- e];exact ha)⟩
variable{vl:ah}{xs:ae ByteArray}
def Qs(hl:xs.length<2^63):dF prog 130 [vl] [aj aX vl xs] (.bool (!decide xs.Nodup)):=by
 refine gB 130 λB w0=>?_;refine gF aX vl xs λa1 c1 e1=>?_;subst e1;refine gN xs.length 3 (λk=>k<=xs.length/\(xs.take k).Nodup) ⟨tf,tg⟩ ?_;rintro k ⟨hk,hnd⟩;refine aC ?_ ?_<;>intro h1
 .have hx:xs[k]? =some (xs[k]'(tf)):=bY _;generalize xs[k]'(tf)=x at hx;refine gN k 4 (λj=>j<=k/\x∉xs.take j) ⟨tf,tg⟩ ?_;rintro j ⟨hj,hno⟩;refine aC ?_ ?_<;>intro h2
  .refine gX aX (xs:=xs) λ_ _ x' (_:Unit) hx'=>?_;cases hx.symm.trans hx';refine gX aX (xs:=xs) λ_ _ y (_:Unit) hy=>?_;refine go ?_;refine kX rfl (λh3=>?_) (λh3=>?_)
   .rw[eZ]at h3;have h3:=iN h3;subst h3;refine aP ?_;rw[aW (λhn=>by
     have h4:(xs.take (k+1)).Nodup:=hn.sublist (Q6 _ _);rw[adG hx]at h4;exact h4.2 (xG.2 ⟨j,by rw[vZ,if_pos tf];exact hy⟩))];rfl
   .rw[eZ]at h3;have h3:=ou h3;refine go ?_;refine aO (j+1) tf ⟨tf,?_⟩;rw[bU hy,eP,not_or];exact⟨hno,by simp;exact h3⟩
  have hjk:j=k:=tf
  subst hjk;refine go ?_;exact aO (j+1) tf ⟨tf,(adG hx).2 ⟨hnd,hno⟩⟩
 have hkl:k=xs.length:=tf
 subst hkl;rw[bP]at hnd;refine aP ?_;rw[dQ hnd];rfl
def adH:bG prog (.func 131) [] [] [] [] (λa:ak Addr=>.slice a jB.length jB.length) (λa=>[ap aX (.slice a jB.length jB.length) jB]) (λ_=>[]) (λ_=>True):=by
 refine jD adF asu λB w0=>?_;refine go ?_;intro b;refine go ?_;refine wQ (b:=b) (m:=jB.length) (f:=0) aX (aD:=jB.map λs=>(s,())) rfl (.inl rfl) ?_ (hk:=aB.here);refine Z5 (E:=aX) (aD:=jB.map λs=>(s,())) tr ?_ (λw hw p hp f hf=>by cases hf);show R _ _ _ [ap aX (.slice (some ⟨b,0,some 0⟩) jB.length jB.length) jB] _;exact gQ (some ⟨b,0,some 0⟩) trivial
def V6(s:ByteArray)(l:ae ByteArray)(y:Nat×Bool):Prop:=(y.2=true↔s∈l)/\(y.2=true->eD s l=y.1)
abbrev V7(y:Nat×Bool):ah:=.tuple ⟨[iV (y.1:Int),.bool y.2]⟩
variable{d:bK}{vh vs vr vc vu:ah}{s:ByteArray}
def asv(hl:d.symbols.length<2^63):fC prog 311 [.agg ⟨iD d vh vs vr vc vu⟩,.string s] [aj fG vs d.symbols] V7 (V6 s (bX d)):=by
 refine gB 311 λB w0=>?_;refine gF fG vs d.symbols λa1 c1 e1=>?_;subst e1;refine go ?_;intro b1;refine gN d.symbols.length 6 (λk=>k<=d.symbols.length/\s∉(bX d).take k) ⟨tf,tg⟩ ?_;rintro k ⟨hk,hno⟩;refine aC ?_ ?_<;>intro h1
 .refine gX fG (xs:=d.symbols) λ_ _ x _ hx=>?_;have nR:(bX d)[k]? =some x.name:=by unfold bX;rw[dZ,hx];rfl
  exact c9
 have hkl:k=d.symbols.length:=tf
 subst hkl;rw[show(bX d).take d.symbols.length=bX d from oQ (by simp[bX])]at hno;exact fS
def adI(hl:d.aQ.length<2^63):fC prog 276 [.agg ⟨iD d vh vs vr vc vu⟩,.string s] [aj bZ vc d.aQ] V7 (V6 s (dN d)):=by
 refine gB 276 λB w0=>?_;refine gF bZ vc d.aQ λa1 c1 e1=>?_;subst e1;refine go ?_;intro b1;refine gN d.aQ.length 6 (λk=>k<=d.aQ.length/\s∉(dN d).take k) ⟨tf,tg⟩ ?_;rintro k ⟨hk,hno⟩;refine aC ?_ ?_<;>intro h1
 .refine gX bZ (xs:=d.aQ) λ_ _ x _ hx=>?_;have nR:(dN d)[k]? =some x.name:=by unfold dN;rw[dZ,hx];rfl
  exact c9
 have hkl:k=d.aQ.length:=tf
 subst hkl;rw[show(dN d).take d.aQ.length=dN d from oQ (by simp[dN])]at hno;exact fS
def rF(d:bK):ae ByteArray:=d.regions.map (·.name)
variable{a b:ae ByteArray}
def asw(h:s∉a):eD s (a++b)=a.length+eD s b:=by
 induction a with
 |nil=>simp
 |cons x a ih=>
  rw[dB,not_or]at h;show(if s=x then 0 else eD s (a++b)+1)=_;rw[if_neg h.1,ih h.2,uS];omega
def asx(h:s∈a):eD s (a++b)=eD s a:=by
 induction a with
 |nil=>cases h
 |cons x a ih=>
  show(if s=x then 0 else eD s (a++b)+1)=if s=x then 0 else eD s a+1
  by_cases e:s=x
  .rw[if_pos e,if_pos e]
  .rw[if_neg e,if_neg e,ih ((dB.1 h).resolve_left e)]
def adJ(hl:d.regions.length<=4096):fC prog 217 [.agg ⟨iD d vh vs vr vc vu⟩,.string s] [aj fw vr d.regions] V7 (V6 s (cO d)):=by
 have hgl:jB.length=8:=rfl;refine gB 217 λB w0=>?_;refine gF fw vr d.regions λa1 c1 e1=>?_;subst e1;refine go ?_;intro b1;refine gC adH λag _=>?_;refine gZ (gD (E:=aX) (v:=.slice ag jB.length jB.length) (xs:=jB)) ?_;refine gN jB.length 7 (λk=>k<=jB.length/\s∉jB.take k) ⟨tf,tg⟩ ?_;rintro k ⟨hk,hno⟩;refine aC ?_ ?_<;>intro h1
 .refine gX aX (xs:=jB) λ_ _ x (_:Unit) hx=>?_;refine go ?_;refine kX rfl (λh2=>?_) (λh2=>?_)
  .rw[eZ]at h2;have h2:=iN h2;subst h2;refine go ?_;exact gQ (k,true) ⟨⟨λ_=>uR _ (aU hx),λ_=>rfl⟩,λ_=>(asx (aU hx)).trans (K6 hx hno)⟩
  .rw[eZ]at h2;have h2:=ou h2;exact c7
 have hkl:k=jB.length:=tf
 subst hkl;rw[bP]at hno;have I4:=hno;clear hno hk h1;refine gN d.regions.length 8 (λk=>k<=d.regions.length/\s∉(rF d).take k) ⟨tf,tg⟩ ?_;rintro k ⟨hk,hno⟩;refine aC ?_ ?_<;>intro h1
 .refine gX fw (xs:=d.regions) λ_ _ x (_:ah) hx=>?_;have nR:(rF d)[k]? =some x.name:=by unfold rF;rw[dZ,hx];rfl
  refine go ?_;refine kX rfl (λh2=>?_) (λh2=>?_)
  .rw[eZ]at h2;have h2:=iN h2;subst h2;refine go ?_;refine fu (8+k,true) (hv:=?_) (hp:=⟨⟨λ_=>xD _ (aU nR),λ_=>rfl⟩,λ_=>(asw I4).trans ?_⟩)
   .show Value.tuple ⟨[iV (8+(k:Int)),.bool true]⟩=.tuple ⟨[iV ((8+k:Nat):Int),.bool true]⟩;rw[show((8+k:Nat):Int)=8+(k:Int)by omega]
   .have:=K6 nR hno;unfold rF at this;rw[this];rfl
  .rw[eZ]at h2;have h2:=ou h2;refine go ?_;refine aO (k+1) tf ⟨tf,?_⟩;rw[bU nR,eP,not_or];exact⟨hno,by simp;exact λe=>h2 e.symm⟩
 have hkl:k=d.regions.length:=tf
 subst hkl;rw[show(rF d).take d.regions.length=rF d from oQ (by simp[rF])]at hno;refine go ?_;exact gQ (0,false) ⟨⟨(λh=>by cases h),λh=>by
  rcases eP.1 h with h|h
  .exact absurd h I4
  .exact absurd h hno⟩,(λh=>by cases h)⟩
def Qt{l:ae ByteArray}(hs:d.symbols.length<=16)(hl:l.length<2^63):
 fC prog 275 [.agg ⟨iD d vh vs vr vc vu⟩,vl] [aj fG vs d.symbols,aj aX vl l] (λy:Bool=>.tuple ⟨[iV (cond y (gY (bX d) l:Int) 0),.bool y]⟩) (λy=>y=true↔∀s∈l,s∈bX d):=by
 have hsl:(bX d).length<=16:=by simp[bX];exact hs
 refine gB 275 λB w0=>?_;refine gF aX vl l λa1 c1 e1=>?_;subst e1;refine go ?_;intro b1;refine gL (λk=>l.length - k) (λk:Nat=>[(7,iV (k:Int)),(6,iV (gY (bX d) (l.take k):Int))]) (λk=>k<=l.length/\∀s∈l.take k,s∈bX d) 0 ⟨bH _,tg⟩ ?_;rintro k ⟨hk,hall⟩;refine aC ?_ ?_<;>intro h1
 .refine gX aX (xs:=l) λ_ _ x (_:Unit) hx=>?_;refine gC (asv (d:=d) (s:=x) tf) λy hy=>?_;obtain⟨n,ok⟩:=y;obtain⟨hy1,hy2⟩:=hy;dsimp only at hy1 hy2;refine go ?_;cases ok with
  |false=>
   refine go ?_;exact gQ false ⟨(λh=>by cases h),λh=>by have:=hy1.2 (h x (aU hx));cases this⟩
  |true=>
   have hm:=hy1.1 rfl;have hp:=AJ hm;have hn:=hy2 rfl;subst hn;have h2:1<<<eD x (bX d)<2^16:=by
    exact mT
   have h3:=UR hsl (l.take k) 0 hall tf;refine go ?_;refine(cZ rfl rfl (Y5 (a:=1) (b:=eD x (bX d)) rfl rfl tf tf)).h ?_;refine(cZ rfl rfl (Y6 (a:=gY (bX d) (l.take k)) (b:=1<<<eD x (bX d)) rfl rfl (Nat.lt_trans h3 tf) tf)).h ?_;exact ez
 have hkl:k=l.length:=tf
 subst hkl;rw[bP]at hall⊢;refine go ?_;exact gQ true ⟨λ_=>hall,λ_=>rfl⟩
def asy(hrl:d.regions.length<=4096)(hcl:d.aQ.length<=4096):
 bG prog (.func 132) [.agg ⟨iD d vh vs vr vc vu⟩] [] [] [aj fw vr d.regions,aj bZ vc d.aQ] zM (λ_=>[]) (λy=>[pM (y.e=0) (aj bZ y.v (d.aQ.map (mO (cO d))))]) (λy=>y.e=0↔(dN d).Nodup/\∀c∈d.aQ,c.on∈cO d):=by
 refine gB 132 λB w0=>?_;refine gF bZ vc d.aQ λa1 c1 e1=>?_;subst e1;refine go ?_;intro b1;refine gP b1 ?_;refine go ?_;refine gK aX ?_;refine di (λy:Nat×ah=>d.aQ.length - y.1) (λy=>[(5,iV (y.1:Int)),(4,y.2)]) (λy=>[ap aX y.2 ((dN d).take y.1)]) (λ_=>[]) (λy=>y.1<=d.aQ.length) (0,.slice none 0 0) (bH _) (hk:=tj) (body:=?_);rintro⟨k,v4⟩ hk;dsimp only at hk⊢;have hil:((dN d).take k).length=k:=by rw[gM];simp[dN];omega
 refine aC ?_ ?_<;>intro h1
 .refine gX bZ (xs:=d.aQ) λ_ _ x _ hx=>?_;have nR:(dN d)[k]? =some x.name:=by unfold dN;rw[dZ,hx];rfl
  refine go ?_;intro V8;refine go ?_;refine fJ aX (xs:=(dN d).take k) x.name () tf (next:=λad=>?_);rw[<- bU nR];refine go ?_;exact aO (k+1,.slice ad (((dN d).take k).length+1) (((dN d).take k).length+1)) y6 tE
 have hkl:k=d.aQ.length:=tf
 subst hkl;rw[show(dN d).take d.aQ.length=dN d from oQ (by simp[dN])];refine gZ (gD (E:=aX) (v:=v4) (xs:=dN d)) ?_;refine gC (Qs (vl:=v4) (xs:=dN d) (by simp[dN];omega)) λ_ _=>?_;refine go ?_;refine fP rfl (λh2=>?_) (λh2=>?_)
 .refine go ?_;refine oK (c:=(161:Int)=0) (f:=aj bZ (.slice none 0 0) (d.aQ.map (mO (cO d)))) tf ?_;exact pw
 refine go ?_;refine gK bZ ?_;refine di (λy:Nat×ah=>d.aQ.length - y.1) (λy=>[(7,iV (y.1:Int)),(6,y.2)]) (λy=>[ap bZ y.2 ((d.aQ.map (mO (cO d))).take y.1)]) (λ_=>[]) (λy=>y.1<=d.aQ.length/\∀c∈d.aQ.take y.1,c.on∈cO d) (0,.slice none 0 0) ⟨bH _,tg⟩ (hk:=tj) (body:=?_);rintro⟨k,v6⟩ ⟨hk,hall⟩;dsimp only at hk hall⊢;have hil:((d.aQ.map (mO (cO d))).take k).length=k:=by rw[gM,bC];omega
 refine aC ?_ ?_<;>intro h3
 .refine gX bZ (xs:=d.aQ) λ_ _ x (_:Unit) hx=>?_;have hxm:(d.aQ.map (mO (cO d)))[k]? =some (mO (cO d) x):=by rw[dZ,hx];rfl
  refine go ?_;intro b8;refine gC (adJ (d:=d) (s:=x.on) (vc:=.slice a1 d.aQ.length c1) (vu:=vu) hrl) λy hy=>?_;obtain⟨n,ok⟩:=y;obtain⟨hy1,hy2⟩:=hy;dsimp only at hy1 hy2;refine go ?_;cases ok with
  |false=>
   refine go ?_;refine oK (c:=(160:Int)=0) (f:=aj bZ (.slice none 0 0) (d.aQ.map (mO (cO d)))) tf ?_;exact mz
  |true=>
   have hn:=hy2 rfl;subst hn;refine go ?_;intro b54;refine go ?_;refine fJ bZ (xs:=(d.aQ.map (mO (cO d))).take k) (mO (cO d) x) () tf (next:=λad=>?_);rw[<- bU hxm];refine go ?_;refine aO (k+1,.slice ad (((d.aQ.map (mO (cO d))).take k).length+1) (((d.aQ.map (mO (cO d))).take k).length+1)) y6 ⟨by show k+1<=_;omega,?_⟩;show∀c∈d.aQ.take (k+1),c.on∈cO d;exact od
 have hkl:k=d.aQ.length:=tf
 subst hkl;rw[bP]at hall;rw[show(d.aQ.map (mO (cO d))).take d.aQ.length=d.aQ.map (mO (cO d))from oQ tg];refine gZ (gD (E:=bZ) (v:=v6) (xs:=d.aQ.map (mO (cO d)))) ?_;refine go ?_;refine nM (c:=(0:Int)=0) (f:=aj bZ v6 (d.aQ.map (mO (cO d)))) tg ?_;exact gQ ⟨v6,0⟩ ⟨λ_=>⟨h2,hall⟩,λ_=>rfl⟩
abbrev RlP(d:bK)(r:bE)(y:bE×Bool):Prop:=(y.2=true↔Ew (bX d) (cO d) (dN d) r)/\(y.2=true->y.1=nL (bX d) (cO d) (dN d) r)
variable{v1 v2:ah}
def asB{r:bE}(hs:d.symbols.length<=16)(hrl:d.regions.length<=4096)(hcl:d.aQ.length<=4096)(h1:r.names.length<2^63)(h2:r.others.length<2^63):
 fC prog 218 [.agg ⟨iD d vh vs vr vc vu⟩,.agg ⟨mg r v1 v2⟩] [aj fG vs d.symbols,aj fw vr d.regions,aj bZ vc d.aQ,aj aX v1 r.names,aj aX v2 r.others] (λy:bE×Bool=>.tuple ⟨[.agg ⟨mg y.1 v1 v2⟩,.bool y.2]⟩) (RlP d r):=by
 refine gB 218 λB w0=>?_;refine go ?_;intro b2 b3 b4;refine gP b2 ?_;refine go ?_;refine fP (p:=r.on=⟨⟨[]⟩⟩) wg (λh3=>?_) (λh3=>?_)
 .refine gC (adJ (d:=d) (s:=r.on) hrl) λy hy=>?_;obtain⟨n,ok⟩:=y;obtain⟨hy1,hy2⟩:=hy;dsimp only at hy1 hy2;refine go ?_;cases ok with
  |false=>
   refine go ?_;exact gQ ({r with family:=0},false) ⟨⟨(λh=>by cases h),λh=>by rcases h.on with h|h;exact absurd h h3;have:=hy1.2 h;cases this⟩,(λh=>by cases h)⟩
  |true=>
   have hon:r.on=⟨⟨[]⟩⟩\/r.on∈cO d:=.inr (hy1.1 rfl);have hn:=hy2 rfl;subst hn;have hfm:(if r.on=⟨⟨[]⟩⟩then(0:Int)else(eD r.on (cO d):Int))=(eD r.on (cO d):Int):=if_neg h3;refine gC (Qt (d:=d) (l:=r.names) (vl:=v1) hs h1) λz1 hz1=>?_;refine gC (Qt (d:=d) (l:=r.others) (vl:=v2) hs h2) λz2 hz2=>?_;refine go ?_;refine fP (p:=r.dm=⟨⟨[]⟩⟩) wg (λh4=>?_) (λh4=>?_)
   .refine gC (adI (d:=d) (s:=r.dm) tf) λy hy=>?_;obtain⟨n,ok⟩:=y;obtain⟨hy1,hy2⟩:=hy;dsimp only at hy1 hy2;refine go ?_;cases ok with
    |false=>
     refine go ?_;exact gQ ({r with family:=(eD r.on (cO d):Int),set:=cond z1 (gY (bX d) r.names:Int) 0,other:=cond z2 (gY (bX d) r.others:Int) 0,aS:= -1},false) ⟨⟨(λh=>by cases h),λh=>by rcases h.dm with h|h;exact absurd h h4;have:=hy1.2 h;cases this⟩,(λh=>by cases h)⟩
    |true=>
     have hby:r.dm=⟨⟨[]⟩⟩\/r.dm∈dN d:=.inr (hy1.1 rfl);have hn:=hy2 rfl;subst hn;have hcm:(if r.dm=⟨⟨[]⟩⟩then(-1:Int)else(eD r.dm (dN d):Int))=(eD r.dm (dN d):Int):=if_neg h4;refine go ?_;cases z1 with
     |false=>
      refine go ?_;exact gQ ({r with family:=(eD r.on (cO d):Int),set:=0,other:=cond z2 (gY (bX d) r.others:Int) 0,aS:=(eD r.dm (dN d):Int)},false) ⟨⟨(λh=>by cases h),λh=>by have:=hz1.2 h.names;cases this⟩,(λh=>by cases h)⟩
     |true=>
      cases z2 with
      |false=>
       refine go ?_;exact gQ ({r with family:=(eD r.on (cO d):Int),set:=(gY (bX d) r.names:Int),other:=0,aS:=(eD r.dm (dN d):Int)},false) ⟨⟨(λh=>by cases h),λh=>by have:=hz2.2 h.others;cases this⟩,(λh=>by cases h)⟩
      |true=>
       refine go ?_;refine gQ ({r with family:=(eD r.on (cO d):Int),set:=(gY (bX d) r.names:Int),other:=(gY (bX d) r.others:Int),aS:=(eD r.dm (dN d):Int)},true) ⟨⟨λ_=>⟨hon,hz1.1 rfl,hz2.1 rfl,hby⟩,λ_=>rfl⟩,λ_=>?_⟩;unfold nL;rw[hfm,hcm]
   .have hby:r.dm=⟨⟨[]⟩⟩\/r.dm∈dN d:=.inl h4;have hcm:(if r.dm=⟨⟨[]⟩⟩then(-1:Int)else(eD r.dm (dN d):Int))= -1:=if_pos h4;refine go ?_;cases z1 with
    |false=>
     refine go ?_;exact gQ ({r with family:=(eD r.on (cO d):Int),set:=0,other:=cond z2 (gY (bX d) r.others:Int) 0,aS:=(-1:Int)},false) ⟨⟨(λh=>by cases h),λh=>by have:=hz1.2 h.names;cases this⟩,(λh=>by cases h)⟩
    |true=>
     cases z2 with
     |false=>
      refine go ?_;exact gQ ({r with family:=(eD r.on (cO d):Int),set:=(gY (bX d) r.names:Int),other:=0,aS:=(-1:Int)},false) ⟨⟨(λh=>by cases h),λh=>by have:=hz2.2 h.others;cases this⟩,(λh=>by cases h)⟩
     |true=>
      refine go ?_;refine gQ ({r with family:=(eD r.on (cO d):Int),set:=(gY (bX d) r.names:Int),other:=(gY (bX d) r.others:Int),aS:=(-1:Int)},true) ⟨⟨λ_=>⟨hon,hz1.1 rfl,hz2.1 rfl,hby⟩,λ_=>rfl⟩,λ_=>?_⟩;unfold nL;rw[hfm,hcm]
 .have hon:r.on=⟨⟨[]⟩⟩\/r.on∈cO d:=.inl h3;have hfm:(if r.on=⟨⟨[]⟩⟩then(0:Int)else(eD r.on (cO d):Int))=0:=if_pos h3;refine gC (Qt (d:=d) (l:=r.names) (vl:=v1) hs h1) λz1 hz1=>?_;refine gC (Qt (d:=d) (l:=r.others) (vl:=v2) hs h2) λz2 hz2=>?_;refine go ?_;refine fP (p:=r.dm=⟨⟨[]⟩⟩) wg (λh4=>?_) (λh4=>?_)
  .refine gC (adI (d:=d) (s:=r.dm) tf) λy hy=>?_;obtain⟨n,ok⟩:=y;obtain⟨hy1,hy2⟩:=hy;dsimp only at hy1 hy2;refine go ?_;cases ok with
   |false=>
    refine go ?_;exact gQ ({r with family:=(0:Int),set:=cond z1 (gY (bX d) r.names:Int) 0,other:=cond z2 (gY (bX d) r.others:Int) 0,aS:= -1},false) ⟨⟨(λh=>by cases h),λh=>by rcases h.dm with h|h;exact absurd h h4;have:=hy1.2 h;cases this⟩,(λh=>by cases h)⟩
   |true=>
    have hby:r.dm=⟨⟨[]⟩⟩\/r.dm∈dN d:=.inr (hy1.1 rfl);have hn:=hy2 rfl;subst hn;have hcm:(if r.dm=⟨⟨[]⟩⟩then(-1:Int)else(eD r.dm (dN d):Int))=(eD r.dm (dN d):Int):=if_neg h4;refine go ?_;cases z1 with
    |false=>
     refine go ?_;exact gQ ({r with family:=(0:Int),set:=0,other:=cond z2 (gY (bX d) r.others:Int) 0,aS:=(eD r.dm (dN d):Int)},false) ⟨⟨(λh=>by cases h),λh=>by have:=hz1.2 h.names;cases this⟩,(λh=>by cases h)⟩
    |true=>
     cases z2 with
     |false=>
      refine go ?_;exact gQ ({r with family:=(0:Int),set:=(gY (bX d) r.names:Int),other:=0,aS:=(eD r.dm (dN d):Int)},false) ⟨⟨(λh=>by cases h),λh=>by have:=hz2.2 h.others;cases this⟩,(λh=>by cases h)⟩
     |true=>
      refine go ?_;refine gQ ({r with family:=(0:Int),set:=(gY (bX d) r.names:Int),other:=(gY (bX d) r.others:Int),aS:=(eD r.dm (dN d):Int)},true) ⟨⟨λ_=>⟨hon,hz1.1 rfl,hz2.1 rfl,hby⟩,λ_=>rfl⟩,λ_=>?_⟩;unfold nL;rw[hfm,hcm]
  .have hby:r.dm=⟨⟨[]⟩⟩\/r.dm∈dN d:=.inl h4;have hcm:(if r.dm=⟨⟨[]⟩⟩then(-1:Int)else(eD r.dm (dN d):Int))= -1:=if_pos h4;refine go ?_;cases z1 with
   |false=>
    refine go ?_;exact gQ ({r with family:=(0:Int),set:=0,other:=cond z2 (gY (bX d) r.others:Int) 0,aS:=(-1:Int)},false) ⟨⟨(λh=>by cases h),λh=>by have:=hz1.2 h.names;cases this⟩,(λh=>by cases h)⟩
   |true=>
    cases z2 with
    |false=>
     refine go ?_;exact gQ ({r with family:=(0:Int),set:=(gY (bX d) r.names:Int),other:=0,aS:=(-1:Int)},false) ⟨⟨(λh=>by cases h),λh=>by have:=hz2.2 h.others;cases this⟩,(λh=>by cases h)⟩
    |true=>
     refine go ?_;refine gQ ({r with family:=(0:Int),set:=(gY (bX d) r.names:Int),other:=(gY (bX d) r.others:Int),aS:=(-1:Int)},true) ⟨⟨λ_=>⟨hon,hz1.1 rfl,hz2.1 rfl,hby⟩,λ_=>rfl⟩,λ_=>?_⟩;unfold nL;rw[hfm,hcm]
def asC(hs:d.symbols.length<=16)(hD:pI d):
 bG prog (.func 133) [.agg ⟨iD d vh vs vr vc vu⟩] [] [] [aj fG vs d.symbols,aj fw vr d.regions,aj bZ vc d.aQ,aj bi vu d.rules] zM (λ_=>[]) (λy=>[pM (y.e=0) (aj bi y.v (d.rules.map (nL (bX d) (cO d) (dN d))))]) (λy=>y.e=0↔(pz d).Nodup/\∀r∈d.rules,Ew (bX d) (cO d) (dN d) r):=by
 have hrl:=hD.regs;have hcl:=hD.jS;have oG:=hD.lH;have hrn:=hD.uF;refine gB 133 λB w0=>?_;refine gF bi vu d.rules λa1 c1 e1=>?_;subst e1;refine go ?_;intro b1;refine gP b1 ?_;refine go ?_;refine gK aX ?_;refine di (λy:Nat×ah=>d.rules.length - y.1) (λy=>[(5,iV (y.1:Int)),(4,y.2)]) (λy=>[ap aX y.2 ((pz d).take y.1)]) (λ_=>[]) (λy=>y.1<=d.rules.length) (0,.slice none 0 0) (bH _) (hk:=tj) (body:=?_);rintro⟨k,v4⟩ hk;dsimp only at hk⊢;have hil:((pz d).take k).length=k:=by rw[gM];simp[pz];omega
 refine aC ?_ ?_<;>intro h1
 .refine gX bi (xs:=d.rules) λ_ _ x _ hx=>?_;have nR:(pz d)[k]? =some x.name:=by unfold pz;rw[dZ,hx];rfl
  refine go ?_;intro V8;refine go ?_;refine fJ aX (xs:=(pz d).take k) x.name () tf (next:=λad=>?_);rw[<- bU nR];refine go ?_;exact aO (k+1,.slice ad (((pz d).take k).length+1) (((pz d).take k).length+1)) wj tE
 have hkl:k=d.rules.length:=tf
 subst hkl;rw[show(pz d).take d.rules.length=pz d from oQ (by simp[pz])];refine gZ (gD (E:=aX) (v:=v4) (xs:=pz d)) ?_;refine gC (Qs (vl:=v4) (xs:=pz d) (by simp[pz];omega)) λ_ _=>?_;refine go ?_;refine fP rfl (λh2=>?_) (λh2=>?_)
 .refine go ?_;refine oK (c:=(161:Int)=0) (f:=aj bi (.slice none 0 0) (d.rules.map (nL (bX d) (cO d) (dN d)))) tf ?_;exact pw
 refine go ?_;refine gK bi ?_;generalize hf:nL (bX d) (cO d) (dN d)=f;refine di (λy:Nat×ah=>d.rules.length - y.1) (λy=>[(7,iV (y.1:Int)),(6,y.2)]) (λy=>[ap bi y.2 ((d.rules.map f).take y.1)]) (λ_=>[]) (λy=>y.1<=d.rules.length/\∀r∈d.rules.take y.1,Ew (bX d) (cO d) (dN d) r) (0,.slice none 0 0) ⟨bH _,tg⟩ (hk:=tj) (body:=?_);rintro⟨k,v6⟩ ⟨hk,hall⟩;dsimp only at hk hall⊢;have hil:((d.rules.map f).take k).length=k:=by rw[gM,bC];omega
 refine aC ?_ ?_<;>intro h3
 .refine gX bi (xs:=d.rules) λ_ _ x (vx:ah×ah) hx=>?_;have hxm:(d.rules.map f)[k]? =some (f x):=by rw[dZ,hx];rfl
  have hxl:=hrn x (aU hx);refine go ?_;intro b8;refine fD (asB (d:=d) (r:=x) (vu:=.slice a1 d.rules.length c1) (v1:=vx.1) (v2:=vx.2) hs hrl hcl hxl.1 hxl.2) (next:=λy hy=>?_);obtain⟨z,ok⟩:=y;obtain⟨hy1,hy2⟩:=hy;dsimp only at hy1 hy2;refine go ?_;cases ok with
  |false=>
   refine go ?_;refine oK (c:=(160:Int)=0) (f:=aj bi (.slice none 0 0) (d.rules.map f)) tf ?_;exact mz
  |true=>
   have hz:=hy2 rfl;rw[hf]at hz;have hzn:z.names=x.names/\z.others=x.others:=by rw[hz,<- hf];exact⟨rfl,rfl⟩
   refine go ?_;intro b54;refine go ?_;refine fo (aj aX vx.1 z.names) (λw hw=>by rw[hzn.1];exact hw (aj aX vx.1 x.names) tg) ?_;refine fo (aj aX vx.2 z.others) (λw hw=>by rw[hzn.2];exact hw (aj aX vx.2 x.others) tg) ?_;refine fJ bi (xs:=(d.rules.map f).take k) z vx tf (next:=λad=>?_);rw[hz,<- bU hxm];refine go ?_;refine aO (k+1,.slice ad (((d.rules.map f).take k).length+1) (((d.rules.map f).take k).length+1)) wj ⟨by show k+1<=_;omega,?_⟩;show∀c∈d.rules.take (k+1),Ew (bX d) (cO d) (dN d) c;exact od
 have hkl:k=d.rules.length:=tf
 subst hkl;rw[bP]at hall;rw[show(d.rules.map f).take d.rules.length=d.rules.map f from oQ tg];refine gZ (gD (E:=bi) (v:=v6) (xs:=d.rules.map f)) ?_;refine go ?_;refine nM (c:=(0:Int)=0) (f:=aj bi v6 (d.rules.map f)) tg ?_;exact gQ ⟨v6,0⟩ ⟨λ_=>⟨h2,hall⟩,λ_=>rfl⟩
def adK(hD:pI d):
 bG prog (.func 85) [.agg ⟨iD d vh vs vr vc vu⟩] [] [] (nK d vh vs vr vc vu) (vK d vh vs vr) (λ_=>[]) (ry d) (EF d):=by
 have hsl:=hD.dK;have hrl:=hD.regs;have hcl:=hD.jS;have oG:=hD.lH;have hgl:jB.length=8:=rfl;refine gB 85 λB w0=>?_;refine gF fG vs d.symbols λa1 c1 e1=>?_;subst e1;refine gF fw vr d.regions λa2 c2 e2=>?_;subst e2;refine go ?_;intro b1 b2;refine aC ?_ ?_<;>intro hs
 .refine go ?_;exact gQ ⟨false,2,.nilFunc,.nilFunc⟩ ⟨(λh=>by cases h),λ_=>⟨by show(2:Int)≠0;omega,λh=>by have:=h.dK;omega⟩⟩
 refine go ?_;refine gK aX ?_;refine di (λy:Nat×ah=>d.symbols.length - y.1) (λy=>[(5,iV (y.1:Int)),(4,y.2)]) (λy=>[ap aX y.2 ((bX d).take y.1)]) (λ_=>[]) (λy=>y.1<=d.symbols.length) (0,.slice none 0 0) (bH _) (hk:=tj) (body:=?_);rintro⟨k,v4⟩ hk;dsimp only at hk⊢;have hil:((bX d).take k).length=k:=by rw[gM];simp[bX];omega
 refine aC ?_ ?_<;>intro h1
 .refine gX fG (xs:=d.symbols) λ_ _ x _ hx=>?_;have nR:(bX d)[k]? =some x.name:=by unfold bX;rw[dZ,hx];rfl
  refine go ?_;intro V8;refine go ?_;refine fJ aX (xs:=(bX d).take k) x.name () tf (next:=λad=>?_);rw[<- bU nR];refine go ?_;exact aO (k+1,.slice ad (((bX d).take k).length+1) (((bX d).take k).length+1)) (by show d.symbols.length - (k+1)<d.symbols.length - k;omega) tE
 have hkl:k=d.symbols.length:=tf
 subst hkl;rw[show(bX d).take d.symbols.length=bX d from oQ (by simp[bX])];refine gZ (gD (E:=aX) (v:=v4) (xs:=bX d)) ?_;refine gC (Qs (vl:=v4) (xs:=bX d) (by simp[bX];omega)) λ_ _=>?_;refine go ?_;refine fP rfl (λk1=>?_) (λk1=>?_)
 .refine go ?_;exact gQ ⟨false,161,.nilFunc,.nilFunc⟩ ⟨(λh=>by cases h),λ_=>⟨by show(161:Int)≠0;omega,λh=>k1 h.TY⟩⟩
 refine gC adH λag _=>?_;refine go ?_;refine di (λy:Nat×ah=>d.regions.length - y.1) (λy=>[(7,iV (y.1:Int)),(6,y.2)]) (λy=>[ap aX y.2 (jB++(rF d).take y.1)]) (λ_=>[]) (λy=>y.1<=d.regions.length) (0,.slice ag jB.length jB.length) (bH _) (hk:=by rw[List.take_zero,iE];repeat (first|exact aH.nil|(apply aH.cons;(focus (repeat (first|exact aB.here|apply aB.there)))))) (body:=?_);rintro⟨k,v6⟩ hk;dsimp only at hk⊢;have hil:(jB++(rF d).take k).length=8+k:=by rw[fV,gM,hgl];simp[rF];omega
 refine aC ?_ ?_<;>intro h1
 .refine gX fw (xs:=d.regions) λ_ _ x (_:ah) hx=>?_;have nR:(rF d)[k]? =some x.name:=by unfold rF;rw[dZ,hx];rfl
  refine go ?_;intro V8;refine go ?_;refine fJ aX (xs:=jB++(rF d).take k) x.name () tf (next:=λad=>?_);rw[iO,<- bU nR];refine go ?_;exact aO (k+1,.slice ad ((jB++(rF d).take k).length+1) ((jB++(rF d).take k).length+1)) AS tE
 have hkl:k=d.regions.length:=tf
 subst hkl;rw[show jB++(rF d).take d.regions.length=cO d from by rw[oQ (by simp[rF])];rfl];refine gZ (gD (E:=aX) (v:=v6) (xs:=cO d)) ?_;refine gC (Qs (vl:=v6) (xs:=cO d) (by simp[cO];omega)) λ_ _=>?_;refine go ?_;refine fP rfl (λk2=>?_) (λk2=>?_)
 .refine go ?_;exact gQ ⟨false,161,.nilFunc,.nilFunc⟩ ⟨(λh=>by cases h),λ_=>⟨by show(161:Int)≠0;omega,λh=>k2 h.TZ⟩⟩
 refine gC (asy (d:=d) hrl hcl) λy hy=>?_;obtain⟨wc,e⟩:=y;dsimp only at hy⊢;refine aC ?_ ?_<;>intro k3
 .refine go ?_;exact gQ ⟨false,e,.nilFunc,.nilFunc⟩ ⟨(λh=>by cases h),λ_=>⟨k3,λh=>k3 (hy.2 ⟨h.T9,h.OV⟩)⟩⟩
 have he:e=0:=iX.1 k3;subst he;obtain⟨p1,p2⟩:=hy.1 rfl;clear hy k3;refine fo (aj bZ wc (Kd.bO d).aQ) (λw hw=>hw (pM ((0:Int)=0) (aj bZ wc (d.aQ.map (mO (cO d))))) tg rfl) ?_;refine gC (asC (d:=d) tf hD) λy hy=>?_;obtain⟨wu,e⟩:=y;dsimp only at hy⊢;refine aC ?_ ?_<;>intro k3
 .refine go ?_;exact gQ ⟨false,e,.nilFunc,.nilFunc⟩ ⟨(λh=>by cases h),λ_=>⟨k3,λh=>k3 (hy.2 ⟨h.Ua,h.pE⟩)⟩⟩
 have he:e=0:=iX.1 k3;subst he;obtain⟨p3,p4⟩:=hy.1 rfl;clear hy k3;refine fo (aj bi wu (Kd.bO d).rules) (λw hw=>hw (pM ((0:Int)=0) (aj bi wu (d.rules.map (nL (bX d) (cO d) (dN d))))) tg rfl) ?_;refine gF bZ wc ((Kd.bO d).aQ) λa3 c3 e3=>?_;subst e3;refine gF bi wu ((Kd.bO d).rules) λa4 c4 e4=>?_;subst e4;refine go ?_;refine gQ ⟨true,0,.slice a3 (Kd.bO d).aQ.length c3,.slice a4 (Kd.bO d).rules.length c4⟩ ⟨λ_=>⟨rfl,⟨tf,k1,k2,p1,p2,p3,p4⟩⟩,(λh=>by cases h)⟩ (hF:=?_);show Sub [aj bZ _ (Kd.bO d).aQ,aj bi _ (Kd.bO d).rules] _;exact .cons tg (.cons tg .nil)
variable{va vb:ah}{ys:ae Int}
def adL{xs:ae Int}(hl:xs.length<2^63):dF prog 143 [va,vb] [aj ai va xs,aj ai vb ys] (.bool (decide (xs=ys))):=by
 refine gB 143 λB w0=>?_;refine gF ai va xs λa1 c1 e1=>?_;subst e1;refine gF ai vb ys λa2 c2 e2=>?_;subst e2;refine aC ?_ ?_<;>intro h1
 .exact dr
 exact s9
def adM{xs:ae Int}(hl:xs.length<2^63):dF prog 219 [va,vb] [aj ai va xs,aj ai vb ys] (.bool (decide (xs=ys))):=by
 refine gB 219 λB w0=>?_;refine gF ai va xs λa1 c1 e1=>?_;subst e1;refine gF ai vb ys λa2 c2 e2=>?_;subst e2;refine aC ?_ ?_<;>intro h1
 .exact dr
 exact s9
def adN{ys:ae ByteArray}(hl:xs.length<2^63):dF prog 230 [va,vb] [aj aX va xs,aj aX vb ys] (.bool (decide (xs=ys))):=by
 refine gB 230 λB w0=>?_;refine gF aX va xs λa1 c1 e1=>?_;subst e1;refine gF aX vb ys λa2 c2 e2=>?_;subst e2;refine aC ?_ ?_<;>intro h1
 .exact dr
 exact s8
def adO{ys:ae ByteArray}(hl:xs.length<2^63):dF prog 277 [va,vb] [aj aX va xs,aj aX vb ys] (.bool (decide (xs=ys))):=by
 refine gB 277 λB w0=>?_;refine gF aX va xs λa1 c1 e1=>?_;subst e1;refine gF aX vb ys λa2 c2 e2=>?_;subst e2;refine aC ?_ ?_<;>intro h1
 .exact dr
 exact s8
def adP{xs ys:ae (ae Int)}(hl:xs.length<2^63)(hll:∀l∈xs,l.length<2^63):dF prog 91 [va,vb] [aj (ay ai) va xs,aj (ay ai) vb ys] (.bool (decide (xs=ys))):=by
 refine gB 91 λB w0=>?_;refine gF (ay ai) va xs λa1 c1 e1=>?_;subst e1;refine gF (ay ai) vb ys λa2 c2 e2=>?_;subst e2;refine aC ?_ ?_<;>intro h1
 .exact dr
 have hlen:xs.length=ys.length:=tf
 refine gN xs.length 5 (λk=>k<=xs.length/\xs.take k=ys.take k) ⟨tf,tg⟩ ?_;rintro k ⟨hk,hsame⟩;refine aC ?_ ?_<;>intro h2
 .refine gX (ay ai) (xs:=xs) λ_ _ x (_:ah) hx=>?_;refine gX (ay ai) (xs:=ys) λ_ _ y (_:ah) hy=>?_;refine gC (Hy (xs:=x) (ys:=y) (hll x (aU hx))) λ_ _=>?_;refine go ?_;refine fP rfl (λh3=>?_) (λh3=>?_)
  .exact cP
  exact cC
 exact cM
def asD{xs ys:ae (ae Int)}(hl:xs.length<2^63)(hll:∀l∈xs,l.length<2^63):dF prog 220 [va,vb] [aj (ay ai) va xs,aj (ay ai) vb ys] (.bool (decide (xs=ys))):=by
 refine gB 220 λB w0=>?_;refine gF (ay ai) va xs λa1 c1 e1=>?_;subst e1;refine gF (ay ai) vb ys λa2 c2 e2=>?_;subst e2;refine aC ?_ ?_<;>intro h1
 .exact dr
 have hlen:xs.length=ys.length:=tf
 refine gN xs.length 5 (λk=>k<=xs.length/\xs.take k=ys.take k) ⟨tf,tg⟩ ?_;rintro k ⟨hk,hsame⟩;refine aC ?_ ?_<;>intro h2
 .refine gX (ay ai) (xs:=xs) λ_ _ x (_:ah) hx=>?_;refine gX (ay ai) (xs:=ys) λ_ _ y (_:ah) hy=>?_;refine gC (adM (xs:=x) (ys:=y) (hll x (aU hx))) λ_ _=>?_;refine go ?_;refine fP rfl (λh3=>?_) (λh3=>?_)
  .exact cP
  exact cC
 exact cM
variable{u1 u2:ah}{x y:bE}
def asE(hl:x.names.length<2^63)(hll:x.others.length<2^63):dF prog 145 [.agg ⟨mg x v1 v2⟩,.agg ⟨mg y u1 u2⟩] [aj aX v1 x.names,aj aX v2 x.others,aj aX u1 y.names,aj aX u2 y.others] (.bool (decide (x=y))):=by
 obtain⟨n1,o1,k1,f1,zJ,os1,s1,t1,p1,m1,y1,c1⟩:=x;obtain⟨n2,o2,k2,f2,G5,os2,s2,t2,p2,m2,y2,c2⟩:=y;dsimp only[mg]at hl hll⊢;refine gB 145 λB w0=>?_;refine go ?_;intro b2 b3;refine gH ?_ ?_<;>intro h1
 .rw[eZ]at h1;have h1:=ou h1;exact oA
 rw[eZ]at h1;have h1:=iN h1;refine gH ?_ ?_<;>intro h2
 .rw[eZ]at h2;have h2:=ou h2;exact oy
 rw[eZ]at h2;have h2:=iN h2;refine gH ?_ ?_<;>intro h3
 .exact sY
 refine gH ?_ ?_<;>intro h4
 .exact sX
 refine gC (adN (xs:=zJ) (ys:=G5) hl) λ_ _=>?_;refine gH ?_ ?_<;>intro h5
 .exact sR
 refine gC (adN (xs:=os1) (ys:=os2) hll) λ_ _=>?_;refine gH ?_ ?_<;>intro h6
 .exact sL
 refine gH ?_ ?_<;>intro h7
 .exact sE
 refine gH ?_ ?_<;>intro h8
 .exact sC
 refine gH ?_ ?_<;>intro h9
 .exact sB
 refine gH ?_ ?_<;>intro h10
 .exact sq
 refine gH ?_ ?_<;>intro h11
 .rw[eZ]at h11;have h11:=ou h11;exact sn
 rw[eZ]at h11;have h11:=iN h11;exact eV
def asF(hl:x.names.length<2^63)(hll:x.others.length<2^63):dF prog 221 [.agg ⟨mg x v1 v2⟩,.agg ⟨mg y u1 u2⟩] [aj aX v1 x.names,aj aX v2 x.others,aj aX u1 y.names,aj aX u2 y.others] (.bool (decide (x=y))):=by
 obtain⟨n1,o1,k1,f1,zJ,os1,s1,t1,p1,m1,y1,c1⟩:=x;obtain⟨n2,o2,k2,f2,G5,os2,s2,t2,p2,m2,y2,c2⟩:=y;dsimp only[mg]at hl hll⊢;refine gB 221 λB w0=>?_;refine go ?_;intro b2 b3;refine gH ?_ ?_<;>intro h1
 .rw[eZ]at h1;have h1:=ou h1;exact oA
 rw[eZ]at h1;have h1:=iN h1;refine gH ?_ ?_<;>intro h2
 .rw[eZ]at h2;have h2:=ou h2;exact oy
 rw[eZ]at h2;have h2:=iN h2;refine gH ?_ ?_<;>intro h3
 .rw[eZ]at h3;have h3:=ou h3;exact sY
 rw[eZ]at h3;have h3:=iN h3;refine gC (adO (xs:=zJ) (ys:=G5) hl) λ_ _=>?_;refine gH ?_ ?_<;>intro h4
 .exact sX
 refine gC (adO (xs:=os1) (ys:=os2) hll) λ_ _=>?_;refine gH ?_ ?_<;>intro h5
 .exact sR
 refine gH ?_ ?_<;>intro h6
 .exact sL
 refine gH ?_ ?_<;>intro h7
 .exact sE
 refine gH ?_ ?_<;>intro h8
 .exact sC
 refine gH ?_ ?_<;>intro h9
 .exact sB
 refine gH ?_ ?_<;>intro h10
 .exact sq
 refine gH ?_ ?_<;>intro h11
 .exact sn
 exact eV
variable{h1 c1 h2 c2:ah}
def asG{x y:bA}(hS:rR x):dF prog 93 [.agg ⟨iW x h1 c1⟩,.agg ⟨iW y h2 c2⟩] [aj ai h1 x.holes,aj ai c1 x.cells,aj ai h2 y.holes,aj ai c2 y.cells] (.bool (decide (x=y))):=by
 have e2:=hS.holes;have e3:=hS.cells;clear hS;obtain⟨xs,xw,xh,EQ,ER⟩:=x;obtain⟨ys,yw,yh,Vm,KJ⟩:=y;dsimp only[iW]at e2 e3⊢;refine gB 93 λB w0=>?_;refine go ?_;intro b2 b3;refine gH ?_ ?_<;>intro k1
 .exact gE
 refine gH ?_ ?_<;>intro k2
 .exact gA
 refine gH ?_ ?_<;>intro k3
 .exact gx
 refine gC (Hy (xs:=EQ) (ys:=Vm) tf) λ_ _=>?_;refine gH ?_ ?_<;>intro k4
 .exact gk
 refine gC (Hy (xs:=ER) (ys:=KJ) tf) λ_ _=>?_;refine aP ?_;subst k1 k2 k3 k4;rw[show decide (bA.mk xs xw xh EQ ER=bA.mk xs xw xh EQ KJ)=decide (ER=KJ)from qx.2 ⟨λh=>by cases h;rfl,λh=>by rw[h]⟩];rfl
def asH{x y:pu}{vx vy:ah}(hl:x.lists.length<2^63)(hll:∀l∈x.lists,l.length<2^63):dF prog 144 [.agg ⟨[.string x.name,vx]⟩,.agg ⟨[.string y.name,vy]⟩] [aj (ay ai) vx x.lists,aj (ay ai) vy y.lists] (.bool (decide (x=y))):=by
 obtain⟨n1,xs⟩:=x;obtain⟨n2,ys⟩:=y;dsimp only at hl hll⊢;refine gB 144 λB w0=>?_;refine gF (ay ai) vx xs λa1 c1 e1=>?_;subst e1;refine gF (ay ai) vy ys λa2 c2 e2=>?_;subst e2;refine go ?_;intro b2 b3;refine go ?_;refine nW (λk1=>?_) (λk1=>?_)
 rotate_left
 .exact fW
 rw[eZ]at k1;have k1:n1=n2:=Bx
 subst k1;have hdd:decide (pu.mk n1 xs=pu.mk n1 ys)=decide (xs=ys):=qx.2 ⟨λh=>by cases h;rfl,λh=>by rw[h]⟩;rw[hdd];refine aC ?_ ?_<;>intro h1
 .exact dr
 have hlen:xs.length=ys.length:=tf
 refine gN xs.length 5 (λk=>k<=xs.length/\xs.take k=ys.take k) ⟨tf,tg⟩ ?_;rintro k ⟨hk,hsame⟩;refine aC ?_ ?_<;>intro h2
 .refine gX (ay ai) (xs:=xs) λ_ _ x (_:ah) hx=>?_;refine gX (ay ai) (xs:=ys) λ_ _ y (_:ah) hy=>?_;refine gC (adL (xs:=x) (ys:=y) (hll x (aU hx))) λ_ _=>?_;refine go ?_;refine fP rfl (λh3=>?_) (λh3=>?_)
  .exact cP
  exact cC
 exact cM
variable{s1 r1 s2 r2:ah}
def asI{x y:bK}(hS:pI x):dF prog 92 [.agg ⟨iD x h1 s1 r1 c1 u1⟩,.agg ⟨iD y h2 s2 r2 c2 u2⟩] (nK x h1 s1 r1 c1 u1++nK y h2 s2 r2 c2 u2) (.bool (decide (x=y))):=by
 have e1:=hS.dK;have e2:=hS.regs;have e3:=hS.jS;have e4:=hS.lH;have e5:=hS.uF;have e6:=hS.holes;have e7:=hS.uG;clear hS;obtain⟨fs1,hu1,V9⟩:=UW;obtain⟨fs2,hu2,hrow2⟩:=UX;obtain⟨n1,v1,p1,w1,g1,ho1,pJ,oI,pK,oJ⟩:=x;obtain⟨n2,v2,p2,w2,g2,ho2,uH,sV,lc,sW⟩:=y;dsimp only at e1 e2 e3 e4 e5 e6 e7;dsimp only[iD,nK,List.cons_append,List.nil_append];refine gB 92 λB w0=>?_;refine gF fG s1 pJ λrz cs1 es=>?_;subst es;refine gF fG s2 uH λas2 cs2 es=>?_;subst es;refine gF fw r1 oI λar1 cr1 es=>?_;subst es;refine gF fw r2 sV λar2 cr2 es=>?_;subst es;refine gF bZ c1 pK λac1 cc1 es=>?_;subst es;refine gF bZ c2 lc λac2 cc2 es=>?_;subst es;refine gF bi u1 oJ λau1 cu1 es=>?_;subst es;refine gF bi u2 sW λau2 cu2 es=>?_;subst es;refine go ?_;intro b2 b3;refine go ?_;refine nW (λk1=>?_) (λk1=>?_)
 rotate_left
 .exact fW
 rw[eZ]at k1;have k1:n1=n2:=Bx
 refine gH ?_ ?_<;>intro k2
 rotate_left
 .exact gA
 refine gH ?_ ?_<;>intro k3
 rotate_left
 .exact gx
 refine gH ?_ ?_<;>intro k4
 rotate_left
 .exact gk
 refine gH ?_ ?_<;>intro k5
 rotate_left
 .exact j7
 refine gC (adL (xs:=ho1) (ys:=ho2) e6) λ_ _=>?_;refine go ?_;refine ql (λk6=>?_) (λk6=>?_)
 rotate_left
 .exact gj
 refine gH ?_ ?_<;>intro k7
 rotate_left
 .exact gg
 refine gH ?_ ?_<;>intro k8
 rotate_left
 .exact ox
 refine gH ?_ ?_<;>intro k9
 rotate_left
 .exact ov
 refine aC ?_ ?_<;>intro k10
 .exact sk
 have l1:pJ.length=uH.length:=tf
 have l2:oI.length=sV.length:=tf
 have l3:pK.length=lc.length:=tf
 have l4:oJ.length=sW.length:=tf
 refine gN pJ.length 5 (λk=>k<=pJ.length/\pJ.take k=uH.take k) ⟨tf,tg⟩ ?_;rintro k ⟨hk,hsame⟩;refine aC ?_ ?_<;>intro h2
 .exact s7
 have hkl:k=pJ.length:=tf
 subst hkl;rw[bP,l1,bP]at hsame;have m1:=hsame;clear hsame hk h2;refine gN oI.length 6 (λk=>k<=oI.length/\oI.take k=sV.take k) ⟨tf,tg⟩ ?_;rintro k ⟨hk,hsame⟩;refine aC ?_ ?_<;>intro h2
 .refine gX fw (xs:=oI) λ_ _ x (vx:ah) hx=>?_;have hxl:=e7 x (aU hx);refine gX fw (xs:=sV) λ_ _ y (vy:ah) hy=>?_;refine gC (asH (x:=x) (y:=y) (vx:=vx) (vy:=vy) hxl.1 hxl.2) λ_ _=>?_;refine go ?_;refine fP rfl (λh3=>?_) (λh3=>?_)
  .exact cQ
  exact cC
 have hkl:k=oI.length:=tf
 subst hkl;rw[bP,l2,bP]at hsame;have m2:=hsame;clear hsame hk h2;refine gN pK.length 7 (λk=>k<=pK.length/\pK.take k=lc.take k) ⟨tf,tg⟩ ?_;rintro k ⟨hk,hsame⟩;refine aC ?_ ?_<;>intro h2
 .exact s6
 have hkl:k=pK.length:=tf
 subst hkl;rw[bP,l3,bP]at hsame;have m3:=hsame;clear hsame hk h2;refine gN oJ.length 8 (λk=>k<=oJ.length/\oJ.take k=sW.take k) ⟨tf,tg⟩ ?_;rintro k ⟨hk,hsame⟩;refine aC ?_ ?_<;>intro h2
 .refine gX bi (xs:=oJ) λ_ _ x (vx:ah×ah) hx=>?_;have hxl:=e5 x (aU hx);refine gX bi (xs:=sW) λ_ _ y (vy:ah×ah) hy=>?_;refine gC (asE (x:=x) (y:=y) (v1:=vx.1) (v2:=vx.2) (u1:=vy.1) (u2:=vy.2) hxl.1 hxl.2) λ_ _=>?_;refine go ?_;refine fP rfl (λh3=>?_) (λh3=>?_)
  .exact cQ
  exact cC
 exact ew
def asY{x y:bK}(hS:pI x):dF prog 134 [.agg ⟨iD x h1 s1 r1 c1 u1⟩,.agg ⟨iD y h2 s2 r2 c2 u2⟩] (nK x h1 s1 r1 c1 u1++nK y h2 s2 r2 c2 u2) (.bool (decide (x=y))):=by
 have e1:=hS.dK;have e2:=hS.regs;have e3:=hS.jS;have e4:=hS.lH;have e5:=hS.uF;have e6:=hS.holes;have e7:=hS.uG;clear hS;obtain⟨fs1,hu1,V9⟩:=UW;obtain⟨fs2,hu2,hrow2⟩:=UX;obtain⟨n1,v1,p1,w1,g1,ho1,pJ,oI,pK,oJ⟩:=x;obtain⟨n2,v2,p2,w2,g2,ho2,uH,sV,lc,sW⟩:=y;dsimp only at e1 e2 e3 e4 e5 e6 e7;dsimp only[iD,nK,List.cons_append,List.nil_append];refine gB 134 λB w0=>?_;refine gF fG s1 pJ λrz cs1 es=>?_;subst es;refine gF fG s2 uH λas2 cs2 es=>?_;subst es;refine gF fw r1 oI λar1 cr1 es=>?_;subst es;refine gF fw r2 sV λar2 cr2 es=>?_;subst es;refine gF bZ c1 pK λac1 cc1 es=>?_;subst es;refine gF bZ c2 lc λac2 cc2 es=>?_;subst es;refine gF bi u1 oJ λau1 cu1 es=>?_;subst es;refine gF bi u2 sW λau2 cu2 es=>?_;subst es;refine go ?_;intro b2 b3;refine go ?_;refine nW (λk1=>?_) (λk1=>?_)
 rotate_left
 .exact fW
 rw[eZ]at k1;have k1:n1=n2:=Bx
 refine gH ?_ ?_<;>intro k2
 rotate_left
 .exact gA
 refine gH ?_ ?_<;>intro k3
 rotate_left
 .exact gx
 refine gH ?_ ?_<;>intro k4
 rotate_left
 .exact gk
 refine gH ?_ ?_<;>intro k5
 rotate_left
 .exact j7
 refine gC (adM (xs:=ho1) (ys:=ho2) e6) λ_ _=>?_;refine go ?_;refine fP rfl (λk6=>?_) (λk6=>?_)
 .exact gj
 refine gH ?_ ?_<;>intro k7
 rotate_left
 .exact gg
 refine gH ?_ ?_<;>intro k8
 rotate_left
 .exact ox
 refine gH ?_ ?_<;>intro k9
 rotate_left
 .exact ov
 refine aC ?_ ?_<;>intro k10
 .exact sk
 have l1:pJ.length=uH.length:=tf
 have l2:oI.length=sV.length:=tf
 have l3:pK.length=lc.length:=tf
 have l4:oJ.length=sW.length:=tf
 refine gN pJ.length 5 (λk=>k<=pJ.length/\pJ.take k=uH.take k) ⟨tf,tg⟩ ?_;rintro k ⟨hk,hsame⟩;refine aC ?_ ?_<;>intro h2
 .exact s7
 have hkl:k=pJ.length:=tf
 subst hkl;rw[bP,l1,bP]at hsame;have m1:=hsame;clear hsame hk h2;refine gN oI.length 6 (λk=>k<=oI.length/\oI.take k=sV.take k) ⟨tf,tg⟩ ?_;rintro k ⟨hk,hsame⟩;refine aC ?_ ?_<;>intro h2
 .refine gX fw (xs:=oI) λ_ _ x (vx:ah) hx=>?_;have hxl:=e7 x (aU hx);refine gX fw (xs:=sV) λ_ _ y (vy:ah) hy=>?_;refine go ?_;refine nW (λj1=>?_) (λj1=>?_)
  rotate_left
  .rw[eZ]at j1;have j1:¬x.name=y.name:=by simpa using j1
   have h3:¬x=y:=λe=>j1 we;refine aP ?_;rw[aW (λe=>by cases e;rw[hx]at hy;exact h3 (Option.some.inj hy))];rfl
  rw[eZ]at j1;have j1:x.name=y.name:=by simpa using j1
  refine gX fw (xs:=oI) λ_ _ x' (vx:ah) hx'=>?_;cases hx.symm.trans hx';refine gX fw (xs:=sV) λ_ _ y' (vy:ah) hy'=>?_;cases hy.symm.trans hy';refine gC (asD (xs:=x.lists) (ys:=y.lists) hxl.1 hxl.2) λ_ _=>?_;refine go ?_;refine fP rfl (λh3=>?_) (λh3=>?_)
  .have h3:¬x=y:=λe=>h3 we;refine aP ?_;rw[aW (λe=>by cases e;rw[hx]at hy;exact h3 (Option.some.inj hy))];rfl
  have h3:x=y:=by
   obtain⟨a,b⟩:=x;obtain⟨c,d⟩:=y;dsimp only at j1 h3;rw[j1,h3]
  exact cC
 have hkl:k=oI.length:=tf
 subst hkl;rw[bP,l2,bP]at hsame;have m2:=hsame;clear hsame hk h2;refine gN pK.length 7 (λk=>k<=pK.length/\pK.take k=lc.take k) ⟨tf,tg⟩ ?_;rintro k ⟨hk,hsame⟩;refine aC ?_ ?_<;>intro h2
 .exact s6
 have hkl:k=pK.length:=tf
 subst hkl;rw[bP,l3,bP]at hsame;have m3:=hsame;clear hsame hk h2;refine gN oJ.length 8 (λk=>k<=oJ.length/\oJ.take k=sW.take k) ⟨tf,tg⟩ ?_;rintro k ⟨hk,hsame⟩;refine aC ?_ ?_<;>intro h2
 .refine gX bi (xs:=oJ) λ_ _ x (vx:ah×ah) hx=>?_;have hxl:=e5 x (aU hx);refine gX bi (xs:=sW) λ_ _ y (vy:ah×ah) hy=>?_;refine gC (asF (x:=x) (y:=y) (v1:=vx.1) (v2:=vx.2) (u1:=vy.1) (u2:=vy.2) hxl.1 hxl.2) λ_ _=>?_;refine go ?_;refine fP rfl (λh3=>?_) (λh3=>?_)
  .exact cQ
  exact cC
 exact ew
