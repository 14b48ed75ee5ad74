/- Part. -/
import Derived.Test.YtignbinlipkmfaaGreatDoorLibSK
set_option linter.all false
set_option maxRecDepth 10000
set_option maxHeartbeats 4000000
namespace Go.Proofs.YtignbinlipkmfaaGreatDoor
open Tryz (prog)
open Go.Ideal Kd
noncomputable def YA:iF:=⟨2,[(.tmp 0)],(.seq (kO [kS 0 (.om (.const vS))]) (.seq (kO [⟨⟨(some 1),none,(.yc 9 8 [vE,vE,vE,vE,vE,vE,vE,vE] [⟨0,⟨1,(.const (.string ⟨⟨[99,101,108,108,115]⟩⟩))⟩⟩,⟨1,⟨1,(.const (.string ⟨⟨[114,111,119,115]⟩⟩))⟩⟩,⟨2,⟨1,(.const (.string ⟨⟨[99,111,108,117,109,110,115]⟩⟩))⟩⟩,⟨3,⟨1,(.const (.string ⟨⟨[100,105,97,103,111,110,97,108,115]⟩⟩))⟩⟩,⟨4,⟨1,(.const (.string ⟨⟨[97,114,111,117,110,100]⟩⟩))⟩⟩,⟨5,⟨1,(.const (.string ⟨⟨[110,101,97,114]⟩⟩))⟩⟩,⟨6,⟨1,(.const (.string ⟨⟨[112,97,105,114,115]⟩⟩))⟩⟩,⟨7,⟨1,(.const (.string ⟨⟨[97,108,108]⟩⟩))⟩⟩])⟩,[]⟩,kS 0 (.om 1)]) .ret))⟩
def ak4:lD prog 131=some YA:=tv
def He{s:ByteArray}:∀{l:ae ByteArray} {k:Nat},l[k]? =some s->s∉l.take k->dV s l=k
 |[],k,h,_=>by simp at h
 |a::l,0,h,_=>by
  have h:a=s:=tE
  unfold dV;rw[if_pos h.symm]
 |a::l,k+1,h,hn=>by
  have h:l[k]? =some s:=tE
  rw[List.take_succ_cons,bT,not_or]at hn;unfold dV;rw[if_neg hn.1,He h hn.2]
def YB{α:Type}{xs:ae α}{k:Nat}{x:α}(hx:xs[k]? =some x):(xs.take (k+1)).Nodup↔(xs.take k).Nodup/\x∉xs.take k:=by
 rw[cB hx,iT];constructor
 .rintro⟨h1,_,h2⟩;exact⟨h1,λh=>h2 x h x (bK.2 rfl) rfl⟩
 .rintro⟨h1,h2⟩;exact⟨h1,tt,λa ha b hb e=>h2 (by rw[bK.1 hb]at e;rw[<- e];exact ha)⟩
variable{vl:ah}{xs:ae ByteArray}
def LK(hl:xs.length<2^63):dL prog 130 [vl] [aj aV vl xs] (.bool (!decide xs.Nodup)):=by
 refine gB 130 λB w0=>?_;refine gF aV vl xs λa1 c1 e1=>?_;subst e1;refine gN xs.length 3 (λk=>k<=xs.length/\(xs.take k).Nodup) ⟨tr,tt⟩ ?_;rintro k ⟨hk,hnd⟩;refine aB ?_ ?_<;>intro h1
 .have hx:xs[k]? =some (xs[k]'(tr)):=bX _;generalize xs[k]'(tr)=x at hx;refine gN k 4 (λj=>j<=k/\x∉xs.take j) ⟨tr,tt⟩ ?_;rintro j ⟨hj,hno⟩;refine aB ?_ ?_<;>intro h2
  .refine gX aV (xs:=xs) λ_ _ x' (_:Unit) hx'=>?_;cases hx.symm.trans hx';refine gX aV (xs:=xs) λ_ _ y (_:Unit) hy=>?_;refine go ?_;refine jS rfl (λh3=>?_) (λh3=>?_)
   .rw[ed]at h3;have h3:=gT h3;subst h3;refine aM ?_;rw[aY (λhn=>by
     have h4:(xs.take (k+1)).Nodup:=hn.sublist (H9 _ _);rw[YB hx]at h4;exact h4.2 (wZ.2 ⟨j,by rw[vF,if_pos tr];exact hy⟩))];rfl
   .rw[ed]at h3;have h3:=ol h3;refine go ?_;refine aQ (j+1) tr ⟨tr,?_⟩;rw[cB hy,dY,not_or];exact⟨hno,by simp;exact h3⟩
  have hjk:j=k:=tr
  subst hjk;refine go ?_;exact aQ (j+1) tr ⟨tr,(YB hx).2 ⟨hnd,hno⟩⟩
 have hkl:k=xs.length:=tr
 subst hkl;rw[bM]at hnd;refine aM ?_;rw[eB hnd];rfl
def YC:cK prog (.func 131) [] [] [] [] (λa:ak Addr=>.slice a jk.length jk.length) (λa=>[ap aV (.slice a jk.length jk.length) jk]) (λ_=>[]) (λ_=>True):=by
 refine jH YA ak4 λB w0=>?_;refine go ?_;intro b;refine go ?_;refine uR (b:=b) (m:=jk.length) (f:=0) aV (aN:=jk.map λs=>(s,())) rfl (.inl rfl) ?_ (hk:=aD.here);refine VJ (E:=aV) (aN:=jk.map λs=>(s,())) tA ?_ (λw hw p hp f hf=>by cases hf);show R _ _ _ [ap aV (.slice (some ⟨b,0,some 0⟩) jk.length jk.length) jk] _;exact gQ (some ⟨b,0,some 0⟩) trivial
def Q0(s:ByteArray)(l:ae ByteArray)(y:Nat×Bool):Prop:=(y.2=true↔s∈l)/\(y.2=true->dV s l=y.1)
abbrev Q3(y:Nat×Bool):ah:=.tuple ⟨[iV (y.1:Int),.bool y.2]⟩
variable{d:bG}{vh vs vr vc vu:ah}{s:ByteArray}
def ak5(hl:d.symbols.length<2^63):fC prog 311 [.agg ⟨gW d vh vs vr vc vu⟩,.string s] [aj eT vs d.symbols] Q3 (Q0 s (bS d)):=by
 refine gB 311 λB w0=>?_;refine gF eT vs d.symbols λa1 c1 e1=>?_;subst e1;refine go ?_;intro b1;refine gN d.symbols.length 6 (λk=>k<=d.symbols.length/\s∉(bS d).take k) ⟨tr,tt⟩ ?_;rintro k ⟨hk,hno⟩;refine aB ?_ ?_<;>intro h1
 .refine gX eT (xs:=d.symbols) λ_ _ x _ hx=>?_;have lU:(bS d)[k]? =some x.name:=by unfold bS;rw[dN,hx];rfl
  exact cU
 have hkl:k=d.symbols.length:=tr
 subst hkl;rw[show(bS d).take d.symbols.length=bS d from vM (by simp[bS])]at hno;exact fc
def YD(hl:d.aR.length<2^63):fC prog 276 [.agg ⟨gW d vh vs vr vc vu⟩,.string s] [aj bV vc d.aR] Q3 (Q0 s (dM d)):=by
 refine gB 276 λB w0=>?_;refine gF bV vc d.aR λa1 c1 e1=>?_;subst e1;refine go ?_;intro b1;refine gN d.aR.length 6 (λk=>k<=d.aR.length/\s∉(dM d).take k) ⟨tr,tt⟩ ?_;rintro k ⟨hk,hno⟩;refine aB ?_ ?_<;>intro h1
 .refine gX bV (xs:=d.aR) λ_ _ x _ hx=>?_;have lU:(dM d)[k]? =some x.name:=by unfold dM;rw[dN,hx];rfl
  exact cU
 have hkl:k=d.aR.length:=tr
 subst hkl;rw[show(dM d).take d.aR.length=dM d from vM (by simp[dM])]at hno;exact fc
def qj(d:bG):ae ByteArray:=d.regions.map (·.name)
variable{a b:ae ByteArray}
def ak6(h:s∉a):dV s (a++b)=a.length+dV s b:=by
 induction a with
 |nil=>simp
 |cons x a ih=>
  rw[bT,not_or]at h;show(if s=x then 0 else dV s (a++b)+1)=_;rw[if_neg h.1,ih h.2,oh];omega
def ak7(h:s∈a):dV s (a++b)=dV s a:=by
 induction a with
 |nil=>cases h
 |cons x a ih=>
  show(if s=x then 0 else dV s (a++b)+1)=if s=x then 0 else dV s a+1
  by_cases e:s=x
  .rw[if_pos e,if_pos e]
  .rw[if_neg e,if_neg e,ih ((bT.1 h).resolve_left e)]
def YE(hl:d.regions.length<=4096):fC prog 217 [.agg ⟨gW d vh vs vr vc vu⟩,.string s] [aj fw vr d.regions] Q3 (Q0 s (cZ d)):=by
 have hgl:jk.length=8:=rfl;refine gB 217 λB w0=>?_;refine gF fw vr d.regions λa1 c1 e1=>?_;subst e1;refine go ?_;intro b1;refine gC YC λag _=>?_;refine gZ (gI (E:=aV) (v:=.slice ag jk.length jk.length) (xs:=jk)) ?_;refine gN jk.length 7 (λk=>k<=jk.length/\s∉jk.take k) ⟨tr,tt⟩ ?_;rintro k ⟨hk,hno⟩;refine aB ?_ ?_<;>intro h1
 .refine gX aV (xs:=jk) λ_ _ x (_:Unit) hx=>?_;refine go ?_;refine jS rfl (λh2=>?_) (λh2=>?_)
  .rw[ed]at h2;have h2:=gT h2;subst h2;refine go ?_;exact gQ (k,true) ⟨⟨λ_=>lq _ (aS hx),λ_=>rfl⟩,λ_=>(ak7 (aS hx)).trans (He hx hno)⟩
  .rw[ed]at h2;have h2:=ol h2;exact cT
 have hkl:k=jk.length:=tr
 subst hkl;rw[bM]at hno;have Fg:=hno;clear hno hk h1;refine gN d.regions.length 8 (λk=>k<=d.regions.length/\s∉(qj d).take k) ⟨tr,tt⟩ ?_;rintro k ⟨hk,hno⟩;refine aB ?_ ?_<;>intro h1
 .refine gX fw (xs:=d.regions) λ_ _ x (_:ah) hx=>?_;have lU:(qj d)[k]? =some x.name:=by unfold qj;rw[dN,hx];rfl
  refine go ?_;refine jS rfl (λh2=>?_) (λh2=>?_)
  .rw[ed]at h2;have h2:=gT h2;subst h2;refine go ?_;refine fE (8+k,true) (hv:=?_) (hp:=⟨⟨λ_=>pI _ (aS lU),λ_=>rfl⟩,λ_=>(ak6 Fg).trans ?_⟩)
   .show Value.tuple ⟨[iV (8+(k:Int)),.bool true]⟩=.tuple ⟨[iV ((8+k:Nat):Int),.bool true]⟩;rw[show((8+k:Nat):Int)=8+(k:Int)by omega]
   .have:=He lU hno;unfold qj at this;rw[this];rfl
  .rw[ed]at h2;have h2:=ol h2;refine go ?_;refine aQ (k+1) tr ⟨tr,?_⟩;rw[cB lU,dY,not_or];exact⟨hno,by simp;exact λe=>h2 e.symm⟩
 have hkl:k=d.regions.length:=tr
 subst hkl;rw[show(qj d).take d.regions.length=qj d from vM (by simp[qj])]at hno;refine go ?_;exact gQ (0,false) ⟨⟨(λh=>by cases h),λh=>by
  rcases dY.1 h with h|h
  .exact absurd h Fg
  .exact absurd h hno⟩,(λh=>by cases h)⟩
def LM{l:ae ByteArray}(hs:d.symbols.length<=16)(hl:l.length<2^63):
 fC prog 275 [.agg ⟨gW d vh vs vr vc vu⟩,vl] [aj eT vs d.symbols,aj aV vl l] (λy:Bool=>.tuple ⟨[iV (cond y (gq (bS d) l:Int) 0),.bool y]⟩) (λy=>y=true↔∀s∈l,s∈bS d):=by
 have hsl:(bS d).length<=16:=by simp[bS];exact hs
 refine gB 275 λB w0=>?_;refine gF aV vl l λa1 c1 e1=>?_;subst e1;refine go ?_;intro b1;refine gL (λk=>l.length - k) (λk:Nat=>[(7,iV (k:Int)),(6,iV (gq (bS d) (l.take k):Int))]) (λk=>k<=l.length/\∀s∈l.take k,s∈bS d) 0 ⟨bP _,tt⟩ ?_;rintro k ⟨hk,hall⟩;refine aB ?_ ?_<;>intro h1
 .refine gX aV (xs:=l) λ_ _ x (_:Unit) hx=>?_;refine gC (ak5 (d:=d) (s:=x) tr) λy hy=>?_;obtain⟨n,ok⟩:=y;obtain⟨hy1,hy2⟩:=hy;dsimp only at hy1 hy2;refine go ?_;cases ok with
  |false=>
   refine go ?_;exact gQ false ⟨(λh=>by cases h),λh=>by have:=hy1.2 (h x (aS hx));cases this⟩
  |true=>
   have hm:=hy1.1 rfl;have hp:=yS hm;have hn:=hy2 rfl;subst hn;have h2:1<<<dV x (bS d)<2^16:=by
    rw[Mt,zy];exact kB
   have h3:=P5 hsl (l.take k) 0 hall tr;refine go ?_;refine(fo rfl rfl (OJ (a:=1) (b:=dV x (bS d)) rfl rfl tr tr)).h ?_;refine(fo rfl rfl (OL (a:=gq (bS d) (l.take k)) (b:=1<<<dV x (bS d)) rfl rfl (Nat.lt_trans h3 tr) tr)).h ?_;exact dj
 have hkl:k=l.length:=tr
 subst hkl;rw[bM]at hall⊢;refine go ?_;exact gQ true ⟨λ_=>hall,λ_=>rfl⟩
def ak8(hrl:d.regions.length<=4096)(hcl:d.aR.length<=4096):
 cK prog (.func 132) [.agg ⟨gW d vh vs vr vc vu⟩] [] [] [aj fw vr d.regions,aj bV vc d.aR] xR (λ_=>[]) (λy=>[kZ (y.e=0) (aj bV y.v (d.aR.map (mR (cZ d))))]) (λy=>y.e=0↔(dM d).Nodup/\∀c∈d.aR,c.on∈cZ d):=by
 refine gB 132 λB w0=>?_;refine gF bV vc d.aR λa1 c1 e1=>?_;subst e1;refine go ?_;intro b1;refine gP b1 ?_;refine go ?_;refine iy aV ?_;refine dX (λy:Nat×ah=>d.aR.length - y.1) (λy=>[(5,iV (y.1:Int)),(4,y.2)]) (λy=>[ap aV y.2 ((dM d).take y.1)]) (λ_=>[]) (λy=>y.1<=d.aR.length) (0,.slice none 0 0) (bP _) (hk:=tx) (body:=?_);rintro⟨k,v4⟩ hk;dsimp only at hk⊢;have hil:((dM d).take k).length=k:=by rw[iY];simp[dM];omega
 refine aB ?_ ?_<;>intro h1
 .refine gX bV (xs:=d.aR) λ_ _ x _ hx=>?_;have lU:(dM d)[k]? =some x.name:=by unfold dM;rw[dN,hx];rfl
  refine go ?_;intro Q4;refine go ?_;refine fI aV (xs:=(dM d).take k) x.name () tr (next:=λad=>?_);rw[<- cB lU];refine go ?_;exact aQ (k+1,.slice ad (((dM d).take k).length+1) (((dM d).take k).length+1)) AD tM
 have hkl:k=d.aR.length:=tr
 subst hkl;rw[show(dM d).take d.aR.length=dM d from vM (by simp[dM])];refine gZ (gI (E:=aV) (v:=v4) (xs:=dM d)) ?_;refine gC (LK (vl:=v4) (xs:=dM d) (by simp[dM];omega)) λ_ _=>?_;refine go ?_;refine fu rfl (λh2=>?_) (λh2=>?_)
 .refine go ?_;refine lc (c:=(161:Int)=0) (f:=aj bV (.slice none 0 0) (d.aR.map (mR (cZ d)))) tr ?_;exact po
 refine go ?_;refine iy bV ?_;refine dX (λy:Nat×ah=>d.aR.length - y.1) (λy=>[(7,iV (y.1:Int)),(6,y.2)]) (λy=>[ap bV y.2 ((d.aR.map (mR (cZ d))).take y.1)]) (λ_=>[]) (λy=>y.1<=d.aR.length/\∀c∈d.aR.take y.1,c.on∈cZ d) (0,.slice none 0 0) ⟨bP _,tt⟩ (hk:=tx) (body:=?_);rintro⟨k,v6⟩ ⟨hk,hall⟩;dsimp only at hk hall⊢;have hil:((d.aR.map (mR (cZ d))).take k).length=k:=by rw[iY,bZ];omega
 refine aB ?_ ?_<;>intro h3
 .refine gX bV (xs:=d.aR) λ_ _ x (_:Unit) hx=>?_;have hxm:(d.aR.map (mR (cZ d)))[k]? =some (mR (cZ d) x):=by rw[dN,hx];rfl
  refine go ?_;intro b8;refine gC (YE (d:=d) (s:=x.on) (vc:=.slice a1 d.aR.length c1) (vu:=vu) hrl) λy hy=>?_;obtain⟨n,ok⟩:=y;obtain⟨hy1,hy2⟩:=hy;dsimp only at hy1 hy2;refine go ?_;cases ok with
  |false=>
   refine go ?_;refine lc (c:=(160:Int)=0) (f:=aj bV (.slice none 0 0) (d.aR.map (mR (cZ d)))) tr ?_;exact lP
  |true=>
   have hn:=hy2 rfl;subst hn;refine go ?_;intro b54;refine go ?_;refine fI bV (xs:=(d.aR.map (mR (cZ d))).take k) (mR (cZ d) x) () tr (next:=λad=>?_);rw[<- cB hxm];refine go ?_;refine aQ (k+1,.slice ad (((d.aR.map (mR (cZ d))).take k).length+1) (((d.aR.map (mR (cZ d))).take k).length+1)) AD ⟨by show k+1<=_;omega,?_⟩;show∀c∈d.aR.take (k+1),c.on∈cZ d;exact nF
 have hkl:k=d.aR.length:=tr
 subst hkl;rw[bM]at hall;rw[show(d.aR.map (mR (cZ d))).take d.aR.length=d.aR.map (mR (cZ d))from vM tt];refine gZ (gI (E:=bV) (v:=v6) (xs:=d.aR.map (mR (cZ d)))) ?_;refine go ?_;refine lK (c:=(0:Int)=0) (f:=aj bV v6 (d.aR.map (mR (cZ d)))) tt ?_;exact gQ ⟨v6,0⟩ ⟨λ_=>⟨h2,hall⟩,λ_=>rfl⟩
abbrev RlP(d:bG)(r:bE)(y:bE×Bool):Prop:=(y.2=true↔BN (bS d) (cZ d) (dM d) r)/\(y.2=true->y.1=nS (bS d) (cZ d) (dM d) r)
variable{v1 v2:ah}
def alb{r:bE}(hs:d.symbols.length<=16)(hrl:d.regions.length<=4096)(hcl:d.aR.length<=4096)(h1:r.names.length<2^63)(h2:r.others.length<2^63):
 fC prog 218 [.agg ⟨gW d vh vs vr vc vu⟩,.agg ⟨kL r v1 v2⟩] [aj eT vs d.symbols,aj fw vr d.regions,aj bV vc d.aR,aj aV v1 r.names,aj aV v2 r.others] (λy:bE×Bool=>.tuple ⟨[.agg ⟨kL y.1 v1 v2⟩,.bool y.2]⟩) (RlP d r):=by
 refine gB 218 λB w0=>?_;refine go ?_;intro b2 b3 b4;refine gP b2 ?_;refine go ?_;refine fu (p:=r.on=⟨⟨[]⟩⟩) wq (λh3=>?_) (λh3=>?_)
 .refine gC (YE (d:=d) (s:=r.on) hrl) λy hy=>?_;obtain⟨n,ok⟩:=y;obtain⟨hy1,hy2⟩:=hy;dsimp only at hy1 hy2;refine go ?_;cases ok with
  |false=>
   refine go ?_;exact gQ ({r with family:=0},false) ⟨⟨(λh=>by cases h),λh=>by rcases h.on with h|h;exact absurd h h3;have:=hy1.2 h;cases this⟩,(λh=>by cases h)⟩
  |true=>
   have hon:r.on=⟨⟨[]⟩⟩\/r.on∈cZ d:=.inr (hy1.1 rfl);have hn:=hy2 rfl;subst hn;have hfm:(if r.on=⟨⟨[]⟩⟩then(0:Int)else(dV r.on (cZ d):Int))=(dV r.on (cZ d):Int):=if_neg h3;refine gC (LM (d:=d) (l:=r.names) (vl:=v1) hs h1) λz1 hz1=>?_;refine gC (LM (d:=d) (l:=r.others) (vl:=v2) hs h2) λz2 hz2=>?_;refine go ?_;refine fu (p:=r.dB=⟨⟨[]⟩⟩) wq (λh4=>?_) (λh4=>?_)
   .refine gC (YD (d:=d) (s:=r.dB) tr) λy hy=>?_;obtain⟨n,ok⟩:=y;obtain⟨hy1,hy2⟩:=hy;dsimp only at hy1 hy2;refine go ?_;cases ok with
    |false=>
     refine go ?_;exact gQ ({r with family:=(dV r.on (cZ d):Int),set:=cond z1 (gq (bS d) r.names:Int) 0,other:=cond z2 (gq (bS d) r.others:Int) 0,aX:= -1},false) ⟨⟨(λh=>by cases h),λh=>by rcases h.dB with h|h;exact absurd h h4;have:=hy1.2 h;cases this⟩,(λh=>by cases h)⟩
    |true=>
     have hby:r.dB=⟨⟨[]⟩⟩\/r.dB∈dM d:=.inr (hy1.1 rfl);have hn:=hy2 rfl;subst hn;have hcm:(if r.dB=⟨⟨[]⟩⟩then(-1:Int)else(dV r.dB (dM d):Int))=(dV r.dB (dM d):Int):=if_neg h4;refine go ?_;cases z1 with
     |false=>
      refine go ?_;exact gQ ({r with family:=(dV r.on (cZ d):Int),set:=0,other:=cond z2 (gq (bS d) r.others:Int) 0,aX:=(dV r.dB (dM d):Int)},false) ⟨⟨(λh=>by cases h),λh=>by have:=hz1.2 h.names;cases this⟩,(λh=>by cases h)⟩
     |true=>
      cases z2 with
      |false=>
       refine go ?_;exact gQ ({r with family:=(dV r.on (cZ d):Int),set:=(gq (bS d) r.names:Int),other:=0,aX:=(dV r.dB (dM d):Int)},false) ⟨⟨(λh=>by cases h),λh=>by have:=hz2.2 h.others;cases this⟩,(λh=>by cases h)⟩
      |true=>
       refine go ?_;refine gQ ({r with family:=(dV r.on (cZ d):Int),set:=(gq (bS d) r.names:Int),other:=(gq (bS d) r.others:Int),aX:=(dV r.dB (dM d):Int)},true) ⟨⟨λ_=>⟨hon,hz1.1 rfl,hz2.1 rfl,hby⟩,λ_=>rfl⟩,λ_=>?_⟩;unfold nS;rw[hfm,hcm]
   .have hby:r.dB=⟨⟨[]⟩⟩\/r.dB∈dM d:=.inl h4;have hcm:(if r.dB=⟨⟨[]⟩⟩then(-1:Int)else(dV r.dB (dM d):Int))= -1:=if_pos h4;refine go ?_;cases z1 with
    |false=>
     refine go ?_;exact gQ ({r with family:=(dV r.on (cZ d):Int),set:=0,other:=cond z2 (gq (bS d) r.others:Int) 0,aX:=(-1:Int)},false) ⟨⟨(λh=>by cases h),λh=>by have:=hz1.2 h.names;cases this⟩,(λh=>by cases h)⟩
    |true=>
     cases z2 with
     |false=>
      refine go ?_;exact gQ ({r with family:=(dV r.on (cZ d):Int),set:=(gq (bS d) r.names:Int),other:=0,aX:=(-1:Int)},false) ⟨⟨(λh=>by cases h),λh=>by have:=hz2.2 h.others;cases this⟩,(λh=>by cases h)⟩
     |true=>
      refine go ?_;refine gQ ({r with family:=(dV r.on (cZ d):Int),set:=(gq (bS d) r.names:Int),other:=(gq (bS d) r.others:Int),aX:=(-1:Int)},true) ⟨⟨λ_=>⟨hon,hz1.1 rfl,hz2.1 rfl,hby⟩,λ_=>rfl⟩,λ_=>?_⟩;unfold nS;rw[hfm,hcm]
 .have hon:r.on=⟨⟨[]⟩⟩\/r.on∈cZ d:=.inl h3;have hfm:(if r.on=⟨⟨[]⟩⟩then(0:Int)else(dV r.on (cZ d):Int))=0:=if_pos h3;refine gC (LM (d:=d) (l:=r.names) (vl:=v1) hs h1) λz1 hz1=>?_;refine gC (LM (d:=d) (l:=r.others) (vl:=v2) hs h2) λz2 hz2=>?_;refine go ?_;refine fu (p:=r.dB=⟨⟨[]⟩⟩) wq (λh4=>?_) (λh4=>?_)
  .refine gC (YD (d:=d) (s:=r.dB) tr) λy hy=>?_;obtain⟨n,ok⟩:=y;obtain⟨hy1,hy2⟩:=hy;dsimp only at hy1 hy2;refine go ?_;cases ok with
   |false=>
    refine go ?_;exact gQ ({r with family:=(0:Int),set:=cond z1 (gq (bS d) r.names:Int) 0,other:=cond z2 (gq (bS d) r.others:Int) 0,aX:= -1},false) ⟨⟨(λh=>by cases h),λh=>by rcases h.dB with h|h;exact absurd h h4;have:=hy1.2 h;cases this⟩,(λh=>by cases h)⟩
   |true=>
    have hby:r.dB=⟨⟨[]⟩⟩\/r.dB∈dM d:=.inr (hy1.1 rfl);have hn:=hy2 rfl;subst hn;have hcm:(if r.dB=⟨⟨[]⟩⟩then(-1:Int)else(dV r.dB (dM d):Int))=(dV r.dB (dM d):Int):=if_neg h4;refine go ?_;cases z1 with
    |false=>
     refine go ?_;exact gQ ({r with family:=(0:Int),set:=0,other:=cond z2 (gq (bS d) r.others:Int) 0,aX:=(dV r.dB (dM d):Int)},false) ⟨⟨(λh=>by cases h),λh=>by have:=hz1.2 h.names;cases this⟩,(λh=>by cases h)⟩
    |true=>
     cases z2 with
     |false=>
      refine go ?_;exact gQ ({r with family:=(0:Int),set:=(gq (bS d) r.names:Int),other:=0,aX:=(dV r.dB (dM d):Int)},false) ⟨⟨(λh=>by cases h),λh=>by have:=hz2.2 h.others;cases this⟩,(λh=>by cases h)⟩
     |true=>
      refine go ?_;refine gQ ({r with family:=(0:Int),set:=(gq (bS d) r.names:Int),other:=(gq (bS d) r.others:Int),aX:=(dV r.dB (dM d):Int)},true) ⟨⟨λ_=>⟨hon,hz1.1 rfl,hz2.1 rfl,hby⟩,λ_=>rfl⟩,λ_=>?_⟩;unfold nS;rw[hfm,hcm]
  .have hby:r.dB=⟨⟨[]⟩⟩\/r.dB∈dM d:=.inl h4;have hcm:(if r.dB=⟨⟨[]⟩⟩then(-1:Int)else(dV r.dB (dM d):Int))= -1:=if_pos h4;refine go ?_;cases z1 with
   |false=>
    refine go ?_;exact gQ ({r with family:=(0:Int),set:=0,other:=cond z2 (gq (bS d) r.others:Int) 0,aX:=(-1:Int)},false) ⟨⟨(λh=>by cases h),λh=>by have:=hz1.2 h.names;cases this⟩,(λh=>by cases h)⟩
   |true=>
    cases z2 with
    |false=>
     refine go ?_;exact gQ ({r with family:=(0:Int),set:=(gq (bS d) r.names:Int),other:=0,aX:=(-1:Int)},false) ⟨⟨(λh=>by cases h),λh=>by have:=hz2.2 h.others;cases this⟩,(λh=>by cases h)⟩
    |true=>
     refine go ?_;refine gQ ({r with family:=(0:Int),set:=(gq (bS d) r.names:Int),other:=(gq (bS d) r.others:Int),aX:=(-1:Int)},true) ⟨⟨λ_=>⟨hon,hz1.1 rfl,hz2.1 rfl,hby⟩,λ_=>rfl⟩,λ_=>?_⟩;unfold nS;rw[hfm,hcm]
def alc(hs:d.symbols.length<=16)(hD:nW d):
 cK prog (.func 133) [.agg ⟨gW d vh vs vr vc vu⟩] [] [] [aj eT vs d.symbols,aj fw vr d.regions,aj bV vc d.aR,aj bz vu d.rules] xR (λ_=>[]) (λy=>[kZ (y.e=0) (aj bz y.v (d.rules.map (nS (bS d) (cZ d) (dM d))))]) (λy=>y.e=0↔(oG d).Nodup/\∀r∈d.rules,BN (bS d) (cZ d) (dM d) r):=by
 have hrl:=hD.regs;have hcl:=hD.kD;have xO:=hD.l7;have hrn:=hD.tT;refine gB 133 λB w0=>?_;refine gF bz vu d.rules λa1 c1 e1=>?_;subst e1;refine go ?_;intro b1;refine gP b1 ?_;refine go ?_;refine iy aV ?_;refine dX (λy:Nat×ah=>d.rules.length - y.1) (λy=>[(5,iV (y.1:Int)),(4,y.2)]) (λy=>[ap aV y.2 ((oG d).take y.1)]) (λ_=>[]) (λy=>y.1<=d.rules.length) (0,.slice none 0 0) (bP _) (hk:=tx) (body:=?_);rintro⟨k,v4⟩ hk;dsimp only at hk⊢;have hil:((oG d).take k).length=k:=by rw[iY];simp[oG];omega
 refine aB ?_ ?_<;>intro h1
 .refine gX bz (xs:=d.rules) λ_ _ x _ hx=>?_;have lU:(oG d)[k]? =some x.name:=by unfold oG;rw[dN,hx];rfl
  refine go ?_;intro Q4;refine go ?_;refine fI aV (xs:=(oG d).take k) x.name () tr (next:=λad=>?_);rw[<- cB lU];refine go ?_;exact aQ (k+1,.slice ad (((oG d).take k).length+1) (((oG d).take k).length+1)) wv tM
 have hkl:k=d.rules.length:=tr
 subst hkl;rw[show(oG d).take d.rules.length=oG d from vM (by simp[oG])];refine gZ (gI (E:=aV) (v:=v4) (xs:=oG d)) ?_;refine gC (LK (vl:=v4) (xs:=oG d) (by simp[oG];omega)) λ_ _=>?_;refine go ?_;refine fu rfl (λh2=>?_) (λh2=>?_)
 .refine go ?_;refine lc (c:=(161:Int)=0) (f:=aj bz (.slice none 0 0) (d.rules.map (nS (bS d) (cZ d) (dM d)))) tr ?_;exact po
 refine go ?_;refine iy bz ?_;generalize hf:nS (bS d) (cZ d) (dM d)=f;refine dX (λy:Nat×ah=>d.rules.length - y.1) (λy=>[(7,iV (y.1:Int)),(6,y.2)]) (λy=>[ap bz y.2 ((d.rules.map f).take y.1)]) (λ_=>[]) (λy=>y.1<=d.rules.length/\∀r∈d.rules.take y.1,BN (bS d) (cZ d) (dM d) r) (0,.slice none 0 0) ⟨bP _,tt⟩ (hk:=tx) (body:=?_);rintro⟨k,v6⟩ ⟨hk,hall⟩;dsimp only at hk hall⊢;have hil:((d.rules.map f).take k).length=k:=by rw[iY,bZ];omega
 refine aB ?_ ?_<;>intro h3
 .refine gX bz (xs:=d.rules) λ_ _ x (vx:ah×ah) hx=>?_;have hxm:(d.rules.map f)[k]? =some (f x):=by rw[dN,hx];rfl
  have hxl:=hrn x (aS hx);refine go ?_;intro b8;refine eO (alb (d:=d) (r:=x) (vu:=.slice a1 d.rules.length c1) (v1:=vx.1) (v2:=vx.2) hs hrl hcl hxl.1 hxl.2) (next:=λy hy=>?_);obtain⟨z,ok⟩:=y;obtain⟨hy1,hy2⟩:=hy;dsimp only at hy1 hy2;refine go ?_;cases ok with
  |false=>
   refine go ?_;refine lc (c:=(160:Int)=0) (f:=aj bz (.slice none 0 0) (d.rules.map f)) tr ?_;exact lP
  |true=>
   have hz:=hy2 rfl;rw[hf]at hz;have hzn:z.names=x.names/\z.others=x.others:=by rw[hz,<- hf];exact⟨rfl,rfl⟩
   refine go ?_;intro b54;refine go ?_;refine fM (aj aV vx.1 z.names) (λw hw=>by rw[hzn.1];exact hw (aj aV vx.1 x.names) tt) ?_;refine fM (aj aV vx.2 z.others) (λw hw=>by rw[hzn.2];exact hw (aj aV vx.2 x.others) tt) ?_;refine fI bz (xs:=(d.rules.map f).take k) z vx tr (next:=λad=>?_);rw[hz,<- cB hxm];refine go ?_;refine aQ (k+1,.slice ad (((d.rules.map f).take k).length+1) (((d.rules.map f).take k).length+1)) wv ⟨by show k+1<=_;omega,?_⟩;show∀c∈d.rules.take (k+1),BN (bS d) (cZ d) (dM d) c;exact nF
 have hkl:k=d.rules.length:=tr
 subst hkl;rw[bM]at hall;rw[show(d.rules.map f).take d.rules.length=d.rules.map f from vM tt];refine gZ (gI (E:=bz) (v:=v6) (xs:=d.rules.map f)) ?_;refine go ?_;refine lK (c:=(0:Int)=0) (f:=aj bz v6 (d.rules.map f)) tt ?_;exact gQ ⟨v6,0⟩ ⟨λ_=>⟨h2,hall⟩,λ_=>rfl⟩
def YF(hD:nW d):
 cK prog (.func 85) [.agg ⟨gW d vh vs vr vc vu⟩] [] [] (mH d vh vs vr vc vu) (tQ d vh vs vr) (λ_=>[]) (qf d) (Ca d):=by
 have hsl:=hD.dG;have hrl:=hD.regs;have hcl:=hD.kD;have xO:=hD.l7;have hgl:jk.length=8:=rfl;refine gB 85 λB w0=>?_;refine gF eT vs d.symbols λa1 c1 e1=>?_;subst e1;refine gF fw vr d.regions λa2 c2 e2=>?_;subst e2;refine go ?_;intro b1 b2;refine aB ?_ ?_<;>intro hs
 .refine go ?_;exact gQ ⟨false,2,.nilFunc,.nilFunc⟩ ⟨(λh=>by cases h),λ_=>⟨by show(2:Int)≠0;omega,λh=>by have:=h.dG;omega⟩⟩
 refine go ?_;refine iy aV ?_;refine dX (λy:Nat×ah=>d.symbols.length - y.1) (λy=>[(5,iV (y.1:Int)),(4,y.2)]) (λy=>[ap aV y.2 ((bS d).take y.1)]) (λ_=>[]) (λy=>y.1<=d.symbols.length) (0,.slice none 0 0) (bP _) (hk:=tx) (body:=?_);rintro⟨k,v4⟩ hk;dsimp only at hk⊢;have hil:((bS d).take k).length=k:=by rw[iY];simp[bS];omega
 refine aB ?_ ?_<;>intro h1
 .refine gX eT (xs:=d.symbols) λ_ _ x _ hx=>?_;have lU:(bS d)[k]? =some x.name:=by unfold bS;rw[dN,hx];rfl
  refine go ?_;intro Q4;refine go ?_;refine fI aV (xs:=(bS d).take k) x.name () tr (next:=λad=>?_);rw[<- cB lU];refine go ?_;exact aQ (k+1,.slice ad (((bS d).take k).length+1) (((bS d).take k).length+1)) (by show d.symbols.length - (k+1)<d.symbols.length - k;omega) tM
 have hkl:k=d.symbols.length:=tr
 subst hkl;rw[show(bS d).take d.symbols.length=bS d from vM (by simp[bS])];refine gZ (gI (E:=aV) (v:=v4) (xs:=bS d)) ?_;refine gC (LK (vl:=v4) (xs:=bS d) (by simp[bS];omega)) λ_ _=>?_;refine go ?_;refine fu rfl (λk1=>?_) (λk1=>?_)
 .refine go ?_;exact gQ ⟨false,161,.nilFunc,.nilFunc⟩ ⟨(λh=>by cases h),λ_=>⟨by show(161:Int)≠0;omega,λh=>k1 h.VV⟩⟩
 refine gC YC λag _=>?_;refine go ?_;refine dX (λy:Nat×ah=>d.regions.length - y.1) (λy=>[(7,iV (y.1:Int)),(6,y.2)]) (λy=>[ap aV y.2 (jk++(qj d).take y.1)]) (λ_=>[]) (λy=>y.1<=d.regions.length) (0,.slice ag jk.length jk.length) (bP _) (hk:=by rw[List.take_zero,jd];repeat (first|exact aO.nil|(apply aO.cons;(focus (repeat (first|exact aD.here|apply aD.there)))))) (body:=?_);rintro⟨k,v6⟩ hk;dsimp only at hk⊢;have hil:(jk++(qj d).take k).length=8+k:=by rw[ik,iY,hgl];simp[qj];omega
 refine aB ?_ ?_<;>intro h1
 .refine gX fw (xs:=d.regions) λ_ _ x (_:ah) hx=>?_;have lU:(qj d)[k]? =some x.name:=by unfold qj;rw[dN,hx];rfl
  refine go ?_;intro Q4;refine go ?_;refine fI aV (xs:=jk++(qj d).take k) x.name () tr (next:=λad=>?_);rw[gz,<- cB lU];refine go ?_;exact aQ (k+1,.slice ad ((jk++(qj d).take k).length+1) ((jk++(qj d).take k).length+1)) A3 tM
 have hkl:k=d.regions.length:=tr
 subst hkl;rw[show jk++(qj d).take d.regions.length=cZ d from by rw[vM (by simp[qj])];rfl];refine gZ (gI (E:=aV) (v:=v6) (xs:=cZ d)) ?_;refine gC (LK (vl:=v6) (xs:=cZ d) (by simp[cZ];omega)) λ_ _=>?_;refine go ?_;refine fu rfl (λk2=>?_) (λk2=>?_)
 .refine go ?_;exact gQ ⟨false,161,.nilFunc,.nilFunc⟩ ⟨(λh=>by cases h),λ_=>⟨by show(161:Int)≠0;omega,λh=>k2 h.VW⟩⟩
 refine gC (ak8 (d:=d) hrl hcl) λy hy=>?_;obtain⟨wc,e⟩:=y;dsimp only at hy⊢;refine aB ?_ ?_<;>intro k3
 .refine go ?_;exact gQ ⟨false,e,.nilFunc,.nilFunc⟩ ⟨(λh=>by cases h),λ_=>⟨k3,λh=>k3 (hy.2 ⟨h.VX,h.Pj⟩)⟩⟩
 have he:e=0:=iD.1 k3;subst he;obtain⟨p1,p2⟩:=hy.1 rfl;clear hy k3;refine fM (aj bV wc (Kd.bH d).aR) (λw hw=>hw (kZ ((0:Int)=0) (aj bV wc (d.aR.map (mR (cZ d))))) tt rfl) ?_;refine gC (alc (d:=d) tr hD) λy hy=>?_;obtain⟨wu,e⟩:=y;dsimp only at hy⊢;refine aB ?_ ?_<;>intro k3
 .refine go ?_;exact gQ ⟨false,e,.nilFunc,.nilFunc⟩ ⟨(λh=>by cases h),λ_=>⟨k3,λh=>k3 (hy.2 ⟨h.VY,h.oH⟩)⟩⟩
 have he:e=0:=iD.1 k3;subst he;obtain⟨p3,p4⟩:=hy.1 rfl;clear hy k3;refine fM (aj bz wu (Kd.bH d).rules) (λw hw=>hw (kZ ((0:Int)=0) (aj bz wu (d.rules.map (nS (bS d) (cZ d) (dM d))))) tt rfl) ?_;refine gF bV wc ((Kd.bH d).aR) λa3 c3 e3=>?_;subst e3;refine gF bz wu ((Kd.bH d).rules) λa4 c4 e4=>?_;subst e4;refine go ?_;refine gQ ⟨true,0,.slice a3 (Kd.bH d).aR.length c3,.slice a4 (Kd.bH d).rules.length c4⟩ ⟨λ_=>⟨rfl,⟨tr,k1,k2,p1,p2,p3,p4⟩⟩,(λh=>by cases h)⟩ (hF:=?_);show Sub [aj bV _ (Kd.bH d).aR,aj bz _ (Kd.bH d).rules] _;exact .cons tt (.cons tt .nil)
variable{va vb:ah}{ys:ae Int}
def YG{xs:ae Int}(hl:xs.length<2^63):dL prog 143 [va,vb] [aj ai va xs,aj ai vb ys] (.bool (decide (xs=ys))):=by
 refine gB 143 λB w0=>?_;refine gF ai va xs λa1 c1 e1=>?_;subst e1;refine gF ai vb ys λa2 c2 e2=>?_;subst e2;refine aB ?_ ?_<;>intro h1
 .exact cW
 exact td
def YH{xs:ae Int}(hl:xs.length<2^63):dL prog 219 [va,vb] [aj ai va xs,aj ai vb ys] (.bool (decide (xs=ys))):=by
 refine gB 219 λB w0=>?_;refine gF ai va xs λa1 c1 e1=>?_;subst e1;refine gF ai vb ys λa2 c2 e2=>?_;subst e2;refine aB ?_ ?_<;>intro h1
 .exact cW
 exact td
def YI{ys:ae ByteArray}(hl:xs.length<2^63):dL prog 230 [va,vb] [aj aV va xs,aj aV vb ys] (.bool (decide (xs=ys))):=by
 refine gB 230 λB w0=>?_;refine gF aV va xs λa1 c1 e1=>?_;subst e1;refine gF aV vb ys λa2 c2 e2=>?_;subst e2;refine aB ?_ ?_<;>intro h1
 .exact cW
 exact tc
def YJ{ys:ae ByteArray}(hl:xs.length<2^63):dL prog 277 [va,vb] [aj aV va xs,aj aV vb ys] (.bool (decide (xs=ys))):=by
 refine gB 277 λB w0=>?_;refine gF aV va xs λa1 c1 e1=>?_;subst e1;refine gF aV vb ys λa2 c2 e2=>?_;subst e2;refine aB ?_ ?_<;>intro h1
 .exact cW
 exact tc
def YK{xs ys:ae (ae Int)}(hl:xs.length<2^63)(hll:∀l∈xs,l.length<2^63):dL prog 91 [va,vb] [aj (aA ai) va xs,aj (aA ai) vb ys] (.bool (decide (xs=ys))):=by
 refine gB 91 λB w0=>?_;refine gF (aA ai) va xs λa1 c1 e1=>?_;subst e1;refine gF (aA ai) vb ys λa2 c2 e2=>?_;subst e2;refine aB ?_ ?_<;>intro h1
 .exact cW
 have hlen:xs.length=ys.length:=tr
 refine gN xs.length 5 (λk=>k<=xs.length/\xs.take k=ys.take k) ⟨tr,tt⟩ ?_;rintro k ⟨hk,hsame⟩;refine aB ?_ ?_<;>intro h2
 .refine gX (aA ai) (xs:=xs) λ_ _ x (_:ah) hx=>?_;refine gX (aA ai) (xs:=ys) λ_ _ y (_:ah) hy=>?_;refine gC (Er (xs:=x) (ys:=y) (hll x (aS hx))) λ_ _=>?_;refine go ?_;refine fu rfl (λh3=>?_) (λh3=>?_)
  .exact cH
  exact ck
 exact cE
def ald{xs ys:ae (ae Int)}(hl:xs.length<2^63)(hll:∀l∈xs,l.length<2^63):dL prog 220 [va,vb] [aj (aA ai) va xs,aj (aA ai) vb ys] (.bool (decide (xs=ys))):=by
 refine gB 220 λB w0=>?_;refine gF (aA ai) va xs λa1 c1 e1=>?_;subst e1;refine gF (aA ai) vb ys λa2 c2 e2=>?_;subst e2;refine aB ?_ ?_<;>intro h1
 .exact cW
 have hlen:xs.length=ys.length:=tr
 refine gN xs.length 5 (λk=>k<=xs.length/\xs.take k=ys.take k) ⟨tr,tt⟩ ?_;rintro k ⟨hk,hsame⟩;refine aB ?_ ?_<;>intro h2
 .refine gX (aA ai) (xs:=xs) λ_ _ x (_:ah) hx=>?_;refine gX (aA ai) (xs:=ys) λ_ _ y (_:ah) hy=>?_;refine gC (YH (xs:=x) (ys:=y) (hll x (aS hx))) λ_ _=>?_;refine go ?_;refine fu rfl (λh3=>?_) (λh3=>?_)
  .exact cH
  exact ck
 exact cE
variable{u1 u2:ah}{x y:bE}
def ale(hl:x.names.length<2^63)(hll:x.others.length<2^63):dL prog 145 [.agg ⟨kL x v1 v2⟩,.agg ⟨kL y u1 u2⟩] [aj aV v1 x.names,aj aV v2 x.others,aj aV u1 y.names,aj aV u2 y.others] (.bool (decide (x=y))):=by
 obtain⟨n1,o1,k1,f1,xP,os1,s1,t1,p1,m1,y1,c1⟩:=x;obtain⟨n2,o2,k2,f2,Eh,os2,s2,t2,p2,m2,y2,c2⟩:=y;dsimp only[kL]at hl hll⊢;refine gB 145 λB w0=>?_;refine go ?_;intro b2 b3;refine gH ?_ ?_<;>intro h1
 .rw[ed]at h1;have h1:=ol h1;exact od
 rw[ed]at h1;have h1:=gT h1;refine gH ?_ ?_<;>intro h2
 .rw[ed]at h2;have h2:=ol h2;exact oc
 rw[ed]at h2;have h2:=gT h2;refine gH ?_ ?_<;>intro h3
 .exact s7
 refine gH ?_ ?_<;>intro h4
 .exact s6
 refine gC (YI (xs:=xP) (ys:=Eh) hl) λ_ _=>?_;refine gH ?_ ?_<;>intro h5
 .exact s5
 refine gC (YI (xs:=os1) (ys:=os2) hll) λ_ _=>?_;refine gH ?_ ?_<;>intro h6
 .exact sY
 refine gH ?_ ?_<;>intro h7
 .exact sX
 refine gH ?_ ?_<;>intro h8
 .exact sR
 refine gH ?_ ?_<;>intro h9
 .exact sL
 refine gH ?_ ?_<;>intro h10
 .exact sB
 refine gH ?_ ?_<;>intro h11
 .rw[ed]at h11;have h11:=ol h11;exact sA
 rw[ed]at h11;have h11:=gT h11;exact ez
def alf(hl:x.names.length<2^63)(hll:x.others.length<2^63):dL prog 221 [.agg ⟨kL x v1 v2⟩,.agg ⟨kL y u1 u2⟩] [aj aV v1 x.names,aj aV v2 x.others,aj aV u1 y.names,aj aV u2 y.others] (.bool (decide (x=y))):=by
 obtain⟨n1,o1,k1,f1,xP,os1,s1,t1,p1,m1,y1,c1⟩:=x;obtain⟨n2,o2,k2,f2,Eh,os2,s2,t2,p2,m2,y2,c2⟩:=y;dsimp only[kL]at hl hll⊢;refine gB 221 λB w0=>?_;refine go ?_;intro b2 b3;refine gH ?_ ?_<;>intro h1
 .rw[ed]at h1;have h1:=ol h1;exact od
 rw[ed]at h1;have h1:=gT h1;refine gH ?_ ?_<;>intro h2
 .rw[ed]at h2;have h2:=ol h2;exact oc
 rw[ed]at h2;have h2:=gT h2;refine gH ?_ ?_<;>intro h3
 .rw[ed]at h3;have h3:=ol h3;exact s7
 rw[ed]at h3;have h3:=gT h3;refine gC (YJ (xs:=xP) (ys:=Eh) hl) λ_ _=>?_;refine gH ?_ ?_<;>intro h4
 .exact s6
 refine gC (YJ (xs:=os1) (ys:=os2) hll) λ_ _=>?_;refine gH ?_ ?_<;>intro h5
 .exact s5
 refine gH ?_ ?_<;>intro h6
 .exact sY
 refine gH ?_ ?_<;>intro h7
 .exact sX
 refine gH ?_ ?_<;>intro h8
 .exact sR
 refine gH ?_ ?_<;>intro h9
 .exact sL
 refine gH ?_ ?_<;>intro h10
 .exact sB
 refine gH ?_ ?_<;>intro h11
 .exact sA
 exact ez
variable{h1 c1 h2 c2:ah}
def alg{x y:bB}(hS:si x):dL prog 93 [.agg ⟨jm x h1 c1⟩,.agg ⟨jm y h2 c2⟩] [aj ai h1 x.holes,aj ai c1 x.cells,aj ai h2 y.holes,aj ai c2 y.cells] (.bool (decide (x=y))):=by
 have e2:=hS.holes;have e3:=hS.cells;clear hS;obtain⟨xs,xw,xh,Ck,Cm⟩:=x;obtain⟨ys,yw,yh,Qu,GY⟩:=y;dsimp only[jm]at e2 e3⊢;refine gB 93 λB w0=>?_;refine go ?_;intro b2 b3;refine gH ?_ ?_<;>intro k1
 .exact gb
 refine gH ?_ ?_<;>intro k2
 .exact ga
 refine gH ?_ ?_<;>intro k3
 .exact fW
 refine gC (Er (xs:=Ck) (ys:=Qu) tr) λ_ _=>?_;refine gH ?_ ?_<;>intro k4
 .exact fS
 refine gC (Er (xs:=Cm) (ys:=GY) tr) λ_ _=>?_;refine aM ?_;subst k1 k2 k3 k4;rw[show decide (bB.mk xs xw xh Ck Cm=bB.mk xs xw xh Ck GY)=decide (Cm=GY)from pJ.2 ⟨λh=>by cases h;rfl,λh=>by rw[h]⟩];rfl
def alh{x y:nR}{vx vy:ah}(hl:x.lists.length<2^63)(hll:∀l∈x.lists,l.length<2^63):dL prog 144 [.agg ⟨[.string x.name,vx]⟩,.agg ⟨[.string y.name,vy]⟩] [aj (aA ai) vx x.lists,aj (aA ai) vy y.lists] (.bool (decide (x=y))):=by
 obtain⟨n1,xs⟩:=x;obtain⟨n2,ys⟩:=y;dsimp only at hl hll⊢;refine gB 144 λB w0=>?_;refine gF (aA ai) vx xs λa1 c1 e1=>?_;subst e1;refine gF (aA ai) vy ys λa2 c2 e2=>?_;subst e2;refine go ?_;intro b2 b3;refine go ?_;refine mQ (λk1=>?_) (λk1=>?_)
 rotate_left
 .exact ff
 rw[ed]at k1;have k1:n1=n2:=A4
 subst k1;have hdd:decide (nR.mk n1 xs=nR.mk n1 ys)=decide (xs=ys):=pJ.2 ⟨λh=>by cases h;rfl,λh=>by rw[h]⟩;rw[hdd];refine aB ?_ ?_<;>intro h1
 .exact cW
 have hlen:xs.length=ys.length:=tr
 refine gN xs.length 5 (λk=>k<=xs.length/\xs.take k=ys.take k) ⟨tr,tt⟩ ?_;rintro k ⟨hk,hsame⟩;refine aB ?_ ?_<;>intro h2
 .refine gX (aA ai) (xs:=xs) λ_ _ x (_:ah) hx=>?_;refine gX (aA ai) (xs:=ys) λ_ _ y (_:ah) hy=>?_;refine gC (YG (xs:=x) (ys:=y) (hll x (aS hx))) λ_ _=>?_;refine go ?_;refine fu rfl (λh3=>?_) (λh3=>?_)
  .exact cH
  exact ck
 exact cE
variable{s1 r1 s2 r2:ah}
def ali{x y:bG}(hS:nW x):dL prog 92 [.agg ⟨gW x h1 s1 r1 c1 u1⟩,.agg ⟨gW y h2 s2 r2 c2 u2⟩] (mH x h1 s1 r1 c1 u1++mH y h2 s2 r2 c2 u2) (.bool (decide (x=y))):=by
 have e1:=hS.dG;have e2:=hS.regs;have e3:=hS.kD;have e4:=hS.l7;have e5:=hS.tT;have e6:=hS.holes;have e7:=hS.tV;clear hS;obtain⟨fs1,hu1,Q5⟩:=P8;obtain⟨fs2,hu2,hrow2⟩:=P9;obtain⟨n1,v1,p1,w1,g1,ho1,nX,nC,nY,nD⟩:=x;obtain⟨n2,v2,p2,w2,g2,ho2,rZ,qP,r9,qQ⟩:=y;dsimp only at e1 e2 e3 e4 e5 e6 e7;dsimp only[gW,mH,List.cons_append,List.nil_append];refine gB 92 λB w0=>?_;refine gF eT s1 nX λpg cs1 es=>?_;subst es;refine gF eT s2 rZ λas2 cs2 es=>?_;subst es;refine gF fw r1 nC λar1 cr1 es=>?_;subst es;refine gF fw r2 qP λar2 cr2 es=>?_;subst es;refine gF bV c1 nY λac1 cc1 es=>?_;subst es;refine gF bV c2 r9 λac2 cc2 es=>?_;subst es;refine gF bz u1 nD λau1 cu1 es=>?_;subst es;refine gF bz u2 qQ λau2 cu2 es=>?_;subst es;refine go ?_;intro b2 b3;refine go ?_;refine mQ (λk1=>?_) (λk1=>?_)
 rotate_left
 .exact ff
 rw[ed]at k1;have k1:n1=n2:=A4
 refine gH ?_ ?_<;>intro k2
 rotate_left
 .exact ga
 refine gH ?_ ?_<;>intro k3
 rotate_left
 .exact fW
 refine gH ?_ ?_<;>intro k4
 rotate_left
 .exact fS
 refine gH ?_ ?_<;>intro k5
 rotate_left
 .exact jp
 refine gC (YG (xs:=ho1) (ys:=ho2) e6) λ_ _=>?_;refine go ?_;refine oD (λk6=>?_) (λk6=>?_)
 rotate_left
 .exact fR
 refine gH ?_ ?_<;>intro k7
 rotate_left
 .exact fN
 refine gH ?_ ?_<;>intro k8
 rotate_left
 .exact oa
 refine gH ?_ ?_<;>intro k9
 rotate_left
 .exact n9
 refine aB ?_ ?_<;>intro k10
 .exact sx
 have l1:nX.length=rZ.length:=tr
 have l2:nC.length=qP.length:=tr
 have l3:nY.length=r9.length:=tr
 have l4:nD.length=qQ.length:=tr
 refine gN nX.length 5 (λk=>k<=nX.length/\nX.take k=rZ.take k) ⟨tr,tt⟩ ?_;rintro k ⟨hk,hsame⟩;refine aB ?_ ?_<;>intro h2
 .exact tb
 have hkl:k=nX.length:=tr
 subst hkl;rw[bM,l1,bM]at hsame;have m1:=hsame;clear hsame hk h2;refine gN nC.length 6 (λk=>k<=nC.length/\nC.take k=qP.take k) ⟨tr,tt⟩ ?_;rintro k ⟨hk,hsame⟩;refine aB ?_ ?_<;>intro h2
 .refine gX fw (xs:=nC) λ_ _ x (vx:ah) hx=>?_;have hxl:=e7 x (aS hx);refine gX fw (xs:=qP) λ_ _ y (vy:ah) hy=>?_;refine gC (alh (x:=x) (y:=y) (vx:=vx) (vy:=vy) hxl.1 hxl.2) λ_ _=>?_;refine go ?_;refine fu rfl (λh3=>?_) (λh3=>?_)
  .exact cI
  exact ck
 have hkl:k=nC.length:=tr
 subst hkl;rw[bM,l2,bM]at hsame;have m2:=hsame;clear hsame hk h2;refine gN nY.length 7 (λk=>k<=nY.length/\nY.take k=r9.take k) ⟨tr,tt⟩ ?_;rintro k ⟨hk,hsame⟩;refine aB ?_ ?_<;>intro h2
 .exact ta
 have hkl:k=nY.length:=tr
 subst hkl;rw[bM,l3,bM]at hsame;have m3:=hsame;clear hsame hk h2;refine gN nD.length 8 (λk=>k<=nD.length/\nD.take k=qQ.take k) ⟨tr,tt⟩ ?_;rintro k ⟨hk,hsame⟩;refine aB ?_ ?_<;>intro h2
 .refine gX bz (xs:=nD) λ_ _ x (vx:ah×ah) hx=>?_;have hxl:=e5 x (aS hx);refine gX bz (xs:=qQ) λ_ _ y (vy:ah×ah) hy=>?_;refine gC (ale (x:=x) (y:=y) (v1:=vx.1) (v2:=vx.2) (u1:=vy.1) (u2:=vy.2) hxl.1 hxl.2) λ_ _=>?_;refine go ?_;refine fu rfl (λh3=>?_) (λh3=>?_)
  .exact cI
  exact ck
 exact dc
def alC{x y:bG}(hS:nW x):dL prog 134 [.agg ⟨gW x h1 s1 r1 c1 u1⟩,.agg ⟨gW y h2 s2 r2 c2 u2⟩] (mH x h1 s1 r1 c1 u1++mH y h2 s2 r2 c2 u2) (.bool (decide (x=y))):=by
 have e1:=hS.dG;have e2:=hS.regs;have e3:=hS.kD;have e4:=hS.l7;have e5:=hS.tT;have e6:=hS.holes;have e7:=hS.tV;clear hS;obtain⟨fs1,hu1,Q5⟩:=P8;obtain⟨fs2,hu2,hrow2⟩:=P9;obtain⟨n1,v1,p1,w1,g1,ho1,nX,nC,nY,nD⟩:=x;obtain⟨n2,v2,p2,w2,g2,ho2,rZ,qP,r9,qQ⟩:=y;dsimp only at e1 e2 e3 e4 e5 e6 e7;dsimp only[gW,mH,List.cons_append,List.nil_append];refine gB 134 λB w0=>?_;refine gF eT s1 nX λpg cs1 es=>?_;subst es;refine gF eT s2 rZ λas2 cs2 es=>?_;subst es;refine gF fw r1 nC λar1 cr1 es=>?_;subst es;refine gF fw r2 qP λar2 cr2 es=>?_;subst es;refine gF bV c1 nY λac1 cc1 es=>?_;subst es;refine gF bV c2 r9 λac2 cc2 es=>?_;subst es;refine gF bz u1 nD λau1 cu1 es=>?_;subst es;refine gF bz u2 qQ λau2 cu2 es=>?_;subst es;refine go ?_;intro b2 b3;refine go ?_;refine mQ (λk1=>?_) (λk1=>?_)
 rotate_left
 .exact ff
 rw[ed]at k1;have k1:n1=n2:=A4
 refine gH ?_ ?_<;>intro k2
 rotate_left
 .exact ga
 refine gH ?_ ?_<;>intro k3
 rotate_left
 .exact fW
 refine gH ?_ ?_<;>intro k4
 rotate_left
 .exact fS
 refine gH ?_ ?_<;>intro k5
 rotate_left
 .exact jp
 refine gC (YH (xs:=ho1) (ys:=ho2) e6) λ_ _=>?_;refine go ?_;refine fu rfl (λk6=>?_) (λk6=>?_)
 .exact fR
 refine gH ?_ ?_<;>intro k7
 rotate_left
 .exact fN
 refine gH ?_ ?_<;>intro k8
 rotate_left
 .exact oa
 refine gH ?_ ?_<;>intro k9
 rotate_left
 .exact n9
 refine aB ?_ ?_<;>intro k10
 .exact sx
 have l1:nX.length=rZ.length:=tr
 have l2:nC.length=qP.length:=tr
 have l3:nY.length=r9.length:=tr
 have l4:nD.length=qQ.length:=tr
 refine gN nX.length 5 (λk=>k<=nX.length/\nX.take k=rZ.take k) ⟨tr,tt⟩ ?_;rintro k ⟨hk,hsame⟩;refine aB ?_ ?_<;>intro h2
 .exact tb
 have hkl:k=nX.length:=tr
 subst hkl;rw[bM,l1,bM]at hsame;have m1:=hsame;clear hsame hk h2;refine gN nC.length 6 (λk=>k<=nC.length/\nC.take k=qP.take k) ⟨tr,tt⟩ ?_;rintro k ⟨hk,hsame⟩;refine aB ?_ ?_<;>intro h2
 .refine gX fw (xs:=nC) λ_ _ x (vx:ah) hx=>?_;have hxl:=e7 x (aS hx);refine gX fw (xs:=qP) λ_ _ y (vy:ah) hy=>?_;refine go ?_;refine mQ (λj1=>?_) (λj1=>?_)
  rotate_left
  .rw[ed]at j1;have j1:¬x.name=y.name:=by simpa using j1
   have h3:¬x=y:=λe=>j1 (by rw[e]);refine aM ?_;rw[aY (λe=>by cases e;rw[hx]at hy;exact h3 (Option.some.inj hy))];rfl
  rw[ed]at j1;have j1:x.name=y.name:=by simpa using j1
  refine gX fw (xs:=nC) λ_ _ x' (vx:ah) hx'=>?_;cases hx.symm.trans hx';refine gX fw (xs:=qP) λ_ _ y' (vy:ah) hy'=>?_;cases hy.symm.trans hy';refine gC (ald (xs:=x.lists) (ys:=y.lists) hxl.1 hxl.2) λ_ _=>?_;refine go ?_;refine fu rfl (λh3=>?_) (λh3=>?_)
  .have h3:¬x=y:=λe=>h3 (by rw[e]);refine aM ?_;rw[aY (λe=>by cases e;rw[hx]at hy;exact h3 (Option.some.inj hy))];rfl
  have h3:x=y:=by
   obtain⟨a,b⟩:=x;obtain⟨c,d⟩:=y;dsimp only at j1 h3;rw[j1,h3]
  exact ck
 have hkl:k=nC.length:=tr
 subst hkl;rw[bM,l2,bM]at hsame;have m2:=hsame;clear hsame hk h2;refine gN nY.length 7 (λk=>k<=nY.length/\nY.take k=r9.take k) ⟨tr,tt⟩ ?_;rintro k ⟨hk,hsame⟩;refine aB ?_ ?_<;>intro h2
 .exact ta
 have hkl:k=nY.length:=tr
 subst hkl;rw[bM,l3,bM]at hsame;have m3:=hsame;clear hsame hk h2;refine gN nD.length 8 (λk=>k<=nD.length/\nD.take k=qQ.take k) ⟨tr,tt⟩ ?_;rintro k ⟨hk,hsame⟩;refine aB ?_ ?_<;>intro h2
 .refine gX bz (xs:=nD) λ_ _ x (vx:ah×ah) hx=>?_;have hxl:=e5 x (aS hx);refine gX bz (xs:=qQ) λ_ _ y (vy:ah×ah) hy=>?_;refine gC (alf (x:=x) (y:=y) (v1:=vx.1) (v2:=vx.2) (u1:=vy.1) (u2:=vy.2) hxl.1 hxl.2) λ_ _=>?_;refine go ?_;refine fu rfl (λh3=>?_) (λh3=>?_)
  .exact cI
  exact ck
 exact dc
