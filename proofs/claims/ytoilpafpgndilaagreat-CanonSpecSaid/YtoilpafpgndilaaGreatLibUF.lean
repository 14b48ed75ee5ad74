/- Part. -/
import Derived.Test.YtoilpafpgndilaaGreatLibSF
set_option linter.all false
set_option maxRecDepth 10000
set_option maxHeartbeats 4000000
namespace Go.Proofs.YtoilpafpgndilaaGreat
open Tryz (prog)
open Go.Ideal Kd
noncomputable def WA:gV:=⟨2,[(.tmp 0)],(.seq (kO [kS 0 (.nD (.const vS))]) (.seq (kO [⟨⟨(some 1),none,(.wU 9 8 [vE,vE,vE,vE,vE,vE,vE,vE] [⟨0,⟨1,(.const (.string ⟨⟨[99,101,108,108,115]⟩⟩))⟩⟩,⟨1,⟨1,(.const (.string ⟨⟨[114,111,119,115]⟩⟩))⟩⟩,⟨2,⟨1,(.const (.string ⟨⟨[99,111,108,117,109,110,115]⟩⟩))⟩⟩,⟨3,⟨1,(.const (.string ⟨⟨[100,105,97,103,111,110,97,108,115]⟩⟩))⟩⟩,⟨4,⟨1,(.const (.string ⟨⟨[97,114,111,117,110,100]⟩⟩))⟩⟩,⟨5,⟨1,(.const (.string ⟨⟨[110,101,97,114]⟩⟩))⟩⟩,⟨6,⟨1,(.const (.string ⟨⟨[112,97,105,114,115]⟩⟩))⟩⟩,⟨7,⟨1,(.const (.string ⟨⟨[97,108,108]⟩⟩))⟩⟩])⟩,[]⟩,kS 0 (.nD 1)]) .ret))⟩
def ahX:mO prog 193=some WA:=Ax
def FZ{s:ByteArray}:∀{l:kI ByteArray} {k:Nat},l[k]? =some s->s∉l.take k->dZ s l=k
 |[],k,h,_=>by simp at h
 |a::l,0,h,_=>by
  have h:a=s:=AH
  unfold dZ;rw[if_pos h.symm]
 |a::l,k+1,h,hn=>by
  have h:l[k]? =some s:=AH
  rw[List.take_succ_cons,dx,not_or]at hn;unfold dZ;rw[if_neg hn.1,FZ h hn.2]
def WB{α:Type}{xs:kI α}{k:Nat}{x:α}(hx:xs[k]? =some x):(xs.take (k+1)).Nodup↔(xs.take k).Nodup/\x∉xs.take k:=by
 rw[bZ hx,iT];constructor
 .rintro⟨h1,_,h2⟩;exact⟨h1,λh=>h2 x h x (bM.2 rfl) rfl⟩
 .rintro⟨h1,h2⟩;exact⟨h1,An,λa ha b hb e=>h2 (by rw[bM.1 hb]at e;rw[<- e];exact ha)⟩
variable{vl:vI}{xs:kI ByteArray}
def J6(hl:xs.length<2^63):dD prog 192 [vl] [ai bC vl xs] (.bool (!decide xs.Nodup)):=by
 refine gB 192 λB w0=>?_;refine gF bC vl xs λa1 c1 e1=>?_;subst e1;refine gN xs.length 3 (λk=>k<=xs.length/\(xs.take k).Nodup) ⟨z7,An⟩ ?_;rintro k ⟨hk,hnd⟩;refine gIf ?_ ?_<;>intro h1
 .have hx:xs[k]? =some (xs[k]'(z7)):=bP _;generalize xs[k]'(z7)=x at hx;refine gN k 4 (λj=>j<=k/\x∉xs.take j) ⟨z7,An⟩ ?_;rintro j ⟨hj,hno⟩;refine gIf ?_ ?_<;>intro h2
  .refine gX bC (xs:=xs) λ_ _ x' (_:Unit) hx'=>?_;cases hx.symm.trans hx';refine gX bC (xs:=xs) λ_ _ y (_:Unit) hy=>?_;refine go ?_;refine kw rfl (λh3=>?_) (λh3=>?_)
   .rw[eB]at h3;have h3:=iI h3;subst h3;refine acM ?_;rw[aR (λhn=>by
     have h4:(xs.take (k+1)).Nodup:=hn.sublist (PX _ _);rw[WB hx]at h4;exact h4.2 (uy.2 ⟨j,by rw[sK,if_pos z7];exact hy⟩))];rfl
   .rw[eB]at h3;have h3:=nC h3;refine go ?_;refine aN (j+1) z7 ⟨z7,?_⟩;rw[bZ hy,dX,not_or];exact⟨hno,by simp;exact h3⟩
  have hjk:j=k:=z7
  subst hjk;refine go ?_;exact aN (j+1) z7 ⟨z7,(WB hx).2 ⟨hnd,hno⟩⟩
 have hkl:k=xs.length:=z7
 subst hkl;rw[bU]at hnd;refine acM ?_;rw[dK hnd];rfl
def WC:bA prog (.func 193) [] [] [] [] (λa:x8 Addr=>.slice a iN.length iN.length) (λa=>[ap bC (.slice a iN.length iN.length) iN]) (λ_=>[]) (λ_=>True):=by
 refine aM WA ahX λB w0=>?_;refine go ?_;intro b;refine go ?_;refine tT (b:=b) (m:=iN.length) (f:=0) bC (aC:=iN.map λs=>(s,())) rfl (.inl rfl) ?_ (hk:=az.here);refine TR (E:=bC) (aC:=iN.map λs=>(s,())) AE ?_ (λw hw p hp f hf=>by cases hf);show R _ _ _ [ap bC (.slice (some ⟨b,0,some 0⟩) iN.length iN.length) iN] _;exact gQ (some ⟨b,0,some 0⟩) trivial
def Pe(s:ByteArray)(l:kI ByteArray)(y:Nat×Bool):Prop:=(y.2=true↔s∈l)/\(y.2=true->dZ s l=y.1)
abbrev Pf(y:Nat×Bool):vI:=.tuple ⟨[iV (y.1:Int),.bool y.2]⟩
variable{d:bF}{vh vs vr vc vu:vI}{s:ByteArray}
def ahY(hl:d.symbols.length<2^63):fC prog 370 [.agg ⟨ahE d vh vs vr vc vu⟩,.string s] [ai fF vs d.symbols] Pf (Pe s (bX d)):=by
 refine gB 370 λB w0=>?_;refine gF fF vs d.symbols λa1 c1 e1=>?_;subst e1;refine go ?_;intro b1;refine gN d.symbols.length 6 (λk=>k<=d.symbols.length/\s∉(bX d).take k) ⟨z7,An⟩ ?_;rintro k ⟨hk,hno⟩;refine gIf ?_ ?_<;>intro h1
 .refine gX fF (xs:=d.symbols) λ_ _ x _ hx=>?_;have lQ:(bX d)[k]? =some x.name:=by unfold bX;rw[dm,hx];rfl
  exact eC
 have hkl:k=d.symbols.length:=z7
 subst hkl;rw[show(bX d).take d.symbols.length=bX d from ry (by simp[bX])]at hno;exact iu
def WE(hl:d.aJ.length<2^63):fC prog 338 [.agg ⟨ahE d vh vs vr vc vu⟩,.string s] [ai bI vc d.aJ] Pf (Pe s (dO d)):=by
 refine gB 338 λB w0=>?_;refine gF bI vc d.aJ λa1 c1 e1=>?_;subst e1;refine go ?_;intro b1;refine gN d.aJ.length 6 (λk=>k<=d.aJ.length/\s∉(dO d).take k) ⟨z7,An⟩ ?_;rintro k ⟨hk,hno⟩;refine gIf ?_ ?_<;>intro h1
 .refine gX bI (xs:=d.aJ) λ_ _ x _ hx=>?_;have lQ:(dO d)[k]? =some x.name:=by unfold dO;rw[dm,hx];rfl
  exact eC
 have hkl:k=d.aJ.length:=z7
 subst hkl;rw[show(dO d).take d.aJ.length=dO d from ry (by simp[dO])]at hno;exact iu
def oN(d:bF):kI ByteArray:=d.regions.map (·.name)
variable{a b:kI ByteArray}
def ahZ(h:s∉a):dZ s (a++b)=a.length+dZ s b:=by
 induction a with
 |nil=>simp
 |cons x a ih=>
  rw[dx,not_or]at h;show(if s=x then 0 else dZ s (a++b)+1)=_;rw[if_neg h.1,ih h.2,oP];omega
def ah0(h:s∈a):dZ s (a++b)=dZ s a:=by
 induction a with
 |nil=>cases h
 |cons x a ih=>
  show(if s=x then 0 else dZ s (a++b)+1)=if s=x then 0 else dZ s a+1
  by_cases e:s=x
  .rw[if_pos e,if_pos e]
  .rw[if_neg e,if_neg e,ih ((dx.1 h).resolve_left e)]
def WG(hl:d.regions.length<=4096):fC prog 267 [.agg ⟨ahE d vh vs vr vc vu⟩,.string s] [ai eY vr d.regions] Pf (Pe s (cz d)):=by
 have hgl:iN.length=8:=rfl;refine gB 267 λB w0=>?_;refine gF eY vr d.regions λa1 c1 e1=>?_;subst e1;refine go ?_;intro b1;refine gC WC λag _=>?_;refine gZ (gz (E:=bC) (v:=.slice ag iN.length iN.length) (xs:=iN)) ?_;refine gN iN.length 7 (λk=>k<=iN.length/\s∉iN.take k) ⟨z7,An⟩ ?_;rintro k ⟨hk,hno⟩;refine gIf ?_ ?_<;>intro h1
 .refine gX bC (xs:=iN) λ_ _ x (_:Unit) hx=>?_;refine go ?_;refine kw rfl (λh2=>?_) (λh2=>?_)
  .rw[eB]at h2;have h2:=iI h2;subst h2;refine go ?_;exact gQ (k,true) ⟨⟨λ_=>je _ (aZ hx),λ_=>rfl⟩,λ_=>(ah0 (aZ hx)).trans (FZ hx hno)⟩
  .rw[eB]at h2;have h2:=nC h2;exact ew
 have hkl:k=iN.length:=z7
 subst hkl;rw[bU]at hno;have Em:=hno;clear hno hk h1;refine gN d.regions.length 8 (λk=>k<=d.regions.length/\s∉(oN d).take k) ⟨z7,An⟩ ?_;rintro k ⟨hk,hno⟩;refine gIf ?_ ?_<;>intro h1
 .refine gX eY (xs:=d.regions) λ_ _ x (_:vI) hx=>?_;have lQ:(oN d)[k]? =some x.name:=by unfold oN;rw[dm,hx];rfl
  refine go ?_;refine kw rfl (λh2=>?_) (λh2=>?_)
  .rw[eB]at h2;have h2:=iI h2;subst h2;refine go ?_;refine ah (8+k,true) (hv:=?_) (hp:=⟨⟨λ_=>nA _ (aZ lQ),λ_=>rfl⟩,λ_=>(ahZ Em).trans ?_⟩)
   .show Value.tuple ⟨[iV (8+(k:Int)),.bool true]⟩=.tuple ⟨[iV ((8+k:Nat):Int),.bool true]⟩;rw[show((8+k:Nat):Int)=8+(k:Int)by omega]
   .have:=FZ lQ hno;unfold oN at this;rw[this];rfl
  .rw[eB]at h2;have h2:=nC h2;refine go ?_;refine aN (k+1) z7 ⟨z7,?_⟩;rw[bZ lQ,dX,not_or];exact⟨hno,by simp;exact λe=>h2 e.symm⟩
 have hkl:k=d.regions.length:=z7
 subst hkl;rw[show(oN d).take d.regions.length=oN d from ry (by simp[oN])]at hno;refine go ?_;exact gQ (0,false) ⟨⟨(λh=>by cases h),λh=>by
  rcases dX.1 h with h|h
  .exact absurd h Em
  .exact absurd h hno⟩,(λh=>by cases h)⟩
def J7{l:kI ByteArray}(hs:d.symbols.length<=16)(hl:l.length<2^63):
 fC prog 337 [.agg ⟨ahE d vh vs vr vc vu⟩,vl] [ai fF vs d.symbols,ai bC vl l] (λy:Bool=>.tuple ⟨[iV (cond y (gK (bX d) l:Int) 0),.bool y]⟩) (λy=>y=true↔∀s∈l,s∈bX d):=by
 have hsl:(bX d).length<=16:=by simp[bX];exact hs
 refine gB 337 λB w0=>?_;refine gF bC vl l λa1 c1 e1=>?_;subst e1;refine go ?_;intro b1;refine gL (λk=>l.length - k) (λk:Nat=>[(7,iV (k:Int)),(6,iV (gK (bX d) (l.take k):Int))]) (λk=>k<=l.length/\∀s∈l.take k,s∈bX d) 0 ⟨bR _,An⟩ ?_;rintro k ⟨hk,hall⟩;refine gIf ?_ ?_<;>intro h1
 .refine gX bC (xs:=l) λ_ _ x (_:Unit) hx=>?_;refine gC (ahY (d:=d) (s:=x) z7) λy hy=>?_;obtain⟨n,ok⟩:=y;obtain⟨hy1,hy2⟩:=hy;dsimp only at hy1 hy2;refine go ?_;cases ok with
  |false=>
   refine go ?_;exact gQ false ⟨(λh=>by cases h),λh=>by have:=hy1.2 (h x (aZ hx));cases this⟩
  |true=>
   have hm:=hy1.1 rfl;have hp:=AZ hm;have hn:=hy2 rfl;subst hn;have h2:1<<<dZ x (bX d)<2^16:=by
    rw[amL,BL];exact ox
   have h3:=Oa hsl (l.take k) 0 hall z7;refine go ?_;refine(fA rfl rfl (Sy (a:=1) (b:=dZ x (bX d)) rfl rfl z7 z7)).h ?_;refine(fA rfl rfl (SA (a:=gK (bX d) (l.take k)) (b:=1<<<dZ x (bX d)) rfl rfl (Nat.lt_trans h3 z7) z7)).h ?_;exact fb
 have hkl:k=l.length:=z7
 subst hkl;rw[bU]at hall⊢;refine go ?_;exact gQ true ⟨λ_=>hall,λ_=>rfl⟩
def ah1(hrl:d.regions.length<=4096)(hcl:d.aJ.length<=4096):
 bA prog (.func 194) [.agg ⟨ahE d vh vs vr vc vu⟩] [] [] [ai eY vr d.regions,ai bI vc d.aJ] wI (λ_=>[]) (λy=>[jr (y.e=0) (ai bI y.v (d.aJ.map (lW (cz d))))]) (λy=>y.e=0↔(dO d).Nodup/\∀c∈d.aJ,c.on∈cz d):=by
 refine gB 194 λB w0=>?_;refine gF bI vc d.aJ λa1 c1 e1=>?_;subst e1;refine go ?_;intro b1;refine gP b1 ?_;refine go ?_;refine af5 bC ?_;refine aU (λy:Nat×vI=>d.aJ.length - y.1) (λy=>[(5,iV (y.1:Int)),(4,y.2)]) (λy=>[ap bC y.2 ((dO d).take y.1)]) (λ_=>[]) (λy=>y.1<=d.aJ.length) (0,.slice none 0 0) (bR _) (hk:=As) (body:=?_);rintro⟨k,v4⟩ hk;dsimp only at hk⊢;have hil:((dO d).take k).length=k:=by rw[gT];simp[dO];omega
 refine gIf ?_ ?_<;>intro h1
 .refine gX bI (xs:=d.aJ) λ_ _ x _ hx=>?_;have lQ:(dO d)[k]? =some x.name:=by unfold dO;rw[dm,hx];rfl
  refine go ?_;intro Pg;refine go ?_;refine fB bC (xs:=(dO d).take k) x.name () z7 (next:=λad=>?_);rw[<- bZ lQ];refine go ?_;exact aN (k+1,.slice ad (((dO d).take k).length+1) (((dO d).take k).length+1)) D1 AS
 have hkl:k=d.aJ.length:=z7
 subst hkl;rw[show(dO d).take d.aJ.length=dO d from ry (by simp[dO])];refine gZ (gz (E:=bC) (v:=v4) (xs:=dO d)) ?_;refine gC (J6 (vl:=v4) (xs:=dO d) (by simp[dO];omega)) λ_ _=>?_;refine go ?_;refine fq rfl (λh2=>?_) (λh2=>?_)
 .refine go ?_;refine jE (c:=(161:Int)=0) (f:=ai bI (.slice none 0 0) (d.aJ.map (lW (cz d)))) z7 ?_;exact s8
 refine go ?_;refine af5 bI ?_;refine aU (λy:Nat×vI=>d.aJ.length - y.1) (λy=>[(7,iV (y.1:Int)),(6,y.2)]) (λy=>[ap bI y.2 ((d.aJ.map (lW (cz d))).take y.1)]) (λ_=>[]) (λy=>y.1<=d.aJ.length/\∀c∈d.aJ.take y.1,c.on∈cz d) (0,.slice none 0 0) ⟨bR _,An⟩ (hk:=As) (body:=?_);rintro⟨k,v6⟩ ⟨hk,hall⟩;dsimp only at hk hall⊢;have hil:((d.aJ.map (lW (cz d))).take k).length=k:=by rw[gT,bY];omega
 refine gIf ?_ ?_<;>intro h3
 .refine gX bI (xs:=d.aJ) λ_ _ x (_:Unit) hx=>?_;have hxm:(d.aJ.map (lW (cz d)))[k]? =some (lW (cz d) x):=by rw[dm,hx];rfl
  refine go ?_;intro b8;refine gC (WG (d:=d) (s:=x.on) (vc:=.slice a1 d.aJ.length c1) (vu:=vu) hrl) λy hy=>?_;obtain⟨n,ok⟩:=y;obtain⟨hy1,hy2⟩:=hy;dsimp only at hy1 hy2;refine go ?_;cases ok with
  |false=>
   refine go ?_;refine jE (c:=(160:Int)=0) (f:=ai bI (.slice none 0 0) (d.aJ.map (lW (cz d)))) z7 ?_;exact po
  |true=>
   have hn:=hy2 rfl;subst hn;refine go ?_;intro b54;refine go ?_;refine fB bI (xs:=(d.aJ.map (lW (cz d))).take k) (lW (cz d) x) () z7 (next:=λad=>?_);rw[<- bZ hxm];refine go ?_;refine aN (k+1,.slice ad (((d.aJ.map (lW (cz d))).take k).length+1) (((d.aJ.map (lW (cz d))).take k).length+1)) D1 ⟨by show k+1<=_;omega,?_⟩;show∀c∈d.aJ.take (k+1),c.on∈cz d;exact rB
 have hkl:k=d.aJ.length:=z7
 subst hkl;rw[bU]at hall;rw[show(d.aJ.map (lW (cz d))).take d.aJ.length=d.aJ.map (lW (cz d))from ry An];refine gZ (gz (E:=bI) (v:=v6) (xs:=d.aJ.map (lW (cz d)))) ?_;refine go ?_;refine jP (c:=(0:Int)=0) (f:=ai bI v6 (d.aJ.map (lW (cz d)))) An ?_;exact gQ ⟨v6,0⟩ ⟨λ_=>⟨h2,hall⟩,λ_=>rfl⟩
abbrev RlP(d:bF)(r:bN)(y:bN×Bool):Prop:=(y.2=true↔A7 (bX d) (cz d) (dO d) r)/\(y.2=true->y.1=mW (bX d) (cz d) (dO d) r)
variable{v1 v2:vI}
def ah4{r:bN}(hs:d.symbols.length<=16)(hrl:d.regions.length<=4096)(hcl:d.aJ.length<=4096)(h1:r.names.length<2^63)(h2:r.others.length<2^63):
 fC prog 268 [.agg ⟨ahE d vh vs vr vc vu⟩,.agg ⟨lV r v1 v2⟩] [ai fF vs d.symbols,ai eY vr d.regions,ai bI vc d.aJ,ai bC v1 r.names,ai bC v2 r.others] (λy:bN×Bool=>.tuple ⟨[.agg ⟨lV y.1 v1 v2⟩,.bool y.2]⟩) (RlP d r):=by
 refine gB 268 λB w0=>?_;refine go ?_;intro b2 b3 b4;refine gP b2 ?_;refine go ?_;refine fq (p:=r.on=⟨⟨[]⟩⟩) B3 (λh3=>?_) (λh3=>?_)
 .refine gC (WG (d:=d) (s:=r.on) hrl) λy hy=>?_;obtain⟨n,ok⟩:=y;obtain⟨hy1,hy2⟩:=hy;dsimp only at hy1 hy2;refine go ?_;cases ok with
  |false=>
   refine go ?_;exact gQ ({r with family:=0},false) ⟨⟨(λh=>by cases h),λh=>by rcases h.on with h|h;exact absurd h h3;have:=hy1.2 h;cases this⟩,(λh=>by cases h)⟩
  |true=>
   have hon:r.on=⟨⟨[]⟩⟩\/r.on∈cz d:=.inr (hy1.1 rfl);have hn:=hy2 rfl;subst hn;have hfm:(if r.on=⟨⟨[]⟩⟩then(0:Int)else(dZ r.on (cz d):Int))=(dZ r.on (cz d):Int):=if_neg h3;refine gC (J7 (d:=d) (l:=r.names) (vl:=v1) hs h1) λz1 hz1=>?_;refine gC (J7 (d:=d) (l:=r.others) (vl:=v2) hs h2) λz2 hz2=>?_;refine go ?_;refine fq (p:=r.dS=⟨⟨[]⟩⟩) B3 (λh4=>?_) (λh4=>?_)
   .refine gC (WE (d:=d) (s:=r.dS) z7) λy hy=>?_;obtain⟨n,ok⟩:=y;obtain⟨hy1,hy2⟩:=hy;dsimp only at hy1 hy2;refine go ?_;cases ok with
    |false=>
     refine go ?_;exact gQ ({r with family:=(dZ r.on (cz d):Int),set:=cond z1 (gK (bX d) r.names:Int) 0,other:=cond z2 (gK (bX d) r.others:Int) 0,adJ:= -1},false) ⟨⟨(λh=>by cases h),λh=>by rcases h.dS with h|h;exact absurd h h4;have:=hy1.2 h;cases this⟩,(λh=>by cases h)⟩
    |true=>
     have hby:r.dS=⟨⟨[]⟩⟩\/r.dS∈dO d:=.inr (hy1.1 rfl);have hn:=hy2 rfl;subst hn;have hcm:(if r.dS=⟨⟨[]⟩⟩then(-1:Int)else(dZ r.dS (dO d):Int))=(dZ r.dS (dO d):Int):=if_neg h4;refine go ?_;cases z1 with
     |false=>
      refine go ?_;exact gQ ({r with family:=(dZ r.on (cz d):Int),set:=0,other:=cond z2 (gK (bX d) r.others:Int) 0,adJ:=(dZ r.dS (dO d):Int)},false) ⟨⟨(λh=>by cases h),λh=>by have:=hz1.2 h.names;cases this⟩,(λh=>by cases h)⟩
     |true=>
      cases z2 with
      |false=>
       refine go ?_;exact gQ ({r with family:=(dZ r.on (cz d):Int),set:=(gK (bX d) r.names:Int),other:=0,adJ:=(dZ r.dS (dO d):Int)},false) ⟨⟨(λh=>by cases h),λh=>by have:=hz2.2 h.others;cases this⟩,(λh=>by cases h)⟩
      |true=>
       refine go ?_;refine gQ ({r with family:=(dZ r.on (cz d):Int),set:=(gK (bX d) r.names:Int),other:=(gK (bX d) r.others:Int),adJ:=(dZ r.dS (dO d):Int)},true) ⟨⟨λ_=>⟨hon,hz1.1 rfl,hz2.1 rfl,hby⟩,λ_=>rfl⟩,λ_=>?_⟩;unfold mW;rw[hfm,hcm]
   .have hby:r.dS=⟨⟨[]⟩⟩\/r.dS∈dO d:=.inl h4;have hcm:(if r.dS=⟨⟨[]⟩⟩then(-1:Int)else(dZ r.dS (dO d):Int))= -1:=if_pos h4;refine go ?_;cases z1 with
    |false=>
     refine go ?_;exact gQ ({r with family:=(dZ r.on (cz d):Int),set:=0,other:=cond z2 (gK (bX d) r.others:Int) 0,adJ:=(-1:Int)},false) ⟨⟨(λh=>by cases h),λh=>by have:=hz1.2 h.names;cases this⟩,(λh=>by cases h)⟩
    |true=>
     cases z2 with
     |false=>
      refine go ?_;exact gQ ({r with family:=(dZ r.on (cz d):Int),set:=(gK (bX d) r.names:Int),other:=0,adJ:=(-1:Int)},false) ⟨⟨(λh=>by cases h),λh=>by have:=hz2.2 h.others;cases this⟩,(λh=>by cases h)⟩
     |true=>
      refine go ?_;refine gQ ({r with family:=(dZ r.on (cz d):Int),set:=(gK (bX d) r.names:Int),other:=(gK (bX d) r.others:Int),adJ:=(-1:Int)},true) ⟨⟨λ_=>⟨hon,hz1.1 rfl,hz2.1 rfl,hby⟩,λ_=>rfl⟩,λ_=>?_⟩;unfold mW;rw[hfm,hcm]
 .have hon:r.on=⟨⟨[]⟩⟩\/r.on∈cz d:=.inl h3;have hfm:(if r.on=⟨⟨[]⟩⟩then(0:Int)else(dZ r.on (cz d):Int))=0:=if_pos h3;refine gC (J7 (d:=d) (l:=r.names) (vl:=v1) hs h1) λz1 hz1=>?_;refine gC (J7 (d:=d) (l:=r.others) (vl:=v2) hs h2) λz2 hz2=>?_;refine go ?_;refine fq (p:=r.dS=⟨⟨[]⟩⟩) B3 (λh4=>?_) (λh4=>?_)
  .refine gC (WE (d:=d) (s:=r.dS) z7) λy hy=>?_;obtain⟨n,ok⟩:=y;obtain⟨hy1,hy2⟩:=hy;dsimp only at hy1 hy2;refine go ?_;cases ok with
   |false=>
    refine go ?_;exact gQ ({r with family:=(0:Int),set:=cond z1 (gK (bX d) r.names:Int) 0,other:=cond z2 (gK (bX d) r.others:Int) 0,adJ:= -1},false) ⟨⟨(λh=>by cases h),λh=>by rcases h.dS with h|h;exact absurd h h4;have:=hy1.2 h;cases this⟩,(λh=>by cases h)⟩
   |true=>
    have hby:r.dS=⟨⟨[]⟩⟩\/r.dS∈dO d:=.inr (hy1.1 rfl);have hn:=hy2 rfl;subst hn;have hcm:(if r.dS=⟨⟨[]⟩⟩then(-1:Int)else(dZ r.dS (dO d):Int))=(dZ r.dS (dO d):Int):=if_neg h4;refine go ?_;cases z1 with
    |false=>
     refine go ?_;exact gQ ({r with family:=(0:Int),set:=0,other:=cond z2 (gK (bX d) r.others:Int) 0,adJ:=(dZ r.dS (dO d):Int)},false) ⟨⟨(λh=>by cases h),λh=>by have:=hz1.2 h.names;cases this⟩,(λh=>by cases h)⟩
    |true=>
     cases z2 with
     |false=>
      refine go ?_;exact gQ ({r with family:=(0:Int),set:=(gK (bX d) r.names:Int),other:=0,adJ:=(dZ r.dS (dO d):Int)},false) ⟨⟨(λh=>by cases h),λh=>by have:=hz2.2 h.others;cases this⟩,(λh=>by cases h)⟩
     |true=>
      refine go ?_;refine gQ ({r with family:=(0:Int),set:=(gK (bX d) r.names:Int),other:=(gK (bX d) r.others:Int),adJ:=(dZ r.dS (dO d):Int)},true) ⟨⟨λ_=>⟨hon,hz1.1 rfl,hz2.1 rfl,hby⟩,λ_=>rfl⟩,λ_=>?_⟩;unfold mW;rw[hfm,hcm]
  .have hby:r.dS=⟨⟨[]⟩⟩\/r.dS∈dO d:=.inl h4;have hcm:(if r.dS=⟨⟨[]⟩⟩then(-1:Int)else(dZ r.dS (dO d):Int))= -1:=if_pos h4;refine go ?_;cases z1 with
   |false=>
    refine go ?_;exact gQ ({r with family:=(0:Int),set:=0,other:=cond z2 (gK (bX d) r.others:Int) 0,adJ:=(-1:Int)},false) ⟨⟨(λh=>by cases h),λh=>by have:=hz1.2 h.names;cases this⟩,(λh=>by cases h)⟩
   |true=>
    cases z2 with
    |false=>
     refine go ?_;exact gQ ({r with family:=(0:Int),set:=(gK (bX d) r.names:Int),other:=0,adJ:=(-1:Int)},false) ⟨⟨(λh=>by cases h),λh=>by have:=hz2.2 h.others;cases this⟩,(λh=>by cases h)⟩
    |true=>
     refine go ?_;refine gQ ({r with family:=(0:Int),set:=(gK (bX d) r.names:Int),other:=(gK (bX d) r.others:Int),adJ:=(-1:Int)},true) ⟨⟨λ_=>⟨hon,hz1.1 rfl,hz2.1 rfl,hby⟩,λ_=>rfl⟩,λ_=>?_⟩;unfold mW;rw[hfm,hcm]
def ah5(hs:d.symbols.length<=16)(hD:ng d):
 bA prog (.func 195) [.agg ⟨ahE d vh vs vr vc vu⟩] [] [] [ai fF vs d.symbols,ai eY vr d.regions,ai bI vc d.aJ,ai aY vu d.rules] wI (λ_=>[]) (λy=>[jr (y.e=0) (ai aY y.v (d.rules.map (mW (bX d) (cz d) (dO d))))]) (λy=>y.e=0↔(nL d).Nodup/\∀r∈d.rules,A7 (bX d) (cz d) (dO d) r):=by
 have hrl:=hD.regs;have hcl:=hD.jg;have yc:=hD.kX;have hrn:=hD.rY;refine gB 195 λB w0=>?_;refine gF aY vu d.rules λa1 c1 e1=>?_;subst e1;refine go ?_;intro b1;refine gP b1 ?_;refine go ?_;refine af5 bC ?_;refine aU (λy:Nat×vI=>d.rules.length - y.1) (λy=>[(5,iV (y.1:Int)),(4,y.2)]) (λy=>[ap bC y.2 ((nL d).take y.1)]) (λ_=>[]) (λy=>y.1<=d.rules.length) (0,.slice none 0 0) (bR _) (hk:=As) (body:=?_);rintro⟨k,v4⟩ hk;dsimp only at hk⊢;have hil:((nL d).take k).length=k:=by rw[gT];simp[nL];omega
 refine gIf ?_ ?_<;>intro h1
 .refine gX aY (xs:=d.rules) λ_ _ x _ hx=>?_;have lQ:(nL d)[k]? =some x.name:=by unfold nL;rw[dm,hx];rfl
  refine go ?_;intro Pg;refine go ?_;refine fB bC (xs:=(nL d).take k) x.name () z7 (next:=λad=>?_);rw[<- bZ lQ];refine go ?_;exact aN (k+1,.slice ad (((nL d).take k).length+1) (((nL d).take k).length+1)) B4 AS
 have hkl:k=d.rules.length:=z7
 subst hkl;rw[show(nL d).take d.rules.length=nL d from ry (by simp[nL])];refine gZ (gz (E:=bC) (v:=v4) (xs:=nL d)) ?_;refine gC (J6 (vl:=v4) (xs:=nL d) (by simp[nL];omega)) λ_ _=>?_;refine go ?_;refine fq rfl (λh2=>?_) (λh2=>?_)
 .refine go ?_;refine jE (c:=(161:Int)=0) (f:=ai aY (.slice none 0 0) (d.rules.map (mW (bX d) (cz d) (dO d)))) z7 ?_;exact s8
 refine go ?_;refine af5 aY ?_;generalize hf:mW (bX d) (cz d) (dO d)=f;refine aU (λy:Nat×vI=>d.rules.length - y.1) (λy=>[(7,iV (y.1:Int)),(6,y.2)]) (λy=>[ap aY y.2 ((d.rules.map f).take y.1)]) (λ_=>[]) (λy=>y.1<=d.rules.length/\∀r∈d.rules.take y.1,A7 (bX d) (cz d) (dO d) r) (0,.slice none 0 0) ⟨bR _,An⟩ (hk:=As) (body:=?_);rintro⟨k,v6⟩ ⟨hk,hall⟩;dsimp only at hk hall⊢;have hil:((d.rules.map f).take k).length=k:=by rw[gT,bY];omega
 refine gIf ?_ ?_<;>intro h3
 .refine gX aY (xs:=d.rules) λ_ _ x (vx:vI×vI) hx=>?_;have hxm:(d.rules.map f)[k]? =some (f x):=by rw[dm,hx];rfl
  have hxl:=hrn x (aZ hx);refine go ?_;intro b8;refine ay (ah4 (d:=d) (r:=x) (vu:=.slice a1 d.rules.length c1) (v1:=vx.1) (v2:=vx.2) hs hrl hcl hxl.1 hxl.2) (next:=λy hy=>?_);obtain⟨z,ok⟩:=y;obtain⟨hy1,hy2⟩:=hy;dsimp only at hy1 hy2;refine go ?_;cases ok with
  |false=>
   refine go ?_;refine jE (c:=(160:Int)=0) (f:=ai aY (.slice none 0 0) (d.rules.map f)) z7 ?_;exact po
  |true=>
   have hz:=hy2 rfl;rw[hf]at hz;have hzn:z.names=x.names/\z.others=x.others:=by rw[hz,<- hf];exact⟨rfl,rfl⟩
   refine go ?_;intro b54;refine go ?_;refine eF (ai bC vx.1 z.names) (λw hw=>by rw[hzn.1];exact hw (ai bC vx.1 x.names) An) ?_;refine eF (ai bC vx.2 z.others) (λw hw=>by rw[hzn.2];exact hw (ai bC vx.2 x.others) An) ?_;refine fB aY (xs:=(d.rules.map f).take k) z vx z7 (next:=λad=>?_);rw[hz,<- bZ hxm];refine go ?_;refine aN (k+1,.slice ad (((d.rules.map f).take k).length+1) (((d.rules.map f).take k).length+1)) B4 ⟨by show k+1<=_;omega,?_⟩;show∀c∈d.rules.take (k+1),A7 (bX d) (cz d) (dO d) c;exact rB
 have hkl:k=d.rules.length:=z7
 subst hkl;rw[bU]at hall;rw[show(d.rules.map f).take d.rules.length=d.rules.map f from ry An];refine gZ (gz (E:=aY) (v:=v6) (xs:=d.rules.map f)) ?_;refine go ?_;refine jP (c:=(0:Int)=0) (f:=ai aY v6 (d.rules.map f)) An ?_;exact gQ ⟨v6,0⟩ ⟨λ_=>⟨h2,hall⟩,λ_=>rfl⟩
def WH(hD:ng d):
 bA prog (.func 132) [.agg ⟨ahE d vh vs vr vc vu⟩] [] [] (lG d vh vs vr vc vu) (rX d vh vs vr) (λ_=>[]) (oL d) (Bg d):=by
 have hsl:=hD.eH;have hrl:=hD.regs;have hcl:=hD.jg;have yc:=hD.kX;have hgl:iN.length=8:=rfl;refine gB 132 λB w0=>?_;refine gF fF vs d.symbols λa1 c1 e1=>?_;subst e1;refine gF eY vr d.regions λa2 c2 e2=>?_;subst e2;refine go ?_;intro b1 b2;refine gIf ?_ ?_<;>intro hs
 .refine go ?_;exact gQ ⟨false,2,.nilFunc,.nilFunc⟩ ⟨(λh=>by cases h),λ_=>⟨by show(2:Int)≠0;omega,λh=>by have:=h.eH;omega⟩⟩
 refine go ?_;refine af5 bC ?_;refine aU (λy:Nat×vI=>d.symbols.length - y.1) (λy=>[(5,iV (y.1:Int)),(4,y.2)]) (λy=>[ap bC y.2 ((bX d).take y.1)]) (λ_=>[]) (λy=>y.1<=d.symbols.length) (0,.slice none 0 0) (bR _) (hk:=As) (body:=?_);rintro⟨k,v4⟩ hk;dsimp only at hk⊢;have hil:((bX d).take k).length=k:=by rw[gT];simp[bX];omega
 refine gIf ?_ ?_<;>intro h1
 .refine gX fF (xs:=d.symbols) λ_ _ x _ hx=>?_;have lQ:(bX d)[k]? =some x.name:=by unfold bX;rw[dm,hx];rfl
  refine go ?_;intro Pg;refine go ?_;refine fB bC (xs:=(bX d).take k) x.name () z7 (next:=λad=>?_);rw[<- bZ lQ];refine go ?_;exact aN (k+1,.slice ad (((bX d).take k).length+1) (((bX d).take k).length+1)) (by show d.symbols.length - (k+1)<d.symbols.length - k;omega) AS
 have hkl:k=d.symbols.length:=z7
 subst hkl;rw[show(bX d).take d.symbols.length=bX d from ry (by simp[bX])];refine gZ (gz (E:=bC) (v:=v4) (xs:=bX d)) ?_;refine gC (J6 (vl:=v4) (xs:=bX d) (by simp[bX];omega)) λ_ _=>?_;refine go ?_;refine fq rfl (λk1=>?_) (λk1=>?_)
 .refine go ?_;exact gQ ⟨false,161,.nilFunc,.nilFunc⟩ ⟨(λh=>by cases h),λ_=>⟨by show(161:Int)≠0;omega,λh=>k1 h.Ub⟩⟩
 refine gC WC λag _=>?_;refine go ?_;refine aU (λy:Nat×vI=>d.regions.length - y.1) (λy=>[(7,iV (y.1:Int)),(6,y.2)]) (λy=>[ap bC y.2 (iN++(oN d).take y.1)]) (λ_=>[]) (λy=>y.1<=d.regions.length) (0,.slice ag iN.length iN.length) (bR _) (hk:=Hj) (body:=?_);rintro⟨k,v6⟩ hk;dsimp only at hk⊢;have hil:(iN++(oN d).take k).length=8+k:=by rw[iH,gT,hgl];simp[oN];omega
 refine gIf ?_ ?_<;>intro h1
 .refine gX eY (xs:=d.regions) λ_ _ x (_:vI) hx=>?_;have lQ:(oN d)[k]? =some x.name:=by unfold oN;rw[dm,hx];rfl
  refine go ?_;intro Pg;refine go ?_;refine fB bC (xs:=iN++(oN d).take k) x.name () z7 (next:=λad=>?_);rw[List.append_assoc,<- bZ lQ];refine go ?_;exact aN (k+1,.slice ad ((iN++(oN d).take k).length+1) ((iN++(oN d).take k).length+1)) GW AS
 have hkl:k=d.regions.length:=z7
 subst hkl;rw[show iN++(oN d).take d.regions.length=cz d from by rw[ry (by simp[oN])];rfl];refine gZ (gz (E:=bC) (v:=v6) (xs:=cz d)) ?_;refine gC (J6 (vl:=v6) (xs:=cz d) (by simp[cz];omega)) λ_ _=>?_;refine go ?_;refine fq rfl (λk2=>?_) (λk2=>?_)
 .refine go ?_;exact gQ ⟨false,161,.nilFunc,.nilFunc⟩ ⟨(λh=>by cases h),λ_=>⟨by show(161:Int)≠0;omega,λh=>k2 h.Uc⟩⟩
 refine gC (ah1 (d:=d) hrl hcl) λy hy=>?_;obtain⟨wc,e⟩:=y;dsimp only at hy⊢;refine gIf ?_ ?_<;>intro k3
 .refine go ?_;exact gQ ⟨false,e,.nilFunc,.nilFunc⟩ ⟨(λh=>by cases h),λ_=>⟨k3,λh=>k3 (hy.2 ⟨h.Ud,h.Nf⟩)⟩⟩
 have he:e=0:=ic.1 k3;subst he;obtain⟨p1,p2⟩:=hy.1 rfl;clear hy k3;refine eF (ai bI wc (Kd.bE d).aJ) (λw hw=>hw (jr ((0:Int)=0) (ai bI wc (d.aJ.map (lW (cz d))))) An rfl) ?_;refine gC (ah5 (d:=d) z7 hD) λy hy=>?_;obtain⟨wu,e⟩:=y;dsimp only at hy⊢;refine gIf ?_ ?_<;>intro k3
 .refine go ?_;exact gQ ⟨false,e,.nilFunc,.nilFunc⟩ ⟨(λh=>by cases h),λ_=>⟨k3,λh=>k3 (hy.2 ⟨h.Ue,h.rV⟩)⟩⟩
 have he:e=0:=ic.1 k3;subst he;obtain⟨p3,p4⟩:=hy.1 rfl;clear hy k3;refine eF (ai aY wu (Kd.bE d).rules) (λw hw=>hw (jr ((0:Int)=0) (ai aY wu (d.rules.map (mW (bX d) (cz d) (dO d))))) An rfl) ?_;refine gF bI wc ((Kd.bE d).aJ) λa3 c3 e3=>?_;subst e3;refine gF aY wu ((Kd.bE d).rules) λa4 c4 e4=>?_;subst e4;refine go ?_;refine gQ ⟨true,0,.slice a3 (Kd.bE d).aJ.length c3,.slice a4 (Kd.bE d).rules.length c4⟩ ⟨λ_=>⟨rfl,⟨z7,k1,k2,p1,p2,p3,p4⟩⟩,(λh=>by cases h)⟩ (hF:=?_);show Sub [ai bI _ (Kd.bE d).aJ,ai aY _ (Kd.bE d).rules] _;exact .cons An (.cons An .nil)
variable{va vb:vI}{ys:kI Int}
def WI{xs:kI Int}(hl:xs.length<2^63):dD prog 221 [va,vb] [ai ae va xs,ai ae vb ys] (.bool (decide (xs=ys))):=by
 refine gB 221 λB w0=>?_;refine gF ae va xs λa1 c1 e1=>?_;subst e1;refine gF ae vb ys λa2 c2 e2=>?_;subst e2;refine gIf ?_ ?_<;>intro h1
 .exact eA
 exact yp
def WJ{xs:kI Int}(hl:xs.length<2^63):dD prog 269 [va,vb] [ai ae va xs,ai ae vb ys] (.bool (decide (xs=ys))):=by
 refine gB 269 λB w0=>?_;refine gF ae va xs λa1 c1 e1=>?_;subst e1;refine gF ae vb ys λa2 c2 e2=>?_;subst e2;refine gIf ?_ ?_<;>intro h1
 .exact eA
 exact yp
def WK{ys:kI ByteArray}(hl:xs.length<2^63):dD prog 313 [va,vb] [ai bC va xs,ai bC vb ys] (.bool (decide (xs=ys))):=by
 refine gB 313 λB w0=>?_;refine gF bC va xs λa1 c1 e1=>?_;subst e1;refine gF bC vb ys λa2 c2 e2=>?_;subst e2;refine gIf ?_ ?_<;>intro h1
 .exact eA
 exact y4
def WL{ys:kI ByteArray}(hl:xs.length<2^63):dD prog 339 [va,vb] [ai bC va xs,ai bC vb ys] (.bool (decide (xs=ys))):=by
 refine gB 339 λB w0=>?_;refine gF bC va xs λa1 c1 e1=>?_;subst e1;refine gF bC vb ys λa2 c2 e2=>?_;subst e2;refine gIf ?_ ?_<;>intro h1
 .exact eA
 exact y4
def WM{xs ys:kI (kI Int)}(hl:xs.length<2^63)(hll:∀l∈xs,l.length<2^63):dD prog 147 [va,vb] [ai (ak ae) va xs,ai (ak ae) vb ys] (.bool (decide (xs=ys))):=by
 refine gB 147 λB w0=>?_;refine gF (ak ae) va xs λa1 c1 e1=>?_;subst e1;refine gF (ak ae) vb ys λa2 c2 e2=>?_;subst e2;refine gIf ?_ ?_<;>intro h1
 .exact eA
 have hlen:xs.length=ys.length:=z7
 refine gN xs.length 5 (λk=>k<=xs.length/\xs.take k=ys.take k) ⟨z7,An⟩ ?_;rintro k ⟨hk,hsame⟩;refine gIf ?_ ?_<;>intro h2
 .refine gX (ak ae) (xs:=xs) λ_ _ x (_:vI) hx=>?_;refine gX (ak ae) (xs:=ys) λ_ _ y (_:vI) hy=>?_;refine gC (zF (xs:=x) (ys:=y) (hll x (aZ hx))) λ_ _=>?_;refine go ?_;refine fq rfl (λh3=>?_) (λh3=>?_)
  .exact cQ
  exact cA
 exact cP
def ah6{xs ys:kI (kI Int)}(hl:xs.length<2^63)(hll:∀l∈xs,l.length<2^63):dD prog 270 [va,vb] [ai (ak ae) va xs,ai (ak ae) vb ys] (.bool (decide (xs=ys))):=by
 refine gB 270 λB w0=>?_;refine gF (ak ae) va xs λa1 c1 e1=>?_;subst e1;refine gF (ak ae) vb ys λa2 c2 e2=>?_;subst e2;refine gIf ?_ ?_<;>intro h1
 .exact eA
 have hlen:xs.length=ys.length:=z7
 refine gN xs.length 5 (λk=>k<=xs.length/\xs.take k=ys.take k) ⟨z7,An⟩ ?_;rintro k ⟨hk,hsame⟩;refine gIf ?_ ?_<;>intro h2
 .refine gX (ak ae) (xs:=xs) λ_ _ x (_:vI) hx=>?_;refine gX (ak ae) (xs:=ys) λ_ _ y (_:vI) hy=>?_;refine gC (WJ (xs:=x) (ys:=y) (hll x (aZ hx))) λ_ _=>?_;refine go ?_;refine fq rfl (λh3=>?_) (λh3=>?_)
  .exact cQ
  exact cA
 exact cP
variable{u1 u2:vI}{x y:bN}
def ah7(hl:x.names.length<2^63)(hll:x.others.length<2^63):dD prog 223 [.agg ⟨lV x v1 v2⟩,.agg ⟨lV y u1 u2⟩] [ai bC v1 x.names,ai bC v2 x.others,ai bC u1 y.names,ai bC u2 y.others] (.bool (decide (x=y))):=by
 obtain⟨n1,o1,k1,f1,wG,os1,s1,t1,p1,m1,y1,c1⟩:=x;obtain⟨n2,o2,k2,f2,Di,os2,s2,t2,p2,m2,y2,c2⟩:=y;dsimp only[lV]at hl hll⊢;refine gB 223 λB w0=>?_;refine go ?_;intro b2 b3;refine gH ?_ ?_<;>intro h1
 .rw[eB]at h1;have h1:=nC h1;exact rp
 rw[eB]at h1;have h1:=iI h1;refine gH ?_ ?_<;>intro h2
 .rw[eB]at h2;have h2:=nC h2;exact rj
 rw[eB]at h2;have h2:=iI h2;refine gH ?_ ?_<;>intro h3
 .exact x7
 refine gH ?_ ?_<;>intro h4
 .exact x6
 refine gC (WK (xs:=wG) (ys:=Di) hl) λ_ _=>?_;refine gH ?_ ?_<;>intro h5
 .exact xT
 refine gC (WK (xs:=os1) (ys:=os2) hll) λ_ _=>?_;refine gH ?_ ?_<;>intro h6
 .exact xF
 refine gH ?_ ?_<;>intro h7
 .exact xp
 refine gH ?_ ?_<;>intro h8
 .exact xo
 refine gH ?_ ?_<;>intro h9
 .exact xj
 refine gH ?_ ?_<;>intro h10
 .exact xb
 refine gH ?_ ?_<;>intro h11
 .rw[eB]at h11;have h11:=nC h11;exact xa
 rw[eB]at h11;have h11:=iI h11;exact fR
def ah8(hl:x.names.length<2^63)(hll:x.others.length<2^63):dD prog 271 [.agg ⟨lV x v1 v2⟩,.agg ⟨lV y u1 u2⟩] [ai bC v1 x.names,ai bC v2 x.others,ai bC u1 y.names,ai bC u2 y.others] (.bool (decide (x=y))):=by
 obtain⟨n1,o1,k1,f1,wG,os1,s1,t1,p1,m1,y1,c1⟩:=x;obtain⟨n2,o2,k2,f2,Di,os2,s2,t2,p2,m2,y2,c2⟩:=y;dsimp only[lV]at hl hll⊢;refine gB 271 λB w0=>?_;refine go ?_;intro b2 b3;refine gH ?_ ?_<;>intro h1
 .rw[eB]at h1;have h1:=nC h1;exact rp
 rw[eB]at h1;have h1:=iI h1;refine gH ?_ ?_<;>intro h2
 .rw[eB]at h2;have h2:=nC h2;exact rj
 rw[eB]at h2;have h2:=iI h2;refine gH ?_ ?_<;>intro h3
 .rw[eB]at h3;have h3:=nC h3;exact x7
 rw[eB]at h3;have h3:=iI h3;refine gC (WL (xs:=wG) (ys:=Di) hl) λ_ _=>?_;refine gH ?_ ?_<;>intro h4
 .exact x6
 refine gC (WL (xs:=os1) (ys:=os2) hll) λ_ _=>?_;refine gH ?_ ?_<;>intro h5
 .exact xT
 refine gH ?_ ?_<;>intro h6
 .exact xF
 refine gH ?_ ?_<;>intro h7
 .exact xp
 refine gH ?_ ?_<;>intro h8
 .exact xo
 refine gH ?_ ?_<;>intro h9
 .exact xj
 refine gH ?_ ?_<;>intro h10
 .exact xb
 refine gH ?_ ?_<;>intro h11
 .exact xa
 exact fR
variable{h1 c1 h2 c2:vI}
def ah9{x y:bz}(hS:qP x):dD prog 149 [.agg ⟨iO x h1 c1⟩,.agg ⟨iO y h2 c2⟩] [ai ae h1 x.holes,ai ae c1 x.cells,ai ae h2 y.holes,ai ae c2 y.cells] (.bool (decide (x=y))):=by
 have e2:=hS.holes;have e3:=hS.cells;clear hS;obtain⟨xs,xw,xh,Br,Bt⟩:=x;obtain⟨ys,yw,yh,OJ,FT⟩:=y;dsimp only[iO]at e2 e3⊢;refine gB 149 λB w0=>?_;refine go ?_;intro b2 b3;refine gH ?_ ?_<;>intro k1
 .exact j0
 refine gH ?_ ?_<;>intro k2
 .exact jz
 refine gH ?_ ?_<;>intro k3
 .exact jx
 refine gC (zF (xs:=Br) (ys:=OJ) z7) λ_ _=>?_;refine gH ?_ ?_<;>intro k4
 .exact ju
 refine gC (zF (xs:=Bt) (ys:=FT) z7) λ_ _=>?_;refine acM ?_;subst k1 k2 k3 k4;rw[show decide (bz.mk xs xw xh Br Bt=bz.mk xs xw xh Br FT)=decide (Bt=FT)from nO.2 ⟨λh=>by cases h;rfl,λh=>by rw[h]⟩];rfl
def aia{x y:mV}{vx vy:vI}(hl:x.lists.length<2^63)(hll:∀l∈x.lists,l.length<2^63):dD prog 222 [.agg ⟨[.string x.name,vx]⟩,.agg ⟨[.string y.name,vy]⟩] [ai (ak ae) vx x.lists,ai (ak ae) vy y.lists] (.bool (decide (x=y))):=by
 obtain⟨n1,xs⟩:=x;obtain⟨n2,ys⟩:=y;dsimp only at hl hll⊢;refine gB 222 λB w0=>?_;refine gF (ak ae) vx xs λa1 c1 e1=>?_;subst e1;refine gF (ak ae) vy ys λa2 c2 e2=>?_;subst e2;refine go ?_;intro b2 b3;refine go ?_;refine lU (λk1=>?_) (λk1=>?_)
 rotate_left
 .exact ij
 rw[eB]at k1;have k1:n1=n2:=Hp
 subst k1;have hdd:decide (mV.mk n1 xs=mV.mk n1 ys)=decide (xs=ys):=nO.2 ⟨λh=>by cases h;rfl,λh=>by rw[h]⟩;rw[hdd];refine gIf ?_ ?_<;>intro h1
 .exact eA
 have hlen:xs.length=ys.length:=z7
 refine gN xs.length 5 (λk=>k<=xs.length/\xs.take k=ys.take k) ⟨z7,An⟩ ?_;rintro k ⟨hk,hsame⟩;refine gIf ?_ ?_<;>intro h2
 .refine gX (ak ae) (xs:=xs) λ_ _ x (_:vI) hx=>?_;refine gX (ak ae) (xs:=ys) λ_ _ y (_:vI) hy=>?_;refine gC (WI (xs:=x) (ys:=y) (hll x (aZ hx))) λ_ _=>?_;refine go ?_;refine fq rfl (λh3=>?_) (λh3=>?_)
  .exact cQ
  exact cA
 exact cP
variable{s1 r1 s2 r2:vI}
def aib{x y:bF}(hS:ng x):dD prog 148 [.agg ⟨ahE x h1 s1 r1 c1 u1⟩,.agg ⟨ahE y h2 s2 r2 c2 u2⟩] (lG x h1 s1 r1 c1 u1++lG y h2 s2 r2 c2 u2) (.bool (decide (x=y))):=by
 have e1:=hS.eH;have e2:=hS.regs;have e3:=hS.jg;have e4:=hS.kX;have e5:=hS.rY;have e6:=hS.holes;have e7:=hS.rZ;clear hS;obtain⟨fs1,hu1,Ph⟩:=Od;obtain⟨fs2,hu2,hrow2⟩:=Oe;obtain⟨n1,v1,p1,w1,g1,ho1,ni,mF,nu,mG⟩:=x;obtain⟨n2,v2,p2,w2,g2,ho2,qN,qj,qO,ql⟩:=y;dsimp only at e1 e2 e3 e4 e5 e6 e7;dsimp only[ahE,lG,List.cons_append,List.nil_append];refine gB 148 λB w0=>?_;refine gF fF s1 ni λkY cs1 es=>?_;subst es;refine gF fF s2 qN λas2 cs2 es=>?_;subst es;refine gF eY r1 mF λar1 cr1 es=>?_;subst es;refine gF eY r2 qj λar2 cr2 es=>?_;subst es;refine gF bI c1 nu λac1 cc1 es=>?_;subst es;refine gF bI c2 qO λac2 cc2 es=>?_;subst es;refine gF aY u1 mG λau1 cu1 es=>?_;subst es;refine gF aY u2 ql λau2 cu2 es=>?_;subst es;refine go ?_;intro b2 b3;refine go ?_;refine lU (λk1=>?_) (λk1=>?_)
 rotate_left
 .exact ij
 rw[eB]at k1;have k1:n1=n2:=Hp
 refine gH ?_ ?_<;>intro k2
 rotate_left
 .exact jz
 refine gH ?_ ?_<;>intro k3
 rotate_left
 .exact jx
 refine gH ?_ ?_<;>intro k4
 rotate_left
 .exact ju
 refine gH ?_ ?_<;>intro k5
 rotate_left
 .exact mT
 refine gC (WI (xs:=ho1) (ys:=ho2) e6) λ_ _=>?_;refine go ?_;refine nK (λk6=>?_) (λk6=>?_)
 rotate_left
 .exact jt
 refine gH ?_ ?_<;>intro k7
 rotate_left
 .exact js
 refine gH ?_ ?_<;>intro k8
 rotate_left
 .exact ri
 refine gH ?_ ?_<;>intro k9
 rotate_left
 .exact rh
 refine gIf ?_ ?_<;>intro k10
 .exact w8
 have l1:ni.length=qN.length:=z7
 have l2:mF.length=qj.length:=z7
 have l3:nu.length=qO.length:=z7
 have l4:mG.length=ql.length:=z7
 refine gN ni.length 5 (λk=>k<=ni.length/\ni.take k=qN.take k) ⟨z7,An⟩ ?_;rintro k ⟨hk,hsame⟩;refine gIf ?_ ?_<;>intro h2
 .exact yW
 have hkl:k=ni.length:=z7
 subst hkl;rw[bU,l1,bU]at hsame;have m1:=hsame;clear hsame hk h2;refine gN mF.length 6 (λk=>k<=mF.length/\mF.take k=qj.take k) ⟨z7,An⟩ ?_;rintro k ⟨hk,hsame⟩;refine gIf ?_ ?_<;>intro h2
 .refine gX eY (xs:=mF) λ_ _ x (vx:vI) hx=>?_;have hxl:=e7 x (aZ hx);refine gX eY (xs:=qj) λ_ _ y (vy:vI) hy=>?_;refine gC (aia (x:=x) (y:=y) (vx:=vx) (vy:=vy) hxl.1 hxl.2) λ_ _=>?_;refine go ?_;refine fq rfl (λh3=>?_) (λh3=>?_)
  .exact cT
  exact cA
 have hkl:k=mF.length:=z7
 subst hkl;rw[bU,l2,bU]at hsame;have m2:=hsame;clear hsame hk h2;refine gN nu.length 7 (λk=>k<=nu.length/\nu.take k=qO.take k) ⟨z7,An⟩ ?_;rintro k ⟨hk,hsame⟩;refine gIf ?_ ?_<;>intro h2
 .exact yq
 have hkl:k=nu.length:=z7
 subst hkl;rw[bU,l3,bU]at hsame;have m3:=hsame;clear hsame hk h2;refine gN mG.length 8 (λk=>k<=mG.length/\mG.take k=ql.take k) ⟨z7,An⟩ ?_;rintro k ⟨hk,hsame⟩;refine gIf ?_ ?_<;>intro h2
 .refine gX aY (xs:=mG) λ_ _ x (vx:vI×vI) hx=>?_;have hxl:=e5 x (aZ hx);refine gX aY (xs:=ql) λ_ _ y (vy:vI×vI) hy=>?_;refine gC (ah7 (x:=x) (y:=y) (v1:=vx.1) (v2:=vx.2) (u1:=vy.1) (u2:=vy.2) hxl.1 hxl.2) λ_ _=>?_;refine go ?_;refine fq rfl (λh3=>?_) (λh3=>?_)
  .exact cT
  exact cA
 exact e9
def ais{x y:bF}(hS:ng x):dD prog 196 [.agg ⟨ahE x h1 s1 r1 c1 u1⟩,.agg ⟨ahE y h2 s2 r2 c2 u2⟩] (lG x h1 s1 r1 c1 u1++lG y h2 s2 r2 c2 u2) (.bool (decide (x=y))):=by
 have e1:=hS.eH;have e2:=hS.regs;have e3:=hS.jg;have e4:=hS.kX;have e5:=hS.rY;have e6:=hS.holes;have e7:=hS.rZ;clear hS;obtain⟨fs1,hu1,Ph⟩:=Od;obtain⟨fs2,hu2,hrow2⟩:=Oe;obtain⟨n1,v1,p1,w1,g1,ho1,ni,mF,nu,mG⟩:=x;obtain⟨n2,v2,p2,w2,g2,ho2,qN,qj,qO,ql⟩:=y;dsimp only at e1 e2 e3 e4 e5 e6 e7;dsimp only[ahE,lG,List.cons_append,List.nil_append];refine gB 196 λB w0=>?_;refine gF fF s1 ni λkY cs1 es=>?_;subst es;refine gF fF s2 qN λas2 cs2 es=>?_;subst es;refine gF eY r1 mF λar1 cr1 es=>?_;subst es;refine gF eY r2 qj λar2 cr2 es=>?_;subst es;refine gF bI c1 nu λac1 cc1 es=>?_;subst es;refine gF bI c2 qO λac2 cc2 es=>?_;subst es;refine gF aY u1 mG λau1 cu1 es=>?_;subst es;refine gF aY u2 ql λau2 cu2 es=>?_;subst es;refine go ?_;intro b2 b3;refine go ?_;refine lU (λk1=>?_) (λk1=>?_)
 rotate_left
 .exact ij
 rw[eB]at k1;have k1:n1=n2:=Hp
 refine gH ?_ ?_<;>intro k2
 rotate_left
 .exact jz
 refine gH ?_ ?_<;>intro k3
 rotate_left
 .exact jx
 refine gH ?_ ?_<;>intro k4
 rotate_left
 .exact ju
 refine gH ?_ ?_<;>intro k5
 rotate_left
 .exact mT
 refine gC (WJ (xs:=ho1) (ys:=ho2) e6) λ_ _=>?_;refine go ?_;refine fq rfl (λk6=>?_) (λk6=>?_)
 .exact jt
 refine gH ?_ ?_<;>intro k7
 rotate_left
 .exact js
 refine gH ?_ ?_<;>intro k8
 rotate_left
 .exact ri
 refine gH ?_ ?_<;>intro k9
 rotate_left
 .exact rh
 refine gIf ?_ ?_<;>intro k10
 .exact w8
 have l1:ni.length=qN.length:=z7
 have l2:mF.length=qj.length:=z7
 have l3:nu.length=qO.length:=z7
 have l4:mG.length=ql.length:=z7
 refine gN ni.length 5 (λk=>k<=ni.length/\ni.take k=qN.take k) ⟨z7,An⟩ ?_;rintro k ⟨hk,hsame⟩;refine gIf ?_ ?_<;>intro h2
 .exact yW
 have hkl:k=ni.length:=z7
 subst hkl;rw[bU,l1,bU]at hsame;have m1:=hsame;clear hsame hk h2;refine gN mF.length 6 (λk=>k<=mF.length/\mF.take k=qj.take k) ⟨z7,An⟩ ?_;rintro k ⟨hk,hsame⟩;refine gIf ?_ ?_<;>intro h2
 .refine gX eY (xs:=mF) λ_ _ x (vx:vI) hx=>?_;have hxl:=e7 x (aZ hx);refine gX eY (xs:=qj) λ_ _ y (vy:vI) hy=>?_;refine go ?_;refine lU (λj1=>?_) (λj1=>?_)
  rotate_left
  .rw[eB]at j1;have j1:¬x.name=y.name:=by simpa using j1
   have h3:¬x=y:=λe=>j1 A1;refine acM ?_;rw[aR (λe=>by cases e;rw[hx]at hy;exact h3 (Option.some.inj hy))];rfl
  rw[eB]at j1;have j1:x.name=y.name:=by simpa using j1
  refine gX eY (xs:=mF) λ_ _ x' (vx:vI) hx'=>?_;cases hx.symm.trans hx';refine gX eY (xs:=qj) λ_ _ y' (vy:vI) hy'=>?_;cases hy.symm.trans hy';refine gC (ah6 (xs:=x.lists) (ys:=y.lists) hxl.1 hxl.2) λ_ _=>?_;refine go ?_;refine fq rfl (λh3=>?_) (λh3=>?_)
  .have h3:¬x=y:=λe=>h3 A1;refine acM ?_;rw[aR (λe=>by cases e;rw[hx]at hy;exact h3 (Option.some.inj hy))];rfl
  have h3:x=y:=by
   obtain⟨a,b⟩:=x;obtain⟨c,d⟩:=y;dsimp only at j1 h3;rw[j1,h3]
  exact cA
 have hkl:k=mF.length:=z7
 subst hkl;rw[bU,l2,bU]at hsame;have m2:=hsame;clear hsame hk h2;refine gN nu.length 7 (λk=>k<=nu.length/\nu.take k=qO.take k) ⟨z7,An⟩ ?_;rintro k ⟨hk,hsame⟩;refine gIf ?_ ?_<;>intro h2
 .exact yq
 have hkl:k=nu.length:=z7
 subst hkl;rw[bU,l3,bU]at hsame;have m3:=hsame;clear hsame hk h2;refine gN mG.length 8 (λk=>k<=mG.length/\mG.take k=ql.take k) ⟨z7,An⟩ ?_;rintro k ⟨hk,hsame⟩;refine gIf ?_ ?_<;>intro h2
 .refine gX aY (xs:=mG) λ_ _ x (vx:vI×vI) hx=>?_;have hxl:=e5 x (aZ hx);refine gX aY (xs:=ql) λ_ _ y (vy:vI×vI) hy=>?_;refine gC (ah8 (x:=x) (y:=y) (v1:=vx.1) (v2:=vx.2) (u1:=vy.1) (u2:=vy.2) hxl.1 hxl.2) λ_ _=>?_;refine go ?_;refine fq rfl (λh3=>?_) (λh3=>?_)
  .exact cT
  exact cA
 exact e9
