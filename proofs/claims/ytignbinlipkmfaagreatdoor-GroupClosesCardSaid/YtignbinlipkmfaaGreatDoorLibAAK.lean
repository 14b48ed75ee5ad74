/- Part. -/
import Derived.Test.YtignbinlipkmfaaGreatDoorLibZK
import Derived.Test.YtignbinlipkmfaaGreatDoorLibHK
import Derived.Test.YtignbinlipkmfaaGreatDoorIdealPK
set_option linter.all false
set_option maxRecDepth 10000
set_option maxHeartbeats 4000000
namespace Go.Proofs.YtignbinlipkmfaaGreatDoor
open Tryz (prog)
open Go.Ideal Kd
variable{vh vs vr vc vu:ah}{d:bG}
def al4(hT:wN d):cK prog (.func 50) [.agg ⟨gW d vh vs vr vc vu⟩] [] [] (mH d vh vs vr vc vu) (El d vh vs vr) (λ_=>[]) (Em d vh vs vr) (Ld d):=by
 have wO:wN (Kd.bH d):=⟨hT.s.bH,hT.w,hT.h,hT.holes⟩
 have hend:∀{e:Int} {vc vu gh gc vn vl:ah},e≠0->¬GX d->Ld d ⟨false,e,vc,vu,gh,gc,vn,vl⟩:=λhe hb=>⟨(λh=>by cases h),λ_=>⟨he,hb⟩⟩
 refine gB 50 λB w0=>?_;refine go ?_;intro b1 b2;refine gC (YF (d:=d) hT.s) λy hy=>?_;obtain⟨ok,e,v1,v2⟩:=y;cases ok with
 |false=>
  obtain⟨he,hno⟩:=hy.2 rfl;have he:e≠0:=he;dsimp only[cond,tQ,qf,List.nil_append];refine go ?_;intro b4;exact js
 |true=>
 obtain⟨he,hres⟩:=hy.1 rfl;have he:e=0:=he;subst he;clear hy;dsimp only[cond,tQ,qf,List.cons_append,List.nil_append];refine go ?_;intro b4;refine go ?_;refine fM (aj ai vh (Kd.bH d).holes) (λw hw=>hw (aj ai vh d.holes) tt) ?_;refine fM (aj eT vs (Kd.bH d).symbols) (λw hw=>hw (aj eT vs d.symbols) tt) ?_;refine fM (aj fw vr (Kd.bH d).regions) (λw hw=>hw (aj fw vr d.regions) tt) ?_;generalize hd:Kd.bH d=r at wO⊢;refine eO (al3 (d:=r) (vc:=v1) (vu:=v2) wO) (next:=λe he=>?_);refine aB (λhne=>?_) (λhz=>?_)
 .refine go ?_;exact gQ ⟨false,e,v1,v2,v1,v1,v1,v1⟩ (hend hne λh=>hne (he.2 (by rw[<- hd];exact h.typ)))
 have hty:=he.1 (iD.1 hz);clear he hz;have hm:=hty.Ej;have hr:=hty.Av;have hG:=GU hm;have hgo:eU (aU r):=⟨hm,rfl⟩
 have hrl:=wO.s.regs;refine go ?_;intro b6;refine gC (QS (s:=r.shape) (w:=r.w) (h:=r.h) (holes:=r.holes) (vh:=vh) wO.w wO.h wO.holes) λy hy=>?_;obtain⟨ok,gh,gc⟩:=y;cases ok with
 |false=>exact absurd (hy.2 hm) tt
 |true=>
 clear hy;dsimp only[cond,mkV,qB];rw[show xQ r.shape r.w r.h r.holes=aU r from rfl];dsimp only[jU,jm,List.cons_append,List.nil_append];refine gC (Yw (g:=aU r) (vh:=gh) (vc:=gc) hG) λy hy2=>?_;obtain⟨vn,e⟩:=y;have he:e=0:=hy2.2 hgo;subst he;clear hy2;refine fM (aj (aA ai) vn (bJ (aU r))) (λw hw=>hw (kZ ((0:Int)=0) (aj (aA ai) vn (bJ (aU r)))) tt rfl) ?_;dsimp only[xR];refine gF (aA ai) vn (bJ (aU r)) λan cn en=>?_;subst en;refine gF fw vr r.regions λar cr er=>?_;subst er;refine go ?_;refine iy (aA (aA ai)) ?_;refine dX (λy:Nat×ah=>8 - y.1) (λy=>[(7,iV (y.1:Int))]) (λy=>[pt b4 (.cells (gW r vh vs (.slice ar r.regions.length cr) v1 v2)),pt b6 (.cells (bL r vh vs (.slice ar r.regions.length cr) v1 v2 (iV (aU r).shape) (iV (aU r).w) (iV (aU r).h) gh gc (.slice an (bJ (aU r)).length cn) y.2)),ap (aA (aA ai)) y.2 (jD (aU r) y.1)]) (λ_=>[]) (λy=>y.1<=8) (0,.slice none 0 0) (bP _) (hk:=tx) (body:=?_);rintro⟨k,vl⟩ hk;dsimp only at hk⊢;have hkl:=Lc (aU r) k;refine aB ?_ ?_<;>intro h1
 .refine gC (ak2 (g:=aU r) (vh:=gh) (vc:=gc) (k:=(k:Int)) hG) λy hy=>?_;obtain⟨v4,e⟩:=y;have he:e=0:=hy.2 ⟨hgo,tr,tr⟩;subst he;dsimp only[K8,List.cons_append,List.nil_append];refine fM (aj (aA ai) v4 (dD (aU r) (k:Int))) (λw hw=>hw (kZ ((0:Int)=0) (aj (aA ai) v4 (dD (aU r) (k:Int)))) tt rfl) ?_;refine gF (aA ai) v4 (dD (aU r) (k:Int)) λa4 c4 e4=>?_;subst e4;refine go ?_;intro b33;refine go ?_;refine fI (xs:=jD (aU r) k) (aA (aA ai)) (dD (aU r) (k:Int)) (.slice a4 (dD (aU r) (k:Int)).length c4) tr (next:=λad=>?_);rw[<- XT];refine go ?_;exact aQ (k+1,.slice ad ((jD (aU r) k).length+1) ((jD (aU r) k).length+1)) (by show 8 - (k+1)<8 - k;omega) tM
 have Qs:k=8:=tr
 subst Qs;refine go ?_;refine dX (λy:Nat×ah=>r.regions.length - y.1) (λy=>[(10,iV (y.1:Int))]) (λy=>[pt b4 (.cells (gW r vh vs (.slice ar r.regions.length cr) v1 v2)),pt b6 (.cells (bL r vh vs (.slice ar r.regions.length cr) v1 v2 (iV (aU r).shape) (iV (aU r).w) (iV (aU r).h) gh gc (.slice an (bJ (aU r)).length cn) y.2)),ap (aA (aA ai)) y.2 (jD (aU r) 8++(r.regions.take y.1).map λr2=>dW (aU r) r2.lists)]) (λ_=>[]) (λy=>y.1<=r.regions.length) (0,vl) (bP _) (hk:=by rw[show jD (aU r) 8++(r.regions.take 0).map (λr2=>dW (aU r) r2.lists)=jD (aU r) 8 from jd _];repeat (first|exact aO.nil|(apply aO.cons;(focus (repeat (first|exact aD.here|apply aD.there)))))) (body:=?_);rintro⟨k,v2'⟩ hk;dsimp only at hk⊢;have hkl:(jD (aU r) 8++(r.regions.take k).map λr2=>dW (aU r) r2.lists).length=8+k:=by rw[ik,Lc,bZ,iY];omega
 refine aB ?_ ?_<;>intro h1
 .refine gX fw (xs:=r.regions) λ_ _ q (vr2:ah) GV=>?_;have hrm:=aS GV;obtain⟨hl1,hl2⟩:=wO.s.tV q hrm;obtain⟨⟨_,hro⟩,_⟩:=hr q hrm;refine gC (Yy (g:=aU r) (rs:=q.lists) hG hl1 hl2) λy hy=>?_;obtain⟨v8,e⟩:=y;have he:e=0:=hy.2 ⟨hgo,hro⟩;subst he;dsimp only[La,List.cons_append,List.nil_append];refine fM (aj (aA ai) v8 (dW (aU r) q.lists)) (λw hw=>hw (kZ ((0:Int)=0) (aj (aA ai) v8 (dW (aU r) q.lists))) tt rfl) ?_;refine gF (aA ai) v8 (dW (aU r) q.lists) λa8 c8 e8=>?_;subst e8;refine go ?_;intro b71;refine go ?_;have htk:jD (aU r) 8++(r.regions.take (k+1)).map (λr2=>dW (aU r) r2.lists)=(jD (aU r) 8++(r.regions.take k).map λr2=>dW (aU r) r2.lists)++[dW (aU r) q.lists]:=by
   rw[cB GV,fG,sN,gz]
  refine fI (xs:=jD (aU r) 8++(r.regions.take k).map λr2=>dW (aU r) r2.lists) (aA (aA ai)) (dW (aU r) q.lists) (.slice a8 (dW (aU r) q.lists).length c8) tr (next:=λad=>?_);rw[<- htk];refine go ?_;exact aQ (k+1,.slice ad ((jD (aU r) 8++(r.regions.take k).map λr2=>dW (aU r) r2.lists).length+1) ((jD (aU r) 8++(r.regions.take k).map λr2=>dW (aU r) r2.lists).length+1)) (by show r.regions.length - (k+1)<r.regions.length - k;omega) tM
 have hke:k=r.regions.length:=tr
 subst hke;rw[bM];rw[show jD (aU r) 8++r.regions.map (λr2=>dW (aU r) r2.lists)=mI r from rfl];refine gZ (gI (E:=aA (aA ai)) (v:=v2') (xs:=mI r)) ?_;refine go ?_;subst hd;refine gQ ⟨true,0,v1,v2,gh,gc,.slice an (bJ (aU (Kd.bH d))).length cn,v2'⟩ ⟨λ_=>⟨rfl,hres,hty⟩,(λh=>by cases h)⟩ (hF:=?_);show Sub [aj bV v1 (Kd.bH d).aR,aj bz v2 (Kd.bH d).rules,aj ai gh (aU (Kd.bH d)).holes,aj ai gc (aU (Kd.bH d)).cells,aj (aA ai) (.slice an (bJ (aU (Kd.bH d))).length cn) (bJ (aU (Kd.bH d))),aj (aA (aA ai)) v2' (mI (Kd.bH d))] _;exact .cons tt (.cons tt (.cons tt (.cons tt (.cons tt (.cons tt .nil)))))
def al5{x y:bN}{h1 s1 r1 c1 u1 Aw Ay n1 l1 h2 s2 r2 c2 u2 Az AA n2 l2:ah}(hS:ug x):dL prog 51 [.agg ⟨mM x h1 s1 r1 c1 u1 Aw Ay n1 l1⟩,.agg ⟨mM y h2 s2 r2 c2 u2 Az AA n2 l2⟩]
 (lN x h1 s1 r1 c1 u1 Aw Ay n1 l1 (lN y h2 s2 r2 c2 u2 Az AA n2 l2 [])) (.bool (decide (x=y))):=by
 have e1:=hS.d.s;have e2:=hS.g;obtain⟨e4,e5⟩:=hS.aK;obtain⟨e6,e7⟩:=hS.lists;clear hS;obtain⟨xd,xg,xn,xl⟩:=x;obtain⟨yd,yg,yn,yl⟩:=y;dsimp only at e1 e2 e4 e5 e6 e7;dsimp only[mM,lN];refine gB 51 λB w0=>?_;refine gF (aA (aA ai)) l1 xl λa1 k1 q1=>?_;subst q1;refine gF (aA (aA ai)) l2 yl λa2 k2 q2=>?_;subst q2;refine go ?_;intro b2 b3;refine gP b2 ?_;refine gP b3 ?_;refine aB ?_ ?_<;>intro h
 .refine aM ?_;rw[aY (λe=>by cases e;omega)];rfl
 have hlen:xl.length=yl.length:=tr
 clear h;refine gN xl.length 5 (λk=>k<=xl.length/\xl.take k=yl.take k) ⟨tr,tt⟩ ?_;rintro k ⟨hk,hsame⟩;refine aB ?_ ?_<;>intro h2
 .refine gX (aA (aA ai)) (xs:=xl) λ_ _ p (vp:ah) hx=>?_;refine gX (aA (aA ai)) (xs:=yl) λ_ _ q (vq:ah) hy=>?_;have hpl:=e7 p (aS hx);refine gC (YK (xs:=p) (ys:=q) hpl.1 hpl.2) λ_ _=>?_;refine go ?_;refine fu rfl (λh3=>?_) (λh3=>?_)
  .exact cI
  exact ck
 have hke:k=xl.length:=tr
 subst hke;rw[bM,hlen,bM]at hsame;clear hk h2;subst hsame;refine go ?_;have hdd:dL prog 92 [.agg ⟨gW xd h1 s1 r1 c1 u1⟩,.agg ⟨gW yd h2 s2 r2 c2 u2⟩] [aj ai h1 xd.holes,aj eT s1 xd.symbols,aj fw r1 xd.regions,aj bV c1 xd.aR,aj bz u1 xd.rules,aj ai h2 yd.holes,aj eT s2 yd.symbols,aj fw r2 yd.regions,aj bV c2 yd.aR,aj bz u2 yd.rules] (.bool (decide (xd=yd))):=ali e1;refine eO hdd (next:=λ_ _=>?_);refine gH ?_ ?_<;>intro k6
 .exact fR
 refine gC (alg (x:=xg) (y:=yg) (h1:=Aw) (c1:=Ay) (h2:=Az) (c2:=AA) e2) λ_ _=>?_;refine gH ?_ ?_<;>intro k7
 .exact fN
 refine gC (YK (xs:=xn) (ys:=yn) e4 e5) λ_ _=>?_;refine aM ?_;subst k6 k7;rw[show decide (bN.mk xd xg xn xl=bN.mk xd xg yn xl)=decide (xn=yn)from pJ.2 ⟨λh=>by cases h;rfl,λh=>by rw[h]⟩];rfl
variable{gh gc vn vl:ah}{k:bN}
def YQ(hS:ug k):fC prog 25 [.agg ⟨mM k vh vs vr vc vu gh gc vn vl⟩] (lN k vh vs vr vc vu gh gc vn vl []) (λb:Bool=>iV (cond b 0 180)) (λb=>b=true↔eY k):=by
 refine gB 25 λB w0=>?_;refine go ?_;intro b1;refine gC (al4 (d:=k.decl) hS.d) λy hy=>?_;obtain⟨ok,e,v1,v2,v3,v4,v5,v6⟩:=y;cases ok with
 |false=>
  exact ef
 |true=>
 obtain⟨he,hb⟩:=hy.1 rfl;have he:e=0:=he;subst he;clear hy;dsimp only[cond,El,Em,List.cons_append,List.nil_append];refine go ?_;intro b3;refine go ?_;have hsm:=al5 (x:=k) (y:=lJ (Kd.bH k.decl)) (h1:=vh) (s1:=vs) (r1:=vr) (c1:=vc) (u1:=vu) (Aw:=gh) (Ay:=gc) (n1:=vn) (l1:=vl) (h2:=vh) (s2:=vs) (r2:=vr) (c2:=v1) (u2:=v2) (Az:=v3) (AA:=v4) (n2:=v5) (l2:=v6) hS;refine fM (aj ai vh (lJ (Kd.bH k.decl)).decl.holes) (λw hw=>hw (aj ai vh k.decl.holes) tt) ?_;refine fM (aj eT vs (lJ (Kd.bH k.decl)).decl.symbols) (λw hw=>hw (aj eT vs k.decl.symbols) tt) ?_;refine fM (aj fw vr (lJ (Kd.bH k.decl)).decl.regions) (λw hw=>hw (aj fw vr k.decl.regions) tt) ?_;refine fM (aj bV v1 (lJ (Kd.bH k.decl)).decl.aR) (λw hw=>hw (aj bV v1 (Kd.bH k.decl).aR) tt) ?_;refine fM (aj bz v2 (lJ (Kd.bH k.decl)).decl.rules) (λw hw=>hw (aj bz v2 (Kd.bH k.decl).rules) tt) ?_;refine fM (aj ai v3 (lJ (Kd.bH k.decl)).grid.holes) (λw hw=>hw (aj ai v3 (aU (Kd.bH k.decl)).holes) tt) ?_;refine fM (aj ai v4 (lJ (Kd.bH k.decl)).grid.cells) (λw hw=>hw (aj ai v4 (aU (Kd.bH k.decl)).cells) tt) ?_;refine fM (aj (aA ai) v5 (lJ (Kd.bH k.decl)).aK) (λw hw=>hw (aj (aA ai) v5 (bJ (aU (Kd.bH k.decl)))) tt) ?_;refine fM (aj (aA (aA ai)) v6 (lJ (Kd.bH k.decl)).lists) (λw hw=>hw (aj (aA (aA ai)) v6 (mI (Kd.bH k.decl))) tt) ?_;refine eO hsm (next:=λ_ _=>?_);refine go ?_;refine fu rfl (λh3=>?_) (λh3=>?_)
 .exact pH
 .exact rp
open Go.Ideal Kd Canon
def Q6{v:ah}{xs:ae (ae Int)}(hl:xs.length<2^63)(hll:∀l∈xs,l.length<2^63):fC prog 60 [v] [aj (aA ai) v xs] (λn:Int=>iV n) (λn=>0<=n/\n<=2001):=by
 refine gB 60 λB w0=>?_;refine gF (aA ai) v xs λa1 c1 e1=>?_;subst e1;refine gL (λx:Nat×Int=>xs.length - x.1) (λx=>[(4,iV (x.1:Int)),(3,iV x.2)]) (λx=>x.1<=xs.length/\0<=x.2/\x.2<=4003) (0,0) ⟨bP _,tA,tA⟩ ?_;rintro⟨i,n⟩ ⟨hi,h0,h1⟩;dsimp only at hi h0 h1⊢;refine gH ?_ ?_<;>intro h2
 .exact nl
 refine aB ?_ ?_<;>intro h3
 rotate_left
 .exact nl
 refine go ?_;refine(fo rfl rfl (JQ rfl rfl)).h ?_;refine gX (aA ai) (xs:=xs) λ_ _ x (vx:ah) hx=>?_;refine go ?_;refine(fo rfl rfl (JQ rfl rfl)).h ?_;refine go ?_;exact aQ (i+1,min n 2001+1+min (x.length:Int) 2001) (by show xs.length - (i+1)<xs.length - i;omega) ⟨by dsimp only;omega,by dsimp only;omega,wl⟩
structure Q7(d:bG):Prop where
 holes:d.holes.length<=40
 dG:d.symbols.length<=20
 regs:d.regions.length<=8
 kD:d.aR.length<=8
 l7:d.rules.length<=20
def YR(hr:∀r∈d.regions,r.lists.length<2^63/\∀l∈r.lists,l.length<2^63)(hn:∀r∈d.rules,r.names.length<2^63/\r.others.length<2^63):
 fC prog 61 [.agg ⟨gW d vh vs vr vc vu⟩] (mH d vh vs vr vc vu) (λb:Bool=>.bool b) (λb=>b=true->Q7 d):=by
 refine gB 61 λB w0=>?_;dsimp only[mH];refine gF fw vr d.regions λar cr er=>?_;subst er;refine gF bz vu d.rules λau cu eu=>?_;subst eu;refine go ?_;intro b1;refine gP b1 ?_;refine gH ?_ ?_<;>intro h1
 rotate_left
 .exact cC
 refine gH ?_ ?_<;>intro h2
 rotate_left
 .exact cC
 refine gH ?_ ?_<;>intro h3
 rotate_left
 .exact cC
 refine gH ?_ ?_<;>intro h4
 rotate_left
 .exact cC
 refine aB ?_ ?_<;>intro h5
 .exact cC
 have hD:Q7 d:=⟨tr,tr,tr,tr,tr⟩
 refine gN d.regions.length 3 (λj=>j<=d.regions.length) (bP _) ?_;intro j hj;refine aB ?_ ?_<;>intro a1
 .have hx:d.regions[j]? =some (d.regions[j]'(tr)):=bX _;generalize d.regions[j]'(tr)=x at hx;obtain⟨hx1,hx2⟩:=hr x (aS hx);refine gX fw (xs:=d.regions) λ_ _ x1 (vl1:ah) hx1=>?_;cases hx.symm.trans hx1;refine aB ?_ ?_<;>intro a2
  .exact cC
  refine gN x.lists.length 4 (λi=>i<=x.lists.length) (bP _) ?_;intro i hi;refine gX fw (xs:=d.regions) λ_ _ x2 (Cq:ah) hx2=>?_;cases hx.symm.trans hx2;refine aB ?_ ?_<;>intro a3
  .refine gX fw (xs:=d.regions) λ_ _ x3 (QN:ah) hx3=>?_;cases hx.symm.trans hx3;refine gX (aA ai) (xs:=x.lists) λ_ _ l (YS:ah) hl=>?_;refine aB ?_ ?_<;>intro a4
   .exact cC
   refine go ?_;exact aQ (i+1) (by show x.lists.length - (i+1)<x.lists.length - i;omega) tP
  refine go ?_;exact aQ (j+1) (by show d.regions.length - (j+1)<d.regions.length - j;omega) tU
 refine gN d.rules.length 5 (λj=>j<=d.rules.length) (bP _) ?_;intro j hj;refine aB ?_ ?_<;>intro a1
 .have hx:d.rules[j]? =some (d.rules[j]'(tr)):=bX _;generalize d.rules[j]'(tr)=x at hx;obtain⟨hx1,hx2⟩:=hn x (aS hx);refine gX bz (xs:=d.rules) λ_ _ x1 (w:ah×ah) hx1=>?_;cases hx.symm.trans hx1;refine gH ?_ ?_<;>intro a2
  rotate_left
  .exact cC
  refine gX bz (xs:=d.rules) λ_ _ x2 (w2:ah×ah) hx2=>?_;cases hx.symm.trans hx2;refine aB ?_ ?_<;>intro a3
  .exact cC
  refine go ?_;exact aQ (j+1) (by show d.rules.length - (j+1)<d.rules.length - j;omega) tU
 refine go ?_;exact gQ true (λ_=>hD)
structure Q8(k:bN):Prop where
 d:Q7 k.decl
 cells:k.grid.cells.length<=256
 Lf:k.grid.holes.length<=300
def ug.YT(hB:Cn k)(hF:Q8 k):ug k:=by
 have f1:=hF.cells;have f2:=hF.Lf;have f5:=hF.d.dG;have f6:=hF.d.regs;have f7:=hF.d.kD;have f8:=hF.d.l7;have f9:=hF.d.holes;exact gR
def al6(hB:Cn k):fC prog 31 [.agg ⟨mM k vh vs vr vc vu gh gc vn vl⟩] (lN k vh vs vr vc vu gh gc vn vl []) (λb:Bool=>.bool b) (λb=>b=true->Q8 k):=by
 obtain⟨n1,n2⟩:=hB.aK;obtain⟨l1,l2⟩:=hB.lists;refine gB 31 λB w0=>?_;dsimp only[lN];refine gF (aA (aA ai)) vl k.lists λal cl el=>?_;subst el;refine go ?_;intro b1;refine gL (λx:Nat×Int=>k.lists.length - x.1) (λx=>[(4,iV (x.1:Int)),(3,iV x.2)]) (λx=>x.1<=k.lists.length/\0<=x.2/\x.2<=4001) (0,0) ⟨bP _,tA,tA⟩ ?_;rintro⟨i,n⟩ ⟨hi,h0,h1⟩;dsimp only at hi h0 h1⊢;refine gH ?_ ?_<;>intro h2
 .exact tf
 refine aB ?_ ?_<;>intro h3
 rotate_left
 .exact tf
 refine gX (aA (aA ai)) (xs:=k.lists) λ_ _ x (vx:ah) hx=>?_;obtain⟨x1,x2⟩:=l2 x (aS hx);refine gC (Q6 (xs:=x) x1 x2) λm hm=>?_;refine go ?_;exact aQ (i+1,n+m) CT ⟨by dsimp only;omega,by dsimp only;omega,wl⟩
