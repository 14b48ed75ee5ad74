/- Part. -/
import Derived.Test.YtoilpafpgndilaaGreatLibZF
import Derived.Test.YtoilpafpgndilaaGreatLibHF
set_option linter.all false
set_option maxRecDepth 10000
set_option maxHeartbeats 4000000
namespace Go.Proofs.YtoilpafpgndilaaGreat
open Tryz (prog)
open Go.Ideal Kd
variable{vh vs vr vc vu:vI}{d:bF}
def aiU(hT:vC d):bA prog (.func 105) [.agg ⟨ahE d vh vs vr vc vu⟩] [] [] (lG d vh vs vr vc vu) (Dn d vh vs vr) (λ_=>[]) (Dp d vh vs vr) (JR d):=by
 have qV:vC (Kd.bE d):=⟨hT.s.bE,hT.w,hT.h,hT.holes⟩
 have hend:∀{e:Int} {vc vu gh gc vn vl:vI},e≠0->¬FQ d->JR d ⟨false,e,vc,vu,gh,gc,vn,vl⟩:=λhe hb=>⟨(λh=>by cases h),λ_=>⟨he,hb⟩⟩
 refine gB 105 λB w0=>?_;refine go ?_;intro b1 b2;refine gC (WH (d:=d) hT.s) λy hy=>?_;obtain⟨ok,e,v1,v2⟩:=y;cases ok with
 |false=>
  obtain⟨he,hno⟩:=hy.2 rfl;have he:e≠0:=he;dsimp only[cond,rX,oL,List.nil_append];refine go ?_;intro b4;exact nn
 |true=>
 obtain⟨he,hres⟩:=hy.1 rfl;have he:e=0:=he;subst he;clear hy;dsimp only[cond,rX,oL,List.cons_append,List.nil_append];refine go ?_;intro b4;refine go ?_;refine eF (ai ae vh (Kd.bE d).holes) (λw hw=>hw (ai ae vh d.holes) An) ?_;refine eF (ai fF vs (Kd.bE d).symbols) (λw hw=>hw (ai fF vs d.symbols) An) ?_;refine eF (ai eY vr (Kd.bE d).regions) (λw hw=>hw (ai eY vr d.regions) An) ?_;generalize hd:Kd.bE d=r at qV⊢;refine ay (aiT (d:=r) (vc:=v1) (vu:=v2) qV) (next:=λe he=>?_);refine gIf (λhne=>?_) (λhz=>?_)
 .refine go ?_;exact gQ ⟨false,e,v1,v2,v1,v1,v1,v1⟩ (hend hne λh=>hne (he.2 (by rw[<- hd];exact h.typ)))
 have hty:=he.1 (ic.1 hz);clear he hz;have hm:=hty.Dk;have hr:=hty.Dl;have hG:=FP hm;have hgo:fE (aT r):=⟨hm,rfl⟩
 have hrl:=qV.s.regs;refine go ?_;intro b6;refine gC (O4 (s:=r.shape) (w:=r.w) (h:=r.h) (holes:=r.holes) (vh:=vh) qV.w qV.h qV.holes) λy hy=>?_;obtain⟨ok,gh,gc⟩:=y;cases ok with
 |false=>exact absurd (hy.2 hm) An
 |true=>
 clear hy;dsimp only[cond,mkV,pM];rw[show wH r.shape r.w r.h r.holes=aT r from rfl];dsimp only[jq,iO,List.cons_append,List.nil_append];refine gC (Wv (g:=aT r) (vh:=gh) (vc:=gc) hG) λy hy2=>?_;obtain⟨vn,e⟩:=y;have he:e=0:=hy2.2 hgo;subst he;clear hy2;refine eF (ai (ak ae) vn (bJ (aT r))) (λw hw=>hw (jr ((0:Int)=0) (ai (ak ae) vn (bJ (aT r)))) An rfl) ?_;dsimp only[wI];refine gF (ak ae) vn (bJ (aT r)) λan cn en=>?_;subst en;refine gF eY vr r.regions λar cr er=>?_;subst er;refine go ?_;refine af5 (ak (ak ae)) ?_;refine aU (λy:Nat×vI=>8 - y.1) (λy=>[(7,iV (y.1:Int))]) (λy=>[pt b4 (.cells (ahE r vh vs (.slice ar r.regions.length cr) v1 v2)),pt b6 (.cells (bL r vh vs (.slice ar r.regions.length cr) v1 v2 (iV (aT r).shape) (iV (aT r).w) (iV (aT r).h) gh gc (.slice an (bJ (aT r)).length cn) y.2)),ap (ak (ak ae)) y.2 (ja (aT r) y.1)]) (λ_=>[]) (λy=>y.1<=8) (0,.slice none 0 0) (bR _) (hk:=As) (body:=?_);rintro⟨k,vl⟩ hk;dsimp only at hk⊢;have hkl:=JQ (aT r) k;refine gIf ?_ ?_<;>intro h1
 .refine gC (ahW (g:=aT r) (vh:=gh) (vc:=gc) (k:=(k:Int)) hG) λy hy=>?_;obtain⟨v4,e⟩:=y;have he:e=0:=hy.2 ⟨hgo,z7,z7⟩;subst he;dsimp only[JM,List.cons_append,List.nil_append];refine eF (ai (ak ae) v4 (dM (aT r) (k:Int))) (λw hw=>hw (jr ((0:Int)=0) (ai (ak ae) v4 (dM (aT r) (k:Int)))) An rfl) ?_;refine gF (ak ae) v4 (dM (aT r) (k:Int)) λa4 c4 e4=>?_;subst e4;refine go ?_;intro V4;refine go ?_;refine fB (xs:=ja (aT r) k) (ak (ak ae)) (dM (aT r) (k:Int)) (.slice a4 (dM (aT r) (k:Int)).length c4) z7 (next:=λad=>?_);rw[<- V3];refine go ?_;exact aN (k+1,.slice ad ((ja (aT r) k).length+1) ((ja (aT r) k).length+1)) (by show 8 - (k+1)<8 - k;omega) AS
 have OG:k=8:=z7
 subst OG;refine go ?_;refine aU (λy:Nat×vI=>r.regions.length - y.1) (λy=>[(10,iV (y.1:Int))]) (λy=>[pt b4 (.cells (ahE r vh vs (.slice ar r.regions.length cr) v1 v2)),pt b6 (.cells (bL r vh vs (.slice ar r.regions.length cr) v1 v2 (iV (aT r).shape) (iV (aT r).w) (iV (aT r).h) gh gc (.slice an (bJ (aT r)).length cn) y.2)),ap (ak (ak ae)) y.2 (ja (aT r) 8++(r.regions.take y.1).map λr2=>dW (aT r) r2.lists)]) (λ_=>[]) (λy=>y.1<=r.regions.length) (0,vl) (bR _) (hk:=by rw[show ja (aT r) 8++(r.regions.take 0).map (λr2=>dW (aT r) r2.lists)=ja (aT r) 8 from gU _];repeat (first|exact aI.nil|(apply aI.cons;(focus (repeat (first|exact az.here|apply az.there)))))) (body:=?_);rintro⟨k,v2'⟩ hk;dsimp only at hk⊢;have hkl:(ja (aT r) 8++(r.regions.take k).map λr2=>dW (aT r) r2.lists).length=8+k:=by rw[iH,JQ,bY,gT];omega
 refine gIf ?_ ?_<;>intro h1
 .refine gX eY (xs:=r.regions) λ_ _ q (OH:vI) Dm=>?_;have hrm:=aZ Dm;obtain⟨hl1,hl2⟩:=qV.s.rZ q hrm;obtain⟨⟨_,hro⟩,_⟩:=hr q hrm;refine gC (Wx (g:=aT r) (rs:=q.lists) hG hl1 hl2) λy hy=>?_;obtain⟨v8,e⟩:=y;have he:e=0:=hy.2 ⟨hgo,hro⟩;subst he;dsimp only[JO,List.cons_append,List.nil_append];refine eF (ai (ak ae) v8 (dW (aT r) q.lists)) (λw hw=>hw (jr ((0:Int)=0) (ai (ak ae) v8 (dW (aT r) q.lists))) An rfl) ?_;refine gF (ak ae) v8 (dW (aT r) q.lists) λa8 c8 e8=>?_;subst e8;refine go ?_;intro b71;refine go ?_;have htk:ja (aT r) 8++(r.regions.take (k+1)).map (λr2=>dW (aT r) r2.lists)=(ja (aT r) 8++(r.regions.take k).map λr2=>dW (aT r) r2.lists)++[dW (aT r) q.lists]:=by
   rw[bZ Dm,fP,sQ,List.append_assoc]
  refine fB (xs:=ja (aT r) 8++(r.regions.take k).map λr2=>dW (aT r) r2.lists) (ak (ak ae)) (dW (aT r) q.lists) (.slice a8 (dW (aT r) q.lists).length c8) z7 (next:=λad=>?_);rw[<- htk];refine go ?_;exact aN (k+1,.slice ad ((ja (aT r) 8++(r.regions.take k).map λr2=>dW (aT r) r2.lists).length+1) ((ja (aT r) 8++(r.regions.take k).map λr2=>dW (aT r) r2.lists).length+1)) (by show r.regions.length - (k+1)<r.regions.length - k;omega) AS
 have hke:k=r.regions.length:=z7
 subst hke;rw[bU];rw[show ja (aT r) 8++r.regions.map (λr2=>dW (aT r) r2.lists)=oI r from rfl];refine gZ (gz (E:=ak (ak ae)) (v:=v2') (xs:=oI r)) ?_;refine go ?_;subst hd;refine gQ ⟨true,0,v1,v2,gh,gc,.slice an (bJ (aT (Kd.bE d))).length cn,v2'⟩ ⟨λ_=>⟨rfl,hres,hty⟩,(λh=>by cases h)⟩ (hF:=?_);show Sub [ai bI v1 (Kd.bE d).aJ,ai aY v2 (Kd.bE d).rules,ai ae gh (aT (Kd.bE d)).holes,ai ae gc (aT (Kd.bE d)).cells,ai (ak ae) (.slice an (bJ (aT (Kd.bE d))).length cn) (bJ (aT (Kd.bE d))),ai (ak (ak ae)) v2' (oI (Kd.bE d))] _;exact .cons An (.cons An (.cons An (.cons An (.cons An (.cons An .nil)))))
def aiV{x y:bD}{h1 s1 r1 c1 u1 zz zA n1 l1 h2 s2 r2 c2 u2 zB zC n2 l2:vI}(hS:nZ x):dD prog 111 [.agg ⟨kZ x h1 s1 r1 c1 u1 zz zA n1 l1⟩,.agg ⟨kZ y h2 s2 r2 c2 u2 zB zC n2 l2⟩]
 (j6 x h1 s1 r1 c1 u1 zz zA n1 l1 (j6 y h2 s2 r2 c2 u2 zB zC n2 l2 [])) (.bool (decide (x=y))):=by
 have e1:=hS.d.s;have e2:=hS.g;obtain⟨e4,e5⟩:=hS.aQ;obtain⟨e6,e7⟩:=hS.lists;clear hS;obtain⟨xd,xg,xn,xl⟩:=x;obtain⟨yd,yg,yn,yl⟩:=y;dsimp only at e1 e2 e4 e5 e6 e7;dsimp only[kZ,j6];refine gB 111 λB w0=>?_;refine gF (ak (ak ae)) l1 xl λa1 k1 q1=>?_;subst q1;refine gF (ak (ak ae)) l2 yl λa2 k2 q2=>?_;subst q2;refine go ?_;intro b2 b3;refine gP b2 ?_;refine gP b3 ?_;refine gIf ?_ ?_<;>intro h
 .refine acM ?_;rw[aR (λe=>by cases e;omega)];rfl
 have hlen:xl.length=yl.length:=z7
 clear h;refine gN xl.length 5 (λk=>k<=xl.length/\xl.take k=yl.take k) ⟨z7,An⟩ ?_;rintro k ⟨hk,hsame⟩;refine gIf ?_ ?_<;>intro h2
 .refine gX (ak (ak ae)) (xs:=xl) λ_ _ p (vp:vI) hx=>?_;refine gX (ak (ak ae)) (xs:=yl) λ_ _ q (vq:vI) hy=>?_;have hpl:=e7 p (aZ hx);refine gC (WM (xs:=p) (ys:=q) hpl.1 hpl.2) λ_ _=>?_;refine go ?_;refine fq rfl (λh3=>?_) (λh3=>?_)
  .exact cT
  exact cA
 have hke:k=xl.length:=z7
 subst hke;rw[bU,hlen,bU]at hsame;clear hk h2;subst hsame;refine go ?_;have hdd:dD prog 148 [.agg ⟨ahE xd h1 s1 r1 c1 u1⟩,.agg ⟨ahE yd h2 s2 r2 c2 u2⟩] [ai ae h1 xd.holes,ai fF s1 xd.symbols,ai eY r1 xd.regions,ai bI c1 xd.aJ,ai aY u1 xd.rules,ai ae h2 yd.holes,ai fF s2 yd.symbols,ai eY r2 yd.regions,ai bI c2 yd.aJ,ai aY u2 yd.rules] (.bool (decide (xd=yd))):=aib e1;refine ay hdd (next:=λ_ _=>?_);refine gH ?_ ?_<;>intro k6
 .exact jt
 refine gC (ah9 (x:=xg) (y:=yg) (h1:=zz) (c1:=zA) (h2:=zB) (c2:=zC) e2) λ_ _=>?_;refine gH ?_ ?_<;>intro k7
 .exact js
 refine gC (WM (xs:=xn) (ys:=yn) e4 e5) λ_ _=>?_;refine acM ?_;subst k6 k7;rw[show decide (bD.mk xd xg xn xl=bD.mk xd xg yn xl)=decide (xn=yn)from nO.2 ⟨λh=>by cases h;rfl,λh=>by rw[h]⟩];rfl
variable{gh gc vn vl:vI}{k:bD}
def aiW(hS:nZ k):fC prog 79 [.agg ⟨kZ k vh vs vr vc vu gh gc vn vl⟩] (j6 k vh vs vr vc vu gh gc vn vl []) (λb:Bool=>iV (cond b 0 180)) (λb=>b=true↔dH k):=by
 refine gB 79 λB w0=>?_;refine go ?_;intro b1;refine gC (aiU (d:=k.decl) hS.d) λy hy=>?_;obtain⟨ok,e,v1,v2,v3,v4,v5,v6⟩:=y;cases ok with
 |false=>
  exact fk
 |true=>
 obtain⟨he,hb⟩:=hy.1 rfl;have he:e=0:=he;subst he;clear hy;dsimp only[cond,Dn,Dp,List.cons_append,List.nil_append];refine go ?_;intro b3;refine go ?_;have hsm:=aiV (x:=k) (y:=kF (Kd.bE k.decl)) (h1:=vh) (s1:=vs) (r1:=vr) (c1:=vc) (u1:=vu) (zz:=gh) (zA:=gc) (n1:=vn) (l1:=vl) (h2:=vh) (s2:=vs) (r2:=vr) (c2:=v1) (u2:=v2) (zB:=v3) (zC:=v4) (n2:=v5) (l2:=v6) hS;refine eF (ai ae vh (kF (Kd.bE k.decl)).decl.holes) (λw hw=>hw (ai ae vh k.decl.holes) An) ?_;refine eF (ai fF vs (kF (Kd.bE k.decl)).decl.symbols) (λw hw=>hw (ai fF vs k.decl.symbols) An) ?_;refine eF (ai eY vr (kF (Kd.bE k.decl)).decl.regions) (λw hw=>hw (ai eY vr k.decl.regions) An) ?_;refine eF (ai bI v1 (kF (Kd.bE k.decl)).decl.aJ) (λw hw=>hw (ai bI v1 (Kd.bE k.decl).aJ) An) ?_;refine eF (ai aY v2 (kF (Kd.bE k.decl)).decl.rules) (λw hw=>hw (ai aY v2 (Kd.bE k.decl).rules) An) ?_;refine eF (ai ae v3 (kF (Kd.bE k.decl)).grid.holes) (λw hw=>hw (ai ae v3 (aT (Kd.bE k.decl)).holes) An) ?_;refine eF (ai ae v4 (kF (Kd.bE k.decl)).grid.cells) (λw hw=>hw (ai ae v4 (aT (Kd.bE k.decl)).cells) An) ?_;refine eF (ai (ak ae) v5 (kF (Kd.bE k.decl)).aQ) (λw hw=>hw (ai (ak ae) v5 (bJ (aT (Kd.bE k.decl)))) An) ?_;refine eF (ai (ak (ak ae)) v6 (kF (Kd.bE k.decl)).lists) (λw hw=>hw (ai (ak (ak ae)) v6 (oI (Kd.bE k.decl))) An) ?_;refine ay hsm (next:=λ_ _=>?_);refine go ?_;refine fq rfl (λh3=>?_) (λh3=>?_)
 .exact tr
 .exact us
open Go.Ideal Kd Canon
def Pj{v:vI}{xs:kI (kI Int)}(hl:xs.length<2^63)(hll:∀l∈xs,l.length<2^63):fC prog 72 [v] [ai (ak ae) v xs] (λn:Int=>iV n) (λn=>0<=n/\n<=2001):=by
 refine gB 72 λB w0=>?_;refine gF (ak ae) v xs λa1 c1 e1=>?_;subst e1;refine gL (λx:Nat×Int=>xs.length - x.1) (λx=>[(4,iV (x.1:Int)),(3,iV x.2)]) (λx=>x.1<=xs.length/\0<=x.2/\x.2<=4003) (0,0) ⟨bR _,AE,AE⟩ ?_;rintro⟨i,n⟩ ⟨hi,h0,h1⟩;dsimp only at hi h0 h1⊢;refine gH ?_ ?_<;>intro h2
 .exact qq
 refine gIf ?_ ?_<;>intro h3
 rotate_left
 .exact qq
 refine go ?_;refine(fA rfl rfl (II rfl rfl)).h ?_;refine gX (ak ae) (xs:=xs) λ_ _ x (vx:vI) hx=>?_;refine go ?_;refine(fA rfl rfl (II rfl rfl)).h ?_;refine go ?_;exact aN (i+1,min n 2001+1+min (x.length:Int) 2001) IT ⟨by dsimp only;omega,by dsimp only;omega,B0⟩
structure Pk(d:bF):Prop where
 holes:d.holes.length<=40
 eH:d.symbols.length<=20
 regs:d.regions.length<=8
 jg:d.aJ.length<=8
 kX:d.rules.length<=20
def WU(hr:∀r∈d.regions,r.lists.length<2^63/\∀l∈r.lists,l.length<2^63)(hn:∀r∈d.rules,r.names.length<2^63/\r.others.length<2^63):
 fC prog 73 [.agg ⟨ahE d vh vs vr vc vu⟩] (lG d vh vs vr vc vu) (λb:Bool=>.bool b) (λb=>b=true->Pk d):=by
 refine gB 73 λB w0=>?_;dsimp only[lG];refine gF eY vr d.regions λar cr er=>?_;subst er;refine gF aY vu d.rules λau cu eu=>?_;subst eu;refine go ?_;intro b1;refine gP b1 ?_;refine gH ?_ ?_<;>intro h1
 rotate_left
 .exact cM
 refine gH ?_ ?_<;>intro h2
 rotate_left
 .exact cM
 refine gH ?_ ?_<;>intro h3
 rotate_left
 .exact cM
 refine gH ?_ ?_<;>intro h4
 rotate_left
 .exact cM
 refine gIf ?_ ?_<;>intro h5
 .exact cM
 have hD:Pk d:=⟨z7,z7,z7,z7,z7⟩
 refine gN d.regions.length 3 (λj=>j<=d.regions.length) (bR _) ?_;intro j hj;refine gIf ?_ ?_<;>intro a1
 .have hx:d.regions[j]? =some (d.regions[j]'(z7)):=bP _;generalize d.regions[j]'(z7)=x at hx;obtain⟨hx1,hx2⟩:=hr x (aZ hx);refine gX eY (xs:=d.regions) λ_ _ x1 (vl1:vI) hx1=>?_;cases hx.symm.trans hx1;refine gIf ?_ ?_<;>intro a2
  .exact cM
  refine gN x.lists.length 4 (λi=>i<=x.lists.length) (bR _) ?_;intro i hi;refine gX eY (xs:=d.regions) λ_ _ x2 (vl2:vI) hx2=>?_;cases hx.symm.trans hx2;refine gIf ?_ ?_<;>intro a3
  .refine gX eY (xs:=d.regions) λ_ _ x3 (vl3:vI) hx3=>?_;cases hx.symm.trans hx3;refine gX (ak ae) (xs:=x.lists) λ_ _ l (vl4:vI) hl=>?_;refine gIf ?_ ?_<;>intro a4
   .exact cM
   refine go ?_;exact aN (i+1) (by show x.lists.length - (i+1)<x.lists.length - i;omega) AK
  refine go ?_;exact aN (j+1) (by show d.regions.length - (j+1)<d.regions.length - j;omega) AW
 refine gN d.rules.length 5 (λj=>j<=d.rules.length) (bR _) ?_;intro j hj;refine gIf ?_ ?_<;>intro a1
 .have hx:d.rules[j]? =some (d.rules[j]'(z7)):=bP _;generalize d.rules[j]'(z7)=x at hx;obtain⟨hx1,hx2⟩:=hn x (aZ hx);refine gX aY (xs:=d.rules) λ_ _ x1 (w:vI×vI) hx1=>?_;cases hx.symm.trans hx1;refine gH ?_ ?_<;>intro a2
  rotate_left
  .exact cM
  refine gX aY (xs:=d.rules) λ_ _ x2 (w2:vI×vI) hx2=>?_;cases hx.symm.trans hx2;refine gIf ?_ ?_<;>intro a3
  .exact cM
  refine go ?_;exact aN (j+1) (by show d.rules.length - (j+1)<d.rules.length - j;omega) AW
 refine go ?_;exact gQ true (λ_=>hD)
structure Pm(k:bD):Prop where
 d:Pk k.decl
 cells:k.grid.cells.length<=256
 JU:k.grid.holes.length<=300
def nZ.WV(hB:Bu k)(hF:Pm k):nZ k:=by
 have f1:=hF.cells;have f2:=hF.JU;have f5:=hF.d.eH;have f6:=hF.d.regs;have f7:=hF.d.jg;have f8:=hF.d.kX;have f9:=hF.d.holes;exact lO
def aiX(hB:Bu k):fC prog 36 [.agg ⟨kZ k vh vs vr vc vu gh gc vn vl⟩] (j6 k vh vs vr vc vu gh gc vn vl []) (λb:Bool=>.bool b) (λb=>b=true->Pm k):=by
 obtain⟨n1,n2⟩:=hB.aQ;obtain⟨l1,l2⟩:=hB.lists;refine gB 36 λB w0=>?_;dsimp only[j6];refine gF (ak (ak ae)) vl k.lists λal cl el=>?_;subst el;refine go ?_;intro b1;refine gL (λx:Nat×Int=>k.lists.length - x.1) (λx=>[(4,iV (x.1:Int)),(3,iV x.2)]) (λx=>x.1<=k.lists.length/\0<=x.2/\x.2<=4001) (0,0) ⟨bR _,AE,AE⟩ ?_;rintro⟨i,n⟩ ⟨hi,h0,h1⟩;dsimp only at hi h0 h1⊢;refine gH ?_ ?_<;>intro h2
 .exact y6
 refine gIf ?_ ?_<;>intro h3
 rotate_left
 .exact y6
 refine gX (ak (ak ae)) (xs:=k.lists) λ_ _ x (vx:vI) hx=>?_;obtain⟨x1,x2⟩:=l2 x (aZ hx);refine gC (Pj (xs:=x) x1 x2) λm hm=>?_;refine go ?_;exact aN (i+1,n+m) JE ⟨by dsimp only;omega,by dsimp only;omega,B0⟩
def WW{l:kI Int}{x:Int}(h1:(l.length:Int)=1)(hx:l[0]? =some x){Q:Int->Prop}:(∀y∈l,Q y)↔Q x:=by
 match l,h1,hx with
 |[a],_,hx=>cases hx;simp
 |[],h1,_=>cases h1
 |_::_::_,h1,_=>simp at h1;omega
def aiY{g:Clue}{vv:vI}(hS:nZ k)(hF:Fq k)(hv:g.values.length<2^63):
 fC prog 112 [.agg ⟨kZ k vh vs vr vc vu gh gc vn vl⟩,wy g vv] (ai ae vv g.values::j6 k vh vs vr vc vu gh gc vn vl []) (λb:Bool=>.bool b) (λb=>b=true↔mY k g):=by
 have hcl:=hS.d.s.jg;have hsl:=hS.d.s.eH;refine gB 112 λB w0=>?_;refine gF bI vc k.decl.aJ λac cc ec=>?_;subst ec;refine gF fF vs k.decl.symbols λkY cs1 es1=>?_;subst es1;refine gF (ak (ak ae)) vl k.lists λal cl el=>?_;subst el;refine gF ae vv g.values λav cv OM=>?_;subst OM;refine go ?_;intro b2 b3;refine gP b2 ?_;refine gP b3 ?_;refine gH ?_ ?_<;>intro h1
 rotate_left
 .exact s7
 refine gIf ?_ ?_<;>intro h2
 .exact pL
 obtain⟨ci,hci⟩:=jA (show 0<=g.adJ by omega);have hg0:0<=g.adJ:=z7
 have LG:ci<k.decl.aJ.length:=z7
 have htn:g.adJ.toNat=ci:=z7
 refine go ?_;rw[hci];refine bi bI (xs:=k.decl.aJ) (next:=λ_ _ c (_:Unit) hc=>?_);obtain⟨hf0,hf1⟩:=hF c (aZ hc);refine go ?_;intro b5;refine gH ?_ ?_<;>intro h3
 rotate_left
 .exact sL
 refine go ?_;obtain⟨fi,hfi⟩:=jA hf0;have FU:c.family.toNat=fi:=z7
 rw[hfi];refine bi (ak (ak ae)) (xs:=k.lists) (next:=λ_ _ ls (vls:vI) hls=>?_);refine gIf ?_ ?_<;>intro h4
 .exact mB
 have hR:∀b:Bool,(b=true↔((c.type=1/\g.values.length=1/\∀x∈g.values,0<=x/\x<=(k.decl.symbols.length:Int) - 1)\/(c.type=2/\g.values.length=1/\∀x∈g.values,c.lo<=x/\x<=c.hi)\/
  (c.type≠1/\c.type≠2/\g.values.length<=8/\∀x∈g.values,1<=x/\x<=256)))->(b=true↔mY k g):=λb hb=>by
  rw[hb];refine⟨λh=>⟨c,ls,hg0,by rw[htn];exact hc,by rw[FU];exact hls,z7,z7,h⟩,λ⟨c',l',_,q1,_,_,_,h⟩=>?_⟩;rw[htn,hc]at q1;cases q1;exact h
 refine gIf ?_ ?_<;>intro h5
 .refine gH ?_ ?_<;>intro h6
  .exact eJ
  refine go ?_;intro _ _ x hx;refine go ?_;have ha:=λQ=>WW (Q:=Q) h6 hx;refine gG ?_ ?_<;>intro h7
  .exact pN
  refine go ?_;intro _ _ x' hx';cases hx.symm.trans hx';refine go ?_;refine gQ (decide (x<(k.decl.symbols.length:Int))) (hR _ ?_);rw[lM,ha,ha,ha];omega
 refine gIf ?_ ?_<;>intro h6
 .refine gH ?_ ?_<;>intro h7
  .exact eJ
  refine go ?_;intro _ _ x hx;refine go ?_;have ha:=λQ=>WW (Q:=Q) h7 hx;refine gG ?_ ?_<;>intro h8
  .exact pN
  refine go ?_;intro _ _ x' hx';cases hx.symm.trans hx';refine go ?_;refine gQ (decide (x<=c.hi)) (hR _ ?_);rw[lM,ha,ha,ha];omega
 refine gN g.values.length 7 (λj=>j<=g.values.length/\∀x∈g.values.take j,1<=x/\x<=256) ⟨bR _,An⟩ ?_;rintro j ⟨hj,hall⟩;refine gIf ?_ ?_<;>intro a1
 .refine go ?_;intro _ _ x hx;have hxm:=aZ hx;refine gH ?_ ?_<;>intro h7
  rotate_left
  .exact mc
  refine go ?_;intro _ _ x' hx';cases hx.symm.trans hx';refine gIf ?_ ?_<;>intro h8
  .exact mc
  refine go ?_;refine aN (j+1) (by show g.values.length - (j+1)<g.values.length - j;omega) ⟨z7,?_⟩;rw[bZ hx];intro y hy;rcases dX.1 hy with hy|hy
  .exact hall y hy
  .rw[bM.1 hy];omega
 have iR:j=g.values.length:=z7
 subst iR;rw[bU]at hall;refine go ?_;refine gQ (decide ((g.values.length:Int)<=8)) (hR _ ?_);rw[lM];exact⟨λh=>.inr (.inr ⟨h5,h6,z7,hall⟩),λh=>by rcases h with h|h|h;exact absurd h.1 h5;exact absurd h.1 h6;have:=h.2.2.1;omega⟩
variable{vp:vI}{p:kI Clue}
def aiZ(hS:nZ k)(hP:wK p)(hF:Fq k):
 fC prog 80 [.agg ⟨kZ k vh vs vr vc vu gh gc vn vl⟩,.agg ⟨[vp]⟩] (ai bO vp p::j6 k vh vs vr vc vu gh gc vn vl []) (λb:Bool=>.bool b) (λb=>b=true↔age k p):=by
 refine gB 80 λB w0=>?_;refine gF bO vp p λJS cp ep=>?_;subst ep;refine go ?_;intro b2 b3;refine gP b2 ?_;refine gP b3 ?_;refine gIf ?_ ?_<;>intro h1
 .refine go ?_;exact gQ false ⟨(λh=>by cases h),λh=>by have:=h.len;omega⟩
 refine gN p.length 5 (λj=>j<=p.length/\(∀g∈p.take j,mY k g)/\∀(i:Nat) a b,i+1<j->p[i]? =some a->p[i+1]? =some b->gJ a b<0) ⟨bR _,An,λi a b h=>by omega⟩ ?_;rintro j ⟨hj,hall,hs⟩;refine gIf ?_ ?_<;>intro h2
 .refine gX bO (xs:=p) λ_ _ g (vg:vI) hg=>?_;have hgm:=aZ hg;have htk:=bZ hg;refine gC (aiY (k:=k) (g:=g) (vv:=vg) hS hF (hP.vals g hgm)) λb hb=>?_;cases b with
  |false=>
   refine go ?_;exact gQ false ⟨(λh=>by cases h),λh=>hb.2 (h.right g hgm)⟩
  |true=>
  have hR:=hb.1 rfl;have FV:∀x∈p.take (j+1),mY k x:=by
   exact sE
  refine gH ?_ ?_<;>intro h3
  .exact nh
  obtain⟨i,rfl⟩:∃i,j=i+1:=⟨j - 1,z7⟩
  refine go ?_;rw[show((i+1:Nat):Int) - 1=(i:Int)by omega];refine bi bO (xs:=p) (next:=λ_ _ g0 (OO:vI) hg0=>?_);refine gX bO (xs:=p) λ_ _ g' (vg1:vI) hg'=>?_;cases hg.symm.trans hg';refine gC (WX (a:=g0) (b:=g) (va:=OO) (vb:=vg1)) λ_ _=>?_;rw[<- Uy];refine gIf ?_ ?_<;>intro h4
  .refine go ?_;exact gQ false ⟨(λh=>by cases h),λh=>by have:=h.sorted i g0 g hg0 hg;omega⟩
  .exact fN
 have iR:j=p.length:=z7
 subst iR;rw[bU]at hall;refine go ?_;exact gQ true ⟨λ_=>⟨z7,hall,λi a b ha hb=>hs i a b (bq.1 hb).1 ha hb⟩,λ_=>rfl⟩
def aoo(hS:nZ k)(hP:wK p):
 fC prog 40 [.agg ⟨kZ k vh vs vr vc vu gh gc vn vl⟩,.agg ⟨[vp]⟩] (ai bO vp p::j6 k vh vs vr vc vu gh gc vn vl []) (λe:Int=>iV e) (λe=>(¬dH k->e=180)/\(dH k->¬age k p->e=190)/\(dH k->age k p->e=0)):=by
 refine gB 40 λB w0=>?_;refine go ?_;intro b2 b3;refine gC (aiW (k:=k) hS) λb hb=>?_;cases b with
 |false=>
  exact da
 |true=>
 have hK:=hb.1 rfl;clear hb;dsimp only[cond];refine gC (aiZ (k:=k) (p:=p) hS hP hK.kE) λb hb=>?_;cases b with
 |false=>
  refine go ?_;exact gQ 190 ⟨λh=>absurd hK h,λ_ _=>rfl,λ_ h=>by have:=hb.2 h;cases this⟩
 |true=>
  refine go ?_;exact gQ 0 ⟨λh=>absurd hK h,λ_ h=>absurd (hb.1 rfl) h,λ_ _=>rfl⟩
open Go.Ideal Kd Canon Gph
