/- Part. -/
import Derived.Test.YtignbinlipkmfaaGreatDoorLibZR
import Derived.Test.YtignbinlipkmfaaGreatDoorLibHR
import Derived.Test.YtignbinlipkmfaaGreatDoorIdealPR
set_option linter.all false
set_option maxRecDepth 10000
set_option maxHeartbeats 4000000
namespace Go.Proofs.YtignbinlipkmfaaGreatDoor
open Tryz (prog)
open Go.Ideal Kd
variable{vh vs vr vc vu:ah}{d:bK}
def atu(hT:vP d):bG prog (.func 50) [.agg ⟨iD d vh vs vr vc vu⟩] [] [] (nK d vh vs vr vc vu) (G8 d vh vs vr) (λ_=>[]) (G9 d vh vs vr) (PS d):=by
 have uK:vP (Kd.bO d):=⟨hT.s.bO,hT.w,hT.h,hT.holes⟩
 have hend:∀{e:Int} {vc vu gh gc vn vl:ah},e≠0->¬G7 d->PS d ⟨false,e,vc,vu,gh,gc,vn,vl⟩:=λhe hb=>⟨(λh=>by cases h),λ_=>⟨he,hb⟩⟩
 refine gB 50 λB w0=>?_;refine go ?_;intro b1 b2;refine gC (adK (d:=d) hT.s) λy hy=>?_;obtain⟨ok,e,v1,v2⟩:=y;cases ok with
 |false=>
  obtain⟨he,hno⟩:=hy.2 rfl;have he:e≠0:=he;dsimp only[cond,vK,ry,List.nil_append];refine go ?_;intro b4;exact j8
 |true=>
 obtain⟨he,hres⟩:=hy.1 rfl;have he:e=0:=he;subst he;clear hy;dsimp only[cond,vK,ry,List.cons_append,List.nil_append];refine go ?_;intro b4;refine go ?_;refine fo (aj ai vh (Kd.bO d).holes) (λw hw=>hw (aj ai vh d.holes) tg) ?_;refine fo (aj fG vs (Kd.bO d).symbols) (λw hw=>hw (aj fG vs d.symbols) tg) ?_;refine fo (aj fw vr (Kd.bO d).regions) (λw hw=>hw (aj fw vr d.regions) tg) ?_;generalize hd:Kd.bO d=r at uK⊢;refine fD (att (d:=r) (vc:=v1) (vu:=v2) uK) (next:=λe he=>?_);refine aC (λhne=>?_) (λhz=>?_)
 .refine go ?_;exact gQ ⟨false,e,v1,v2,v1,v1,v1,v1⟩ (hend hne λh=>hne (he.2 (by rw[<- hd];exact h.typ)))
 have hty:=he.1 (iX.1 hz);clear he hz;have hm:=hty.EP;have hr:=hty.zN;have hG:=KH hm;have hgo:eF (aT r):=⟨hm,rfl⟩
 have hrl:=uK.s.regs;refine go ?_;intro b6;refine gC (VV (s:=r.shape) (w:=r.w) (h:=r.h) (holes:=r.holes) (vh:=vh) uK.w uK.h uK.holes) λy hy=>?_;obtain⟨ok,gh,gc⟩:=y;cases ok with
 |false=>exact absurd (hy.2 hm) tg
 |true=>
 clear hy;dsimp only[cond,mkV,rQ];rw[show zK r.shape r.w r.h r.holes=aT r from rfl];dsimp only[jU,iW,List.cons_append,List.nil_append];refine gC (adB (g:=aT r) (vh:=gh) (vc:=gc) hG) λy hy2=>?_;obtain⟨vn,e⟩:=y;have he:e=0:=hy2.2 hgo;subst he;clear hy2;refine fo (aj (ay ai) vn (bR (aT r))) (λw hw=>hw (pM ((0:Int)=0) (aj (ay ai) vn (bR (aT r)))) tg rfl) ?_;dsimp only[zM];refine gF (ay ai) vn (bR (aT r)) λan cn en=>?_;subst en;refine gF fw vr r.regions λar cr er=>?_;subst er;refine go ?_;refine gK (ay (ay ai)) ?_;refine di (λy:Nat×ah=>8 - y.1) (λy=>[(7,iV (y.1:Int))]) (λy=>[pt b4 (.cells (iD r vh vs (.slice ar r.regions.length cr) v1 v2)),pt b6 (.cells (bL r vh vs (.slice ar r.regions.length cr) v1 v2 (iV (aT r).shape) (iV (aT r).w) (iV (aT r).h) gh gc (.slice an (bR (aT r)).length cn) y.2)),ap (ay (ay ai)) y.2 (jM (aT r) y.1)]) (λ_=>[]) (λy=>y.1<=8) (0,.slice none 0 0) (bH _) (hk:=tj) (body:=?_);rintro⟨k,vl⟩ hk;dsimp only at hk⊢;have hkl:=PP (aT r) k;refine aC ?_ ?_<;>intro h1
 .refine gC (ass (g:=aT r) (vh:=gh) (vc:=gc) (k:=(k:Int)) hG) λy hy=>?_;obtain⟨v4,e⟩:=y;have he:e=0:=hy.2 ⟨hgo,tf,tf⟩;subst he;dsimp only[PI,List.cons_append,List.nil_append];refine fo (aj (ay ai) v4 (dL (aT r) (k:Int))) (λw hw=>hw (pM ((0:Int)=0) (aj (ay ai) v4 (dL (aT r) (k:Int)))) tg rfl) ?_;refine gF (ay ai) v4 (dL (aT r) (k:Int)) λa4 c4 e4=>?_;subst e4;refine go ?_;intro b33;refine go ?_;refine fJ (xs:=jM (aT r) k) (ay (ay ai)) (dL (aT r) (k:Int)) (.slice a4 (dL (aT r) (k:Int)).length c4) tf (next:=λad=>?_);rw[<- ab3];refine go ?_;exact aO (k+1,.slice ad ((jM (aT r) k).length+1) ((jM (aT r) k).length+1)) (by show 8 - (k+1)<8 - k;omega) tE
 have Vk:k=8:=tf
 subst Vk;refine go ?_;refine di (λy:Nat×ah=>r.regions.length - y.1) (λy=>[(10,iV (y.1:Int))]) (λy=>[pt b4 (.cells (iD r vh vs (.slice ar r.regions.length cr) v1 v2)),pt b6 (.cells (bL r vh vs (.slice ar r.regions.length cr) v1 v2 (iV (aT r).shape) (iV (aT r).w) (iV (aT r).h) gh gc (.slice an (bR (aT r)).length cn) y.2)),ap (ay (ay ai)) y.2 (jM (aT r) 8++(r.regions.take y.1).map λr2=>eH (aT r) r2.lists)]) (λ_=>[]) (λy=>y.1<=r.regions.length) (0,vl) (bH _) (hk:=by rw[show jM (aT r) 8++(r.regions.take 0).map (λr2=>eH (aT r) r2.lists)=jM (aT r) 8 from iE _];repeat (first|exact aH.nil|(apply aH.cons;(focus (repeat (first|exact aB.here|apply aB.there)))))) (body:=?_);rintro⟨k,v2'⟩ hk;dsimp only at hk⊢;have hkl:(jM (aT r) 8++(r.regions.take k).map λr2=>eH (aT r) r2.lists).length=8+k:=by rw[fV,PP,bC,gM];omega
 refine aC ?_ ?_<;>intro h1
 .refine gX fw (xs:=r.regions) λ_ _ q (vr2:ah) KI=>?_;have hrm:=aU KI;obtain⟨hl1,hl2⟩:=uK.s.uG q hrm;obtain⟨⟨_,hro⟩,_⟩:=hr q hrm;refine gC (adD (g:=aT r) (rs:=q.lists) hG hl1 hl2) λy hy=>?_;obtain⟨v8,e⟩:=y;have he:e=0:=hy.2 ⟨hgo,hro⟩;subst he;dsimp only[PL,List.cons_append,List.nil_append];refine fo (aj (ay ai) v8 (eH (aT r) q.lists)) (λw hw=>hw (pM ((0:Int)=0) (aj (ay ai) v8 (eH (aT r) q.lists))) tg rfl) ?_;refine gF (ay ai) v8 (eH (aT r) q.lists) λa8 c8 e8=>?_;subst e8;refine go ?_;intro Vl;refine go ?_;have htk:jM (aT r) 8++(r.regions.take (k+1)).map (λr2=>eH (aT r) r2.lists)=(jM (aT r) 8++(r.regions.take k).map λr2=>eH (aT r) r2.lists)++[eH (aT r) q.lists]:=by
   rw[bU KI,ek,ww,iO]
  refine fJ (xs:=jM (aT r) 8++(r.regions.take k).map λr2=>eH (aT r) r2.lists) (ay (ay ai)) (eH (aT r) q.lists) (.slice a8 (eH (aT r) q.lists).length c8) tf (next:=λad=>?_);rw[<- htk];refine go ?_;exact aO (k+1,.slice ad ((jM (aT r) 8++(r.regions.take k).map λr2=>eH (aT r) r2.lists).length+1) ((jM (aT r) 8++(r.regions.take k).map λr2=>eH (aT r) r2.lists).length+1)) (by show r.regions.length - (k+1)<r.regions.length - k;omega) tE
 have hke:k=r.regions.length:=tf
 subst hke;rw[bP];rw[show jM (aT r) 8++r.regions.map (λr2=>eH (aT r) r2.lists)=mR r from rfl];refine gZ (gD (E:=ay (ay ai)) (v:=v2') (xs:=mR r)) ?_;refine go ?_;subst hd;refine gQ ⟨true,0,v1,v2,gh,gc,.slice an (bR (aT (Kd.bO d))).length cn,v2'⟩ ⟨λ_=>⟨rfl,hres,hty⟩,(λh=>by cases h)⟩ (hF:=?_);show Sub [aj bZ v1 (Kd.bO d).aQ,aj bi v2 (Kd.bO d).rules,aj ai gh (aT (Kd.bO d)).holes,aj ai gc (aT (Kd.bO d)).cells,aj (ay ai) (.slice an (bR (aT (Kd.bO d))).length cn) (bR (aT (Kd.bO d))),aj (ay (ay ai)) v2' (mR (Kd.bO d))] _;exact .cons tg (.cons tg (.cons tg (.cons tg (.cons tg (.cons tg .nil)))))
def atv{x y:aZ}{h1 s1 r1 c1 u1 CU CV n1 l1 h2 s2 r2 c2 u2 CW CY n2 l2:ah}(hS:rA x):dF prog 51 [.agg ⟨og x h1 s1 r1 c1 u1 CU CV n1 l1⟩,.agg ⟨og y h2 s2 r2 c2 u2 CW CY n2 l2⟩]
 (j6 x h1 s1 r1 c1 u1 CU CV n1 l1 (j6 y h2 s2 r2 c2 u2 CW CY n2 l2 [])) (.bool (decide (x=y))):=by
 have e1:=hS.d.s;have e2:=hS.g;obtain⟨e4,e5⟩:=hS.aR;obtain⟨e6,e7⟩:=hS.lists;clear hS;obtain⟨xd,xg,xn,xl⟩:=x;obtain⟨yd,yg,yn,yl⟩:=y;dsimp only at e1 e2 e4 e5 e6 e7;dsimp only[og,j6];refine gB 51 λB w0=>?_;refine gF (ay (ay ai)) l1 xl λa1 k1 q1=>?_;subst q1;refine gF (ay (ay ai)) l2 yl λa2 k2 q2=>?_;subst q2;refine go ?_;intro b2 b3;refine gP b2 ?_;refine gP b3 ?_;refine aC ?_ ?_<;>intro h
 .refine aP ?_;rw[aW (λe=>by cases e;omega)];rfl
 have hlen:xl.length=yl.length:=tf
 clear h;refine gN xl.length 5 (λk=>k<=xl.length/\xl.take k=yl.take k) ⟨tf,tg⟩ ?_;rintro k ⟨hk,hsame⟩;refine aC ?_ ?_<;>intro h2
 .refine gX (ay (ay ai)) (xs:=xl) λ_ _ p (vp:ah) hx=>?_;refine gX (ay (ay ai)) (xs:=yl) λ_ _ q (vq:ah) hy=>?_;have hpl:=e7 p (aU hx);refine gC (adP (xs:=p) (ys:=q) hpl.1 hpl.2) λ_ _=>?_;refine go ?_;refine fP rfl (λh3=>?_) (λh3=>?_)
  .exact cQ
  exact cC
 have hke:k=xl.length:=tf
 subst hke;rw[bP,hlen,bP]at hsame;clear hk h2;subst hsame;refine go ?_;have hdd:dF prog 92 [.agg ⟨iD xd h1 s1 r1 c1 u1⟩,.agg ⟨iD yd h2 s2 r2 c2 u2⟩] [aj ai h1 xd.holes,aj fG s1 xd.symbols,aj fw r1 xd.regions,aj bZ c1 xd.aQ,aj bi u1 xd.rules,aj ai h2 yd.holes,aj fG s2 yd.symbols,aj fw r2 yd.regions,aj bZ c2 yd.aQ,aj bi u2 yd.rules] (.bool (decide (xd=yd))):=asI e1;refine fD hdd (next:=λ_ _=>?_);refine gH ?_ ?_<;>intro k6
 .exact gj
 refine gC (asG (x:=xg) (y:=yg) (h1:=CU) (c1:=CV) (h2:=CW) (c2:=CY) e2) λ_ _=>?_;refine gH ?_ ?_<;>intro k7
 .exact gg
 refine gC (adP (xs:=xn) (ys:=yn) e4 e5) λ_ _=>?_;refine aP ?_;subst k6 k7;rw[show decide (aZ.mk xd xg xn xl=aZ.mk xd xg yn xl)=decide (xn=yn)from qx.2 ⟨λh=>by cases h;rfl,λh=>by rw[h]⟩];rfl
variable{gh gc vn vl:ah}{k:aZ}
def atw(hS:rA k):fC prog 25 [.agg ⟨og k vh vs vr vc vu gh gc vn vl⟩] (j6 k vh vs vr vc vu gh gc vn vl []) (λb:Bool=>iV (cond b 0 180)) (λb=>b=true↔dz k):=by
 refine gB 25 λB w0=>?_;refine go ?_;intro b1;refine gC (atu (d:=k.decl) hS.d) λy hy=>?_;obtain⟨ok,e,v1,v2,v3,v4,v5,v6⟩:=y;cases ok with
 |false=>
  exact eM
 |true=>
 obtain⟨he,hb⟩:=hy.1 rfl;have he:e=0:=he;subst he;clear hy;dsimp only[cond,G8,G9,List.cons_append,List.nil_append];refine go ?_;intro b3;refine go ?_;have hsm:=atv (x:=k) (y:=lS (Kd.bO k.decl)) (h1:=vh) (s1:=vs) (r1:=vr) (c1:=vc) (u1:=vu) (CU:=gh) (CV:=gc) (n1:=vn) (l1:=vl) (h2:=vh) (s2:=vs) (r2:=vr) (c2:=v1) (u2:=v2) (CW:=v3) (CY:=v4) (n2:=v5) (l2:=v6) hS;refine fo (aj ai vh (lS (Kd.bO k.decl)).decl.holes) (λw hw=>hw (aj ai vh k.decl.holes) tg) ?_;refine fo (aj fG vs (lS (Kd.bO k.decl)).decl.symbols) (λw hw=>hw (aj fG vs k.decl.symbols) tg) ?_;refine fo (aj fw vr (lS (Kd.bO k.decl)).decl.regions) (λw hw=>hw (aj fw vr k.decl.regions) tg) ?_;refine fo (aj bZ v1 (lS (Kd.bO k.decl)).decl.aQ) (λw hw=>hw (aj bZ v1 (Kd.bO k.decl).aQ) tg) ?_;refine fo (aj bi v2 (lS (Kd.bO k.decl)).decl.rules) (λw hw=>hw (aj bi v2 (Kd.bO k.decl).rules) tg) ?_;refine fo (aj ai v3 (lS (Kd.bO k.decl)).grid.holes) (λw hw=>hw (aj ai v3 (aT (Kd.bO k.decl)).holes) tg) ?_;refine fo (aj ai v4 (lS (Kd.bO k.decl)).grid.cells) (λw hw=>hw (aj ai v4 (aT (Kd.bO k.decl)).cells) tg) ?_;refine fo (aj (ay ai) v5 (lS (Kd.bO k.decl)).aR) (λw hw=>hw (aj (ay ai) v5 (bR (aT (Kd.bO k.decl)))) tg) ?_;refine fo (aj (ay (ay ai)) v6 (lS (Kd.bO k.decl)).lists) (λw hw=>hw (aj (ay (ay ai)) v6 (mR (Kd.bO k.decl))) tg) ?_;refine fD hsm (next:=λ_ _=>?_);refine go ?_;refine fP rfl (λh3=>?_) (λh3=>?_)
 .exact pD
 .exact rj
open Go.Ideal Kd Canon
def We{v:ah}{xs:ae (ae Int)}(hl:xs.length<2^63)(hll:∀l∈xs,l.length<2^63):fC prog 60 [v] [aj (ay ai) v xs] (λn:Int=>iV n) (λn=>0<=n/\n<=2001):=by
 refine gB 60 λB w0=>?_;refine gF (ay ai) v xs λa1 c1 e1=>?_;subst e1;refine gL (λx:Nat×Int=>xs.length - x.1) (λx=>[(4,iV (x.1:Int)),(3,iV x.2)]) (λx=>x.1<=xs.length/\0<=x.2/\x.2<=4003) (0,0) ⟨bH _,tr,tr⟩ ?_;rintro⟨i,n⟩ ⟨hi,h0,h1⟩;dsimp only at hi h0 h1⊢;refine gH ?_ ?_<;>intro h2
 .exact nF
 refine aC ?_ ?_<;>intro h3
 rotate_left
 .exact nF
 refine go ?_;refine(cZ rfl rfl (Gr rfl rfl)).h ?_;refine gX (ay ai) (xs:=xs) λ_ _ x (vx:ah) hx=>?_;refine go ?_;refine(cZ rfl rfl (Gr rfl rfl)).h ?_;refine go ?_;exact aO (i+1,min n 2001+1+min (x.length:Int) 2001) (by show xs.length - (i+1)<xs.length - i;omega) ⟨by dsimp only;omega,by dsimp only;omega,z7⟩
structure Wh(d:bK):Prop where
 holes:d.holes.length<=40
 dK:d.symbols.length<=20
 regs:d.regions.length<=8
 jS:d.aQ.length<=8
 lH:d.rules.length<=20
def adV(hr:∀r∈d.regions,r.lists.length<2^63/\∀l∈r.lists,l.length<2^63)(hn:∀r∈d.rules,r.names.length<2^63/\r.others.length<2^63):
 fC prog 61 [.agg ⟨iD d vh vs vr vc vu⟩] (nK d vh vs vr vc vu) (λb:Bool=>.bool b) (λb=>b=true->Wh d):=by
 refine gB 61 λB w0=>?_;dsimp only[nK];refine gF fw vr d.regions λar cr er=>?_;subst er;refine gF bi vu d.rules λau cu eu=>?_;subst eu;refine go ?_;intro b1;refine gP b1 ?_;refine gH ?_ ?_<;>intro h1
 rotate_left
 .exact cH
 refine gH ?_ ?_<;>intro h2
 rotate_left
 .exact cH
 refine gH ?_ ?_<;>intro h3
 rotate_left
 .exact cH
 refine gH ?_ ?_<;>intro h4
 rotate_left
 .exact cH
 refine aC ?_ ?_<;>intro h5
 .exact cH
 have hD:Wh d:=⟨tf,tf,tf,tf,tf⟩
 refine gN d.regions.length 3 (λj=>j<=d.regions.length) (bH _) ?_;intro j hj;refine aC ?_ ?_<;>intro a1
 .have hx:d.regions[j]? =some (d.regions[j]'(tf)):=bY _;generalize d.regions[j]'(tf)=x at hx;obtain⟨hx1,hx2⟩:=hr x (aU hx);refine gX fw (xs:=d.regions) λ_ _ x1 (vl1:ah) hx1=>?_;cases hx.symm.trans hx1;refine aC ?_ ?_<;>intro a2
  .exact cH
  refine gN x.lists.length 4 (λi=>i<=x.lists.length) (bH _) ?_;intro i hi;refine gX fw (xs:=d.regions) λ_ _ x2 (P8:ah) hx2=>?_;cases hx.symm.trans hx2;refine aC ?_ ?_<;>intro a3
  .refine gX fw (xs:=d.regions) λ_ _ x3 (vl3:ah) hx3=>?_;cases hx.symm.trans hx3;refine gX (ay ai) (xs:=x.lists) λ_ _ l (vl4:ah) hl=>?_;refine aC ?_ ?_<;>intro a4
   .exact cH
   refine go ?_;exact aO (i+1) (by show x.lists.length - (i+1)<x.lists.length - i;omega) tI
  refine go ?_;exact aO (j+1) (by show d.regions.length - (j+1)<d.regions.length - j;omega) tM
 refine gN d.rules.length 5 (λj=>j<=d.rules.length) (bH _) ?_;intro j hj;refine aC ?_ ?_<;>intro a1
 .have hx:d.rules[j]? =some (d.rules[j]'(tf)):=bY _;generalize d.rules[j]'(tf)=x at hx;obtain⟨hx1,hx2⟩:=hn x (aU hx);refine gX bi (xs:=d.rules) λ_ _ x1 (w:ah×ah) hx1=>?_;cases hx.symm.trans hx1;refine gH ?_ ?_<;>intro a2
  rotate_left
  .exact cH
  refine gX bi (xs:=d.rules) λ_ _ x2 (w2:ah×ah) hx2=>?_;cases hx.symm.trans hx2;refine aC ?_ ?_<;>intro a3
  .exact cH
  refine go ?_;exact aO (j+1) (by show d.rules.length - (j+1)<d.rules.length - j;omega) tM
 refine go ?_;exact gQ true (λ_=>hD)
structure Wi(k:aZ):Prop where
 d:Wh k.decl
 cells:k.grid.cells.length<=256
 PT:k.grid.holes.length<=300
def rA.ofE(hB:He k)(hF:Wi k):rA k:=by
 have f1:=hF.cells;have f2:=hF.PT;have f5:=hF.d.dK;have f6:=hF.d.regs;have f7:=hF.d.jS;have f8:=hF.d.lH;have f9:=hF.d.holes;exact iv
def aty(hB:He k):fC prog 31 [.agg ⟨og k vh vs vr vc vu gh gc vn vl⟩] (j6 k vh vs vr vc vu gh gc vn vl []) (λb:Bool=>.bool b) (λb=>b=true->Wi k):=by
 obtain⟨n1,n2⟩:=hB.aR;obtain⟨l1,l2⟩:=hB.lists;refine gB 31 λB w0=>?_;dsimp only[j6];refine gF (ay (ay ai)) vl k.lists λal cl el=>?_;subst el;refine go ?_;intro b1;refine gL (λx:Nat×Int=>k.lists.length - x.1) (λx=>[(4,iV (x.1:Int)),(3,iV x.2)]) (λx=>x.1<=k.lists.length/\0<=x.2/\x.2<=4001) (0,0) ⟨bH _,tr,tr⟩ ?_;rintro⟨i,n⟩ ⟨hi,h0,h1⟩;dsimp only at hi h0 h1⊢;refine gH ?_ ?_<;>intro h2
 .exact ta
 refine aC ?_ ?_<;>intro h3
 rotate_left
 .exact ta
 refine gX (ay (ay ai)) (xs:=k.lists) λ_ _ x (vx:ah) hx=>?_;obtain⟨x1,x2⟩:=l2 x (aU hx);refine gC (We (xs:=x) x1 x2) λm hm=>?_;refine go ?_;exact aO (i+1,n+m) DG ⟨by dsimp only;omega,by dsimp only;omega,z7⟩
