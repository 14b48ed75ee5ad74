/-
  Part LibAAW.
-/
import Derived.Test.YtfakljdleblkoaaGreatLibZW
import Derived.Test.YtfakljdleblkoaaGreatLibLW
import Derived.Test.YtfakljdleblkoaaGreatLibKW
set_option linter.all false
set_option maxRecDepth 10000
set_option maxHeartbeats 4000000
namespace Go.Proofs.YtfakljdleblkoaaGreat
open Go.Ideal Kd
variable{vh vs vr vc vu:Value}
theorem ah8{d:bE}(hT:uK d):aU Tryz.prog (.func 54) [.agg ⟨gu d vh vs vr vc vu⟩] [] [] (lZ d vh vs vr vc vu) (Cz d vh vs vr) (λ_=>[]) (CB d vh vs vr) (Jo d):=by
 have uL:uK (Kd.bF d):=⟨hT.s.bF,hT.w,hT.h,hT.holes⟩
 have hend:∀{e:Int} {vc vu gh gc vn vl:Value},e≠0->¬Fb d->Jo d ⟨false,e,vc,vu,gh,gc,vn,vl⟩:=λhe hb=>⟨(λh=>by cases h),λ_=>⟨he,hb⟩⟩
 refine aH _ (aN 54) λB w0=>?_;refine go ?_;intro b1 b2;refine go ?_;refine ax (VY (d:=d) hT.s) (next:=λy hy=>?_);obtain⟨ok,e,v1,v2⟩:=y;cases ok with
 |false=>
  obtain⟨he,hno⟩:=hy.2 rfl;have he:e≠0:=he;dsimp only[cond,rG,ou,List.nil_append];refine go ?_;intro b4;exact kA
 |true=>
 obtain⟨he,hres⟩:=hy.1 rfl;have he:e=0:=he;subst he;clear hy;dsimp only[cond,rG,ou,List.cons_append,List.nil_append];refine go ?_;intro b4;refine go ?_;refine fK (ai ae vh (Kd.bF d).holes) (λw hw=>hw (ai ae vh d.holes) vm) ?_;refine fK (ai eP vs (Kd.bF d).symbols) (λw hw=>hw (ai eP vs d.symbols) vm) ?_;refine fK (ai eZ vr (Kd.bF d).regions) (λw hw=>hw (ai eZ vr d.regions) vm) ?_;generalize hd:Kd.bF d=r at uL⊢;refine ax (ah7 (d:=r) (vc:=v1) (vu:=v2) uL) (next:=λe he=>?_);refine go ?_;refine az rfl (λhne=>?_) (λhz=>?_)
 ·refine go ?_;exact ah ⟨false,e,v1,v2,v1,v1,v1,v1⟩ (hv:=rfl) (hp:=hend hne λh=>hne (he.2 (by rw[<- hd];exact h.typ)))
 have hty:=he.1 (gT.1 hz);clear he hz;have hm:=hty.Cy;have hr:=hty.yX;have hG:=E9 hm;have hgo:eD (aO r):=⟨hm,rfl⟩
 have hrl:=uL.s.regs;refine go ?_;intro b6;refine go ?_;refine ax (Oi (s:=r.shape) (w:=r.w) (h:=r.h) (holes:=r.holes) (vh:=vh) uL.w uL.h uL.holes) (next:=λy hy=>?_);obtain⟨ok,gh,gc⟩:=y;cases ok with
 |false=>exact absurd (hy.2 hm) vm
 |true=>
 clear hy;dsimp only[cond,mkV,oU];rw[show vX r.shape r.w r.h r.holes=aO r from rfl];dsimp only[jk,iH,List.cons_append,List.nil_append];refine go ?_;refine ax (VO (g:=aO r) (vh:=gh) (vc:=gc) hG) (next:=λy hy2=>?_);obtain⟨vn,e⟩:=y;have he:e=0:=hy2.2 hgo;subst he;clear hy2;refine fK (ai (ak ae) vn (bI (aO r))) (λw hw=>hw (mQ ((0:Int)=0) (ai (ak ae) vn (bI (aO r)))) vm rfl) ?_;dsimp only[vY];refine aT (E:=ak ae) (v:=vn) (xs:=bI (aO r)) vm λan cn en=>?_;subst en;refine aT (E:=eZ) (v:=vr) (xs:=r.regions) vm λar cr er=>?_;subst er;refine go ?_;refine gH (ak (ak ae)) ?_;refine aW (λy:Nat×Value=>8 - y.1) (λy=>[(7,.int .i64 (y.1:Int))]) (λy=>[pt b4 (.cells (gu r vh vs (.slice ar r.regions.length cr) v1 v2)),pt b6 (.cells (bL r vh vs (.slice ar r.regions.length cr) v1 v2 (.int .i64 (aO r).shape) (.int .i64 (aO r).w) (.int .i64 (aO r).h) gh gc (.slice an (bI (aO r)).length cn) y.2)),ap (ak (ak ae)) y.2 (iX (aO r) y.1)]) (λ_=>[]) (λy=>y.1<=8) (0,.slice none 0 0) (bQ _) (hk:=we) (body:=?_);rintro⟨k,vl⟩ hk;dsimp only at hk⊢;have hkl:=Jn (aO r) k;refine go ?_;refine az rfl (λh1=>?_) (λh1=>?_)
 ·refine go ?_;refine ax (aha (g:=aO r) (vh:=gh) (vc:=gc) (k:=(k:Int)) hG) (next:=λy hy=>?_);obtain⟨v4,e⟩:=y;have he:e=0:=hy.2 ⟨hgo,vj,vj⟩;subst he;dsimp only[Jj,List.cons_append,List.nil_append];refine fK (ai (ak ae) v4 (dx (aO r) (k:Int))) (λw hw=>hw (mQ ((0:Int)=0) (ai (ak ae) v4 (dx (aO r) (k:Int)))) vm rfl) ?_;refine aT (E:=ak ae) (v:=v4) (xs:=dx (aO r) (k:Int)) vm λa4 c4 e4=>?_;subst e4;refine go ?_;intro b33;refine go ?_;refine fw (xs:=iX (aO r) k) (ak (ak ae)) (dx (aO r) (k:Int)) (.slice a4 (dx (aO r) (k:Int)).length c4) vj (next:=λad=>?_);rw[<- Va];refine go ?_;exact aM (k+1,.slice ad ((iX (aO r) k).length+1) ((iX (aO r) k).length+1)) (by show 8 - (k+1)<8 - k;omega) wA
 have NR:k=8:=vj
 subst NR;refine go ?_;refine aW (λy:Nat×Value=>r.regions.length - y.1) (λy=>[(10,.int .i64 (y.1:Int))]) (λy=>[pt b4 (.cells (gu r vh vs (.slice ar r.regions.length cr) v1 v2)),pt b6 (.cells (bL r vh vs (.slice ar r.regions.length cr) v1 v2 (.int .i64 (aO r).shape) (.int .i64 (aO r).w) (.int .i64 (aO r).h) gh gc (.slice an (bI (aO r)).length cn) y.2)),ap (ak (ak ae)) y.2 (iX (aO r) 8++(r.regions.take y.1).map λr2=>dU (aO r) r2.lists)]) (λ_=>[]) (λy=>y.1<=r.regions.length) (0,vl) (bQ _) (hk:=by rw[show iX (aO r) 8++(r.regions.take 0).map (λr2=>dU (aO r) r2.lists)=iX (aO r) 8 from iI _];repeat (first|exact aI.nil|(apply aI.cons;(focus (repeat (first|exact ay.here|apply ay.there)))))) (body:=?_);rintro⟨k,v2'⟩ hk;dsimp only at hk⊢;have hkl:(iX (aO r) 8++(r.regions.take k).map λr2=>dU (aO r) r2.lists).length=8+k:=by rw[iE,Jn,cz,ig];omega
 refine go ?_;refine az rfl (λh1=>?_) (λh1=>?_)
 ·refine go ?_;refine bq eZ (xs:=r.regions) (next:=λ_ _ q (NS:Value) Fa=>?_);have hrm:=aP Fa;obtain⟨hl1,hl2⟩:=uL.s.vU q hrm;obtain⟨⟨_,hro⟩,_⟩:=hr q hrm;refine go ?_;refine ax (VQ (g:=aO r) (vh:=gh) (vc:=gc) (vr:=NS) (rs:=q.lists) hG hl1 hl2) (next:=λy hy=>?_);obtain⟨v8,e⟩:=y;have he:e=0:=hy.2 ⟨hgo,hro⟩;subst he;dsimp only[Jl,List.cons_append,List.nil_append];refine fK (ai (ak ae) v8 (dU (aO r) q.lists)) (λw hw=>hw (mQ ((0:Int)=0) (ai (ak ae) v8 (dU (aO r) q.lists))) vm rfl) ?_;refine aT (E:=ak ae) (v:=v8) (xs:=dU (aO r) q.lists) vm λa8 c8 e8=>?_;subst e8;refine go ?_;intro b71;refine go ?_;have htk:iX (aO r) 8++(r.regions.take (k+1)).map (λr2=>dU (aO r) r2.lists)=(iX (aO r) 8++(r.regions.take k).map λr2=>dU (aO r) r2.lists)++[dU (aO r) q.lists]:=by
   rw[bU Fa,fD,r9,fU]
  refine fw (xs:=iX (aO r) 8++(r.regions.take k).map λr2=>dU (aO r) r2.lists) (ak (ak ae)) (dU (aO r) q.lists) (.slice a8 (dU (aO r) q.lists).length c8) vj (next:=λad=>?_);rw[<- htk];refine go ?_;exact aM (k+1,.slice ad ((iX (aO r) 8++(r.regions.take k).map λr2=>dU (aO r) r2.lists).length+1) ((iX (aO r) 8++(r.regions.take k).map λr2=>dU (aO r) r2.lists).length+1)) (by show r.regions.length - (k+1)<r.regions.length - k;omega) wA
 have hke:k=r.regions.length:=vj
 subst hke;rw[bJ];rw[show iX (aO r) 8++r.regions.map (λr2=>dU (aO r) r2.lists)=lc r from rfl];refine bi (fQ (E:=ak (ak ae)) (v:=v2') (xs:=lc r)) (h:=?_);refine go ?_;subst hd;refine ah ⟨true,0,v1,v2,gh,gc,.slice an (bI (aO (Kd.bF d))).length cn,v2'⟩ (hv:=rfl) (hp:=⟨λ_=>⟨rfl,hres,hty⟩,(λh=>by cases h)⟩) (hF:=?_);show Sub [ai bP v1 (Kd.bF d).aJ,ai aY v2 (Kd.bF d).rules,ai ae gh (aO (Kd.bF d)).holes,ai ae gc (aO (Kd.bF d)).cells,ai (ak ae) (.slice an (bI (aO (Kd.bF d))).length cn) (bI (aO (Kd.bF d))),ai (ak (ak ae)) v2' (lc (Kd.bF d))] _;exact .cons vm (.cons vm (.cons vm (.cons vm (.cons vm (.cons vm .nil)))))
theorem ah9{x y:bS}{h1 s1 r1 c1 u1 yY yZ n1 l1 h2 s2 r2 c2 u2 y5 y7 n2 l2:Value}(hS:tC x):dL Tryz.prog 58 [.agg ⟨lC x h1 s1 r1 c1 u1 yY yZ n1 l1⟩,.agg ⟨lC y h2 s2 r2 c2 u2 y5 y7 n2 l2⟩]
 (ku x h1 s1 r1 c1 u1 yY yZ n1 l1 (ku y h2 s2 r2 c2 u2 y5 y7 n2 l2 [])) (.bool (decide (x=y))):=by
 have e1:=hS.d.s;have e2:=hS.g;obtain⟨e4,e5⟩:=hS.aD;obtain⟨e6,e7⟩:=hS.lists;clear hS;obtain⟨xd,xg,xn,xl⟩:=x;obtain⟨yd,yg,yn,yl⟩:=y;dsimp only at e1 e2 e4 e5 e6 e7;dsimp only[lC,ku];refine aH _ (aN 58) λB w0=>?_;refine aT (E:=ak (ak ae)) (v:=l1) (xs:=xl) vm λa1 k1 q1=>?_;subst q1;refine aT (E:=ak (ak ae)) (v:=l2) (xs:=yl) vm λa2 k2 q2=>?_;subst q2;refine go ?_;intro b2 b3;refine bi (dR (b:=b2)) (h:=?_);refine bi (dR (b:=b3)) (h:=?_);refine go ?_;refine az rfl (λh=>?_) (λh=>?_)
 ·refine go ?_;refine ah () (hv:=?_) (hp:=trivial);rw[aS (λe=>by cases e;omega)];rfl
 have hlen:xl.length=yl.length:=vj
 clear h;refine go ?_;refine aW (λk=>xl.length - k) (λk:Nat=>[(5,.int .i64 (k:Int))]) (λ_=>[]) (λ_=>[]) (λk=>k<=xl.length/\xl.take k=yl.take k) 0 ⟨vj,vm⟩ (body:=?_);rintro k ⟨hk,hsame⟩;refine go ?_;refine az rfl (λh2=>?_) (λh2=>?_)
 ·refine go ?_;refine bq (ak (ak ae)) (xs:=xl) (next:=λ_ _ p (vp:Value) hx=>?_);refine go ?_;refine bq (ak (ak ae)) (xs:=yl) (next:=λ_ _ q (vq:Value) hy=>?_);have hpl:=e7 p (aP hx);refine go ?_;refine ax (V6 (xs:=p) (ys:=q) hpl.1 hpl.2) (next:=λ_ _=>?_);exact cj
 have hke:k=xl.length:=vj
 subst hke;rw[bJ,hlen,bJ]at hsame;clear hk h2;subst hsame;refine go ?_;have hdd:dL Tryz.prog 137 [.agg ⟨gu xd h1 s1 r1 c1 u1⟩,.agg ⟨gu yd h2 s2 r2 c2 u2⟩] [ai ae h1 xd.holes,ai eP s1 xd.symbols,ai eZ r1 xd.regions,ai bP c1 xd.aJ,ai aY u1 xd.rules,ai ae h2 yd.holes,ai eP s2 yd.symbols,ai eZ r2 yd.regions,ai bP c2 yd.aJ,ai aY u2 yd.rules] (.bool (decide (xd=yd))):=ahq e1;refine ax hdd (next:=λ_ _=>?_);refine go ?_;refine gG (λk6=>?_) (λk6=>?_)
 ·exact eK
 refine go ?_;refine ax (aho (x:=xg) (y:=yg) (h1:=yY) (c1:=yZ) (h2:=y5) (c2:=y7) e2) (next:=λ_ _=>?_);refine go ?_;refine gG (λk7=>?_) (λk7=>?_)
 ·exact eJ
 refine go ?_;refine ax (V6 (xs:=xn) (ys:=yn) e4 e5) (next:=λ_ _=>?_);refine go ?_;refine ah () (hv:=?_) (hp:=trivial);subst k6 k7;rw[show decide (bS.mk xd xg xn xl=bS.mk xd xg yn xl)=decide (xn=yn)from nS.2 ⟨λh=>by cases h;rfl,λh=>by rw[h]⟩];rfl
variable{gh gc vn vl:Value}{k:bS}
theorem Wi(hS:tC k):aU Tryz.prog (.func 32) [.agg ⟨lC k vh vs vr vc vu gh gc vn vl⟩] [] [] (ku k vh vs vr vc vu gh gc vn vl []) (λb:Bool=>.int .i64 (cond b 0 180)) (λ_=>[]) (λ_=>[]) (λb=>b=true↔eF k):=by
 refine aH _ (aN 32) λB w0=>?_;refine go ?_;intro b1;refine go ?_;refine ax (ah8 (d:=k.decl) hS.d) (next:=λy hy=>?_);obtain⟨ok,e,v1,v2,v3,v4,v5,v6⟩:=y;cases ok with
 |false=>
  exact fp
 |true=>
 obtain⟨he,hb⟩:=hy.1 rfl;have he:e=0:=he;subst he;clear hy;dsimp only[cond,Cz,CB,List.cons_append,List.nil_append];refine go ?_;intro b3;refine go ?_;have hsm:=ah9 (x:=k) (y:=j6 (Kd.bF k.decl)) (h1:=vh) (s1:=vs) (r1:=vr) (c1:=vc) (u1:=vu) (yY:=gh) (yZ:=gc) (n1:=vn) (l1:=vl) (h2:=vh) (s2:=vs) (r2:=vr) (c2:=v1) (u2:=v2) (y5:=v3) (y7:=v4) (n2:=v5) (l2:=v6) hS;refine fK (ai ae vh (j6 (Kd.bF k.decl)).decl.holes) (λw hw=>hw (ai ae vh k.decl.holes) vm) ?_;refine fK (ai eP vs (j6 (Kd.bF k.decl)).decl.symbols) (λw hw=>hw (ai eP vs k.decl.symbols) vm) ?_;refine fK (ai eZ vr (j6 (Kd.bF k.decl)).decl.regions) (λw hw=>hw (ai eZ vr k.decl.regions) vm) ?_;refine fK (ai bP v1 (j6 (Kd.bF k.decl)).decl.aJ) (λw hw=>hw (ai bP v1 (Kd.bF k.decl).aJ) vm) ?_;refine fK (ai aY v2 (j6 (Kd.bF k.decl)).decl.rules) (λw hw=>hw (ai aY v2 (Kd.bF k.decl).rules) vm) ?_;refine fK (ai ae v3 (j6 (Kd.bF k.decl)).grid.holes) (λw hw=>hw (ai ae v3 (aO (Kd.bF k.decl)).holes) vm) ?_;refine fK (ai ae v4 (j6 (Kd.bF k.decl)).grid.cells) (λw hw=>hw (ai ae v4 (aO (Kd.bF k.decl)).cells) vm) ?_;refine fK (ai (ak ae) v5 (j6 (Kd.bF k.decl)).aD) (λw hw=>hw (ai (ak ae) v5 (bI (aO (Kd.bF k.decl)))) vm) ?_;refine fK (ai (ak (ak ae)) v6 (j6 (Kd.bF k.decl)).lists) (λw hw=>hw (ai (ak (ak ae)) v6 (lc (Kd.bF k.decl))) vm) ?_;refine ax hsm (next:=λ_ _=>?_);refine go ?_;refine eO rfl (λh3=>?_) (λh3=>?_)
 ·exact sx
 ·exact s9
open Go.Ideal Kd Canon
structure am5(d:bE):Prop where
 holes:d.holes.length<=40
 dJ:d.symbols.length<=20
 regs:d.regions.length<=8
 jR:d.aJ.length<=8
 lQ:d.rules.length<=20
structure an2(k:bS):Prop where
 d:am5 k.decl
 cells:k.grid.cells.length<=256
 Vf:k.grid.holes.length<=300
theorem akJ{l:List Int}{x:Int}(h1:(l.length:Int)=1)(hx:l[0]? =some x){Q:Int->Prop}:(∀y∈l,Q y)↔Q x:=by
 match l,h1,hx with
 |[a],_,hx=>cases hx;simp
 |[],h1,_=>cases h1
 |_::_::_,h1,_=>simp at h1;omega
theorem am6{g:Clue}{vv:Value}(hS:tC k)(hF:TD k)(hv:g.values.length<9223372036854775808):
 aU Tryz.prog (.func 150) [.agg ⟨lC k vh vs vr vc vu gh gc vn vl⟩,aeQ g vv] [] [] (ai ae vv g.values::ku k vh vs vr vc vu gh gc vn vl []) (λb:Bool=>.bool b) (λ_=>[]) (λ_=>[]) (λb=>b=true↔EG k g):=by
 have hcl:=hS.d.s.jR;have hsl:=hS.d.s.dJ;refine aH _ (aN 150) λB w0=>?_;refine aT (E:=bP) (v:=vc) (xs:=k.decl.aJ) vm λac cc ec=>?_;subst ec;refine aT (E:=eP) (v:=vs) (xs:=k.decl.symbols) vm λmh cs1 es1=>?_;subst es1;refine aT (E:=ak (ak ae)) (v:=vl) (xs:=k.lists) vm λal cl el=>?_;subst el;refine aT (E:=ae) (v:=vv) (xs:=g.values) vm λav cv ev1=>?_;subst ev1;refine go ?_;intro b2 b3;refine bi (dR (b:=b2)) (h:=?_);refine bi (dR (b:=b3)) (h:=?_);refine go ?_;refine gG (λh1=>?_) (λh1=>?_)
 rotate_left
 ·exact qq
 refine go ?_;refine az rfl (λh2=>?_) (λh2=>?_)
 ·exact ov
 obtain⟨ci,hci⟩:=iO (show 0<=g.aQ by omega);have hg0:0<=g.aQ:=vj
 have Zb:ci<k.decl.aJ.length:=vj
 have htn:g.aQ.toNat=ci:=vj
 refine go ?_;rw[hci];refine bq bP (xs:=k.decl.aJ) (next:=λ_ _ c (_:Unit) hc=>?_);obtain⟨hf0,hf1⟩:=hF c (aP hc);refine go ?_;intro b5;refine go ?_;refine gG (λh3=>?_) (λh3=>?_)
 rotate_left
 ·exact pA
 refine go ?_;obtain⟨fi,hfi⟩:=iO hf0;have aiQ:c.family.toNat=fi:=vj
 rw[hfi];refine bq (ak (ak ae)) (xs:=k.lists) (next:=λ_ _ ls (vls:Value) hls=>?_);refine go ?_;refine az rfl (λh4=>?_) (λh4=>?_)
 ·exact lP
 have hR:∀b:Bool,(b=true↔((c.type=1/\g.values.length=1/\∀x∈g.values,0<=x/\x<=(k.decl.symbols.length:Int) - 1)\/(c.type=2/\g.values.length=1/\∀x∈g.values,c.lo<=x/\x<=c.hi)\/
  (c.type≠1/\c.type≠2/\g.values.length<=8/\∀x∈g.values,1<=x/\x<=256)))->(b=true↔EG k g):=λb hb=>by
  rw[hb];refine⟨λh=>⟨c,ls,hg0,by rw[htn];exact hc,by rw[aiQ];exact hls,vj,vj,h⟩,λ⟨c',l',_,q1,_,_,_,h⟩=>?_⟩;rw[htn,hc]at q1;cases q1;exact h
 refine go ?_;refine az rfl (λh5=>?_) (λh5=>?_)
 ·refine go ?_;refine gG (λh6=>?_) (λh6=>?_)
  ·exact ez
  refine go ?_;intro _ _ x hx;refine go ?_;have ha:=λQ=>akJ (Q:=Q) h6 hx;refine gG (λh7=>?_) (λh7=>?_)
  ·exact oB
  refine go ?_;intro _ _ x' hx';cases hx.symm.trans hx';refine go ?_;refine ah (decide (x<(k.decl.symbols.length:Int))) (hv:=rfl) (hp:=hR _ ?_);rw[jX,ha,ha,ha];omega
 refine go ?_;refine az rfl (λh6=>?_) (λh6=>?_)
 ·refine go ?_;refine gG (λh7=>?_) (λh7=>?_)
  ·exact ez
  refine go ?_;intro _ _ x hx;refine go ?_;have ha:=λQ=>akJ (Q:=Q) h7 hx;refine gG (λh8=>?_) (λh8=>?_)
  ·exact oB
  refine go ?_;intro _ _ x' hx';cases hx.symm.trans hx';refine go ?_;refine ah (decide (x<=c.hi)) (hv:=rfl) (hp:=hR _ ?_);rw[jX,ha,ha,ha];omega
 refine go ?_;refine aW (λj:Nat=>g.values.length - j) (λj=>[(7,.int .i64 (j:Int))]) (λ_=>[]) (λ_=>[]) (λj=>j<=g.values.length/\∀x∈g.values.take j,1<=x/\x<=256) 0 ⟨bQ _,vm⟩ (body:=?_);rintro j ⟨hj,hall⟩;refine go ?_;refine az rfl (λa1=>?_) (λa1=>?_)
 ·refine go ?_;intro _ _ x hx;have hxm:=aP hx;refine go ?_;refine gG (λh7=>?_) (λh7=>?_)
  rotate_left
  ·exact lO
  refine go ?_;intro _ _ x' hx';cases hx.symm.trans hx';refine go ?_;refine az rfl (λh8=>?_) (λh8=>?_)
  ·exact lO
  refine go ?_;refine aM (j+1) (by show g.values.length - (j+1)<g.values.length - j;omega) ⟨vj,?_⟩;rw[bU hx];intro y hy;rcases dW.1 hy with hy|hy
  ·exact hall y hy
  ·rw[bK.1 hy];omega
 have gV:j=g.values.length:=vj
 subst gV;rw[bJ]at hall;refine go ?_;refine ah (decide ((g.values.length:Int)<=8)) (hv:=rfl) (hp:=hR _ ?_);rw[jX];exact⟨λh=>.inr (.inr ⟨h5,h6,vj,hall⟩),λh=>by rcases h with h|h|h;exact absurd h.1 h5;exact absurd h.1 h6;have:=h.2.2.1;omega⟩
variable{vp:Value}{p:List Clue}
theorem am7(hS:tC k)(hP:aga p)(hF:TD k):
 aU Tryz.prog (.func 79) [.agg ⟨lC k vh vs vr vc vu gh gc vn vl⟩,.agg ⟨[vp]⟩] [] [] (ai aaH vp p::ku k vh vs vr vc vu gh gc vn vl []) (λb:Bool=>.bool b) (λ_=>[]) (λ_=>[]) (λb=>b=true↔Ck k p):=by
 refine aH _ (aN 79) λB w0=>?_;refine aT (E:=aaH) (v:=vp) (xs:=p) vm λap1 cp ep=>?_;subst ep;refine go ?_;intro b2 b3;refine bi (dR (b:=b2)) (h:=?_);refine bi (dR (b:=b3)) (h:=?_);refine go ?_;refine az rfl (λh1=>?_) (λh1=>?_)
 ·refine go ?_;exact ah false (hv:=rfl) (hp:=⟨(λh=>by cases h),λh=>by have:=h.len;omega⟩)
 refine go ?_;refine aW (λj:Nat=>p.length - j) (λj=>[(5,.int .i64 (j:Int))]) (λ_=>[]) (λ_=>[]) (λj=>j<=p.length/\(∀g∈p.take j,EG k g)/\∀(i:Nat) a b,i+1<j->p[i]? =some a->p[i+1]? =some b->ja a b<0) 0 ⟨bQ _,vm,λi a b h=>by omega⟩ (body:=?_);rintro j ⟨hj,hall,hs⟩;refine go ?_;refine az rfl (λh2=>?_) (λh2=>?_)
 ·refine go ?_;refine bq aaH (xs:=p) (next:=λ_ _ g (vg:Value) hg=>?_);have hgm:=aP hg;have htk:=bU hg;refine go ?_;refine ax (am6 (k:=k) (g:=g) (vv:=vg) hS hF (hP.vals g hgm)) (next:=λb hb=>?_);cases b with
  |false=>
   refine go ?_;exact ah false (hv:=rfl) (hp:=⟨(λh=>by cases h),λh=>hb.2 (h.right g hgm)⟩)
  |true=>
  have hR:=hb.1 rfl;have uM:∀x∈p.take (j+1),EG k x:=by
   exact sE
  refine go ?_;refine gG (λh3=>?_) (λh3=>?_)
  ·exact nj
  obtain⟨i,rfl⟩:∃i,j=i+1:=⟨j - 1,vj⟩
  refine go ?_;rw[show((i+1:Nat):Int) - 1=(i:Int)by omega];refine bq aaH (xs:=p) (next:=λ_ _ g0 (vg0:Value) hg0=>?_);refine go ?_;refine bq aaH (xs:=p) (next:=λ_ _ g' (vg1:Value) hg'=>?_);cases hg.symm.trans hg';refine go ?_;refine ax (ahw (a:=g0) (b:=g) (va:=vg0) (vb:=vg1)) (next:=λ_ _=>?_);rw[<- ac9];refine go ?_;refine az rfl (λh4=>?_) (λh4=>?_)
  ·refine go ?_;exact ah false (hv:=rfl) (hp:=⟨(λh=>by cases h),λh=>by have:=h.sorted i g0 g hg0 hg;omega⟩)
  ·exact gk
 have gV:j=p.length:=vj
 subst gV;rw[bJ]at hall;refine go ?_;exact ah true (hv:=rfl) (hp:=⟨λ_=>⟨vj,hall,λi a b ha hb=>hs i a b (bC.1 hb).1 ha hb⟩,λ_=>rfl⟩)
theorem am9(hS:tC k)(hP:aga p):
 aU Tryz.prog (.func 47) [.agg ⟨lC k vh vs vr vc vu gh gc vn vl⟩,.agg ⟨[vp]⟩] [] [] (ai aaH vp p::ku k vh vs vr vc vu gh gc vn vl []) (λe:Int=>.int .i64 e) (λ_=>[]) (λ_=>[])
  (λe=>(¬eF k->e=180)/\(eF k->¬Ck k p->e=190)/\(eF k->Ck k p->e=0)):=by
 refine aH _ (aN 47) λB w0=>?_;refine go ?_;intro b2 b3;refine go ?_;refine ax (Wi (k:=k) hS) (next:=λb hb=>?_);cases b with
 |false=>
  exact cQ
 |true=>
 have hK:=hb.1 rfl;clear hb;dsimp only[cond];refine go ?_;refine ax (am7 (k:=k) (p:=p) hS hP hK.iK) (next:=λb hb=>?_);cases b with
 |false=>
  refine go ?_;exact ah 190 (hv:=rfl) (hp:=⟨λh=>absurd hK h,λ_ _=>rfl,λ_ h=>by have:=hb.2 h;cases this⟩)
 |true=>
  exact px
open Go.Ideal Kd Canon Gph
variable{vg:Value}{grid:List Int}
theorem ana{cells symbols:Int}(hl:grid.length<9223372036854775808):
 aU Tryz.prog (.func 65) [.int .i64 cells,.int .i64 symbols,vg] [] [] [ai ae vg grid] (λb:Bool=>.bool b) (λ_=>[]) (λ_=>[]) (λb=>(b=true↔Fin cells symbols grid)):=by
 refine aH _ (aN 65) λB w0=>?_;refine go ?_;refine az rfl (λh1=>?_) (λh1=>?_)
 ·exact sA
 refine go ?_;refine aW (λk=>grid.length - k) (λk:Nat=>[(7,.int .i64 (k:Int))]) (λ_=>[]) (λ_=>[]) (λk=>k<=grid.length/\∀s∈grid.take k,0<=s/\s<symbols) 0 ⟨bQ _,vm⟩ (body:=?_);rintro k ⟨hk,hall⟩;refine go ?_;refine az rfl (λh2=>?_) (λh2=>?_)
 ·refine go ?_;intro _ _ x hx;have hxm:=aP hx;refine go ?_;refine gG (λh3=>?_) (λh3=>?_)
  rotate_left
  ·exact pL
  refine go ?_;intro _ _ x' hx';cases hx.symm.trans hx';refine go ?_;refine az rfl (λh4=>?_) (λh4=>?_)
  ·exact pL
  refine go ?_;refine aM (k+1) vj ⟨vj,λs hs=>?_⟩;rw[bU hx,dW]at hs;rcases hs with hs|hs
  ·exact hall s hs
  ·rw[bK.1 hs];omega
 have hkl:k=grid.length:=vj
 subst hkl;rw[bJ]at hall;refine go ?_;exact ah true (hv:=rfl) (hp:=⟨λ_=>⟨vj,hall⟩,λ_=>rfl⟩)
theorem anb(hS:tC k)(hl:grid.length<9223372036854775808):
 aU Tryz.prog (.func 41) [.agg ⟨lC k vh vs vr vc vu gh gc vn vl⟩,vg] [] [] (ai ae vg grid::ku k vh vs vr vc vu gh gc vn vl []) (λe:Int=>.int .i64 e) (λ_=>[]) (λ_=>[])
  (λe=>(¬eF k->e=180)/\(eF k->¬NV k grid->e=200)/\(eF k->NV k grid->e=0)):=by
 refine aH _ (aN 41) λB w0=>?_;refine go ?_;intro b2;refine go ?_;refine ax (Wi (k:=k) hS) (next:=λb hb=>?_);cases b with
 |false=>
  exact cQ
 |true=>
 have hK:=hb.1 rfl;clear hb;dsimp only[cond];dsimp only[ku];refine go ?_;refine ax (ana (cells:=(k.grid.cells.length:Int)) (symbols:=(k.decl.symbols.length:Int)) (grid:=grid) hl) (next:=λb hb=>?_);cases b with
 |false=>
  refine go ?_;exact ah 200 (hv:=rfl) (hp:=⟨λh=>absurd hK h,λ_ _=>rfl,λ_ h=>by have:=hb.2 h;cases this⟩)
 |true=>
  exact px
