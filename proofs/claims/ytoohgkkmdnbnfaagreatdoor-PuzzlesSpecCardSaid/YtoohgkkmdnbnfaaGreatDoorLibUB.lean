/-
  The reference's kinds: built, compared, checked.
-/
import Derived.Test.YtoohgkkmdnbnfaaGreatDoorLibTB
import Derived.Test.YtoohgkkmdnbnfaaGreatDoorLibNB
set_option linter.all false
set_option maxRecDepth 10000
set_option maxHeartbeats 4000000
namespace Go.Proofs.YtoohgkkmdnbnfaaGreatDoor
open Go.Ideal Kd
theorem afh{d:bq}{vh vs vr vc vu:Value}(hT:sN d):aZ Tryz.prog (.func 60) [.agg ⟨fO d vh vs vr vc vu⟩] [] [] (j6 d vh vs vr vc vu) (A9 d vh vs vr) (λ_=>[]) (Ba d vh vs vr) (GM d):=by
 have sO:sN (Kd.bi d):=⟨hT.s.bi,hT.w,hT.h,hT.holes⟩
 have hend:∀{e:Int} {vc vu gh gc vn vl:Value},e≠0->¬En d->GM d ⟨false,e,vc,vu,gh,gc,vn,vl⟩:=λhe hb=>⟨(λh=>by cases h),λ_=>⟨he,hb⟩⟩
 refine aG _ (aM 60) λB w0=>?_;refine go ?_;intro b1 b2;refine go ?_;refine ak (Tg (d:=d) (vh:=vh) (vs:=vs) (vr:=vr) (vc:=vc) (vu:=vu) hT.s) (next:=λy hy=>?_);obtain⟨ok,e,v1,v2⟩:=y;cases ok with
 |false=>
  obtain⟨he,hno⟩:=hy.2 rfl;have he:e≠0:=he;dsimp only[cond,qb,mV,List.nil_append];refine go ?_;intro b4;refine go ?_;refine az rfl (λh1=>?_) (λh1=>?_)
  ·refine go ?_;exact aa ⟨false,e,v1,v2,v1,v1,v1,v1⟩ (hv:=rfl) (hp:=hend he λh=>hno h.rs)
  ·exact absurd (iF.1 h1) he
 |true=>
 obtain⟨he,hres⟩:=hy.1 rfl;have he:e=0:=he;subst he;clear hy;dsimp only[cond,qb,mV,List.cons_append,List.nil_append];refine go ?_;intro b4;refine go ?_;refine eO (ah ae vh (Kd.bi d).holes) (λw hw=>hw (ah ae vh d.holes) (by simp)) ?_;refine eO (ah fu vs (Kd.bi d).symbols) (λw hw=>hw (ah fu vs d.symbols) (by simp)) ?_;refine eO (ah dW vr (Kd.bi d).regions) (λw hw=>hw (ah dW vr d.regions) (by simp)) ?_;generalize hd:Kd.bi d=r at sO⊢;refine ak (afg (d:=r) (vh:=vh) (vs:=vs) (vr:=vr) (vc:=v1) (vu:=v2) sO) (next:=λe he=>?_);refine go ?_;refine az rfl (λhne=>?_) (λhz=>?_)
 ·refine go ?_;exact aa ⟨false,e,v1,v2,v1,v1,v1,v1⟩ (hv:=rfl) (hp:=hend hne λh=>hne (he.2 (by rw[<- hd];exact h.typ)))
 have hty:=he.1 (iF.1 hz);clear he hz;have hm:=hty.A8;have hr:=hty.GK;have hG:=Ej hm;have hgo:fV (aP r):=⟨hm,rfl⟩
 have hrl:=sO.s.regs;refine go ?_;intro b6;refine go ?_;refine ak (LY (s:=r.shape) (w:=r.w) (h:=r.h) (holes:=r.holes) (vh:=vh) sO.w sO.h sO.holes) (next:=λy hy=>?_);obtain⟨ok,gh,gc⟩:=y;cases ok with
 |false=>exact absurd (hy.2 hm) (by simp)
 |true=>
 clear hy;dsimp only[cond,mkV,nJ];rw[show tT r.shape r.w r.h r.holes=aP r from rfl];dsimp only[iV,iw,List.cons_append,List.nil_append];refine go ?_;refine ak (SS (g:=aP r) (vh:=gh) (vc:=gc) hG) (next:=λy hy2=>?_);obtain⟨vn,e⟩:=y;have he:e=0:=hy2.2 hgo;subst he;clear hy2;refine eO (ah (aj ae) vn (bD (aP r))) (λw hw=>hw (lG ((0:Int)=0) (ah (aj ae) vn (bD (aP r)))) (by simp) rfl) ?_;dsimp only[tV];refine aT (E:=aj ae) (v:=vn) (xs:=bD (aP r)) (by simp) λan cn en=>?_;subst en;refine aT (E:=dW) (v:=vr) (xs:=r.regions) (by simp) λar cr er=>?_;subst er;refine go ?_;refine gq (aj (aj ae)) ?_;refine aX (λy:Nat×Value=>8 - y.1) (λy=>[(7,.int .i64 (y.1:Int))]) (λy=>[pt b4 (.cells (fO r vh vs (.slice ar r.regions.length cr) v1 v2)),pt b6 (.cells (bL r vh vs (.slice ar r.regions.length cr) v1 v2 (.int .i64 (aP r).shape) (.int .i64 (aP r).w) (.int .i64 (aP r).h) gh gc (.slice an (bD (aP r)).length cn) y.2)),ap (aj (aj ae)) y.2 (iH (aP r) y.1)]) (λ_=>[]) (λy=>y.1<=8) (0,.slice none 0 0) (bX _) (hk:=by repeat (first|exact aH.nil|(apply aH.cons;(focus (repeat (first|exact ay.here|apply ay.there)))))) (body:=?_);rintro⟨k,vl⟩ hk;dsimp only at hk⊢;have hkl:=GL (aP r) k;refine go ?_;refine az rfl (λh1=>?_) (λh1=>?_)
 ·refine go ?_;refine ak (aej (g:=aP r) (vh:=gh) (vc:=gc) (k:=(k:Int)) hG) (next:=λy hy=>?_);obtain⟨v4,e⟩:=y;have he:e=0:=hy.2 ⟨hgo,by omega,by omega⟩;subst he;dsimp only[GG,List.cons_append,List.nil_append];refine eO (ah (aj ae) v4 (dM (aP r) (k:Int))) (λw hw=>hw (lG ((0:Int)=0) (ah (aj ae) v4 (dM (aP r) (k:Int)))) (by simp) rfl) ?_;refine aT (E:=aj ae) (v:=v4) (xs:=dM (aP r) (k:Int)) (by simp) λa4 c4 e4=>?_;subst e4;refine go ?_;intro b33;refine go ?_;refine fe (xs:=iH (aP r) k) (aj (aj ae)) (dM (aP r) (k:Int)) (.slice a4 (dM (aP r) (k:Int)).length c4) (by omega) (next:=λad=>?_);rw[<- Sn];refine go ?_;exact aO (k+1,.slice ad ((iH (aP r) k).length+1) ((iH (aP r) k).length+1)) (by show 8 - (k+1)<8 - k;omega) (by show k+1<=_;omega)
 have LD:k=8:=by omega
 subst LD;refine go ?_;refine aX (λy:Nat×Value=>r.regions.length - y.1) (λy=>[(10,.int .i64 (y.1:Int))]) (λy=>[pt b4 (.cells (fO r vh vs (.slice ar r.regions.length cr) v1 v2)),pt b6 (.cells (bL r vh vs (.slice ar r.regions.length cr) v1 v2 (.int .i64 (aP r).shape) (.int .i64 (aP r).w) (.int .i64 (aP r).h) gh gc (.slice an (bD (aP r)).length cn) y.2)),ap (aj (aj ae)) y.2 (iH (aP r) 8++(r.regions.take y.1).map λr2=>dP (aP r) r2.lists)]) (λ_=>[]) (λy=>y.1<=r.regions.length) (0,vl) (bX _) (hk:=by rw[show iH (aP r) 8++(r.regions.take 0).map (λr2=>dP (aP r) r2.lists)=iH (aP r) 8 from gD _];repeat (first|exact aH.nil|(apply aH.cons;(focus (repeat (first|exact ay.here|apply ay.there)))))) (body:=?_);rintro⟨k,v2'⟩ hk;dsimp only at hk⊢;have hkl:(iH (aP r) 8++(r.regions.take k).map λr2=>dP (aP r) r2.lists).length=8+k:=by rw[gB,GL,di,gM];omega
 refine go ?_;refine az rfl (λh1=>?_) (λh1=>?_)
 ·refine go ?_;refine aY dW (xs:=r.regions) (next:=λ_ _ q (LF:Value) Em=>?_);have hrm:=bJ Em;obtain⟨hl1,hl2⟩:=sO.s.qd q hrm;obtain⟨⟨_,hro⟩,_⟩:=hr q hrm;refine go ?_;refine ak (SX (g:=aP r) (vh:=gh) (vc:=gc) (vr:=LF) (rs:=q.lists) hG hl1 hl2) (next:=λy hy=>?_);obtain⟨v8,e⟩:=y;have he:e=0:=hy.2 ⟨hgo,hro⟩;subst he;dsimp only[GI,List.cons_append,List.nil_append];refine eO (ah (aj ae) v8 (dP (aP r) q.lists)) (λw hw=>hw (lG ((0:Int)=0) (ah (aj ae) v8 (dP (aP r) q.lists))) (by simp) rfl) ?_;refine aT (E:=aj ae) (v:=v8) (xs:=dP (aP r) q.lists) (by simp) λa8 c8 e8=>?_;subst e8;refine go ?_;intro b71;refine go ?_;have htk:iH (aP r) 8++(r.regions.take (k+1)).map (λr2=>dP (aP r) r2.lists)=(iH (aP r) 8++(r.regions.take k).map λr2=>dP (aP r) r2.lists)++[dP (aP r) q.lists]:=by
   rw[bV Em,eX,sS,fE]
  refine fe (xs:=iH (aP r) 8++(r.regions.take k).map λr2=>dP (aP r) r2.lists) (aj (aj ae)) (dP (aP r) q.lists) (.slice a8 (dP (aP r) q.lists).length c8) (by omega) (next:=λad=>?_);rw[<- htk];refine go ?_;exact aO (k+1,.slice ad ((iH (aP r) 8++(r.regions.take k).map λr2=>dP (aP r) r2.lists).length+1) ((iH (aP r) 8++(r.regions.take k).map λr2=>dP (aP r) r2.lists).length+1)) (by show r.regions.length - (k+1)<r.regions.length - k;omega) (by show k+1<=_;omega)
 have hke:k=r.regions.length:=by omega
 subst hke;rw[bK];rw[show iH (aP r) 8++r.regions.map (λr2=>dP (aP r) r2.lists)=nT r from rfl];refine bB (gp (E:=aj (aj ae)) (v:=v2') (xs:=nT r)) (h:=?_);refine go ?_;subst hd;refine aa ⟨true,0,v1,v2,gh,gc,.slice an (bD (aP (Kd.bi d))).length cn,v2'⟩ (hv:=rfl) (hp:=⟨λ_=>⟨rfl,hres,hty⟩,(λh=>by cases h)⟩) (hF:=?_);show Sub [ah bC v1 (Kd.bi d).aF,ah aW v2 (Kd.bi d).rules,ah ae gh (aP (Kd.bi d)).holes,ah ae gc (aP (Kd.bi d)).cells,ah (aj ae) (.slice an (bD (aP (Kd.bi d))).length cn) (bD (aP (Kd.bi d))),ah (aj (aj ae)) v2' (nT (Kd.bi d))] _;exact .cons (by simp) (.cons (by simp) (.cons (by simp) (.cons (by simp) (.cons (by simp) (.cons (by simp) .nil)))))
theorem afi{x y:eT}{h1 s1 r1 c1 u1 xu xy n1 l1 h2 s2 r2 c2 u2 xz xA n2 l2:Value}(hS:nZ x):bY Tryz.prog 61 [.agg ⟨mD x h1 s1 r1 c1 u1 xu xy n1 l1⟩,.agg ⟨mD y h2 s2 r2 c2 u2 xz xA n2 l2⟩]
 (lH x h1 s1 r1 c1 u1 xu xy n1 l1 (lH y h2 s2 r2 c2 u2 xz xA n2 l2 [])) (.bool (decide (x=y))):=by
 have e1:=hS.d.s;have e2:=hS.g;obtain⟨e4,e5⟩:=hS.bR;obtain⟨e6,e7⟩:=hS.lists;clear hS;obtain⟨xd,xg,xn,xl⟩:=x;obtain⟨yd,yg,yn,yl⟩:=y;dsimp only at e1 e2 e4 e5 e6 e7;dsimp only[mD,lH];refine aG _ (aM 61) λB w0=>?_;refine aT (E:=aj (aj ae)) (v:=l1) (xs:=xl) (by simp) λa1 k1 q1=>?_;subst q1;refine aT (E:=aj (aj ae)) (v:=l2) (xs:=yl) (by simp) λa2 k2 q2=>?_;subst q2;refine go ?_;intro b2 b3;refine bB (fG (b:=b2)) (h:=?_);refine bB (fG (b:=b3)) (h:=?_);refine go ?_;refine az rfl (λh=>?_) (λh=>?_)
 ·refine go ?_;refine aa () (hv:=?_) (hp:=trivial);rw[aR (λe=>by cases e;omega)];rfl
 have hlen:xl.length=yl.length:=by omega
 clear h;refine go ?_;refine aX (λk=>xl.length - k) (λk:Nat=>[(5,.int .i64 (k:Int))]) (λ_=>[]) (λ_=>[]) (λk=>k<=xl.length/\xl.take k=yl.take k) 0 ⟨by omega,by simp⟩ (body:=?_);rintro k ⟨hk,hsame⟩;refine go ?_;refine az rfl (λh2=>?_) (λh2=>?_)
 ·refine go ?_;refine aY (aj (aj ae)) (xs:=xl) (next:=λ_ _ p (vp:Value) hx=>?_);refine go ?_;refine aY (aj (aj ae)) (xs:=yl) (next:=λ_ _ q (vq:Value) hy=>?_);have hpl:=e7 p (bJ hx);refine go ?_;refine ak (Tn (xs:=p) (ys:=q) hpl.1 hpl.2) (next:=λ_ _=>?_);refine go ?_;refine ed rfl (λh3=>?_) (λh3=>?_)
  ·refine go ?_;refine aa () (hv:=?_) (hp:=trivial);rw[aR (λe=>by cases e;rw[hx]at hy;exact h3 (Option.some.inj hy))];rfl
  refine go ?_;refine aO (k+1) (by omega) ⟨by omega,?_⟩;rw[bV hx,bV hy,hsame,h3]
 have hke:k=xl.length:=by omega
 subst hke;rw[bK,hlen,bK]at hsame;clear hk h2;subst hsame;refine go ?_;have hdd:bY Tryz.prog 96 [.agg ⟨fO xd h1 s1 r1 c1 u1⟩,.agg ⟨fO yd h2 s2 r2 c2 u2⟩] [ah ae h1 xd.holes,ah fu s1 xd.symbols,ah dW r1 xd.regions,ah bC c1 xd.aF,ah aW u1 xd.rules,ah ae h2 yd.holes,ah fu s2 yd.symbols,ah dW r2 yd.regions,ah bC c2 yd.aF,ah aW u2 yd.rules] (.bool (decide (xd=yd))):=aez e1;refine ak hdd (next:=λ_ _=>?_);refine go ?_;first|with_reducible refine aL (λk6=>?_) (λk6=>?_)|with_reducible refine aK (λk6=>?_) (λk6=>?_)|with_reducible refine aI (λk6=>?_) (λk6=>?_)
 ·refine go ?_;refine aa () (hv:=?_) (hp:=trivial);rw[aR (λe=>k6 (by cases e;rfl))];rfl
 refine go ?_;refine ak (aex (x:=xg) (y:=yg) (h1:=xu) (c1:=xy) (h2:=xz) (c2:=xA) e2) (next:=λ_ _=>?_);refine go ?_;first|with_reducible refine aL (λk7=>?_) (λk7=>?_)|with_reducible refine aK (λk7=>?_) (λk7=>?_)|with_reducible refine aI (λk7=>?_) (λk7=>?_)
 ·refine go ?_;refine aa () (hv:=?_) (hp:=trivial);rw[aR (λe=>k7 (by cases e;rfl))];rfl
 refine go ?_;refine ak (Tn (xs:=xn) (ys:=yn) e4 e5) (next:=λ_ _=>?_);refine go ?_;refine aa () (hv:=?_) (hp:=trivial);subst k6 k7;rw[show decide (eT.mk xd xg xn xl=eT.mk xd xg yn xl)=decide (xn=yn)from mG.2 ⟨λh=>by cases h;rfl,λh=>by rw[h]⟩];rfl
theorem afj{k:eT}{vh vs vr vc vu gh gc vn vl:Value}(hS:nZ k):aZ Tryz.prog (.func 30) [.agg ⟨mD k vh vs vr vc vu gh gc vn vl⟩] [] [] (lH k vh vs vr vc vu gh gc vn vl []) (λb:Bool=>.int .i64 (cond b 0 180)) (λ_=>[]) (λ_=>[]) (λb=>b=true↔gP k):=by
 refine aG _ (aM 30) λB w0=>?_;refine go ?_;intro b1;refine go ?_;refine ak (afh (d:=k.decl) (vh:=vh) (vs:=vs) (vr:=vr) (vc:=vc) (vu:=vu) hS.d) (next:=λy hy=>?_);obtain⟨ok,e,v1,v2,v3,v4,v5,v6⟩:=y;cases ok with
 |false=>
  obtain⟨he,hno⟩:=hy.2 rfl;have he:e≠0:=he;dsimp only[cond,A9,Ba,List.nil_append];refine go ?_;intro b3;refine go ?_;first|with_reducible refine aL (λh1=>?_) (λh1=>?_)|with_reducible refine aK (λh1=>?_) (λh1=>?_)|with_reducible refine aI (λh1=>?_) (λh1=>?_)
  ·exact absurd (iF.1 h1) he
  refine go ?_;exact aa false (hv:=rfl) (hp:=⟨(λh=>by cases h),λh=>absurd h.b hno⟩)
 |true=>
 obtain⟨he,hb⟩:=hy.1 rfl;have he:e=0:=he;subst he;clear hy;dsimp only[cond,A9,Ba,List.cons_append,List.nil_append];refine go ?_;intro b3;refine go ?_;have hsm:=afi (x:=k) (y:=jL (Kd.bi k.decl)) (h1:=vh) (s1:=vs) (r1:=vr) (c1:=vc) (u1:=vu) (xu:=gh) (xy:=gc) (n1:=vn) (l1:=vl) (h2:=vh) (s2:=vs) (r2:=vr) (c2:=v1) (u2:=v2) (xz:=v3) (xA:=v4) (n2:=v5) (l2:=v6) hS;refine eO (ah ae vh (jL (Kd.bi k.decl)).decl.holes) (λw hw=>hw (ah ae vh k.decl.holes) (by simp)) ?_;refine eO (ah fu vs (jL (Kd.bi k.decl)).decl.symbols) (λw hw=>hw (ah fu vs k.decl.symbols) (by simp)) ?_;refine eO (ah dW vr (jL (Kd.bi k.decl)).decl.regions) (λw hw=>hw (ah dW vr k.decl.regions) (by simp)) ?_;refine eO (ah bC v1 (jL (Kd.bi k.decl)).decl.aF) (λw hw=>hw (ah bC v1 (Kd.bi k.decl).aF) (by simp)) ?_;refine eO (ah aW v2 (jL (Kd.bi k.decl)).decl.rules) (λw hw=>hw (ah aW v2 (Kd.bi k.decl).rules) (by simp)) ?_;refine eO (ah ae v3 (jL (Kd.bi k.decl)).grid.holes) (λw hw=>hw (ah ae v3 (aP (Kd.bi k.decl)).holes) (by simp)) ?_;refine eO (ah ae v4 (jL (Kd.bi k.decl)).grid.cells) (λw hw=>hw (ah ae v4 (aP (Kd.bi k.decl)).cells) (by simp)) ?_;refine eO (ah (aj ae) v5 (jL (Kd.bi k.decl)).bR) (λw hw=>hw (ah (aj ae) v5 (bD (aP (Kd.bi k.decl)))) (by simp)) ?_;refine eO (ah (aj (aj ae)) v6 (jL (Kd.bi k.decl)).lists) (λw hw=>hw (ah (aj (aj ae)) v6 (nT (Kd.bi k.decl))) (by simp)) ?_;refine ak hsm (next:=λ_ _=>?_);refine go ?_;refine ed rfl (λh3=>?_) (λh3=>?_)
 ·refine go ?_;exact aa false (hv:=rfl) (hp:=⟨(λh=>by cases h),λh=>absurd h.e h3⟩)
 ·refine go ?_;exact aa true (hv:=rfl) (hp:=⟨λ_=>⟨hb,h3⟩,λ_=>rfl⟩)
open Go.Ideal Kd Canon
theorem Tw{l:List Int}{x:Int}(h1:(l.length:Int)=1)(hx:l[0]? =some x){Q:Int->Prop}:(∀y∈l,Q y)↔Q x:=by
 match l,h1,hx with
 |[a],_,hx=>cases hx;simp
 |[],h1,_=>cases h1
 |_::_::_,h1,_=>simp at h1;omega
theorem afk{k:eT}{g:Clue}{vh vs vr vc vu gh gc vn vl vv:Value}(hS:nZ k)(hF:DX k)(hv:g.values.length<9223372036854775808):
 aZ Tryz.prog (.func 70) [.agg ⟨mD k vh vs vr vc vu gh gc vn vl⟩,ru g vv] [] [] (ah ae vv g.values::lH k vh vs vr vc vu gh gc vn vl []) (λb:Bool=>.bool b) (λ_=>[]) (λ_=>[]) (λb=>b=true↔rz k g):=by
 have hcl:=hS.d.s.ja;have hsl:=hS.d.s.dU;refine aG _ (aM 70) λB w0=>?_;refine aT (E:=bC) (v:=vc) (xs:=k.decl.aF) (by simp) λac cc ec=>?_;subst ec;refine aT (E:=fu) (v:=vs) (xs:=k.decl.symbols) (by simp) λnY cs1 es1=>?_;subst es1;refine aT (E:=aj (aj ae)) (v:=vl) (xs:=k.lists) (by simp) λal cl el=>?_;subst el;refine aT (E:=ae) (v:=vv) (xs:=g.values) (by simp) λav cv zk=>?_;subst zk;refine go ?_;intro b2 b3;refine bB (fG (b:=b2)) (h:=?_);refine bB (fG (b:=b3)) (h:=?_);refine go ?_;first|with_reducible refine aL (λh1=>?_) (λh1=>?_)|with_reducible refine aK (λh1=>?_) (λh1=>?_)|with_reducible refine aI (λh1=>?_) (λh1=>?_)
 rotate_left
 ·refine go ?_;exact aa false (hv:=rfl) (hp:=⟨(λh=>by cases h),λ⟨c,l,h,_⟩=>by omega⟩)
 refine go ?_;refine az rfl (λh2=>?_) (λh2=>?_)
 ·refine go ?_;refine aa false (hv:=rfl) (hp:=⟨(λh=>by cases h),λ⟨c,l,_,h,_⟩=>?_⟩);have:=(bT.1 h).1;omega
 obtain⟨ci,hci⟩:=qy (show 0<=g.aQ by omega);have hg0:0<=g.aQ:=by omega
 have Jc:ci<k.decl.aF.length:=by omega
 have htn:g.aQ.toNat=ci:=by omega
 refine go ?_;rw[hci];refine aY bC (xs:=k.decl.aF) (next:=λ_ _ c (_:Unit) hc=>?_);obtain⟨hf0,hf1⟩:=hF c (bJ hc);refine go ?_;intro b5;refine go ?_;first|with_reducible refine aL (λh3=>?_) (λh3=>?_)|with_reducible refine aK (λh3=>?_) (λh3=>?_)|with_reducible refine aI (λh3=>?_) (λh3=>?_)
 rotate_left
 ·refine go ?_;exact aa false (hv:=rfl) (hp:=⟨(λh=>by cases h),λ⟨c,l,_,_,_,h,_⟩=>by omega⟩)
 refine go ?_;obtain⟨fi,hfi⟩:=qy hf0;have Ep:c.family.toNat=fi:=by omega
 rw[hfi];refine aY (aj (aj ae)) (xs:=k.lists) (next:=λ_ _ ls (vls:Value) hls=>?_);refine go ?_;refine az rfl (λh4=>?_) (λh4=>?_)
 ·refine go ?_;refine aa false (hv:=rfl) (hp:=⟨(λh=>by cases h),λ⟨c',l',_,q1,q2,q3,q4,_⟩=>?_⟩);rw[htn,hc]at q1;cases q1;rw[Ep,hls]at q2;cases q2;omega
 have hR:∀b:Bool,(b=true↔((c.type=1/\g.values.length=1/\∀x∈g.values,0<=x/\x<=(k.decl.symbols.length:Int) - 1)\/(c.type=2/\g.values.length=1/\∀x∈g.values,c.lo<=x/\x<=c.hi)\/
  (c.type≠1/\c.type≠2/\g.values.length<=8/\∀x∈g.values,1<=x/\x<=256)))->(b=true↔rz k g):=λb hb=>by
  rw[hb];refine⟨λh=>⟨c,ls,hg0,by rw[htn];exact hc,by rw[Ep];exact hls,by omega,by omega,h⟩,λ⟨c',l',_,q1,_,_,_,h⟩=>?_⟩;rw[htn,hc]at q1;cases q1;exact h
 refine go ?_;refine az rfl (λh5=>?_) (λh5=>?_)
 ·refine go ?_;first|with_reducible refine aL (λh6=>?_) (λh6=>?_)|with_reducible refine aK (λh6=>?_) (λh6=>?_)|with_reducible refine aI (λh6=>?_) (λh6=>?_)
  ·refine go ?_;exact aa false (hv:=rfl) (hp:=hR _ ⟨(λh=>by cases h),λh=>by exfalso;omega⟩)
  refine go ?_;intro _ _ x hx;refine go ?_;have ha:=λQ=>Tw (Q:=Q) h6 hx;first|with_reducible refine aL (λh7=>?_) (λh7=>?_)|with_reducible refine aK (λh7=>?_) (λh7=>?_)|with_reducible refine aI (λh7=>?_) (λh7=>?_)
  ·refine go ?_;exact aa false (hv:=rfl) (hp:=hR _ ⟨(λh=>by cases h),λh=>by exfalso;rw[ha,ha,ha]at h;omega⟩)
  refine go ?_;intro _ _ x' hx';cases hx.symm.trans hx';refine go ?_;refine aa (decide (x<(k.decl.symbols.length:Int))) (hv:=rfl) (hp:=hR _ ?_);rw[Bt,ha,ha,ha];omega
 refine go ?_;refine az rfl (λh6=>?_) (λh6=>?_)
 ·refine go ?_;first|with_reducible refine aL (λh7=>?_) (λh7=>?_)|with_reducible refine aK (λh7=>?_) (λh7=>?_)|with_reducible refine aI (λh7=>?_) (λh7=>?_)
  ·refine go ?_;exact aa false (hv:=rfl) (hp:=hR _ ⟨(λh=>by cases h),λh=>by exfalso;omega⟩)
  refine go ?_;intro _ _ x hx;refine go ?_;have ha:=λQ=>Tw (Q:=Q) h7 hx;first|with_reducible refine aL (λh8=>?_) (λh8=>?_)|with_reducible refine aK (λh8=>?_) (λh8=>?_)|with_reducible refine aI (λh8=>?_) (λh8=>?_)
  ·refine go ?_;exact aa false (hv:=rfl) (hp:=hR _ ⟨(λh=>by cases h),λh=>by exfalso;rw[ha,ha,ha]at h;omega⟩)
  refine go ?_;intro _ _ x' hx';cases hx.symm.trans hx';refine go ?_;refine aa (decide (x<=c.hi)) (hv:=rfl) (hp:=hR _ ?_);rw[Bt,ha,ha,ha];omega
 refine go ?_;refine aX (λj:Nat=>g.values.length - j) (λj=>[(7,.int .i64 (j:Int))]) (λ_=>[]) (λ_=>[]) (λj=>j<=g.values.length/\∀x∈g.values.take j,1<=x/\x<=256) 0 ⟨bX _,by simp⟩ (body:=?_);rintro j ⟨hj,hall⟩;refine go ?_;refine az rfl (λa1=>?_) (λa1=>?_)
 ·refine go ?_;intro _ _ x hx;have hxm:=bJ hx;refine go ?_;first|with_reducible refine aL (λh7=>?_) (λh7=>?_)|with_reducible refine aK (λh7=>?_) (λh7=>?_)|with_reducible refine aI (λh7=>?_) (λh7=>?_)
  rotate_left
  ·refine go ?_;exact aa false (hv:=rfl) (hp:=hR _ ⟨(λh=>by cases h),λh=>by exfalso;rcases h with h|h|h;exact h5 h.1;exact h6 h.1;have:=h.2.2.2 x hxm;omega⟩)
  refine go ?_;intro _ _ x' hx';cases hx.symm.trans hx';refine go ?_;refine az rfl (λh8=>?_) (λh8=>?_)
  ·refine go ?_;exact aa false (hv:=rfl) (hp:=hR _ ⟨(λh=>by cases h),λh=>by exfalso;rcases h with h|h|h;exact h5 h.1;exact h6 h.1;have:=h.2.2.2 x hxm;omega⟩)
  refine go ?_;refine aO (j+1) (by show g.values.length - (j+1)<g.values.length - j;omega) ⟨by omega,?_⟩;rw[bV hx];intro y hy;rcases dZ.1 hy with hy|hy
  ·exact hall y hy
  ·rw[bG.1 hy];omega
 have jM:j=g.values.length:=by omega
 subst jM;rw[bK]at hall;refine go ?_;refine aa (decide ((g.values.length:Int)<=8)) (hv:=rfl) (hp:=hR _ ?_);rw[Bt];exact⟨λh=>.inr (.inr ⟨h5,h6,by omega,hall⟩),λh=>by rcases h with h|h|h;exact absurd h.1 h5;exact absurd h.1 h6;have:=h.2.2.1;omega⟩
theorem afl{k:eT}{p:List Clue}{vh vs vr vc vu gh gc vn vl vp:Value}(hS:nZ k)(hP:zl p)(hF:DX k):
 aZ Tryz.prog (.func 39) [.agg ⟨mD k vh vs vr vc vu gh gc vn vl⟩,.agg ⟨[vp]⟩] [] [] (ah bU vp p::lH k vh vs vr vc vu gh gc vn vl []) (λb:Bool=>.bool b) (λ_=>[]) (λ_=>[]) (λb=>b=true↔sI k p):=by
 refine aG _ (aM 39) λB w0=>?_;refine aT (E:=bU) (v:=vp) (xs:=p) (by simp) λLK cp ep=>?_;subst ep;refine go ?_;intro b2 b3;refine bB (fG (b:=b2)) (h:=?_);refine bB (fG (b:=b3)) (h:=?_);refine go ?_;refine az rfl (λh1=>?_) (λh1=>?_)
 ·refine go ?_;exact aa false (hv:=rfl) (hp:=⟨(λh=>by cases h),λh=>by have:=h.len;omega⟩)
 refine go ?_;refine aX (λj:Nat=>p.length - j) (λj=>[(5,.int .i64 (j:Int))]) (λ_=>[]) (λ_=>[]) (λj=>j<=p.length/\(∀g∈p.take j,rz k g)/\∀(i:Nat) a b,i+1<j->p[i]? =some a->p[i+1]? =some b->gK a b<0) 0 ⟨bX _,by simp,λi a b h=>by omega⟩ (body:=?_);rintro j ⟨hj,hall,hs⟩;refine go ?_;refine az rfl (λh2=>?_) (λh2=>?_)
 ·refine go ?_;refine aY bU (xs:=p) (next:=λ_ _ g (vg:Value) hg=>?_);have hgm:=bJ hg;have htk:=bV hg;refine go ?_;refine ak (afk (k:=k) (g:=g) (vh:=vh) (vs:=vs) (vr:=vr) (vc:=vc) (vu:=vu) (gh:=gh) (gc:=gc) (vn:=vn) (vl:=vl) (vv:=vg) hS hF (hP.vals g hgm)) (next:=λb hb=>?_);cases b with
  |false=>
   refine go ?_;exact aa false (hv:=rfl) (hp:=⟨(λh=>by cases h),λh=>hb.2 (h.right g hgm)⟩)
  |true=>
  have hR:=hb.1 rfl;have Er:∀x∈p.take (j+1),rz k x:=by
   rw[htk];intro x hx;rcases dZ.1 hx with hx|hx
   ·exact hall x hx
   ·rw[bG.1 hx];exact hR
  refine go ?_;first|with_reducible refine aL (λh3=>?_) (λh3=>?_)|with_reducible refine aK (λh3=>?_) (λh3=>?_)|with_reducible refine aI (λh3=>?_) (λh3=>?_)
  ·have hj0:j=0:=by omega
   subst hj0;refine go ?_;exact aO 1 (by show p.length - 1<p.length - 0;omega) ⟨by omega,Er,λi a b h=>by omega⟩
  obtain⟨i,rfl⟩:∃i,j=i+1:=⟨j - 1,by omega⟩
  refine go ?_;rw[show((i+1:Nat):Int) - 1=(i:Int)by omega];refine aY bU (xs:=p) (next:=λ_ _ g0 (LM:Value) hg0=>?_);refine go ?_;refine aY bU (xs:=p) (next:=λ_ _ g' (vg1:Value) hg'=>?_);cases hg.symm.trans hg';refine go ?_;refine ak (SB (a:=g0) (b:=g) (va:=LM) (vb:=vg1)) (next:=λ_ _=>?_);rw[<- KE];refine go ?_;refine az rfl (λh4=>?_) (λh4=>?_)
  ·refine go ?_;exact aa false (hv:=rfl) (hp:=⟨(λh=>by cases h),λh=>by have:=h.sorted i g0 g hg0 hg;omega⟩)
  ·refine go ?_;refine aO (i+1+1) (by show p.length - (i+1+1)<p.length - (i+1);omega) ⟨by omega,Er,λi' a b h ha hb=>?_⟩;by_cases e:i'=i
   ·subst e;rw[hg0]at ha;rw[hg]at hb;cases ha;cases hb;omega
   ·exact hs i' a b (by omega) ha hb
 have jM:j=p.length:=by omega
 subst jM;rw[bK]at hall;refine go ?_;exact aa true (hv:=rfl) (hp:=⟨λ_=>⟨by omega,hall,λi a b ha hb=>hs i a b (bT.1 hb).1 ha hb⟩,λ_=>rfl⟩)
theorem afn{k:eT}{p:List Clue}{vh vs vr vc vu gh gc vn vl vp:Value}(hS:nZ k)(hP:zl p):
 aZ Tryz.prog (.func 16) [.agg ⟨mD k vh vs vr vc vu gh gc vn vl⟩,.agg ⟨[vp]⟩] [] [] (ah bU vp p::lH k vh vs vr vc vu gh gc vn vl []) (λe:Int=>.int .i64 e) (λ_=>[]) (λ_=>[])
  (λe=>(¬gP k->e=180)/\(gP k->¬sI k p->e=190)/\(gP k->sI k p->e=0)):=by
 refine aG _ (aM 16) λB w0=>?_;refine go ?_;intro b2 b3;refine go ?_;refine ak (afj (k:=k) (vh:=vh) (vs:=vs) (vr:=vr) (vc:=vc) (vu:=vu) (gh:=gh) (gc:=gc) (vn:=vn) (vl:=vl) hS) (next:=λb hb=>?_);cases b with
 |false=>
  have hno:¬gP k:=λh=>by have:=hb.2 h;cases this
  dsimp only[cond];refine go ?_;exact aa 180 (hv:=rfl) (hp:=⟨λ_=>rfl,λh=>absurd h hno,λh=>absurd h hno⟩)
 |true=>
 have hK:=hb.1 rfl;clear hb;dsimp only[cond];refine go ?_;refine ak (afl (k:=k) (p:=p) (vh:=vh) (vs:=vs) (vr:=vr) (vc:=vc) (vu:=vu) (gh:=gh) (gc:=gc) (vn:=vn) (vl:=vl) (vp:=vp) hS hP hK.rq) (next:=λb hb=>?_);cases b with
 |false=>
  refine go ?_;exact aa 190 (hv:=rfl) (hp:=⟨λh=>absurd hK h,λ_ _=>rfl,λ_ h=>by have:=hb.2 h;cases this⟩)
 |true=>
  refine go ?_;exact aa 0 (hv:=rfl) (hp:=⟨λh=>absurd hK h,λ_ h=>absurd (hb.1 rfl) h,λ_ _=>rfl⟩)
