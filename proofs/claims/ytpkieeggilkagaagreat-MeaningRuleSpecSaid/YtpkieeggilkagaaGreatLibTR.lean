/-
  Part LibTR.
-/
import Derived.Test.YtpkieeggilkagaaGreatLibSR
import Derived.Test.YtpkieeggilkagaaGreatIdealPR
import Derived.Test.YtpkieeggilkagaaGreatLibMR
set_option linter.all false
set_option maxRecDepth 10000
set_option maxHeartbeats 4000000
namespace Go.Proofs.YtpkieeggilkagaaGreat
open Go.Ideal Kd
theorem aiG{d:bG}{vh vs vr vc vu:Value}(hT:uT d):aV Tryz.prog (.func 56) [.agg ⟨gI d vh vs vr vc vu⟩] [] [] (mi d vh vs vr vc vu) (Dh d vh vs vr) (λ_=>[]) (Di d vh vs vr) (JP d):=by
 have uU:uT (Kd.bH d):=⟨hT.s.bH,hT.w,hT.h,hT.holes⟩
 have hend:∀{e:Int} {vc vu gh gc vn vl:Value},e≠0->¬FZ d->JP d ⟨false,e,vc,vu,gh,gc,vn,vl⟩:=λhe hb=>⟨(λh=>by cases h),λ_=>⟨he,hb⟩⟩
 refine aC _ (aF 56) λB w0=>?_;refine go ?_;intro b1 b2;refine go ?_;refine aj (Wp (d:=d) hT.s) (next:=λy hy=>?_);obtain⟨ok,e,v1,v2⟩:=y;cases ok with
 |false=>
  obtain⟨he,hno⟩:=hy.2 rfl;have he:e≠0:=he;dsimp only[cond,rT,oO,List.nil_append];refine go ?_;intro b4;refine go ?_;refine ay rfl (λh1=>?_) (λh1=>?_)
  ·refine go ?_;exact ae ⟨false,e,v1,v2,v1,v1,v1,v1⟩ (hv:=rfl) (hp:=hend he λh=>hno h.rs)
  ·exact absurd (gM.1 h1) he
 |true=>
 obtain⟨he,hres⟩:=hy.1 rfl;have he:e=0:=he;subst he;clear hy;dsimp only[cond,rT,oO,List.cons_append,List.nil_append];refine go ?_;intro b4;refine go ?_;refine fD (ah aa vh (Kd.bH d).holes) (λw hw=>hw (ah aa vh d.holes) (by simp)) ?_;refine fD (ah fo vs (Kd.bH d).symbols) (λw hw=>hw (ah fo vs d.symbols) (by simp)) ?_;refine fD (ah fA vr (Kd.bH d).regions) (λw hw=>hw (ah fA vr d.regions) (by simp)) ?_;generalize hd:Kd.bH d=r at uU⊢;refine aj (aiF (d:=r) (vc:=v1) (vu:=v2) uU) (next:=λe he=>?_);refine go ?_;refine ay rfl (λhne=>?_) (λhz=>?_)
 ·refine go ?_;exact ae ⟨false,e,v1,v2,v1,v1,v1,v1⟩ (hv:=rfl) (hp:=hend hne λh=>hne (he.2 (by rw[<- hd];exact h.typ)))
 have hty:=he.1 (gM.1 hz);clear he hz;have hm:=hty.Dg;have hr:=hty.Bd;have hG:=FX hm;have hgo:fH (aQ r):=⟨hm,rfl⟩
 have hrl:=uU.s.regs;refine go ?_;intro b6;refine go ?_;refine aj (OX (s:=r.shape) (w:=r.w) (h:=r.h) (holes:=r.holes) (vh:=vh) uU.w uU.h uU.holes) (next:=λy hy=>?_);obtain⟨ok,gh,gc⟩:=y;cases ok with
 |false=>exact absurd (hy.2 hm) (by simp)
 |true=>
 clear hy;dsimp only[cond,mkV,pG];rw[show wm r.shape r.w r.h r.holes=aQ r from rfl];dsimp only[jD,iW,List.cons_append,List.nil_append];refine go ?_;refine aj (V8 (g:=aQ r) (vh:=gh) (vc:=gc) hG) (next:=λy hy2=>?_);obtain⟨vn,e⟩:=y;have he:e=0:=hy2.2 hgo;subst he;clear hy2;refine fD (ah (ax aa) vn (bO (aQ r))) (λw hw=>hw (kX ((0:Int)=0) (ah (ax aa) vn (bO (aQ r)))) (by simp) rfl) ?_;dsimp only[tT];refine aT (E:=ax aa) (v:=vn) (xs:=bO (aQ r)) (by simp) λan cn en=>?_;subst en;refine aT (E:=fA) (v:=vr) (xs:=r.regions) (by simp) λar cr er=>?_;subst er;refine go ?_;refine fJ (ax (ax aa)) ?_;refine aR (λy:Nat×Value=>8 - y.1) (λy=>[(7,.int .i64 (y.1:Int))]) (λy=>[pt b4 (.cells (gI r vh vs (.slice ar r.regions.length cr) v1 v2)),pt b6 (.cells (bL r vh vs (.slice ar r.regions.length cr) v1 v2 (.int .i64 (aQ r).shape) (.int .i64 (aQ r).w) (.int .i64 (aQ r).h) gh gc (.slice an (bO (aQ r)).length cn) y.2)),ap (ax (ax aa)) y.2 (ji (aQ r) y.1)]) (λ_=>[]) (λy=>y.1<=8) (0,.slice none 0 0) (bJ _) (hk:=by repeat (first|exact aJ.nil|(apply aJ.cons;(focus (repeat (first|exact aA.here|apply aA.there)))))) (body:=?_);rintro⟨k,vl⟩ hk;dsimp only at hk⊢;have hkl:=JO (aQ r) k;refine go ?_;refine ay rfl (λh1=>?_) (λh1=>?_)
 ·refine go ?_;refine aj (ahG (g:=aQ r) (vh:=gh) (vc:=gc) (k:=(k:Int)) hG) (next:=λy hy=>?_);obtain⟨v4,e⟩:=y;have he:e=0:=hy.2 ⟨hgo,by omega,by omega⟩;subst he;dsimp only[JJ,List.cons_append,List.nil_append];refine fD (ah (ax aa) v4 (dx (aQ r) (k:Int))) (λw hw=>hw (kX ((0:Int)=0) (ah (ax aa) v4 (dx (aQ r) (k:Int)))) (by simp) rfl) ?_;refine aT (E:=ax aa) (v:=v4) (xs:=dx (aQ r) (k:Int)) (by simp) λa4 c4 e4=>?_;subst e4;refine go ?_;intro b33;refine go ?_;refine eG (xs:=ji (aQ r) k) (ax (ax aa)) (dx (aQ r) (k:Int)) (.slice a4 (dx (aQ r) (k:Int)).length c4) (by omega) (next:=λad=>?_);rw[<- VN];refine go ?_;exact aD (k+1,.slice ad ((ji (aQ r) k).length+1) ((ji (aQ r) k).length+1)) (by show 8 - (k+1)<8 - k;omega) (by show k+1<=_;omega)
 have OE:k=8:=by omega
 subst OE;refine go ?_;refine aR (λy:Nat×Value=>r.regions.length - y.1) (λy=>[(10,.int .i64 (y.1:Int))]) (λy=>[pt b4 (.cells (gI r vh vs (.slice ar r.regions.length cr) v1 v2)),pt b6 (.cells (bL r vh vs (.slice ar r.regions.length cr) v1 v2 (.int .i64 (aQ r).shape) (.int .i64 (aQ r).w) (.int .i64 (aQ r).h) gh gc (.slice an (bO (aQ r)).length cn) y.2)),ap (ax (ax aa)) y.2 (ji (aQ r) 8++(r.regions.take y.1).map λr2=>eD (aQ r) r2.lists)]) (λ_=>[]) (λy=>y.1<=r.regions.length) (0,vl) (bJ _) (hk:=by rw[show ji (aQ r) 8++(r.regions.take 0).map (λr2=>eD (aQ r) r2.lists)=ji (aQ r) 8 from gV _];repeat (first|exact aJ.nil|(apply aJ.cons;(focus (repeat (first|exact aA.here|apply aA.there)))))) (body:=?_);rintro⟨k,v2'⟩ hk;dsimp only at hk⊢;have hkl:(ji (aQ r) 8++(r.regions.take k).map λr2=>eD (aQ r) r2.lists).length=8+k:=by rw[gU,JO,dV,gL];omega
 refine go ?_;refine ay rfl (λh1=>?_) (λh1=>?_)
 ·refine go ?_;refine aU fA (xs:=r.regions) (next:=λ_ _ q (OG:Value) FY=>?_);have hrm:=aP FY;obtain⟨hl1,hl2⟩:=uU.s.vZ q hrm;obtain⟨⟨_,hro⟩,_⟩:=hr q hrm;refine go ?_;refine aj (We (g:=aQ r) (vh:=gh) (vc:=gc) (vr:=OG) (rs:=q.lists) hG hl1 hl2) (next:=λy hy=>?_);obtain⟨v8,e⟩:=y;have he:e=0:=hy.2 ⟨hgo,hro⟩;subst he;dsimp only[JL,List.cons_append,List.nil_append];refine fD (ah (ax aa) v8 (eD (aQ r) q.lists)) (λw hw=>hw (kX ((0:Int)=0) (ah (ax aa) v8 (eD (aQ r) q.lists))) (by simp) rfl) ?_;refine aT (E:=ax aa) (v:=v8) (xs:=eD (aQ r) q.lists) (by simp) λa8 c8 e8=>?_;subst e8;refine go ?_;intro b71;refine go ?_;have htk:ji (aQ r) 8++(r.regions.take (k+1)).map (λr2=>eD (aQ r) r2.lists)=(ji (aQ r) 8++(r.regions.take k).map λr2=>eD (aQ r) r2.lists)++[eD (aQ r) q.lists]:=by
   rw[bS FY,ed,oW,fI]
  refine eG (xs:=ji (aQ r) 8++(r.regions.take k).map λr2=>eD (aQ r) r2.lists) (ax (ax aa)) (eD (aQ r) q.lists) (.slice a8 (eD (aQ r) q.lists).length c8) (by omega) (next:=λad=>?_);rw[<- htk];refine go ?_;exact aD (k+1,.slice ad ((ji (aQ r) 8++(r.regions.take k).map λr2=>eD (aQ r) r2.lists).length+1) ((ji (aQ r) 8++(r.regions.take k).map λr2=>eD (aQ r) r2.lists).length+1)) (by show r.regions.length - (k+1)<r.regions.length - k;omega) (by show k+1<=_;omega)
 have hke:k=r.regions.length:=by omega
 subst hke;rw[bC];rw[show ji (aQ r) 8++r.regions.map (λr2=>eD (aQ r) r2.lists)=l5 r from rfl];refine aW (fG (E:=ax (ax aa)) (v:=v2') (xs:=l5 r)) (h:=?_);refine go ?_;subst hd;refine ae ⟨true,0,v1,v2,gh,gc,.slice an (bO (aQ (Kd.bH d))).length cn,v2'⟩ (hv:=rfl) (hp:=⟨λ_=>⟨rfl,hres,hty⟩,(λh=>by cases h)⟩) (hF:=?_);show Sub [ah bI v1 (Kd.bH d).aM,ah aZ v2 (Kd.bH d).rules,ah aa gh (aQ (Kd.bH d)).holes,ah aa gc (aQ (Kd.bH d)).cells,ah (ax aa) (.slice an (bO (aQ (Kd.bH d))).length cn) (bO (aQ (Kd.bH d))),ah (ax (ax aa)) v2' (l5 (Kd.bH d))] _;exact .cons (by simp) (.cons (by simp) (.cons (by simp) (.cons (by simp) (.cons (by simp) (.cons (by simp) .nil)))))
theorem aiH{x y:bR}{h1 s1 r1 c1 u1 zq zu n1 l1 h2 s2 r2 c2 u2 zw zx n2 l2:Value}(hS:lJ x):bV Tryz.prog 101 [.agg ⟨jq x h1 s1 r1 c1 u1 zq zu n1 l1⟩,.agg ⟨jq y h2 s2 r2 c2 u2 zw zx n2 l2⟩]
 (iB x h1 s1 r1 c1 u1 zq zu n1 l1 (iB y h2 s2 r2 c2 u2 zw zx n2 l2 [])) (.bool (decide (x=y))):=by
 have e1:=hS.d.s;have e2:=hS.g;obtain⟨e4,e5⟩:=hS.aN;obtain⟨e6,e7⟩:=hS.lists;clear hS;obtain⟨xd,xg,xn,xl⟩:=x;obtain⟨yd,yg,yn,yl⟩:=y;dsimp only at e1 e2 e4 e5 e6 e7;dsimp only[jq,iB];refine aC _ (aF 101) λB w0=>?_;refine aT (E:=ax (ax aa)) (v:=l1) (xs:=xl) (by simp) λa1 k1 q1=>?_;subst q1;refine aT (E:=ax (ax aa)) (v:=l2) (xs:=yl) (by simp) λa2 k2 q2=>?_;subst q2;refine go ?_;intro b2 b3;refine aW (eB (b:=b2)) (h:=?_);refine aW (eB (b:=b3)) (h:=?_);refine go ?_;refine ay rfl (λh=>?_) (λh=>?_)
 ·refine go ?_;refine ae () (hv:=?_) (hp:=trivial);rw[aS (λe=>by cases e;omega)];rfl
 have hlen:xl.length=yl.length:=by omega
 clear h;refine go ?_;refine aR (λk=>xl.length - k) (λk:Nat=>[(5,.int .i64 (k:Int))]) (λ_=>[]) (λ_=>[]) (λk=>k<=xl.length/\xl.take k=yl.take k) 0 ⟨by omega,by simp⟩ (body:=?_);rintro k ⟨hk,hsame⟩;refine go ?_;refine ay rfl (λh2=>?_) (λh2=>?_)
 ·refine go ?_;refine aU (ax (ax aa)) (xs:=xl) (next:=λ_ _ p (vp:Value) hx=>?_);refine go ?_;refine aU (ax (ax aa)) (xs:=yl) (next:=λ_ _ q (vq:Value) hy=>?_);have hpl:=e7 p (aP hx);refine go ?_;refine aj (Wv (xs:=p) (ys:=q) hpl.1 hpl.2) (next:=λ_ _=>?_);refine go ?_;refine eX rfl (λh3=>?_) (λh3=>?_)
  ·refine go ?_;refine ae () (hv:=?_) (hp:=trivial);rw[aS (λe=>by cases e;rw[hx]at hy;exact h3 (Option.some.inj hy))];rfl
  refine go ?_;refine aD (k+1) (by omega) ⟨by omega,?_⟩;rw[bS hx,bS hy,hsame,h3]
 have hke:k=xl.length:=by omega
 subst hke;rw[bC,hlen,bC]at hsame;clear hk h2;subst hsame;refine go ?_;have hdd:bV Tryz.prog 149 [.agg ⟨gI xd h1 s1 r1 c1 u1⟩,.agg ⟨gI yd h2 s2 r2 c2 u2⟩] [ah aa h1 xd.holes,ah fo s1 xd.symbols,ah fA r1 xd.regions,ah bI c1 xd.aM,ah aZ u1 xd.rules,ah aa h2 yd.holes,ah fo s2 yd.symbols,ah fA r2 yd.regions,ah bI c2 yd.aM,ah aZ u2 yd.rules] (.bool (decide (xd=yd))):=ahW e1;refine aj hdd (next:=λ_ _=>?_);refine go ?_;refine gG (λk6=>?_) (λk6=>?_)
 ·refine go ?_;refine ae () (hv:=?_) (hp:=trivial);rw[aS (λe=>k6 (by cases e;rfl))];rfl
 refine go ?_;refine aj (ahU (x:=xg) (y:=yg) (h1:=zq) (c1:=zu) (h2:=zw) (c2:=zx) e2) (next:=λ_ _=>?_);refine go ?_;refine gG (λk7=>?_) (λk7=>?_)
 ·refine go ?_;refine ae () (hv:=?_) (hp:=trivial);rw[aS (λe=>k7 (by cases e;rfl))];rfl
 refine go ?_;refine aj (Wv (xs:=xn) (ys:=yn) e4 e5) (next:=λ_ _=>?_);refine go ?_;refine ae () (hv:=?_) (hp:=trivial);subst k6 k7;rw[show decide (bR.mk xd xg xn xl=bR.mk xd xg yn xl)=decide (xn=yn)from l6.2 ⟨λh=>by cases h;rfl,λh=>by rw[h]⟩];rfl
theorem WB{k:bR}{vh vs vr vc vu gh gc vn vl:Value}(hS:lJ k):aV Tryz.prog (.func 41) [.agg ⟨jq k vh vs vr vc vu gh gc vn vl⟩] [] [] (iB k vh vs vr vc vu gh gc vn vl []) (λb:Bool=>.int .i64 (cond b 0 180)) (λ_=>[]) (λ_=>[]) (λb=>b=true↔eH k):=by
 refine aC _ (aF 41) λB w0=>?_;refine go ?_;intro b1;refine go ?_;refine aj (aiG (d:=k.decl) hS.d) (next:=λy hy=>?_);obtain⟨ok,e,v1,v2,v3,v4,v5,v6⟩:=y;cases ok with
 |false=>
  obtain⟨he,hno⟩:=hy.2 rfl;have he:e≠0:=he;dsimp only[cond,Dh,Di,List.nil_append];refine go ?_;intro b3;refine go ?_;refine gG (λh1=>?_) (λh1=>?_)
  ·exact absurd (gM.1 h1) he
  refine go ?_;exact ae false (hv:=rfl) (hp:=⟨(λh=>by cases h),λh=>absurd h.b hno⟩)
 |true=>
 obtain⟨he,hb⟩:=hy.1 rfl;have he:e=0:=he;subst he;clear hy;dsimp only[cond,Dh,Di,List.cons_append,List.nil_append];refine go ?_;intro b3;refine go ?_;have hsm:=aiH (x:=k) (y:=kG (Kd.bH k.decl)) (h1:=vh) (s1:=vs) (r1:=vr) (c1:=vc) (u1:=vu) (zq:=gh) (zu:=gc) (n1:=vn) (l1:=vl) (h2:=vh) (s2:=vs) (r2:=vr) (c2:=v1) (u2:=v2) (zw:=v3) (zx:=v4) (n2:=v5) (l2:=v6) hS;refine fD (ah aa vh (kG (Kd.bH k.decl)).decl.holes) (λw hw=>hw (ah aa vh k.decl.holes) (by simp)) ?_;refine fD (ah fo vs (kG (Kd.bH k.decl)).decl.symbols) (λw hw=>hw (ah fo vs k.decl.symbols) (by simp)) ?_;refine fD (ah fA vr (kG (Kd.bH k.decl)).decl.regions) (λw hw=>hw (ah fA vr k.decl.regions) (by simp)) ?_;refine fD (ah bI v1 (kG (Kd.bH k.decl)).decl.aM) (λw hw=>hw (ah bI v1 (Kd.bH k.decl).aM) (by simp)) ?_;refine fD (ah aZ v2 (kG (Kd.bH k.decl)).decl.rules) (λw hw=>hw (ah aZ v2 (Kd.bH k.decl).rules) (by simp)) ?_;refine fD (ah aa v3 (kG (Kd.bH k.decl)).grid.holes) (λw hw=>hw (ah aa v3 (aQ (Kd.bH k.decl)).holes) (by simp)) ?_;refine fD (ah aa v4 (kG (Kd.bH k.decl)).grid.cells) (λw hw=>hw (ah aa v4 (aQ (Kd.bH k.decl)).cells) (by simp)) ?_;refine fD (ah (ax aa) v5 (kG (Kd.bH k.decl)).aN) (λw hw=>hw (ah (ax aa) v5 (bO (aQ (Kd.bH k.decl)))) (by simp)) ?_;refine fD (ah (ax (ax aa)) v6 (kG (Kd.bH k.decl)).lists) (λw hw=>hw (ah (ax (ax aa)) v6 (l5 (Kd.bH k.decl))) (by simp)) ?_;refine aj hsm (next:=λ_ _=>?_);refine go ?_;refine eX rfl (λh3=>?_) (λh3=>?_)
 ·refine go ?_;exact ae false (hv:=rfl) (hp:=⟨(λh=>by cases h),λh=>absurd h.e h3⟩)
 ·refine go ?_;exact ae true (hv:=rfl) (hp:=⟨λ_=>⟨hb,h3⟩,λ_=>rfl⟩)
open Go.Ideal Kd Canon
theorem aiI{va vb:Value}{xs ys:List Int}(hal:xs.length<=1000000)(hbl:ys.length<=1000000):
 bV Tryz.prog 178 [va,vb] [ah aa va xs,ah aa vb ys] (.int .i64 (jb gK xs ys)):=by
 refine aC _ (aF 178) λB w0=>?_;refine go ?_;refine aR (λk=>xs.length - k) (λk:Nat=>[(5,.int .i64 (k:Int))]) (λ_=>[]) (λ_=>[]) (λk=>k<=xs.length/\k<=ys.length/\jb gK xs ys=jb gK (xs.drop k) (ys.drop k)) 0 ⟨by omega,by omega,rfl⟩ (body:=?_);rintro k ⟨hkx,Dt,yf⟩;refine go ?_;refine gG (λh1=>?_) (λh1=>?_)
 ·refine go ?_;refine ay rfl (λh3=>?_) (λh3=>?_)
  ·refine go ?_;refine ae () (hv:=?_) (hp:=trivial);rw[yf,Dj hkx Dt (by omega),if_pos (by omega)];rfl
  refine go ?_;refine ay rfl (λh4=>?_) (λh4=>?_)
  ·refine go ?_;refine ae () (hv:=?_) (hp:=trivial);rw[yf,Dj hkx Dt (by omega),if_neg (by omega),if_pos (by omega)];rfl
  refine go ?_;refine ae () (hv:=?_) (hp:=trivial);rw[yf,Dj hkx Dt (by omega),if_neg (by omega),if_neg (by omega)];rfl
 refine go ?_;refine ay rfl (λh2=>?_) (λh2=>?_)
 rotate_left
 ·refine go ?_;refine ay rfl (λh3=>?_) (λh3=>?_)
  ·refine go ?_;refine ae () (hv:=?_) (hp:=trivial);rw[yf,Dj hkx Dt (by omega),if_pos (by omega)];rfl
  refine go ?_;refine ay rfl (λh4=>?_) (λh4=>?_)
  ·refine go ?_;refine ae () (hv:=?_) (hp:=trivial);rw[yf,Dj hkx Dt (by omega),if_neg (by omega),if_pos (by omega)];rfl
  refine go ?_;refine ae () (hv:=?_) (hp:=trivial);rw[yf,Dj hkx Dt (by omega),if_neg (by omega),if_neg (by omega)];rfl
 refine go ?_;intro _ _ x hx _ _ y hy;refine ay rfl (λh3=>?_) (λh3=>?_)
 ·refine go ?_;refine ae () (hv:=?_) (hp:=trivial);rw[yf,drop_cons hx,drop_cons hy,jb,gK,if_pos h3];rfl
 refine go ?_;intro _ _ x' hx' _ _ y' hy';cases hx.symm.trans hx';cases hy.symm.trans hy';refine ay rfl (λh4=>?_) (λh4=>?_)
 ·refine go ?_;refine ae () (hv:=?_) (hp:=trivial);rw[yf,drop_cons hx,drop_cons hy,jb,gK,if_neg h3,if_pos h4];rfl
 refine go ?_;refine aD (k+1) (by omega) ⟨by omega,by omega,?_⟩;rw[yf,drop_cons hx,drop_cons hy,jb,gK,if_neg h3,if_neg h4];rfl
theorem WC{b:Nat}{x y:Int}:rH (pt b (.cells [.int .i64 x,.int .i64 y])) [ah aa (.slice (some ⟨b,0,some 0⟩) 2 2) [x,y]]:=yU (xs:=[x,y])
theorem aiJ{va vb:Value}{a b:Clue}:bV Tryz.prog 134 [CV a va,CV b vb] [] (.int .i64 (jb gK [a.aB,a.at_] [b.aB,b.at_])):=by
 refine aC _ (aF 134) λB w0=>?_;refine go ?_;intro b1 b2 b3 b4;refine aW (WC) (h:=?_);refine aW (WC) (h:=?_);refine aj (aiI (xs:=[a.aB,a.at_]) (ys:=[b.aB,b.at_]) (by simp) (by simp)) (next:=λ_ _=>?_);refine go ?_;exact ae () (hv:=rfl) (hp:=trivial)
structure aiK(d:bG):Prop where
 holes:d.holes.length<=40
 cZ:d.symbols.length<=20
 regs:d.regions.length<=8
 jB:d.aM.length<=8
 jP:d.rules.length<=20
structure akh(k:bR):Prop where
 d:aiK k.decl
 cells:k.grid.cells.length<=256
 OU:k.grid.holes.length<=300
theorem WE{l:List Int}{x:Int}(h1:(l.length:Int)=1)(hx:l[0]? =some x){Q:Int->Prop}:(∀y∈l,Q y)↔Q x:=by
 match l,h1,hx with
 |[a],_,hx=>cases hx;simp
 |[],h1,_=>cases h1
 |_::_::_,h1,_=>simp at h1;omega
theorem aiL{k:bR}{g:Clue}{vh vs vr vc vu gh gc vn vl vv:Value}(hS:lJ k)(hF:AJ k)(hv:g.values.length<9223372036854775808):
 aV Tryz.prog (.func 133) [.agg ⟨jq k vh vs vr vc vu gh gc vn vl⟩,CV g vv] [] [] (ah aa vv g.values::iB k vh vs vr vc vu gh gc vn vl []) (λb:Bool=>.bool b) (λ_=>[]) (λ_=>[]) (λb=>b=true↔qb k g):=by
 have hcl:=hS.d.s.jB;have hsl:=hS.d.s.cZ;refine aC _ (aF 133) λB w0=>?_;refine aT (E:=bI) (v:=vc) (xs:=k.decl.aM) (by simp) λac cc ec=>?_;subst ec;refine aT (E:=fo) (v:=vs) (xs:=k.decl.symbols) (by simp) λoz cs1 es1=>?_;subst es1;refine aT (E:=ax (ax aa)) (v:=vl) (xs:=k.lists) (by simp) λal cl el=>?_;subst el;refine aT (E:=aa) (v:=vv) (xs:=g.values) (by simp) λav cv F4=>?_;subst F4;refine go ?_;intro b2 b3;refine aW (eB (b:=b2)) (h:=?_);refine aW (eB (b:=b3)) (h:=?_);refine go ?_;refine gG (λh1=>?_) (λh1=>?_)
 rotate_left
 ·refine go ?_;exact ae false (hv:=rfl) (hp:=⟨(λh=>by cases h),λ⟨c,l,h,_⟩=>by omega⟩)
 refine go ?_;refine ay rfl (λh2=>?_) (λh2=>?_)
 ·refine go ?_;refine ae false (hv:=rfl) (hp:=⟨(λh=>by cases h),λ⟨c,l,_,h,_⟩=>?_⟩);have:=(bK.1 h).1;omega
 obtain⟨ci,hci⟩:=dZ (show 0<=g.aB by omega);have hg0:0<=g.aB:=by omega
 have LK:ci<k.decl.aM.length:=by omega
 have htn:g.aB.toNat=ci:=by omega
 refine go ?_;rw[hci];refine aU bI (xs:=k.decl.aM) (next:=λ_ _ c (_:Unit) hc=>?_);obtain⟨hf0,hf1⟩:=hF c (aP hc);refine go ?_;intro b5;refine go ?_;refine gG (λh3=>?_) (λh3=>?_)
 rotate_left
 ·refine go ?_;exact ae false (hv:=rfl) (hp:=⟨(λh=>by cases h),λ⟨c,l,_,_,_,h,_⟩=>by omega⟩)
 refine go ?_;obtain⟨fi,hfi⟩:=dZ hf0;have Bg:c.family.toNat=fi:=by omega
 rw[hfi];refine aU (ax (ax aa)) (xs:=k.lists) (next:=λ_ _ ls (OJ:Value) hls=>?_);refine go ?_;refine ay rfl (λh4=>?_) (λh4=>?_)
 ·refine go ?_;refine ae false (hv:=rfl) (hp:=⟨(λh=>by cases h),λ⟨c',l',_,q1,q2,q3,q4,_⟩=>?_⟩);rw[htn,hc]at q1;cases q1;rw[Bg,hls]at q2;cases q2;omega
 have hR:∀b:Bool,(b=true↔((c.type=1/\g.values.length=1/\∀x∈g.values,0<=x/\x<=(k.decl.symbols.length:Int) - 1)\/(c.type=2/\g.values.length=1/\∀x∈g.values,c.lo<=x/\x<=c.hi)\/
  (c.type≠1/\c.type≠2/\g.values.length<=8/\∀x∈g.values,1<=x/\x<=256)))->(b=true↔qb k g):=λb hb=>by
  rw[hb];refine⟨λh=>⟨c,ls,hg0,by rw[htn];exact hc,by rw[Bg];exact hls,by omega,by omega,h⟩,λ⟨c',l',_,q1,_,_,_,h⟩=>?_⟩;rw[htn,hc]at q1;cases q1;exact h
 refine go ?_;refine ay rfl (λh5=>?_) (λh5=>?_)
 ·refine go ?_;refine gG (λh6=>?_) (λh6=>?_)
  ·refine go ?_;exact ae false (hv:=rfl) (hp:=hR _ ⟨(λh=>by cases h),λh=>by exfalso;omega⟩)
  refine go ?_;intro _ _ x hx;refine go ?_;have ha:=λQ=>WE (Q:=Q) h6 hx;refine gG (λh7=>?_) (λh7=>?_)
  ·refine go ?_;exact ae false (hv:=rfl) (hp:=hR _ ⟨(λh=>by cases h),λh=>by exfalso;rw[ha,ha,ha]at h;omega⟩)
  refine go ?_;intro _ _ x' hx';cases hx.symm.trans hx';refine go ?_;refine ae (decide (x<(k.decl.symbols.length:Int))) (hv:=rfl) (hp:=hR _ ?_);rw[yB,ha,ha,ha];omega
 refine go ?_;refine ay rfl (λh6=>?_) (λh6=>?_)
 ·refine go ?_;refine gG (λh7=>?_) (λh7=>?_)
  ·refine go ?_;exact ae false (hv:=rfl) (hp:=hR _ ⟨(λh=>by cases h),λh=>by exfalso;omega⟩)
  refine go ?_;intro _ _ x hx;refine go ?_;have ha:=λQ=>WE (Q:=Q) h7 hx;refine gG (λh8=>?_) (λh8=>?_)
  ·refine go ?_;exact ae false (hv:=rfl) (hp:=hR _ ⟨(λh=>by cases h),λh=>by exfalso;rw[ha,ha,ha]at h;omega⟩)
  refine go ?_;intro _ _ x' hx';cases hx.symm.trans hx';refine go ?_;refine ae (decide (x<=c.hi)) (hv:=rfl) (hp:=hR _ ?_);rw[yB,ha,ha,ha];omega
 refine go ?_;refine aR (λj:Nat=>g.values.length - j) (λj=>[(7,.int .i64 (j:Int))]) (λ_=>[]) (λ_=>[]) (λj=>j<=g.values.length/\∀x∈g.values.take j,1<=x/\x<=256) 0 ⟨bJ _,by simp⟩ (body:=?_);rintro j ⟨hj,hall⟩;refine go ?_;refine ay rfl (λa1=>?_) (λa1=>?_)
 ·refine go ?_;intro _ _ x hx;have hxm:=aP hx;refine go ?_;refine gG (λh7=>?_) (λh7=>?_)
  rotate_left
  ·refine go ?_;exact ae false (hv:=rfl) (hp:=hR _ ⟨(λh=>by cases h),λh=>by exfalso;rcases h with h|h|h;exact h5 h.1;exact h6 h.1;have:=h.2.2.2 x hxm;omega⟩)
  refine go ?_;intro _ _ x' hx';cases hx.symm.trans hx';refine go ?_;refine ay rfl (λh8=>?_) (λh8=>?_)
  ·refine go ?_;exact ae false (hv:=rfl) (hp:=hR _ ⟨(λh=>by cases h),λh=>by exfalso;rcases h with h|h|h;exact h5 h.1;exact h6 h.1;have:=h.2.2.2 x hxm;omega⟩)
  refine go ?_;refine aD (j+1) (by show g.values.length - (j+1)<g.values.length - j;omega) ⟨by omega,?_⟩;rw[bS hx];intro y hy;rcases dB.1 hy with hy|hy
  ·exact hall y hy
  ·rw[bM.1 hy];omega
 have fK:j=g.values.length:=by omega
 subst fK;rw[bC]at hall;refine go ?_;refine ae (decide ((g.values.length:Int)<=8)) (hv:=rfl) (hp:=hR _ ?_);rw[yB];exact⟨λh=>.inr (.inr ⟨h5,h6,by omega,hall⟩),λh=>by rcases h with h|h|h;exact absurd h.1 h5;exact absurd h.1 h6;have:=h.2.2.1;omega⟩
theorem aiM{k:bR}{p:List Clue}{vh vs vr vc vu gh gc vn vl vp:Value}(hS:lJ k)(hP:qO p)(hF:AJ k):
 aV Tryz.prog (.func 91) [.agg ⟨jq k vh vs vr vc vu gh gc vn vl⟩,.agg ⟨[vp]⟩] [] [] (ah jh vp p::iB k vh vs vr vc vu gh gc vn vl []) (λb:Bool=>.bool b) (λ_=>[]) (λ_=>[]) (λb=>b=true↔jO k p):=by
 refine aC _ (aF 91) λB w0=>?_;refine aT (E:=jh) (v:=vp) (xs:=p) (by simp) λOL cp ep=>?_;subst ep;refine go ?_;intro b2 b3;refine aW (eB (b:=b2)) (h:=?_);refine aW (eB (b:=b3)) (h:=?_);refine go ?_;refine ay rfl (λh1=>?_) (λh1=>?_)
 ·refine go ?_;exact ae false (hv:=rfl) (hp:=⟨(λh=>by cases h),λh=>by have:=h.len;omega⟩)
 refine go ?_;refine aR (λj:Nat=>p.length - j) (λj=>[(5,.int .i64 (j:Int))]) (λ_=>[]) (λ_=>[]) (λj=>j<=p.length/\(∀g∈p.take j,qb k g)/\∀(i:Nat) a b,i+1<j->p[i]? =some a->p[i+1]? =some b->iF a b<0) 0 ⟨bJ _,by simp,λi a b h=>by omega⟩ (body:=?_);rintro j ⟨hj,hall,hs⟩;refine go ?_;refine ay rfl (λh2=>?_) (λh2=>?_)
 ·refine go ?_;refine aU jh (xs:=p) (next:=λ_ _ g (vg:Value) hg=>?_);have hgm:=aP hg;have htk:=bS hg;refine go ?_;refine aj (aiL (k:=k) (g:=g) (vv:=vg) hS hF (hP.vals g hgm)) (next:=λb hb=>?_);cases b with
  |false=>
   refine go ?_;exact ae false (hv:=rfl) (hp:=⟨(λh=>by cases h),λh=>hb.2 (h.right g hgm)⟩)
  |true=>
  have hR:=hb.1 rfl;have nu:∀x∈p.take (j+1),qb k x:=by
   rw[htk];intro x hx;rcases dB.1 hx with hx|hx
   ·exact hall x hx
   ·rw[bM.1 hx];exact hR
  refine go ?_;refine gG (λh3=>?_) (λh3=>?_)
  ·have hj0:j=0:=by omega
   subst hj0;refine go ?_;exact aD 1 (by show p.length - 1<p.length - 0;omega) ⟨by omega,nu,λi a b h=>by omega⟩
  obtain⟨i,rfl⟩:∃i,j=i+1:=⟨j - 1,by omega⟩
  refine go ?_;rw[show((i+1:Nat):Int) - 1=(i:Int)by omega];refine aU jh (xs:=p) (next:=λ_ _ g0 (OM:Value) hg0=>?_);refine go ?_;refine aU jh (xs:=p) (next:=λ_ _ g' (vg1:Value) hg'=>?_);cases hg.symm.trans hg';refine go ?_;refine aj (aiJ (a:=g0) (b:=g) (va:=OM) (vb:=vg1)) (next:=λ_ _=>?_);rw[<- Uh];refine go ?_;refine ay rfl (λh4=>?_) (λh4=>?_)
  ·refine go ?_;exact ae false (hv:=rfl) (hp:=⟨(λh=>by cases h),λh=>by have:=h.sorted i g0 g hg0 hg;omega⟩)
  ·refine go ?_;refine aD (i+1+1) (by show p.length - (i+1+1)<p.length - (i+1);omega) ⟨by omega,nu,λi' a b h ha hb=>?_⟩;by_cases e:i'=i
   ·subst e;rw[hg0]at ha;rw[hg]at hb;cases ha;cases hb;omega
   ·exact hs i' a b (by omega) ha hb
 have fK:j=p.length:=by omega
 subst fK;rw[bC]at hall;refine go ?_;exact ae true (hv:=rfl) (hp:=⟨λ_=>⟨by omega,hall,λi a b ha hb=>hs i a b (bK.1 hb).1 ha hb⟩,λ_=>rfl⟩)
theorem WG{k:bR}{p:List Clue}{vh vs vr vc vu gh gc vn vl vp:Value}(hS:lJ k)(hP:qO p):
 aV Tryz.prog (.func 37) [.agg ⟨jq k vh vs vr vc vu gh gc vn vl⟩,.agg ⟨[vp]⟩] [] [] (ah jh vp p::iB k vh vs vr vc vu gh gc vn vl []) (λe:Int=>.int .i64 e) (λ_=>[]) (λ_=>[])
  (λe=>(¬eH k->e=180)/\(eH k->¬jO k p->e=190)/\(eH k->jO k p->e=0)):=by
 refine aC _ (aF 37) λB w0=>?_;refine go ?_;intro b2 b3;refine go ?_;refine aj (WB (k:=k) hS) (next:=λb hb=>?_);cases b with
 |false=>
  have hno:¬eH k:=λh=>by have:=hb.2 h;cases this
  dsimp only[cond];refine go ?_;exact ae 180 (hv:=rfl) (hp:=⟨λ_=>rfl,λh=>absurd h hno,λh=>absurd h hno⟩)
 |true=>
 have hK:=hb.1 rfl;clear hb;dsimp only[cond];refine go ?_;refine aj (aiM (k:=k) (p:=p) hS hP hK.lX) (next:=λb hb=>?_);cases b with
 |false=>
  refine go ?_;exact ae 190 (hv:=rfl) (hp:=⟨λh=>absurd hK h,λ_ _=>rfl,λ_ h=>by have:=hb.2 h;cases this⟩)
 |true=>
  refine go ?_;exact ae 0 (hv:=rfl) (hp:=⟨λh=>absurd hK h,λ_ h=>absurd (hb.1 rfl) h,λ_ _=>rfl⟩)
