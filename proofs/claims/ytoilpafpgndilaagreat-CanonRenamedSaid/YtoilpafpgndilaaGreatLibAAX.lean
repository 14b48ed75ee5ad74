/-
  Part LibAAX.
-/
import Derived.Test.YtoilpafpgndilaaGreatLibZX
import Derived.Test.YtoilpafpgndilaaGreatLibHX
set_option linter.all false
set_option maxRecDepth 10000
set_option maxHeartbeats 4000000
namespace Go.Proofs.YtoilpafpgndilaaGreat
open Go.Ideal Kd
theorem aiU{d:bF}{vh vs vr vc vu:Value}(hT:vC d):bA Tryz.prog (.func 105) [.agg ⟨gB d vh vs vr vc vu⟩] [] [] (lG d vh vs vr vc vu) (Dn d vh vs vr) (λ_=>[]) (Dp d vh vs vr) (JR d):=by
 have qV:vC (Kd.bE d):=⟨hT.s.bE,hT.w,hT.h,hT.holes⟩
 have hend:∀{e:Int} {vc vu gh gc vn vl:Value},e≠0->¬FQ d->JR d ⟨false,e,vc,vu,gh,gc,vn,vl⟩:=λhe hb=>⟨(λh=>by cases h),λ_=>⟨he,hb⟩⟩
 refine aM _ (aP 105) λB w0=>?_;refine go ?_;intro b1 b2;refine go ?_;refine ay (WH (d:=d) hT.s) (next:=λy hy=>?_);obtain⟨ok,e,v1,v2⟩:=y;cases ok with
 |false=>
  obtain⟨he,hno⟩:=hy.2 rfl;have he:e≠0:=he;dsimp only[cond,rX,oL,List.nil_append];refine go ?_;intro b4;refine go ?_;refine aA rfl (λh1=>?_) (λh1=>?_)
  ·refine go ?_;exact ah ⟨false,e,v1,v2,v1,v1,v1,v1⟩ (hv:=rfl) (hp:=hend he λh=>hno h.rs)
  ·exact absurd (ic.1 h1) he
 |true=>
 obtain⟨he,hres⟩:=hy.1 rfl;have he:e=0:=he;subst he;clear hy;dsimp only[cond,rX,oL,List.cons_append,List.nil_append];refine go ?_;intro b4;refine go ?_;refine eF (ai ae vh (Kd.bE d).holes) (λw hw=>hw (ai ae vh d.holes) (by simp)) ?_;refine eF (ai fF vs (Kd.bE d).symbols) (λw hw=>hw (ai fF vs d.symbols) (by simp)) ?_;refine eF (ai eY vr (Kd.bE d).regions) (λw hw=>hw (ai eY vr d.regions) (by simp)) ?_;generalize hd:Kd.bE d=r at qV⊢;refine ay (aiT (d:=r) (vc:=v1) (vu:=v2) qV) (next:=λe he=>?_);refine go ?_;refine aA rfl (λhne=>?_) (λhz=>?_)
 ·refine go ?_;exact ah ⟨false,e,v1,v2,v1,v1,v1,v1⟩ (hv:=rfl) (hp:=hend hne λh=>hne (he.2 (by rw[<- hd];exact h.typ)))
 have hty:=he.1 (ic.1 hz);clear he hz;have hm:=hty.Dk;have hr:=hty.Dl;have hG:=FP hm;have hgo:fE (aT r):=⟨hm,rfl⟩
 have hrl:=qV.s.regs;refine go ?_;intro b6;refine go ?_;refine ay (O4 (s:=r.shape) (w:=r.w) (h:=r.h) (holes:=r.holes) (vh:=vh) qV.w qV.h qV.holes) (next:=λy hy=>?_);obtain⟨ok,gh,gc⟩:=y;cases ok with
 |false=>exact absurd (hy.2 hm) (by simp)
 |true=>
 clear hy;dsimp only[cond,mkV,pM];rw[show wH r.shape r.w r.h r.holes=aT r from rfl];dsimp only[jq,iO,List.cons_append,List.nil_append];refine go ?_;refine ay (Wv (g:=aT r) (vh:=gh) (vc:=gc) hG) (next:=λy hy2=>?_);obtain⟨vn,e⟩:=y;have he:e=0:=hy2.2 hgo;subst he;clear hy2;refine eF (ai (ak ae) vn (bJ (aT r))) (λw hw=>hw (jr ((0:Int)=0) (ai (ak ae) vn (bJ (aT r)))) (by simp) rfl) ?_;dsimp only[wI];refine aS (E:=ak ae) (v:=vn) (xs:=bJ (aT r)) (by simp) λan cn en=>?_;subst en;refine aS (E:=eY) (v:=vr) (xs:=r.regions) (by simp) λar cr er=>?_;subst er;refine go ?_;refine gH (ak (ak ae)) ?_;refine aU (λy:Nat×Value=>8 - y.1) (λy=>[(7,.int .i64 (y.1:Int))]) (λy=>[pt b4 (.cells (gB r vh vs (.slice ar r.regions.length cr) v1 v2)),pt b6 (.cells (bL r vh vs (.slice ar r.regions.length cr) v1 v2 (.int .i64 (aT r).shape) (.int .i64 (aT r).w) (.int .i64 (aT r).h) gh gc (.slice an (bJ (aT r)).length cn) y.2)),ap (ak (ak ae)) y.2 (ja (aT r) y.1)]) (λ_=>[]) (λy=>y.1<=8) (0,.slice none 0 0) (bR _) (hk:=by repeat (first|exact aI.nil|(apply aI.cons;(focus (repeat (first|exact az.here|apply az.there)))))) (body:=?_);rintro⟨k,vl⟩ hk;dsimp only at hk⊢;have hkl:=JQ (aT r) k;refine go ?_;refine aA rfl (λh1=>?_) (λh1=>?_)
 ·refine go ?_;refine ay (ahW (g:=aT r) (vh:=gh) (vc:=gc) (k:=(k:Int)) hG) (next:=λy hy=>?_);obtain⟨v4,e⟩:=y;have he:e=0:=hy.2 ⟨hgo,by omega,by omega⟩;subst he;dsimp only[JM,List.cons_append,List.nil_append];refine eF (ai (ak ae) v4 (dM (aT r) (k:Int))) (λw hw=>hw (jr ((0:Int)=0) (ai (ak ae) v4 (dM (aT r) (k:Int)))) (by simp) rfl) ?_;refine aS (E:=ak ae) (v:=v4) (xs:=dM (aT r) (k:Int)) (by simp) λa4 c4 e4=>?_;subst e4;refine go ?_;intro V4;refine go ?_;refine fB (xs:=ja (aT r) k) (ak (ak ae)) (dM (aT r) (k:Int)) (.slice a4 (dM (aT r) (k:Int)).length c4) (by omega) (next:=λad=>?_);rw[<- V3];refine go ?_;exact aN (k+1,.slice ad ((ja (aT r) k).length+1) ((ja (aT r) k).length+1)) (by show 8 - (k+1)<8 - k;omega) (by show k+1<=_;omega)
 have OG:k=8:=by omega
 subst OG;refine go ?_;refine aU (λy:Nat×Value=>r.regions.length - y.1) (λy=>[(10,.int .i64 (y.1:Int))]) (λy=>[pt b4 (.cells (gB r vh vs (.slice ar r.regions.length cr) v1 v2)),pt b6 (.cells (bL r vh vs (.slice ar r.regions.length cr) v1 v2 (.int .i64 (aT r).shape) (.int .i64 (aT r).w) (.int .i64 (aT r).h) gh gc (.slice an (bJ (aT r)).length cn) y.2)),ap (ak (ak ae)) y.2 (ja (aT r) 8++(r.regions.take y.1).map λr2=>dW (aT r) r2.lists)]) (λ_=>[]) (λy=>y.1<=r.regions.length) (0,vl) (bR _) (hk:=by rw[show ja (aT r) 8++(r.regions.take 0).map (λr2=>dW (aT r) r2.lists)=ja (aT r) 8 from gU _];repeat (first|exact aI.nil|(apply aI.cons;(focus (repeat (first|exact az.here|apply az.there)))))) (body:=?_);rintro⟨k,v2'⟩ hk;dsimp only at hk⊢;have hkl:(ja (aT r) 8++(r.regions.take k).map λr2=>dW (aT r) r2.lists).length=8+k:=by rw[iH,JQ,bY,gT];omega
 refine go ?_;refine aA rfl (λh1=>?_) (λh1=>?_)
 ·refine go ?_;refine bi eY (xs:=r.regions) (next:=λ_ _ q (OH:Value) Dm=>?_);have hrm:=aZ Dm;obtain⟨hl1,hl2⟩:=qV.s.rZ q hrm;obtain⟨⟨_,hro⟩,_⟩:=hr q hrm;refine go ?_;refine ay (Wx (g:=aT r) (vh:=gh) (vc:=gc) (vr:=OH) (rs:=q.lists) hG hl1 hl2) (next:=λy hy=>?_);obtain⟨v8,e⟩:=y;have he:e=0:=hy.2 ⟨hgo,hro⟩;subst he;dsimp only[JO,List.cons_append,List.nil_append];refine eF (ai (ak ae) v8 (dW (aT r) q.lists)) (λw hw=>hw (jr ((0:Int)=0) (ai (ak ae) v8 (dW (aT r) q.lists))) (by simp) rfl) ?_;refine aS (E:=ak ae) (v:=v8) (xs:=dW (aT r) q.lists) (by simp) λa8 c8 e8=>?_;subst e8;refine go ?_;intro b71;refine go ?_;have htk:ja (aT r) 8++(r.regions.take (k+1)).map (λr2=>dW (aT r) r2.lists)=(ja (aT r) 8++(r.regions.take k).map λr2=>dW (aT r) r2.lists)++[dW (aT r) q.lists]:=by
   rw[bZ Dm,fP,sQ,List.append_assoc]
  refine fB (xs:=ja (aT r) 8++(r.regions.take k).map λr2=>dW (aT r) r2.lists) (ak (ak ae)) (dW (aT r) q.lists) (.slice a8 (dW (aT r) q.lists).length c8) (by omega) (next:=λad=>?_);rw[<- htk];refine go ?_;exact aN (k+1,.slice ad ((ja (aT r) 8++(r.regions.take k).map λr2=>dW (aT r) r2.lists).length+1) ((ja (aT r) 8++(r.regions.take k).map λr2=>dW (aT r) r2.lists).length+1)) (by show r.regions.length - (k+1)<r.regions.length - k;omega) (by show k+1<=_;omega)
 have hke:k=r.regions.length:=by omega
 subst hke;rw[bU];rw[show ja (aT r) 8++r.regions.map (λr2=>dW (aT r) r2.lists)=oI r from rfl];refine bn (gz (E:=ak (ak ae)) (v:=v2') (xs:=oI r)) (h:=?_);refine go ?_;subst hd;refine ah ⟨true,0,v1,v2,gh,gc,.slice an (bJ (aT (Kd.bE d))).length cn,v2'⟩ (hv:=rfl) (hp:=⟨λ_=>⟨rfl,hres,hty⟩,(λh=>by cases h)⟩) (hF:=?_);show Sub [ai bI v1 (Kd.bE d).aJ,ai aY v2 (Kd.bE d).rules,ai ae gh (aT (Kd.bE d)).holes,ai ae gc (aT (Kd.bE d)).cells,ai (ak ae) (.slice an (bJ (aT (Kd.bE d))).length cn) (bJ (aT (Kd.bE d))),ai (ak (ak ae)) v2' (oI (Kd.bE d))] _;exact .cons (by simp) (.cons (by simp) (.cons (by simp) (.cons (by simp) (.cons (by simp) (.cons (by simp) .nil)))))
theorem aiV{x y:bD}{h1 s1 r1 c1 u1 zz zA n1 l1 h2 s2 r2 c2 u2 zB zC n2 l2:Value}(hS:nZ x):dD Tryz.prog 111 [.agg ⟨kZ x h1 s1 r1 c1 u1 zz zA n1 l1⟩,.agg ⟨kZ y h2 s2 r2 c2 u2 zB zC n2 l2⟩]
 (j6 x h1 s1 r1 c1 u1 zz zA n1 l1 (j6 y h2 s2 r2 c2 u2 zB zC n2 l2 [])) (.bool (decide (x=y))):=by
 have e1:=hS.d.s;have e2:=hS.g;obtain⟨e4,e5⟩:=hS.aQ;obtain⟨e6,e7⟩:=hS.lists;clear hS;obtain⟨xd,xg,xn,xl⟩:=x;obtain⟨yd,yg,yn,yl⟩:=y;dsimp only at e1 e2 e4 e5 e6 e7;dsimp only[kZ,j6];refine aM _ (aP 111) λB w0=>?_;refine aS (E:=ak (ak ae)) (v:=l1) (xs:=xl) (by simp) λa1 k1 q1=>?_;subst q1;refine aS (E:=ak (ak ae)) (v:=l2) (xs:=yl) (by simp) λa2 k2 q2=>?_;subst q2;refine go ?_;intro b2 b3;refine bn (eX (b:=b2)) (h:=?_);refine bn (eX (b:=b3)) (h:=?_);refine go ?_;refine aA rfl (λh=>?_) (λh=>?_)
 ·refine go ?_;refine ah () (hv:=?_) (hp:=trivial);rw[aR (λe=>by cases e;omega)];rfl
 have hlen:xl.length=yl.length:=by omega
 clear h;refine go ?_;refine aU (λk=>xl.length - k) (λk:Nat=>[(5,.int .i64 (k:Int))]) (λ_=>[]) (λ_=>[]) (λk=>k<=xl.length/\xl.take k=yl.take k) 0 ⟨by omega,by simp⟩ (body:=?_);rintro k ⟨hk,hsame⟩;refine go ?_;refine aA rfl (λh2=>?_) (λh2=>?_)
 ·refine go ?_;refine bi (ak (ak ae)) (xs:=xl) (next:=λ_ _ p (vp:Value) hx=>?_);refine go ?_;refine bi (ak (ak ae)) (xs:=yl) (next:=λ_ _ q (vq:Value) hy=>?_);have hpl:=e7 p (aZ hx);refine go ?_;refine ay (WM (xs:=p) (ys:=q) hpl.1 hpl.2) (next:=λ_ _=>?_);refine go ?_;refine fq rfl (λh3=>?_) (λh3=>?_)
  ·refine go ?_;refine ah () (hv:=?_) (hp:=trivial);rw[aR (λe=>by cases e;rw[hx]at hy;exact h3 (Option.some.inj hy))];rfl
  refine go ?_;refine aN (k+1) (by omega) ⟨by omega,?_⟩;rw[bZ hx,bZ hy,hsame,h3]
 have hke:k=xl.length:=by omega
 subst hke;rw[bU,hlen,bU]at hsame;clear hk h2;subst hsame;refine go ?_;have hdd:dD Tryz.prog 148 [.agg ⟨gB xd h1 s1 r1 c1 u1⟩,.agg ⟨gB yd h2 s2 r2 c2 u2⟩] [ai ae h1 xd.holes,ai fF s1 xd.symbols,ai eY r1 xd.regions,ai bI c1 xd.aJ,ai aY u1 xd.rules,ai ae h2 yd.holes,ai fF s2 yd.symbols,ai eY r2 yd.regions,ai bI c2 yd.aJ,ai aY u2 yd.rules] (.bool (decide (xd=yd))):=aib e1;refine ay hdd (next:=λ_ _=>?_);refine go ?_;refine gG (λk6=>?_) (λk6=>?_)
 ·refine go ?_;refine ah () (hv:=?_) (hp:=trivial);rw[aR (λe=>k6 (by cases e;rfl))];rfl
 refine go ?_;refine ay (ah9 (x:=xg) (y:=yg) (h1:=zz) (c1:=zA) (h2:=zB) (c2:=zC) e2) (next:=λ_ _=>?_);refine go ?_;refine gG (λk7=>?_) (λk7=>?_)
 ·refine go ?_;refine ah () (hv:=?_) (hp:=trivial);rw[aR (λe=>k7 (by cases e;rfl))];rfl
 refine go ?_;refine ay (WM (xs:=xn) (ys:=yn) e4 e5) (next:=λ_ _=>?_);refine go ?_;refine ah () (hv:=?_) (hp:=trivial);subst k6 k7;rw[show decide (bD.mk xd xg xn xl=bD.mk xd xg yn xl)=decide (xn=yn)from nO.2 ⟨λh=>by cases h;rfl,λh=>by rw[h]⟩];rfl
theorem aiW{k:bD}{vh vs vr vc vu gh gc vn vl:Value}(hS:nZ k):bA Tryz.prog (.func 79) [.agg ⟨kZ k vh vs vr vc vu gh gc vn vl⟩] [] [] (j6 k vh vs vr vc vu gh gc vn vl []) (λb:Bool=>.int .i64 (cond b 0 180)) (λ_=>[]) (λ_=>[]) (λb=>b=true↔dH k):=by
 refine aM _ (aP 79) λB w0=>?_;refine go ?_;intro b1;refine go ?_;refine ay (aiU (d:=k.decl) hS.d) (next:=λy hy=>?_);obtain⟨ok,e,v1,v2,v3,v4,v5,v6⟩:=y;cases ok with
 |false=>
  obtain⟨he,hno⟩:=hy.2 rfl;have he:e≠0:=he;dsimp only[cond,Dn,Dp,List.nil_append];refine go ?_;intro b3;refine go ?_;refine gG (λh1=>?_) (λh1=>?_)
  ·exact absurd (ic.1 h1) he
  refine go ?_;exact ah false (hv:=rfl) (hp:=⟨(λh=>by cases h),λh=>absurd h.b hno⟩)
 |true=>
 obtain⟨he,hb⟩:=hy.1 rfl;have he:e=0:=he;subst he;clear hy;dsimp only[cond,Dn,Dp,List.cons_append,List.nil_append];refine go ?_;intro b3;refine go ?_;have hsm:=aiV (x:=k) (y:=kF (Kd.bE k.decl)) (h1:=vh) (s1:=vs) (r1:=vr) (c1:=vc) (u1:=vu) (zz:=gh) (zA:=gc) (n1:=vn) (l1:=vl) (h2:=vh) (s2:=vs) (r2:=vr) (c2:=v1) (u2:=v2) (zB:=v3) (zC:=v4) (n2:=v5) (l2:=v6) hS;refine eF (ai ae vh (kF (Kd.bE k.decl)).decl.holes) (λw hw=>hw (ai ae vh k.decl.holes) (by simp)) ?_;refine eF (ai fF vs (kF (Kd.bE k.decl)).decl.symbols) (λw hw=>hw (ai fF vs k.decl.symbols) (by simp)) ?_;refine eF (ai eY vr (kF (Kd.bE k.decl)).decl.regions) (λw hw=>hw (ai eY vr k.decl.regions) (by simp)) ?_;refine eF (ai bI v1 (kF (Kd.bE k.decl)).decl.aJ) (λw hw=>hw (ai bI v1 (Kd.bE k.decl).aJ) (by simp)) ?_;refine eF (ai aY v2 (kF (Kd.bE k.decl)).decl.rules) (λw hw=>hw (ai aY v2 (Kd.bE k.decl).rules) (by simp)) ?_;refine eF (ai ae v3 (kF (Kd.bE k.decl)).grid.holes) (λw hw=>hw (ai ae v3 (aT (Kd.bE k.decl)).holes) (by simp)) ?_;refine eF (ai ae v4 (kF (Kd.bE k.decl)).grid.cells) (λw hw=>hw (ai ae v4 (aT (Kd.bE k.decl)).cells) (by simp)) ?_;refine eF (ai (ak ae) v5 (kF (Kd.bE k.decl)).aQ) (λw hw=>hw (ai (ak ae) v5 (bJ (aT (Kd.bE k.decl)))) (by simp)) ?_;refine eF (ai (ak (ak ae)) v6 (kF (Kd.bE k.decl)).lists) (λw hw=>hw (ai (ak (ak ae)) v6 (oI (Kd.bE k.decl))) (by simp)) ?_;refine ay hsm (next:=λ_ _=>?_);refine go ?_;refine fq rfl (λh3=>?_) (λh3=>?_)
 ·refine go ?_;exact ah false (hv:=rfl) (hp:=⟨(λh=>by cases h),λh=>absurd h.e h3⟩)
 ·refine go ?_;exact ah true (hv:=rfl) (hp:=⟨λ_=>⟨hb,h3⟩,λ_=>rfl⟩)
