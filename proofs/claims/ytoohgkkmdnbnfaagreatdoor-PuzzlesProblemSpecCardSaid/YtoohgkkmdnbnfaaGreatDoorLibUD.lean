/-
  The reference's kinds: built, compared, checked.
-/
import Derived.Test.YtoohgkkmdnbnfaaGreatDoorLibTD
import Derived.Test.YtoohgkkmdnbnfaaGreatDoorLibND
set_option linter.all false
set_option maxRecDepth 10000
set_option maxHeartbeats 4000000
namespace Go.Proofs.YtoohgkkmdnbnfaaGreatDoor
open Go.Ideal Kd
theorem agW{d:bF}{vh vs vr vc vu:Value}(hT:tH d):bn Tryz.prog (.func 60) [.agg ⟨gD d vh vs vr vc vu⟩] [] [] (kM d vh vs vr vc vu) (Cb d vh vs vr) (λ_=>[]) (Cc d vh vs vr) (I1 d):=by
 have tJ:tH (Kd.bG d):=⟨hT.s.bG,hT.w,hT.h,hT.holes⟩
 have hend:∀{e:Int} {vc vu gh gc vn vl:Value},e≠0->¬EK d->I1 d ⟨false,e,vc,vu,gh,gc,vn,vl⟩:=λhe hb=>⟨(λh=>by cases h),λ_=>⟨he,hb⟩⟩
 refine aI _ (aO 60) λB w0=>?_;refine go ?_;intro b1 b2;refine go ?_;refine ax (UU (d:=d) (vh:=vh) (vs:=vs) (vr:=vr) (vc:=vc) (vu:=vu) hT.s) (next:=λy hy=>?_);obtain⟨ok,e,v1,v2⟩:=y;cases ok with
 |false=>
  obtain⟨he,hno⟩:=hy.2 rfl;have he:e≠0:=he;dsimp only[cond,qD,nN,List.nil_append];refine go ?_;intro b4;refine go ?_;refine ay rfl (λh1=>?_) (λh1=>?_)
  ·refine go ?_;exact ae ⟨false,e,v1,v2,v1,v1,v1,v1⟩ (hv:=rfl) (hp:=hend he λh=>hno h.rs)
  ·exact absurd (iI.1 h1) he
 |true=>
 obtain⟨he,hres⟩:=hy.1 rfl;have he:e=0:=he;subst he;clear hy;dsimp only[cond,qD,nN,List.cons_append,List.nil_append];refine go ?_;intro b4;refine go ?_;refine eT (ah aa vh (Kd.bG d).holes) (λw hw=>hw (ah aa vh d.holes) (by simp)) ?_;refine eT (ah fq vs (Kd.bG d).symbols) (λw hw=>hw (ah fq vs d.symbols) (by simp)) ?_;refine eT (ah eG vr (Kd.bG d).regions) (λw hw=>hw (ah eG vr d.regions) (by simp)) ?_;generalize hd:Kd.bG d=r at tJ⊢;refine ax (agV (d:=r) (vh:=vh) (vs:=vs) (vr:=vr) (vc:=v1) (vu:=v2) tJ) (next:=λe he=>?_);refine go ?_;refine ay rfl (λhne=>?_) (λhz=>?_)
 ·refine go ?_;exact ae ⟨false,e,v1,v2,v1,v1,v1,v1⟩ (hv:=rfl) (hp:=hend hne λh=>hne (he.2 (by rw[<- hd];exact h.typ)))
 have hty:=he.1 (iI.1 hz);clear he hz;have hm:=hty.Ca;have hr:=hty.Ab;have hG:=EI hm;have hgo:fw (aR r):=⟨hm,rfl⟩
 have hrl:=tJ.s.regs;refine go ?_;intro b6;refine go ?_;refine ax (NB (s:=r.shape) (w:=r.w) (h:=r.h) (holes:=r.holes) (vh:=vh) tJ.w tJ.h tJ.holes) (next:=λy hy=>?_);obtain⟨ok,gh,gc⟩:=y;cases ok with
 |false=>exact absurd (hy.2 hm) (by simp)
 |true=>
 clear hy;dsimp only[cond,mkV,oq];rw[show uN r.shape r.w r.h r.holes=aR r from rfl];dsimp only[jq,iO,List.cons_append,List.nil_append];refine go ?_;refine ax (UI (g:=aR r) (vh:=gh) (vc:=gc) hG) (next:=λy hy2=>?_);obtain⟨vn,e⟩:=y;have he:e=0:=hy2.2 hgo;subst he;clear hy2;refine eT (ah (aj aa) vn (bJ (aR r))) (λw hw=>hw (l9 ((0:Int)=0) (ah (aj aa) vn (bJ (aR r)))) (by simp) rfl) ?_;dsimp only[uO];refine aS (E:=aj aa) (v:=vn) (xs:=bJ (aR r)) (by simp) λan cn en=>?_;subst en;refine aS (E:=eG) (v:=vr) (xs:=r.regions) (by simp) λar cr er=>?_;subst er;refine go ?_;refine fZ (aj (aj aa)) ?_;refine aZ (λy:Nat×Value=>8 - y.1) (λy=>[(7,.int .i64 (y.1:Int))]) (λy=>[pt b4 (.cells (gD r vh vs (.slice ar r.regions.length cr) v1 v2)),pt b6 (.cells (bL r vh vs (.slice ar r.regions.length cr) v1 v2 (.int .i64 (aR r).shape) (.int .i64 (aR r).w) (.int .i64 (aR r).h) gh gc (.slice an (bJ (aR r)).length cn) y.2)),ap (aj (aj aa)) y.2 (iW (aR r) y.1)]) (λ_=>[]) (λy=>y.1<=8) (0,.slice none 0 0) (bY _) (hk:=by repeat (first|exact aG.nil|(apply aG.cons;(focus (repeat (first|exact az.here|apply az.there)))))) (body:=?_);rintro⟨k,vl⟩ hk;dsimp only at hk⊢;have hkl:=IZ (aR r) k;refine go ?_;refine ay rfl (λh1=>?_) (λh1=>?_)
 ·refine go ?_;refine ax (afW (g:=aR r) (vh:=gh) (vc:=gc) (k:=(k:Int)) hG) (next:=λy hy=>?_);obtain⟨v4,e⟩:=y;have he:e=0:=hy.2 ⟨hgo,by omega,by omega⟩;subst he;dsimp only[IV,List.cons_append,List.nil_append];refine eT (ah (aj aa) v4 (dA (aR r) (k:Int))) (λw hw=>hw (l9 ((0:Int)=0) (ah (aj aa) v4 (dA (aR r) (k:Int)))) (by simp) rfl) ?_;refine aS (E:=aj aa) (v:=v4) (xs:=dA (aR r) (k:Int)) (by simp) λa4 c4 e4=>?_;subst e4;refine go ?_;intro b33;refine go ?_;refine eO (xs:=iW (aR r) k) (aj (aj aa)) (dA (aR r) (k:Int)) (.slice a4 (dA (aR r) (k:Int)).length c4) (by omega) (next:=λad=>?_);rw[<- Uz];refine go ?_;exact aP (k+1,.slice ad ((iW (aR r) k).length+1) ((iW (aR r) k).length+1)) (by show 8 - (k+1)<8 - k;omega) (by show k+1<=_;omega)
 have Nn:k=8:=by omega
 subst Nn;refine go ?_;refine aZ (λy:Nat×Value=>r.regions.length - y.1) (λy=>[(10,.int .i64 (y.1:Int))]) (λy=>[pt b4 (.cells (gD r vh vs (.slice ar r.regions.length cr) v1 v2)),pt b6 (.cells (bL r vh vs (.slice ar r.regions.length cr) v1 v2 (.int .i64 (aR r).shape) (.int .i64 (aR r).w) (.int .i64 (aR r).h) gh gc (.slice an (bJ (aR r)).length cn) y.2)),ap (aj (aj aa)) y.2 (iW (aR r) 8++(r.regions.take y.1).map λr2=>dV (aR r) r2.lists)]) (λ_=>[]) (λy=>y.1<=r.regions.length) (0,vl) (bY _) (hk:=by rw[show iW (aR r) 8++(r.regions.take 0).map (λr2=>dV (aR r) r2.lists)=iW (aR r) 8 from gN _];repeat (first|exact aG.nil|(apply aG.cons;(focus (repeat (first|exact az.here|apply az.there)))))) (body:=?_);rintro⟨k,v2'⟩ hk;dsimp only at hk⊢;have hkl:(iW (aR r) 8++(r.regions.take k).map λr2=>dV (aR r) r2.lists).length=8+k:=by rw[gH,IZ,cz,gW];omega
 refine go ?_;refine ay rfl (λh1=>?_) (λh1=>?_)
 ·refine go ?_;refine bi eG (xs:=r.regions) (next:=λ_ _ q (Np:Value) EJ=>?_);have hrm:=bH EJ;obtain⟨hl1,hl2⟩:=tJ.s.qF q hrm;obtain⟨⟨_,hro⟩,_⟩:=hr q hrm;refine go ?_;refine ax (UK (g:=aR r) (vh:=gh) (vc:=gc) (vr:=Np) (rs:=q.lists) hG hl1 hl2) (next:=λy hy=>?_);obtain⟨v8,e⟩:=y;have he:e=0:=hy.2 ⟨hgo,hro⟩;subst he;dsimp only[IX,List.cons_append,List.nil_append];refine eT (ah (aj aa) v8 (dV (aR r) q.lists)) (λw hw=>hw (l9 ((0:Int)=0) (ah (aj aa) v8 (dV (aR r) q.lists))) (by simp) rfl) ?_;refine aS (E:=aj aa) (v:=v8) (xs:=dV (aR r) q.lists) (by simp) λa8 c8 e8=>?_;subst e8;refine go ?_;intro b71;refine go ?_;have htk:iW (aR r) 8++(r.regions.take (k+1)).map (λr2=>dV (aR r) r2.lists)=(iW (aR r) 8++(r.regions.take k).map λr2=>dV (aR r) r2.lists)++[dV (aR r) q.lists]:=by
   rw[bU EJ,eB,nV,fB]
  refine eO (xs:=iW (aR r) 8++(r.regions.take k).map λr2=>dV (aR r) r2.lists) (aj (aj aa)) (dV (aR r) q.lists) (.slice a8 (dV (aR r) q.lists).length c8) (by omega) (next:=λad=>?_);rw[<- htk];refine go ?_;exact aP (k+1,.slice ad ((iW (aR r) 8++(r.regions.take k).map λr2=>dV (aR r) r2.lists).length+1) ((iW (aR r) 8++(r.regions.take k).map λr2=>dV (aR r) r2.lists).length+1)) (by show r.regions.length - (k+1)<r.regions.length - k;omega) (by show k+1<=_;omega)
 have hke:k=r.regions.length:=by omega
 subst hke;rw[bK];rw[show iW (aR r) 8++r.regions.map (λr2=>dV (aR r) r2.lists)=lG r from rfl];refine bA (fV (E:=aj (aj aa)) (v:=v2') (xs:=lG r)) (h:=?_);refine go ?_;subst hd;refine ae ⟨true,0,v1,v2,gh,gc,.slice an (bJ (aR (Kd.bG d))).length cn,v2'⟩ (hv:=rfl) (hp:=⟨λ_=>⟨rfl,hres,hty⟩,(λh=>by cases h)⟩) (hF:=?_);show Sub [ah bM v1 (Kd.bG d).aJ,ah aY v2 (Kd.bG d).rules,ah aa gh (aR (Kd.bG d)).holes,ah aa gc (aR (Kd.bG d)).cells,ah (aj aa) (.slice an (bJ (aR (Kd.bG d))).length cn) (bJ (aR (Kd.bG d))),ah (aj (aj aa)) v2' (lG (Kd.bG d))] _;exact .cons (by simp) (.cons (by simp) (.cons (by simp) (.cons (by simp) (.cons (by simp) (.cons (by simp) .nil)))))
theorem agX{x y:bS}{h1 s1 r1 c1 u1 yB yC n1 l1 h2 s2 r2 c2 u2 yD yE n2 l2:Value}(hS:nu x):cK Tryz.prog 61 [.agg ⟨kD x h1 s1 r1 c1 u1 yB yC n1 l1⟩,.agg ⟨kD y h2 s2 r2 c2 u2 yD yE n2 l2⟩]
 (kX x h1 s1 r1 c1 u1 yB yC n1 l1 (kX y h2 s2 r2 c2 u2 yD yE n2 l2 [])) (.bool (decide (x=y))):=by
 have e1:=hS.d.s;have e2:=hS.g;obtain⟨e4,e5⟩:=hS.bq;obtain⟨e6,e7⟩:=hS.lists;clear hS;obtain⟨xd,xg,xn,xl⟩:=x;obtain⟨yd,yg,yn,yl⟩:=y;dsimp only at e1 e2 e4 e5 e6 e7;dsimp only[kD,kX];refine aI _ (aO 61) λB w0=>?_;refine aS (E:=aj (aj aa)) (v:=l1) (xs:=xl) (by simp) λa1 k1 q1=>?_;subst q1;refine aS (E:=aj (aj aa)) (v:=l2) (xs:=yl) (by simp) λa2 k2 q2=>?_;subst q2;refine go ?_;intro b2 b3;refine bA (eD (b:=b2)) (h:=?_);refine bA (eD (b:=b3)) (h:=?_);refine go ?_;refine ay rfl (λh=>?_) (λh=>?_)
 ·refine go ?_;refine ae () (hv:=?_) (hp:=trivial);rw[aU (λe=>by cases e;omega)];rfl
 have hlen:xl.length=yl.length:=by omega
 clear h;refine go ?_;refine aZ (λk=>xl.length - k) (λk:Nat=>[(5,.int .i64 (k:Int))]) (λ_=>[]) (λ_=>[]) (λk=>k<=xl.length/\xl.take k=yl.take k) 0 ⟨by omega,by simp⟩ (body:=?_);rintro k ⟨hk,hsame⟩;refine go ?_;refine ay rfl (λh2=>?_) (λh2=>?_)
 ·refine go ?_;refine bi (aj (aj aa)) (xs:=xl) (next:=λ_ _ p (vp:Value) hx=>?_);refine go ?_;refine bi (aj (aj aa)) (xs:=yl) (next:=λ_ _ q (vq:Value) hy=>?_);have hpl:=e7 p (bH hx);refine go ?_;refine ax (U0 (xs:=p) (ys:=q) hpl.1 hpl.2) (next:=λ_ _=>?_);refine go ?_;refine eF rfl (λh3=>?_) (λh3=>?_)
  ·refine go ?_;refine ae () (hv:=?_) (hp:=trivial);rw[aU (λe=>by cases e;rw[hx]at hy;exact h3 (Option.some.inj hy))];rfl
  refine go ?_;refine aP (k+1) (by omega) ⟨by omega,?_⟩;rw[bU hx,bU hy,hsame,h3]
 have hke:k=xl.length:=by omega
 subst hke;rw[bK,hlen,bK]at hsame;clear hk h2;subst hsame;refine go ?_;have hdd:cK Tryz.prog 96 [.agg ⟨gD xd h1 s1 r1 c1 u1⟩,.agg ⟨gD yd h2 s2 r2 c2 u2⟩] [ah aa h1 xd.holes,ah fq s1 xd.symbols,ah eG r1 xd.regions,ah bM c1 xd.aJ,ah aY u1 xd.rules,ah aa h2 yd.holes,ah fq s2 yd.symbols,ah eG r2 yd.regions,ah bM c2 yd.aJ,ah aY u2 yd.rules] (.bool (decide (xd=yd))):=agc e1;refine ax hdd (next:=λ_ _=>?_);refine go ?_;first|with_reducible refine aN (λk6=>?_) (λk6=>?_)|with_reducible refine aM (λk6=>?_) (λk6=>?_)|with_reducible refine aK (λk6=>?_) (λk6=>?_)
 ·refine go ?_;refine ae () (hv:=?_) (hp:=trivial);rw[aU (λe=>k6 (by cases e;rfl))];rfl
 refine go ?_;refine ax (aga (x:=xg) (y:=yg) (h1:=yB) (c1:=yC) (h2:=yD) (c2:=yE) e2) (next:=λ_ _=>?_);refine go ?_;first|with_reducible refine aN (λk7=>?_) (λk7=>?_)|with_reducible refine aM (λk7=>?_) (λk7=>?_)|with_reducible refine aK (λk7=>?_) (λk7=>?_)
 ·refine go ?_;refine ae () (hv:=?_) (hp:=trivial);rw[aU (λe=>k7 (by cases e;rfl))];rfl
 refine go ?_;refine ax (U0 (xs:=xn) (ys:=yn) e4 e5) (next:=λ_ _=>?_);refine go ?_;refine ae () (hv:=?_) (hp:=trivial);subst k6 k7;rw[show decide (bS.mk xd xg xn xl=bS.mk xd xg yn xl)=decide (xn=yn)from nU.2 ⟨λh=>by cases h;rfl,λh=>by rw[h]⟩];rfl
theorem agY{k:bS}{vh vs vr vc vu gh gc vn vl:Value}(hS:nu k):bn Tryz.prog (.func 30) [.agg ⟨kD k vh vs vr vc vu gh gc vn vl⟩] [] [] (kX k vh vs vr vc vu gh gc vn vl []) (λb:Bool=>.int .i64 (cond b 0 180)) (λ_=>[]) (λ_=>[]) (λb=>b=true↔fC k):=by
 refine aI _ (aO 30) λB w0=>?_;refine go ?_;intro b1;refine go ?_;refine ax (agW (d:=k.decl) (vh:=vh) (vs:=vs) (vr:=vr) (vc:=vc) (vu:=vu) hS.d) (next:=λy hy=>?_);obtain⟨ok,e,v1,v2,v3,v4,v5,v6⟩:=y;cases ok with
 |false=>
  obtain⟨he,hno⟩:=hy.2 rfl;have he:e≠0:=he;dsimp only[cond,Cb,Cc,List.nil_append];refine go ?_;intro b3;refine go ?_;first|with_reducible refine aN (λh1=>?_) (λh1=>?_)|with_reducible refine aM (λh1=>?_) (λh1=>?_)|with_reducible refine aK (λh1=>?_) (λh1=>?_)
  ·exact absurd (iI.1 h1) he
  refine go ?_;exact ae false (hv:=rfl) (hp:=⟨(λh=>by cases h),λh=>absurd h.b hno⟩)
 |true=>
 obtain⟨he,hb⟩:=hy.1 rfl;have he:e=0:=he;subst he;clear hy;dsimp only[cond,Cb,Cc,List.cons_append,List.nil_append];refine go ?_;intro b3;refine go ?_;have hsm:=agX (x:=k) (y:=j4 (Kd.bG k.decl)) (h1:=vh) (s1:=vs) (r1:=vr) (c1:=vc) (u1:=vu) (yB:=gh) (yC:=gc) (n1:=vn) (l1:=vl) (h2:=vh) (s2:=vs) (r2:=vr) (c2:=v1) (u2:=v2) (yD:=v3) (yE:=v4) (n2:=v5) (l2:=v6) hS;refine eT (ah aa vh (j4 (Kd.bG k.decl)).decl.holes) (λw hw=>hw (ah aa vh k.decl.holes) (by simp)) ?_;refine eT (ah fq vs (j4 (Kd.bG k.decl)).decl.symbols) (λw hw=>hw (ah fq vs k.decl.symbols) (by simp)) ?_;refine eT (ah eG vr (j4 (Kd.bG k.decl)).decl.regions) (λw hw=>hw (ah eG vr k.decl.regions) (by simp)) ?_;refine eT (ah bM v1 (j4 (Kd.bG k.decl)).decl.aJ) (λw hw=>hw (ah bM v1 (Kd.bG k.decl).aJ) (by simp)) ?_;refine eT (ah aY v2 (j4 (Kd.bG k.decl)).decl.rules) (λw hw=>hw (ah aY v2 (Kd.bG k.decl).rules) (by simp)) ?_;refine eT (ah aa v3 (j4 (Kd.bG k.decl)).grid.holes) (λw hw=>hw (ah aa v3 (aR (Kd.bG k.decl)).holes) (by simp)) ?_;refine eT (ah aa v4 (j4 (Kd.bG k.decl)).grid.cells) (λw hw=>hw (ah aa v4 (aR (Kd.bG k.decl)).cells) (by simp)) ?_;refine eT (ah (aj aa) v5 (j4 (Kd.bG k.decl)).bq) (λw hw=>hw (ah (aj aa) v5 (bJ (aR (Kd.bG k.decl)))) (by simp)) ?_;refine eT (ah (aj (aj aa)) v6 (j4 (Kd.bG k.decl)).lists) (λw hw=>hw (ah (aj (aj aa)) v6 (lG (Kd.bG k.decl))) (by simp)) ?_;refine ax hsm (next:=λ_ _=>?_);refine go ?_;refine eF rfl (λh3=>?_) (λh3=>?_)
 ·refine go ?_;exact ae false (hv:=rfl) (hp:=⟨(λh=>by cases h),λh=>absurd h.e h3⟩)
 ·refine go ?_;exact ae true (hv:=rfl) (hp:=⟨λ_=>⟨hb,h3⟩,λ_=>rfl⟩)
open Go.Ideal Kd Canon
theorem U9{l:List Int}{x:Int}(h1:(l.length:Int)=1)(hx:l[0]? =some x){Q:Int->Prop}:(∀y∈l,Q y)↔Q x:=by
 match l,h1,hx with
 |[a],_,hx=>cases hx;simp
 |[],h1,_=>cases h1
 |_::_::_,h1,_=>simp at h1;omega
theorem agZ{k:bS}{g:Clue}{vh vs vr vc vu gh gc vn vl vv:Value}(hS:nu k)(hF:Em k)(hv:g.values.length<9223372036854775808):
 bn Tryz.prog (.func 70) [.agg ⟨kD k vh vs vr vc vu gh gc vn vl⟩,zN g vv] [] [] (ah aa vv g.values::kX k vh vs vr vc vu gh gc vn vl []) (λb:Bool=>.bool b) (λ_=>[]) (λ_=>[]) (λb=>b=true↔rU k g):=by
 have hcl:=hS.d.s.jm;have hsl:=hS.d.s.dO;refine aI _ (aO 70) λB w0=>?_;refine aS (E:=bM) (v:=vc) (xs:=k.decl.aJ) (by simp) λac cc ec=>?_;subst ec;refine aS (E:=fq) (v:=vs) (xs:=k.decl.symbols) (by simp) λkC cs1 es1=>?_;subst es1;refine aS (E:=aj (aj aa)) (v:=vl) (xs:=k.lists) (by simp) λal cl el=>?_;subst el;refine aS (E:=aa) (v:=vv) (xs:=g.values) (by simp) λav cv wJ=>?_;subst wJ;refine go ?_;intro b2 b3;refine bA (eD (b:=b2)) (h:=?_);refine bA (eD (b:=b3)) (h:=?_);refine go ?_;first|with_reducible refine aN (λh1=>?_) (λh1=>?_)|with_reducible refine aM (λh1=>?_) (λh1=>?_)|with_reducible refine aK (λh1=>?_) (λh1=>?_)
 rotate_left
 ·refine go ?_;exact ae false (hv:=rfl) (hp:=⟨(λh=>by cases h),λ⟨c,l,h,_⟩=>by omega⟩)
 refine go ?_;refine ay rfl (λh2=>?_) (λh2=>?_)
 ·refine go ?_;refine ae false (hv:=rfl) (hp:=⟨(λh=>by cases h),λ⟨c,l,_,h,_⟩=>?_⟩);have:=(bP.1 h).1;omega
 obtain⟨ci,hci⟩:=qf (show 0<=g.aH by omega);have hg0:0<=g.aH:=by omega
 have KD:ci<k.decl.aJ.length:=by omega
 have htn:g.aH.toNat=ci:=by omega
 refine go ?_;rw[hci];refine bi bM (xs:=k.decl.aJ) (next:=λ_ _ c (_:Unit) hc=>?_);obtain⟨hf0,hf1⟩:=hF c (bH hc);refine go ?_;intro b5;refine go ?_;first|with_reducible refine aN (λh3=>?_) (λh3=>?_)|with_reducible refine aM (λh3=>?_) (λh3=>?_)|with_reducible refine aK (λh3=>?_) (λh3=>?_)
 rotate_left
 ·refine go ?_;exact ae false (hv:=rfl) (hp:=⟨(λh=>by cases h),λ⟨c,l,_,_,_,h,_⟩=>by omega⟩)
 refine go ?_;obtain⟨fi,hfi⟩:=qf hf0;have EM:c.family.toNat=fi:=by omega
 rw[hfi];refine bi (aj (aj aa)) (xs:=k.lists) (next:=λ_ _ ls (Nu:Value) hls=>?_);refine go ?_;refine ay rfl (λh4=>?_) (λh4=>?_)
 ·refine go ?_;refine ae false (hv:=rfl) (hp:=⟨(λh=>by cases h),λ⟨c',l',_,q1,q2,q3,q4,_⟩=>?_⟩);rw[htn,hc]at q1;cases q1;rw[EM,hls]at q2;cases q2;omega
 have hR:∀b:Bool,(b=true↔((c.type=1/\g.values.length=1/\∀x∈g.values,0<=x/\x<=(k.decl.symbols.length:Int) - 1)\/(c.type=2/\g.values.length=1/\∀x∈g.values,c.lo<=x/\x<=c.hi)\/
  (c.type≠1/\c.type≠2/\g.values.length<=8/\∀x∈g.values,1<=x/\x<=256)))->(b=true↔rU k g):=λb hb=>by
  rw[hb];refine⟨λh=>⟨c,ls,hg0,by rw[htn];exact hc,by rw[EM];exact hls,by omega,by omega,h⟩,λ⟨c',l',_,q1,_,_,_,h⟩=>?_⟩;rw[htn,hc]at q1;cases q1;exact h
 refine go ?_;refine ay rfl (λh5=>?_) (λh5=>?_)
 ·refine go ?_;first|with_reducible refine aN (λh6=>?_) (λh6=>?_)|with_reducible refine aM (λh6=>?_) (λh6=>?_)|with_reducible refine aK (λh6=>?_) (λh6=>?_)
  ·refine go ?_;exact ae false (hv:=rfl) (hp:=hR _ ⟨(λh=>by cases h),λh=>by exfalso;omega⟩)
  refine go ?_;intro _ _ x hx;refine go ?_;have ha:=λQ=>U9 (Q:=Q) h6 hx;first|with_reducible refine aN (λh7=>?_) (λh7=>?_)|with_reducible refine aM (λh7=>?_) (λh7=>?_)|with_reducible refine aK (λh7=>?_) (λh7=>?_)
  ·refine go ?_;exact ae false (hv:=rfl) (hp:=hR _ ⟨(λh=>by cases h),λh=>by exfalso;rw[ha,ha,ha]at h;omega⟩)
  refine go ?_;intro _ _ x' hx';cases hx.symm.trans hx';refine go ?_;refine ae (decide (x<(k.decl.symbols.length:Int))) (hv:=rfl) (hp:=hR _ ?_);rw[qg,ha,ha,ha];omega
 refine go ?_;refine ay rfl (λh6=>?_) (λh6=>?_)
 ·refine go ?_;first|with_reducible refine aN (λh7=>?_) (λh7=>?_)|with_reducible refine aM (λh7=>?_) (λh7=>?_)|with_reducible refine aK (λh7=>?_) (λh7=>?_)
  ·refine go ?_;exact ae false (hv:=rfl) (hp:=hR _ ⟨(λh=>by cases h),λh=>by exfalso;omega⟩)
  refine go ?_;intro _ _ x hx;refine go ?_;have ha:=λQ=>U9 (Q:=Q) h7 hx;first|with_reducible refine aN (λh8=>?_) (λh8=>?_)|with_reducible refine aM (λh8=>?_) (λh8=>?_)|with_reducible refine aK (λh8=>?_) (λh8=>?_)
  ·refine go ?_;exact ae false (hv:=rfl) (hp:=hR _ ⟨(λh=>by cases h),λh=>by exfalso;rw[ha,ha,ha]at h;omega⟩)
  refine go ?_;intro _ _ x' hx';cases hx.symm.trans hx';refine go ?_;refine ae (decide (x<=c.hi)) (hv:=rfl) (hp:=hR _ ?_);rw[qg,ha,ha,ha];omega
 refine go ?_;refine aZ (λj:Nat=>g.values.length - j) (λj=>[(7,.int .i64 (j:Int))]) (λ_=>[]) (λ_=>[]) (λj=>j<=g.values.length/\∀x∈g.values.take j,1<=x/\x<=256) 0 ⟨bY _,by simp⟩ (body:=?_);rintro j ⟨hj,hall⟩;refine go ?_;refine ay rfl (λa1=>?_) (λa1=>?_)
 ·refine go ?_;intro _ _ x hx;have hxm:=bH hx;refine go ?_;first|with_reducible refine aN (λh7=>?_) (λh7=>?_)|with_reducible refine aM (λh7=>?_) (λh7=>?_)|with_reducible refine aK (λh7=>?_) (λh7=>?_)
  rotate_left
  ·refine go ?_;exact ae false (hv:=rfl) (hp:=hR _ ⟨(λh=>by cases h),λh=>by exfalso;rcases h with h|h|h;exact h5 h.1;exact h6 h.1;have:=h.2.2.2 x hxm;omega⟩)
  refine go ?_;intro _ _ x' hx';cases hx.symm.trans hx';refine go ?_;refine ay rfl (λh8=>?_) (λh8=>?_)
  ·refine go ?_;exact ae false (hv:=rfl) (hp:=hR _ ⟨(λh=>by cases h),λh=>by exfalso;rcases h with h|h|h;exact h5 h.1;exact h6 h.1;have:=h.2.2.2 x hxm;omega⟩)
  refine go ?_;refine aP (j+1) (by show g.values.length - (j+1)<g.values.length - j;omega) ⟨by omega,?_⟩;rw[bU hx];intro y hy;rcases dZ.1 hy with hy|hy
  ·exact hall y hy
  ·rw[bI.1 hy];omega
 have ig:j=g.values.length:=by omega
 subst ig;rw[bK]at hall;refine go ?_;refine ae (decide ((g.values.length:Int)<=8)) (hv:=rfl) (hp:=hR _ ?_);rw[qg];exact⟨λh=>.inr (.inr ⟨h5,h6,by omega,hall⟩),λh=>by rcases h with h|h|h;exact absurd h.1 h5;exact absurd h.1 h6;have:=h.2.2.1;omega⟩
theorem ag0{k:bS}{p:List Clue}{vh vs vr vc vu gh gc vn vl vp:Value}(hS:nu k)(hP:yF p)(hF:Em k):
 bn Tryz.prog (.func 39) [.agg ⟨kD k vh vs vr vc vu gh gc vn vl⟩,.agg ⟨[vp]⟩] [] [] (ah iV vp p::kX k vh vs vr vc vu gh gc vn vl []) (λb:Bool=>.bool b) (λ_=>[]) (λ_=>[]) (λb=>b=true↔jR k p):=by
 refine aI _ (aO 39) λB w0=>?_;refine aS (E:=iV) (v:=vp) (xs:=p) (by simp) λEN cp ep=>?_;subst ep;refine go ?_;intro b2 b3;refine bA (eD (b:=b2)) (h:=?_);refine bA (eD (b:=b3)) (h:=?_);refine go ?_;refine ay rfl (λh1=>?_) (λh1=>?_)
 ·refine go ?_;exact ae false (hv:=rfl) (hp:=⟨(λh=>by cases h),λh=>by have:=h.len;omega⟩)
 refine go ?_;refine aZ (λj:Nat=>p.length - j) (λj=>[(5,.int .i64 (j:Int))]) (λ_=>[]) (λ_=>[]) (λj=>j<=p.length/\(∀g∈p.take j,rU k g)/\∀(i:Nat) a b,i+1<j->p[i]? =some a->p[i+1]? =some b->gu a b<0) 0 ⟨bY _,by simp,λi a b h=>by omega⟩ (body:=?_);rintro j ⟨hj,hall,hs⟩;refine go ?_;refine ay rfl (λh2=>?_) (λh2=>?_)
 ·refine go ?_;refine bi iV (xs:=p) (next:=λ_ _ g (vg:Value) hg=>?_);have hgm:=bH hg;have htk:=bU hg;refine go ?_;refine ax (agZ (k:=k) (g:=g) (vh:=vh) (vs:=vs) (vr:=vr) (vc:=vc) (vu:=vu) (gh:=gh) (gc:=gc) (vn:=vn) (vl:=vl) (vv:=vg) hS hF (hP.vals g hgm)) (next:=λb hb=>?_);cases b with
  |false=>
   refine go ?_;exact ae false (hv:=rfl) (hp:=⟨(λh=>by cases h),λh=>hb.2 (h.right g hgm)⟩)
  |true=>
  have hR:=hb.1 rfl;have EO:∀x∈p.take (j+1),rU k x:=by
   rw[htk];intro x hx;rcases dZ.1 hx with hx|hx
   ·exact hall x hx
   ·rw[bI.1 hx];exact hR
  refine go ?_;first|with_reducible refine aN (λh3=>?_) (λh3=>?_)|with_reducible refine aM (λh3=>?_) (λh3=>?_)|with_reducible refine aK (λh3=>?_) (λh3=>?_)
  ·have hj0:j=0:=by omega
   subst hj0;refine go ?_;exact aP 1 (by show p.length - 1<p.length - 0;omega) ⟨by omega,EO,λi a b h=>by omega⟩
  obtain⟨i,rfl⟩:∃i,j=i+1:=⟨j - 1,by omega⟩
  refine go ?_;rw[show((i+1:Nat):Int) - 1=(i:Int)by omega];refine bi iV (xs:=p) (next:=λ_ _ g0 (Nv:Value) hg0=>?_);refine go ?_;refine bi iV (xs:=p) (next:=λ_ _ g' (vg1:Value) hg'=>?_);cases hg.symm.trans hg';refine go ?_;refine ax (afu (a:=g0) (b:=g) (va:=Nv) (vb:=vg1)) (next:=λ_ _=>?_);rw[<- Ta];refine go ?_;refine ay rfl (λh4=>?_) (λh4=>?_)
  ·refine go ?_;exact ae false (hv:=rfl) (hp:=⟨(λh=>by cases h),λh=>by have:=h.sorted i g0 g hg0 hg;omega⟩)
  ·refine go ?_;refine aP (i+1+1) (by show p.length - (i+1+1)<p.length - (i+1);omega) ⟨by omega,EO,λi' a b h ha hb=>?_⟩;by_cases e:i'=i
   ·subst e;rw[hg0]at ha;rw[hg]at hb;cases ha;cases hb;omega
   ·exact hs i' a b (by omega) ha hb
 have ig:j=p.length:=by omega
 subst ig;rw[bK]at hall;refine go ?_;exact ae true (hv:=rfl) (hp:=⟨λ_=>⟨by omega,hall,λi a b ha hb=>hs i a b (bP.1 hb).1 ha hb⟩,λ_=>rfl⟩)
theorem ag2{k:bS}{p:List Clue}{vh vs vr vc vu gh gc vn vl vp:Value}(hS:nu k)(hP:yF p):
 bn Tryz.prog (.func 16) [.agg ⟨kD k vh vs vr vc vu gh gc vn vl⟩,.agg ⟨[vp]⟩] [] [] (ah iV vp p::kX k vh vs vr vc vu gh gc vn vl []) (λe:Int=>.int .i64 e) (λ_=>[]) (λ_=>[])
  (λe=>(¬fC k->e=180)/\(fC k->¬jR k p->e=190)/\(fC k->jR k p->e=0)):=by
 refine aI _ (aO 16) λB w0=>?_;refine go ?_;intro b2 b3;refine go ?_;refine ax (agY (k:=k) (vh:=vh) (vs:=vs) (vr:=vr) (vc:=vc) (vu:=vu) (gh:=gh) (gc:=gc) (vn:=vn) (vl:=vl) hS) (next:=λb hb=>?_);cases b with
 |false=>
  have hno:¬fC k:=λh=>by have:=hb.2 h;cases this
  dsimp only[cond];refine go ?_;exact ae 180 (hv:=rfl) (hp:=⟨λ_=>rfl,λh=>absurd h hno,λh=>absurd h hno⟩)
 |true=>
 have hK:=hb.1 rfl;clear hb;dsimp only[cond];refine go ?_;refine ax (ag0 (k:=k) (p:=p) (vh:=vh) (vs:=vs) (vr:=vr) (vc:=vc) (vu:=vu) (gh:=gh) (gc:=gc) (vn:=vn) (vl:=vl) (vp:=vp) hS hP hK.oM) (next:=λb hb=>?_);cases b with
 |false=>
  refine go ?_;exact ae 190 (hv:=rfl) (hp:=⟨λh=>absurd hK h,λ_ _=>rfl,λ_ h=>by have:=hb.2 h;cases this⟩)
 |true=>
  refine go ?_;exact ae 0 (hv:=rfl) (hp:=⟨λh=>absurd hK h,λ_ h=>absurd (hb.1 rfl) h,λ_ _=>rfl⟩)
