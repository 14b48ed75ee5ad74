/-
  Part LawNX.
-/
import Derived.Test.YtoilpafpgndilaaGreatLawRX
import Derived.Test.YtoilpafpgndilaaGreatLibAFX
set_option linter.all false
set_option maxRecDepth 10000
set_option maxHeartbeats 4000000
namespace Go.Proofs.YtoilpafpgndilaaGreat
open Go.Ideal Kd Canon
theorem Xr{k:bD}{p:List Clue}{t:List Int}(h:gX k p)(ht:dF k.decl.symbols.length t):gX k (bK (aK k) t p):=by
 refine⟨by rw[F8];exact h.len,λg hg=>?_,λi a b ha hb=>?_⟩
 ·obtain⟨a,ha,rfl⟩:=eT.1 hg;obtain⟨c,L,r1,r2,r3,r4,r5,r6⟩:=h.right a ha;refine⟨c,L,r1,r2,r3,r4,r5,?_⟩;have hs:=Dr (k:=k) (g:=a) r2;unfold iQ;dsimp only;rw[hs];rcases r6 with⟨e,h1,h2⟩|⟨e,h1,h2⟩|⟨e,e2,h1,h2⟩
  ·refine .inl ⟨e,?_⟩;rw[dK e,if_pos rfl,NG];refine⟨h1,λx hx=>?_⟩;obtain⟨v,hv,rfl⟩:=eT.1 hx;have:=h2 v hv;have:=ht.at_ (c:=v) (by omega) (by omega);omega
  ·refine .inr (.inl ⟨e,?_⟩);rw[aR (by omega),if_neg (by simp)];exact⟨h1,h2⟩
  ·refine .inr (.inr ⟨e,e2,?_⟩);rw[aR e,if_neg (by simp)];exact⟨h1,h2⟩
 ·unfold bK at ha hb;rw[dm]at ha hb;obtain⟨a0,ha0,rfl⟩:=kg.1 ha;obtain⟨b0,hb0,rfl⟩:=kg.1 hb;have:=h.sorted i a0 b0 ha0 hb0;rw[uX]at this⊢;exact this
theorem Xt{k:bD}{p:List Clue}{t:List Int}(h:gX k p):wK (bK (aK k) t p):=
 ⟨by rw[F8];have:=h.len;omega,λg hg=>by have:=F7 h g hg;omega⟩
theorem ajy{k:bD}{cl turn:List Int}{p:List Clue}{vh vs vr vc vu gh gc vn vl vp jR vt:Value}(hB:Bu k)(hP:wK p)(hl:cl.length<9223372036854775808)(hbt:∀x∈turn,0<=x/\x<256):
 dD Tryz.prog 6 [.agg ⟨kZ k vh vs vr vc vu gh gc vn vl⟩,jR,.agg ⟨[vp]⟩,vt] (ai ae jR cl::ai bO vp p::ai BD vt turn::j6 k vh vs vr vc vu gh gc vn vl []) (.bool true):=by
 refine aM _ (aP 6) λB w0=>?_;dsimp only[j6];refine aS (E:=ae) (v:=jR) (xs:=cl) (by simp) λacl Xb F4=>?_;subst F4;refine aS (E:=BD) (v:=vt) (xs:=turn) (by simp) λatt ctt ett=>?_;subst ett;refine go ?_;intro b4 b6;refine go ?_;refine ay Vi (next:=λ_ _=>?_);refine go ?_;refine ay (Xm (k:=k) hB) (next:=λb hb=>?_);cases b with
 |false=>
  refine go ?_;exact ah () (hv:=rfl) (hp:=trivial)
 |true=>
 obtain⟨mI,_,_⟩:=hb rfl;clear hb;have hS:=nZ.WV hB mI;refine go ?_;refine gG (λh20=>?_) (λh20=>?_)
 rotate_left
 ·refine go ?_;exact ah () (hv:=rfl) (hp:=trivial)
 refine go ?_;refine ay (Xo (va:=vp) (xs:=p)) (next:=λb hb=>?_);cases b with
 |false=>
  refine go ?_;exact ah () (hv:=rfl) (hp:=trivial)
 |true=>
 clear hb;refine go ?_;refine aA rfl (λajA=>?_) (λajA=>?_)
 ·refine go ?_;exact ah () (hv:=rfl) (hp:=trivial)
 refine go ?_;refine ay (Kb (k:=k) (cl:=cl) (p:=p) hS hP hl) (next:=λy1 hy1=>?_);obtain⟨v1,s1,e1⟩:=y1;dsimp only at hy1⊢;refine go ?_;intro b9;refine go ?_;refine aA rfl (λhne=>?_) (λhz=>?_)
 ·obtain⟨rfl,rfl⟩:=hy1.2 hne;refine go ?_;exact ah () (hv:=rfl) (hp:=trivial)
 have hz:e1=0:=ic.1 hz;subst hz;have hr1:Dv k p cl 0:=hy1.1;have hK:dH k:=Classical.byContradiction λh=>by have:=hr1.nk h;omega
 have hQ:gX k p:=Classical.byContradiction λh=>by have:=hr1.np hK h;omega
 have hC:vw k.decl.symbols.length cl:=Classical.byContradiction λh=>by have:=hr1.nc hK hQ h;omega
 have hcl:=hC.len;have hsy:=gX.oJ hQ;have hgc:=FC hcl hsy;have Kg:=hgc.p;have hgl:=Kg.len;have hm:=hK.typ.lim.s1;have hm0:=hK.typ.lim.s0;have hpl:=hQ.len;generalize hg:dz (aK k) cl p=g at *;refine eF (ai bO v1 (bK (aK k) g p)) (λw hw=>hw (jr ((0:Int)=0) (ai bO v1 (bK (aK k) g p))) (by simp) rfl) ?_;refine eF (ai ae s1 g) (λw hw=>hw (jr ((0:Int)=0) (ai ae s1 g)) (by simp) rfl) ?_;refine aS (E:=ae) (v:=s1) (xs:=g) (by simp) λa10 c10 e10=>?_;subst e10;refine go ?_;refine IK cl.length ⟨by omega,by omega,by omega⟩ λbm=>?_;rw[VP];refine go ?_;refine aU (λi:Nat=>g.length - i) (λi=>[(67,.int .i64 (i:Int))]) (λi=>[pt bm (.cells (jv cl.length (g.take i)))]) (λ_=>[]) (λi=>i<=g.length) 0 (bR _) (hk:=by repeat (first|exact aI.nil|(apply aI.cons;(focus (repeat (first|exact az.here|apply az.there)))))) (body:=?_);intro i hi;refine go ?_;refine aA rfl (λh1=>?_) (λh1=>?_)
 ·refine go ?_;intro _ _ x hx;have Dh:=Kg.fG x (aZ hx);have hxg:=ji hx;have hcx:=hgc.c (i:Int) (by omega) (by omega);rw[hxg]at hcx;obtain⟨xn,rfl⟩:=jA Dh.1;have hnot:¬(xn:Int)∈g.take i:=λhm=>by
   obtain⟨j,hj⟩:=jS hm;have hjl:=(bq.1 hj).1;rw[gT]at hjl;rw[List.getElem?_take_of_lt (by omega)]at hj;have:=C9 Kg.nd hj hx;omega
  refine go ?_;refine gG (λq2=>?_) (λq2=>?_)
  rotate_left
  ·exfalso;omega
  refine go ?_;refine qh (b:=bm) (o:=0+xn*1) (cs:=jv cl.length (g.take i)) (.bool (decide ((xn:Int)∈g.take i))) (VO (by omega)) ?_;rw[aR hnot];refine go ?_;intro _ _ u hu;refine go ?_;intro _ _ w hw;have Pw:=ji hu;have hwg:=ji hw;refine go ?_;refine aA rfl (λq4=>?_) (λq4=>?_)
  ·exfalso;exact q4 (by rw[<- Pw,<- hwg];exact hcx.symm)
  refine go ?_;refine qI (b:=bm) (o:=0+xn*1) (cs:=jv cl.length (g.take i)) (v:=.bool true) (cs':=jv cl.length (g.take (i+1))) (by rw[afQ (by omega),bZ hx]) (by rw[JL];omega) ?_;refine go ?_;exact aN (i+1) (by omega) (by omega)
 refine go ?_;intro Px;refine bn (eX (b:=Px)) (h:=?_);refine eF (ai (ak ae) (.slice (some ⟨Px,0,some 0⟩) 1 1) [[]]) (λw hw=>ML (hw (gY Px 0 [.slice none 0 0]) (by simp)) (.inl ⟨rfl,none,0,rfl,trivial⟩)) ?_;refine go ?_;refine ay (ajv (G:=[[]]) (cl:=cl) (turn:=turn) (pick:=0) (m:=k.decl.symbols.length) hcl (by omega) (by decide) (by decide) (by decide) (by omega) hbt (λ_=>hm0)) (next:=λy2 hy2=>?_);obtain⟨vA,vS,t⟩:=y2;dsimp only at hy2⊢;have htl:=hy2.p.len;refine go ?_;intro b15;refine go ?_;refine ay (Pt (k:=k) (m:=k.decl.symbols.length) (t:=t) (p:=p) (by omega) (Pv hQ) hsy (by omega)) (next:=λv16 _=>?_);have hQy:=Xr hQ hy2.p;refine go ?_;intro b16;refine go ?_;refine ay (Kb (k:=k) (cl:=cl) (p:=bK (aK k) t p) hS (Xt hQ) hl) (next:=λy3 hy3=>?_);obtain⟨v17,s18,e19⟩:=y3;dsimp only at hy3⊢;obtain rfl:e19=0:=hy3.1.ok hK hQy hC;refine eF (ai bO v17 (bK (aK k) g p)) (λw hw=>by
  have:=hw (jr ((0:Int)=0) (ai bO v17 (bK (aK k) (dz (aK k) cl (bK (aK k) t p)) (bK (aK k) t p)))) (by simp) rfl;rw[Ve hcl hy2 hsy,hg]at this;exact this) ?_
 refine go ?_;intro b17;have O1:=Xr hQ Kg;refine go ?_;refine ay (Kb (k:=k) (cl:=cl) (p:=bK (aK k) g p) hS (Xt hQ) hl) (next:=λy4 hy4=>?_);obtain⟨v20,s21,e22⟩:=y4;dsimp only at hy4⊢;obtain rfl:e22=0:=hy4.1.ok hK O1 hC;refine eF (ai bO v20 (bK (aK k) g p)) (λw hw=>by
  have:=hw (jr ((0:Int)=0) (ai bO v20 (bK (aK k) (dz (aK k) cl (bK (aK k) g p)) (bK (aK k) g p)))) (by simp) rfl;rw[Ve hcl hgc hsy,hg]at this;exact this) ?_
 refine go ?_;intro b20;have hsx:short (bK (aK k) g p):=F7 hQ;have hsy2:short (bK (aK k) t p):=F7 hQ;have hxl:=F8 (aK k) g p;have hyl:=F8 (aK k) t p;have Xu:=NU hcl hy2 hsy;rw[hg]at Xu;refine go ?_;refine gG (λq5=>?_) (λq5=>?_)
 ·exfalso;omega
 refine go ?_;refine ay (Pt (k:=k) (m:=k.decl.symbols.length) (t:=g) (p:=p) (by omega) (Pv hQ) hsy (by omega)) (next:=λv45 _=>?_);refine go ?_;refine ay (F3 (va:=v1) (vb:=v45) (xs:=bK (aK k) g p) (ys:=bK (aK k) g p) (by omega) hsx hsx) (next:=λ_ _=>?_);rw[dK (rfl:bK (aK k) g p=bK (aK k) g p)];refine go ?_;refine ay (ajr (va:=v16) (vb:=v1) (xs:=bK (aK k) t p) (ys:=bK (aK k) g p) (by omega) (by omega) hsy2 hsx) (next:=λ_ _=>?_);rw[aR Xu];refine go ?_;refine ay (F3 (va:=v17) (vb:=v1) (xs:=bK (aK k) g p) (ys:=bK (aK k) g p) (by omega) hsx hsx) (next:=λ_ _=>?_);rw[dK (rfl:bK (aK k) g p=bK (aK k) g p)];refine go ?_;refine ay (F3 (va:=v20) (vb:=v1) (xs:=bK (aK k) g p) (ys:=bK (aK k) g p) (by omega) hsx hsx) (next:=λ_ _=>?_);rw[dK (rfl:bK (aK k) g p=bK (aK k) g p)];refine go ?_;exact ah () (hv:=rfl) (hp:=trivial)
