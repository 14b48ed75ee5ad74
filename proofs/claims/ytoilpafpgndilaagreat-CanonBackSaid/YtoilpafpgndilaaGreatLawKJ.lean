/- Part. -/
import Derived.Test.YtoilpafpgndilaaGreatLibAHJ
import Derived.Test.YtoilpafpgndilaaGreatSaneAJ
set_option linter.all false
set_option maxRecDepth 10000
set_option maxHeartbeats 4000000
namespace Go.Proofs.YtoilpafpgndilaaGreat
open Go.Ideal Kd Canon
theorem arK{k:aQ}{p q:ae Clue}{vh vs vr vc vu gh gc vn vl vp vq:ah}(hB:Bv k)(hP:xB p)(hPq:xB q):
 dZ Tryz.prog 9 [.agg ⟨jO k vh vs vr vc vu gh gc vn vl⟩,.agg ⟨[vp]⟩,.agg ⟨[vq]⟩] (aj aY vp p::aj aY vq q::iT k vh vs vr vc vu gh gc vn vl []) (.bool true):=by
 refine gB 9 λB w0=>?_;dsimp only[iT];refine go ?_;intro b3 b4 b4b;refine gC Tj λ_ _=>?_;refine go ?_;refine eD (aj zV (.slice none 0 0) ([]:ae Int)) (λw _=>.inl ⟨rfl,none,0,rfl,trivial⟩) ?_;refine iy (Vq (k:=k) (p:=p) (turn:=[]) (vt:=(.slice none 0 0)) hB) (next:=λy hy=>?_);obtain⟨v1,v2,G,cl,b⟩:=y;dsimp only at hy⊢;refine go ?_;intro b5;refine go ?_;cases b with
 |false=>
  exact eH
 |true=>
 have hF:=hy rfl;clear hy;have hK:=hF.hK;have hS:=hF.hS;have hg:=hF.qY;have hcl:=hg.pK.len;have hm:=hK.typ.lim.s1;have hm0:=hK.typ.lim.s0;have hG0:=hg.pos;have Vn:=hF.Vp;have htl:=hF.t20;have hn:=hK.zH;have hsl:=hg.Vr hK;have yS:∀s∈G,s.length<2^63:=λs hs=>by have:=hsl s hs;omega
 refine gC (adp (va:=vq) (xs:=q)) λb hb=>?_;cases b with
 |false=>
  exact eH
 |true=>
 clear hb;refine gC (Hu (k:=k) (cl:=cl) (p:=p) (L:=G) (ja:=v2) (vL:=v1) hS hP s6 s6 yS) λy4 hy4=>?_;obtain⟨p4,s4,t4,c⟩:=y4;dsimp only at hy4⊢;refine go ?_;intro b8 b9;refine gC (Hu (k:=k) (cl:=cl) (p:=q) (L:=G) (vp:=vq) (ja:=v2) (vL:=v1) hS hPq s6 s6 yS) λy5 E5=>?_;obtain⟨p5,s5,t5,d⟩:=y5;dsimp only at E5⊢;refine go ?_;intro b10 b11;refine go ?_;by_cases hQ:fK k p
 rotate_left
 .obtain rfl:=hy4.np hK hQ;dsimp only[uV];exact eH
 obtain rfl:=hy4.ok hK hQ ⟨hg.pK.ok,λe=>by rw[e]at hG0;cases hG0⟩;have hc:=EZ hg hK hQ;have hce:=hc.e0;have pO:=hc.Hw hg hK hQ;have hkc:=hc.keep hg hK;generalize zU k cl p G=c at *;clear hy4;by_cases hR:fK k q
 rotate_left
 .obtain rfl:=E5.np hK hR;dsimp only[uV];rw[hce];exact eH
 obtain rfl:=E5.ok hK hR ⟨hg.pK.ok,λe=>by rw[e]at hG0;cases hG0⟩;have hd:=EZ hg hK hR;have hde:=hd.e0;have Vx:=hd.Hw hg hK hR;have hkd:=hd.keep hg hK;generalize zU k cl q G=d at *;clear E5;obtain⟨ce,cp,cs,ct⟩:=c;dsimp only at hc hce pO hkc⊢;subst hce;obtain⟨de,dp,ds,dt⟩:=d;dsimp only at hd hde Vx hkd⊢;subst hde;have arH:=hkc.pc.len;have arI:=hkc.ps.len;have arM:=hkd.pc.len;have arN:=hkd.ps.len;refine gF ai s4 cs λO5 O6 Vv=>?_;subst Vv;refine gF ai t4 ct λat4 O7 Vw=>?_;subst Vw;refine gF ai s5 ds λas5 cs5 es5=>?_;subst es5;refine gF ai t5 dt λat5 ct5 et5=>?_;subst et5;refine gC (J8 (va:=p4) (vb:=p5) (xs:=cp) (ys:=dp) (by have:=pO.len;omega) (yT pO) (yT Vx)) λ_ _=>?_;by_cases hcd:cp=dp
 rotate_left
 .rw[bY hcd];exact eH
 rw[eT hcd];subst hcd;refine gC (arD (s:=ds) (t:=dt) (vc:=.slice as5 ds.length cs5) (vs:=.slice at5 dt.length ct5) s6 s6) λy6 Vy=>?_;obtain⟨ok6,vi,vj⟩:=y6;obtain rfl:ok6=true:=Vy.2 ⟨⟨s6,by rw[arM];exact hkd.pc⟩,⟨s6,by rw[arN];exact hkd.ps⟩⟩;dsimp only[Hy,BP,cond,List.cons_append,List.nil_append];refine go ?_;intro b12;refine go ?_;have KC:=hkd.inv hK;have hil:=KC.pc.len;have hjl:=KC.ps.len;refine iy (arC (s:=cs) (t:=ct) (s2:=cz ds) (t2:=cz dt) (vc:=.slice O5 cs.length O6) (vs:=.slice at4 ct.length O7) (Oc:=vi) (vs2:=vj) s6 s6 s6 s6) (next:=λy7 hy7=>?_);obtain⟨ok7,vm,vn7⟩:=y7;obtain rfl:ok7=true:=hy7.2 ⟨⟨s6,by rw[hil];exact KC.pc,by rw[hil];exact hkc.pc⟩,⟨s6,by rw[hjl];exact KC.ps,by rw[hjl];exact hkc.ps⟩⟩;dsimp only[Hy,BP,cond,List.cons_append,List.nil_append];refine go ?_;intro b13;refine go ?_;have hkk:=hkc.comp hK KC;have hal:=hkk.pc.len;have hbl:=hkk.ps.len;refine iy (Ku (k:=k) (s:=bC (cz ds) cs) (t:=bC (cz dt) ct) (p:=p) (sc:=vm) (st:=vn7) (vp:=vp) hS hP s6 s6) (next:=λy8 hy8=>?_);obtain⟨v8,x,e8⟩:=y8;obtain⟨hi,hx,_⟩:=hy8;dsimp only at hi hx⊢;obtain rfl:e8=0:=hi.ok hK hkk hQ;have hxq:x=q:=arn hg hK hQ hR hc hd rfl (hx rfl);subst hxq;refine eD (aj aY v8 x) (λw hw=>hw (nQ ((0:Int)=0) (aj aY v8 x)) s7 rfl) ?_;refine go ?_;intro b14;refine go ?_;have hsG:=hg.qY.comp _ (hg.qY.inv _ hd.sG) _ hc.sG;have htC:=jS.comp hc.tC hd.tC.inv;refine iy (adq (G:=G) (cl:=cl) (s:=bC (cz ds) cs) (t:=bC (cz dt) ct) (vG:=v1) (ja:=v2) (sc:=vm) (st:=vn7) s6 s6 yS s6 s6) (next:=λb hb=>?_);obtain rfl:b=true:=hb.2 (ary hg hsG htC);refine gC (J8 (va:=v8) (vb:=vq) (xs:=x) (ys:=x) (by have:=hR.len;omega) (yT hR) (yT hR)) λ_ _=>?_;rw[eT (rfl:x=x)];exact eH
