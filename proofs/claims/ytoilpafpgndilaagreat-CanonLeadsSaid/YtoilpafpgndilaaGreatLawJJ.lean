/- Part. -/
import Derived.Test.YtoilpafpgndilaaGreatLibAHJ
import Derived.Test.YtoilpafpgndilaaGreatSaneAJ
set_option linter.all false
set_option maxRecDepth 10000
set_option maxHeartbeats 4000000
namespace Go.Proofs.YtoilpafpgndilaaGreat
open Go.Ideal Kd Canon
theorem arG{k:aQ}{p:ae Clue}{pick:Nat}{turn:ae Int}{vh vs vr vc vu gh gc vn vl vp vt:ah}(hB:Bv k)(hP:xB p)(hpk:pick<65536)(hbt:∀x∈turn,0<=x/\x<256):
 dZ Tryz.prog 8 [.agg ⟨jO k vh vs vr vc vu gh gc vn vl⟩,.agg ⟨[vp]⟩,.int .u16 (pick:Int),vt] (aj aY vp p::aj zV vt turn::iT k vh vs vr vc vu gh gc vn vl []) (.bool true):=by
 refine gB 8 λB w0=>?_;dsimp only[iT];refine go ?_;intro b3 b4;refine gC Tj λ_ _=>?_;refine gC (Vq (k:=k) (p:=p) (turn:=turn) (vt:=vt) hB) λy hy=>?_;obtain⟨v1,v2,G,cl,b⟩:=y;dsimp only at hy⊢;refine go ?_;intro b5;refine go ?_;cases b with
 |false=>
  exact eH
 |true=>
 have hF:=hy rfl;clear hy;have hK:=hF.hK;have hS:=hF.hS;have hg:=hF.qY;have hcl:=hg.pK.len;have hm:=hK.typ.lim.s1;have hm0:=hK.typ.lim.s0;have hG0:=hg.pos;have Vn:=hF.Vp;have htl:=hF.t20;have hn:=hK.zH;have hsl:=hg.Vr hK;have yS:∀s∈G,s.length<2^63:=λs hs=>by have:=hsl s hs;omega
 refine gC (Hu (k:=k) (cl:=cl) (p:=p) (L:=G) (ja:=v2) (vL:=v1) hS hP s6 s6 yS) λy4 hy4=>?_;obtain⟨p4,s4,t4,c⟩:=y4;dsimp only at hy4⊢;refine go ?_;intro b11 b12;refine go ?_;by_cases hQ:fK k p
 rotate_left
 .obtain rfl:=hy4.np hK hQ;dsimp only[uV];refine gF aY p4 [] λa4 c4 e4=>?_;subst e4;exact eH
 obtain rfl:=hy4.ok hK hQ ⟨hg.pK.ok,λe=>by rw[e]at hG0;cases hG0⟩;have hc:=EZ hg hK hQ;have hce:=hc.e0;have pO:=hc.Hw hg hK hQ;have hkc:=hc.keep hg hK;generalize zU k cl p G=c at *;clear hy4;obtain⟨ce,cp,cs,ct⟩:=c;dsimp only at hc hce pO hkc⊢;subst hce;have arH:=hkc.pc.len;have arI:=hkc.ps.len;refine gF ai s4 cs λO5 O6 Vv=>?_;subst Vv;refine gF ai t4 ct λat4 O7 Vw=>?_;subst Vw;refine gC (Ku (k:=k) (s:=cs) (t:=ct) (p:=p) (sc:=.slice O5 cs.length O6) (st:=.slice at4 ct.length O7) (vp:=vp) hS hP s6 s6) λy3 hy3=>?_;obtain⟨v3,x,e3⟩:=y3;obtain⟨hi,hx,_⟩:=hy3;dsimp only at hi hx⊢;obtain rfl:e3=0:=hi.ok hK hkc hQ;obtain rfl:x=cp:=(hx rfl).uniq hc.img;clear hi hx;refine eD (aj aY v3 x) (λw hw=>hw (nQ ((0:Int)=0) (aj aY v3 x)) s7 rfl) ?_;refine go ?_;intro b10;refine gC (Hu (k:=k) (cl:=cl) (p:=x) (L:=G) (vp:=p4) (ja:=v2) (vL:=v1) hS (adA pO) s6 s6 yS) λy4 hy4=>?_;obtain⟨p5,s5,t5,d⟩:=y4;dsimp only at hy4⊢;refine go ?_;intro b16 b17;refine go ?_;obtain rfl:=hy4.ok hK pO ⟨hg.pK.ok,λe=>by rw[e]at hG0;cases hG0⟩;have hd:=EZ hg hK pO;have hde:=hd.e0;have Vx:=hd.Hw hg hK pO;have hkd:=hd.keep hg hK;generalize zU k cl x G=d at *;clear hy4;have hcd:x=d.p:=(uS.img hg hK hQ hc.sG hc.tC hc.img hc.can).uniq hd.can;rw[hde];refine go ?_;intro b19;refine gC (adz (G:=G) (cl:=cl) (turn:=turn) (pick:=pick) (m:=k.decl.symbols.length) (vg:=v1) (ja:=v2) (vt:=vt) hcl s6 hG0 s6 hpk s6 hbt (λ_=>hm0)) λy2 hy2=>?_;obtain⟨vA,vS,t⟩:=y2;dsimp only at hy2⊢;have hil:pick%G.length<G.length:=wu _ hG0;have hsg:G.getD (pick%G.length) []∈G:=GO
 generalize G.getD (pick%G.length) []=s at *;have hst:=hg.both hK hsg hy2;have htl:=hy2.p.len;have hsl1:=hsl s hsg;refine gC (Ku (k:=k) (s:=s) (t:=t) (p:=p) (sc:=vA) (st:=vS) (vp:=vp) hS hP s6 s6) λy6 Vy=>?_;obtain⟨v6,z,e6⟩:=y6;obtain⟨hi,hz,_⟩:=Vy;dsimp only at hi hz⊢;obtain rfl:e6=0:=hi.ok hK hst hQ;have hz:=hz rfl;have hQz:=xE hK hst hQ hz;have arJ:=uS.ark hg hK hQ hsg hy2 hz hc.can;have hxl:=pO.len;have hzl:=hQz.len;refine eD (aj aY v6 z) (λw hw=>hw (nQ ((0:Int)=0) (aj aY v6 z)) s7 rfl) ?_;refine gC (adq (G:=G) (cl:=cl) (s:=cs) (t:=ct) (vG:=v1) (ja:=v2) (sc:=.slice O5 cs.length O6) (st:=.slice at4 ct.length O7) s6 s6 yS s6 s6) λb hb=>?_;obtain rfl:b=true:=hb.2 (hc.has hg);refine gC (J8 (va:=p4) (vb:=v3) (xs:=x) (ys:=x) s6 (yT pO) (yT pO)) λ_ _=>?_;rw[eT (rfl:x=x)];refine gC (J8 (va:=p4) (vb:=p5) (xs:=x) (ys:=d.p) s6 (yT pO) (by rw[<- hcd];exact yT pO)) λ_ _=>?_;rw[eT hcd];refine gC (ado (va:=v6) (vb:=p4) (xs:=z) (ys:=x) s6 s6 (yT hQz) (yT pO)) λ_ _=>?_;rw[bY arJ];exact eH
