/- Part. -/
import Derived.Test.YtoilpafpgndilaaGreatLibAHJ
import Derived.Test.YtoilpafpgndilaaGreatSaneAJ
set_option linter.all false
set_option maxRecDepth 10000
set_option maxHeartbeats 4000000
namespace Go.Proofs.YtoilpafpgndilaaGreat
open Go.Ideal Kd Canon
theorem arE{k:aQ}{p:ae Clue}{pick:Nat}{turn:ae Int}{vh vs vr vc vu gh gc vn vl vp vt:ah}(hB:Bv k)(hP:xB p)(hpk:pick<65536)(hbt:∀x∈turn,0<=x/\x<256):
 dZ Tryz.prog 7 [.agg ⟨jO k vh vs vr vc vu gh gc vn vl⟩,.agg ⟨[vp]⟩,.int .u16 (pick:Int),vt] (aj aY vp p::aj zV vt turn::iT k vh vs vr vc vu gh gc vn vl []) (.bool true):=by
 refine gB 7 λB w0=>?_;dsimp only[iT];refine go ?_;intro b3 b4;refine gC Tj λ_ _=>?_;refine gC (Vq (k:=k) (p:=p) (turn:=turn) (vt:=vt) hB) λy hy=>?_;obtain⟨v1,v2,G,cl,b⟩:=y;dsimp only at hy⊢;refine go ?_;intro b5;refine go ?_;cases b with
 |false=>
  exact eH
 |true=>
 have hF:=hy rfl;clear hy;have hK:=hF.hK;have hS:=hF.hS;have hg:=hF.qY;have hcl:=hg.pK.len;have hm:=hK.typ.lim.s1;have hm0:=hK.typ.lim.s0;have hG0:=hg.pos;have Vn:=hF.Vp;have htl:=hF.t20;have hn:=hK.zH;have hsl:=hg.Vr hK;refine go ?_;intro b11;refine gC (adz (G:=G) (cl:=cl) (turn:=turn) (pick:=pick) (m:=k.decl.symbols.length) (vg:=v1) (ja:=v2) (vt:=vt) hcl s6 hG0 s6 hpk s6 hbt (λ_=>hm0)) λy2 hy2=>?_;obtain⟨vA,vS,t⟩:=y2;dsimp only at hy2⊢;have hil:pick%G.length<G.length:=wu _ hG0;have hsg:G.getD (pick%G.length) []∈G:=GO
 generalize G.getD (pick%G.length) []=s at *;have hst:=hg.both hK hsg hy2;have htl:=hy2.p.len;have hsl1:=hsl s hsg;refine gC (Ku (k:=k) (s:=s) (t:=t) (p:=p) (sc:=vA) (st:=vS) (vp:=vp) hS hP s6 s6) λy3 hy3=>?_;obtain⟨v3,x,e3⟩:=y3;obtain⟨hi,hx,_⟩:=hy3;dsimp only at hi hx⊢;refine go ?_;by_cases hQ:fK k p
 rotate_left
 .obtain rfl:e3=190:=hi.np hK hst hQ;exact eH
 obtain rfl:e3=0:=hi.ok hK hst hQ;have hx:=hx rfl;have ru:=xE hK hst hQ hx;refine eD (aj aY v3 x) (λw hw=>hw (nQ ((0:Int)=0) (aj aY v3 x)) s7 rfl) ?_;refine go ?_;have hPx:xB x:=adA ru;refine iy (Hu (k:=k) (cl:=cl) (p:=p) (L:=G) (ja:=v2) (vL:=v1) hS hP s6 s6 (λs hs=>by have:=hsl s hs;omega)) (next:=λy4 hy4=>?_);obtain⟨p4,s4,t4,c⟩:=y4;dsimp only at hy4⊢;obtain rfl:=hy4.ok hK hQ ⟨hg.pK.ok,λe=>by rw[e]at hG0;cases hG0⟩;have hc:=EZ hg hK hQ;have hce:=hc.e0;generalize zU k cl p G=c at *;refine go ?_;intro b13 b14;refine gC (Hu (k:=k) (cl:=cl) (p:=x) (L:=G) (vp:=v3) (ja:=v2) (vL:=v1) hS hPx s6 s6 (λs hs=>by have:=hsl s hs;omega)) λy5 E5=>?_;obtain⟨p5,s5,t5,d⟩:=y5;dsimp only at E5⊢;obtain rfl:=E5.ok hK ru ⟨hg.pK.ok,λe=>by rw[e]at hG0;cases hG0⟩;have hd:=EZ hg hK ru;have hde:=hd.e0;generalize zU k cl x G=d at *;have hcd:c.p=d.p:=(uS.img hg hK hQ hsg hy2 hx hc.can).uniq hd.can;rw[hce,hde];refine go ?_;intro b16 b17;refine go ?_;have pO:=hc.Hw hg hK hQ;have hsh:=yT pO;refine iy (J8 (va:=p4) (vb:=p5) (xs:=c.p) (ys:=d.p) (by have:=pO.len;omega) hsh (by rw[<- hcd];exact hsh)) (next:=λ_ _=>?_);rw[eT hcd];exact eH
