/-
  Part LibNR.
-/
import Derived.Test.YtpkieeggilkagaaGreatLibER
import Derived.Test.YtpkieeggilkagaaGreatPlainCR
set_option linter.all false
set_option maxRecDepth 10000
set_option maxHeartbeats 4000000
namespace Go.Proofs.YtpkieeggilkagaaGreat
open Go.Ideal Kd
theorem JV{vl:Value}{xs:List Int}{z:Int}(hl:xs.length<9223372036854775808):bV Tryz.prog 171 [vl,.int .i64 z] [ah aa vl xs] (.bool (decide (z∈xs))):=by
 refine aC _ (aF 171) λB w0=>?_;refine go ?_;refine aR (λk=>xs.length - k) (λk:Nat=>[(5,.int .i64 (k:Int))]) (λ_=>[]) (λ_=>[]) (λk=>k<=xs.length/\z∉xs.take k) 0 ⟨by omega,by simp⟩ (body:=?_);rintro k ⟨hk,hno⟩;refine go ?_;refine ay rfl (λh1=>?_) (λh1=>?_)
 ·refine go ?_;intro _ _ x hx;refine go ?_;refine ay rfl (λh2=>?_) (λh2=>?_)
  ·refine go ?_;refine ae () (hv:=?_) (hp:=trivial);subst h2;rw[dQ (aP hx)];rfl
  ·refine go ?_;refine aD (k+1) (by omega) ⟨by omega,?_⟩;rw[bS hx,dB,not_or];exact⟨hno,by simp;exact λe=>h2 e.symm⟩
 refine go ?_;have:k=xs.length:=by omega
 subst this;rw[bC]at hno;refine ae () (hv:=?_) (hp:=trivial);rw[aS hno];rfl
theorem ahn{vl:Value}{xs:List Int}{z:Int}(hl:xs.length<9223372036854775808):aV Tryz.prog (.func 171) [vl,.int .i64 z] [] [ap aa vl xs] [] (λ_:Unit=>.bool (decide (z∈xs))) (λ_=>[ap aa vl xs]) (λ_=>[]) (λ_=>True):=by
 refine aC _ (aF 171) λB w0=>?_;refine go ?_;refine aR (λk=>xs.length - k) (λk:Nat=>[(5,.int .i64 (k:Int))]) (λ_=>[]) (λ_=>[]) (λk=>k<=xs.length/\z∉xs.take k) 0 ⟨by omega,by simp⟩ (body:=?_);rintro k ⟨hk,hno⟩;refine go ?_;refine ay rfl (λh1=>?_) (λh1=>?_)
 ·refine go ?_;have hx:xs[k]? =some (xs[k]'(by omega)):=bN _;generalize xs[k]'(by omega)=x at hx;refine MK (v:=vl) (xs:=xs) k x hx (next:=λ_ _=>?_);refine go ?_;refine ay rfl (λh2=>?_) (λh2=>?_)
  ·refine go ?_;refine ae () (hv:=?_) (hp:=trivial);subst h2;rw[dQ (aP hx)];rfl
  ·refine go ?_;refine aD (k+1) (by omega) ⟨by omega,?_⟩;rw[bS hx,dB,not_or];exact⟨hno,by simp;exact λe=>h2 e.symm⟩
 refine go ?_;have:k=xs.length:=by omega
 subst this;rw[bC]at hno;refine ae () (hv:=?_) (hp:=trivial);rw[aS hno];rfl
theorem Dp{va vb:Value}{xs ys:List Int}(hl:xs.length<9223372036854775808):bV Tryz.prog 196 [va,vb] [ah aa va xs,ah aa vb ys] (.bool (decide (xs=ys))):=by
 refine aC _ (aF 196) λB w0=>?_;refine aT (E:=aa) (v:=va) (xs:=xs) (by simp) λa1 c1 e1=>?_;subst e1;refine aT (E:=aa) (v:=vb) (xs:=ys) (by simp) λa2 c2 e2=>?_;subst e2;refine go ?_;refine ay rfl (λh1=>?_) (λh1=>?_)
 ·refine go ?_;refine ae () (hv:=?_) (hp:=trivial);rw[aS (λe=>by subst e;omega)];rfl
 have hlen:xs.length=ys.length:=by omega
 refine go ?_;refine aR (λk=>xs.length - k) (λk:Nat=>[(5,.int .i64 (k:Int))]) (λ_=>[]) (λ_=>[]) (λk=>k<=xs.length/\xs.take k=ys.take k) 0 ⟨by omega,by simp⟩ (body:=?_);rintro k ⟨hk,hsame⟩;refine go ?_;refine ay rfl (λh2=>?_) (λh2=>?_)
 ·refine go ?_;intro _ _ x hx _ _ y hy;refine go ?_;refine ay rfl (λh3=>?_) (λh3=>?_)
  ·refine go ?_;refine ae () (hv:=?_) (hp:=trivial);rw[aS (λe=>by subst e;rw[hx]at hy;exact h3 (Option.some.inj hy))];rfl
  ·have hxy:x=y:=gM.1 h3;refine go ?_;refine aD (k+1) (by omega) ⟨by omega,?_⟩;rw[bS hx,bS hy,hsame,hxy]
 have:k=xs.length:=by omega
 subst this;refine go ?_;refine ae () (hv:=?_) (hp:=trivial);rw[bC,hlen,bC]at hsame;rw[dQ hsame];rfl
theorem zy{g:bD}(hg:fH g){k:Nat}(hk:k<g.cells.length):(0<=(g.cells[k]).tmod g.w/\(g.cells[k]).tmod g.w<16)/\0<=(g.cells[k]).tdiv g.w/\(g.cells[k]).tdiv g.w<16:=by
 have FP:=hg.make.wi;have hhe:=hg.make.he;have hm:=uY hk;generalize g.cells[k]=x at hm⊢;have hx0:=hg.cell _ hm;rw[hg.cells]at hm;have hx1:=TS hm;have hb:=xE FP hhe;rw[show((g.w*g.h).toNat:Int)=g.w*g.h by omega]at hx1;rw[DL hx0.1,ul hx0.1];have h1:=Int.emod_nonneg x (show g.w≠0 by omega);have h2:=Int.emod_lt_of_pos x (show 0<g.w by omega);have h3:=Ku hx0.1 (show 0<=g.w by omega);have h4:x/g.w<g.h:=Int.ediv_lt_of_lt_mul (by omega) (by rw[Int.mul_comm];exact hx1.2.1);omega
theorem Dq{g:bD}{vh vc:Value}{k:Nat}(hg:fH g)(hk:k<g.cells.length):bV Tryz.prog 214 [.agg ⟨iW g vh vc⟩,.int .i64 (k:Int)] (jD g vh vc) (.int .i64 ((g.cells[k]).tmod g.w)):=by
 have FP:=hg.make.wi;refine aC _ (aF 214) λB w0=>?_;refine go ?_;intro b1;refine go ?_;intro _ _ x hx;rw[bN hk]at hx;obtain rfl:=Option.some.inj hx;refine go ?_;refine(gH rfl rfl (MC (a:=g.cells[k]) (b:=g.w) rfl rfl (by omega))).h ?_;refine go ?_;exact ae () (hv:=rfl) (hp:=trivial)
theorem Bo{g:bD}{vh vc:Value}{k:Nat}(hg:fH g)(hk:k<g.cells.length):bV Tryz.prog 215 [.agg ⟨iW g vh vc⟩,.int .i64 (k:Int)] (jD g vh vc) (.int .i64 ((g.cells[k]).tdiv g.w)):=by
 have FP:=hg.make.wi;have hxb:=zy hg hk;refine aC _ (aF 215) λB w0=>?_;refine go ?_;intro b1;refine go ?_;intro _ _ x hx;rw[bN hk]at hx;obtain rfl:=Option.some.inj hx;refine go ?_;refine(gH rfl rfl (IC (a:=g.cells[k]) (b:=g.w) rfl rfl (by omega) (by omega) (by omega))).h ?_;refine go ?_;exact ae () (hv:=rfl) (hp:=trivial)
theorem ahp(y:Int)(h:0<=y):(y - y.tmod 2).tdiv 2=y.tdiv 2:=by
 have h1:y.tmod 2=y%2:=DL h;rw[h1,ul (show 0<=y - y%2 by omega),ul h];omega
theorem JW{g:bD}{vh vc:Value}{k:Nat}(hg:fH g)(hk:k<g.cells.length):bV Tryz.prog 216 [.agg ⟨iW g vh vc⟩,.int .i64 (k:Int)] (jD g vh vc) (.int .i64 ((g.cells[k]).tmod g.w - ((g.cells[k]).tdiv g.w).tdiv 2)):=by
 obtain⟨hc,hr⟩:=zy hg hk;have hax:=ahp _ hr.1;refine aC _ (aF 216) λB w0=>?_;refine go ?_;intro b1;refine go ?_;refine aj (Bo (g:=g) (vh:=vh) (vc:=vc) hg hk) (next:=λ_ _=>?_);refine go ?_;refine aj (Dq (g:=g) (vh:=vh) (vc:=vc) hg hk) (next:=λ_ _=>?_);generalize(g.cells[k]).tmod g.w=x at hc⊢;generalize(g.cells[k]).tdiv g.w=y at hr hax⊢;have h1:y.tmod 2=y%2:=DL hr.1;refine go ?_;refine(gH rfl rfl (MC (a:=y) (b:=2) rfl rfl (by omega))).h ?_;refine go ?_;have h2:y.tdiv 2=y/2:=ul hr.1;refine(gH rfl rfl (IC (a:=y - y.tmod 2) (b:=2) rfl rfl (by omega) (by rw[hax,h2];omega) (by rw[hax,h2];omega))).h ?_;rw[hax];refine go ?_;exact ae () (hv:=rfl) (hp:=trivial)
theorem F9{g:bD}{k:Nat}(hk:k<g.cells.length)(hs:g.shape=2):iT g (k:Int)=((g.cells[k]).tmod g.w - ((g.cells[k]).tdiv g.w).tdiv 2,(g.cells[k]).tdiv g.w):=by
 rw[CW (bN hk)];unfold nO;rw[if_pos hs]
theorem Dr{g:bD}{k:Nat}(hk:k<g.cells.length)(hs:g.shape=1):iT g (k:Int)=((g.cells[k]).tmod g.w,(g.cells[k]).tdiv g.w):=by
 rw[CW (bN hk)];unfold nO;rw[if_neg (by omega)]
theorem JX{y:Int}(h:0<=y/\y<16):0<=y.tdiv 2/\y.tdiv 2<8:=by
 rw[ul h.1];omega
theorem ahq{g:bD}{vh vc:Value}{a b:Nat}(hg:fH g)(ha:a<g.cells.length)(hb:b<g.cells.length):bV Tryz.prog 173 [.agg ⟨iW g vh vc⟩,.int .i64 (a:Int),.int .i64 (b:Int)] (jD g vh vc) (.bool (xO g.shape (iT g a) (iT g b))):=by
 obtain⟨hc1,hr1⟩:=zy hg ha;obtain⟨hc2,hr2⟩:=zy hg hb;have hv1:=JX hr1;have hv2:=JX hr2;refine aC _ (aF 173) λB w0=>?_;refine go ?_;intro b1;refine go ?_;refine aj (Dq (g:=g) (vh:=vh) (vc:=vc) hg hb) (next:=λ_ _=>?_);refine go ?_;refine aj (Dq (g:=g) (vh:=vh) (vc:=vc) hg ha) (next:=λ_ _=>?_);refine go ?_;refine aj (Bo (g:=g) (vh:=vh) (vc:=vc) hg hb) (next:=λ_ _=>?_);refine go ?_;refine aj (Bo (g:=g) (vh:=vh) (vc:=vc) hg ha) (next:=λ_ _=>?_);refine go ?_;refine ay rfl (λhs=>?_) (λhs=>?_)
 ·rw[Dr ha hs,Dr hb hs,hs];generalize(g.cells[a]).tmod g.w=x1 at hc1⊢;generalize(g.cells[a]).tdiv g.w=y1 at hr1 hv1⊢;generalize(g.cells[b]).tmod g.w=x2 at hc2⊢;generalize(g.cells[b]).tdiv g.w=y2 at hr2 hv2⊢;iterate 7 (all_goals (first|(refine ae () (hv:=?_) (hp:=trivial))|(refine go ?_;first|refine gG (λ_=>?_) (λ_=>?_)|skip)|skip))
  all_goals (apply congrArg Value.bool;unfold xO;simp[*]<;>omega)
 ·have hs2:g.shape=2:=hg.make.sh.resolve_left hs;rw[F9 ha hs2,F9 hb hs2,hs2];refine go ?_;refine aj (JW (g:=g) (vh:=vh) (vc:=vc) hg hb) (next:=λ_ _=>?_);refine go ?_;refine aj (JW (g:=g) (vh:=vh) (vc:=vc) hg ha) (next:=λ_ _=>?_);generalize(g.cells[a]).tmod g.w=x1 at hc1⊢;generalize(g.cells[a]).tdiv g.w=y1 at hr1 hv1⊢;generalize(g.cells[b]).tmod g.w=x2 at hc2⊢;generalize(g.cells[b]).tdiv g.w=y2 at hr2 hv2⊢;generalize y1.tdiv 2=z1 at hv1⊢;generalize y2.tdiv 2=z2 at hv2⊢;iterate 14 (all_goals (first|(refine ae () (hv:=?_) (hp:=trivial))|(refine go ?_;first|refine gG (λ_=>?_) (λ_=>?_)|skip)|skip))
  all_goals (apply congrArg Value.bool;unfold xO;simp[*]<;>omega)
def oC(sh f:Int)(s:Int×Int):Int:=if f=1 then s.2 else if sh=1 then s.1 else if f=2 then s.1 else s.1+s.2
theorem ahr{g:bD}{vh vc:Value}{f:Int}{a:Nat}(hg:fH g)(ha:a<g.cells.length):bV Tryz.prog 217 [.agg ⟨iW g vh vc⟩,.int .i64 f,.int .i64 (a:Int)] (jD g vh vc) (.int .i64 (oC g.shape f (iT g a))):=by
 obtain⟨hc1,hr1⟩:=zy hg ha;have hv1:=JX hr1;have hsp2:(iT g (a:Int)).2=(g.cells[a]).tdiv g.w:=by
  rw[CW (bN ha)];rfl
 refine aC _ (aF 217) λB w0=>?_;refine go ?_;intro b1;refine go ?_;refine ay rfl (λh1=>?_) (λh1=>?_)
 ·refine go ?_;refine aj (Bo (g:=g) (vh:=vh) (vc:=vc) hg ha) (next:=λ_ _=>?_);refine go ?_;refine ae () (hv:=?_) (hp:=trivial);unfold oC;rw[if_pos h1,hsp2];rfl
 refine go ?_;refine ay rfl (λh2=>?_) (λh2=>?_)
 ·refine go ?_;refine aj (Dq (g:=g) (vh:=vh) (vc:=vc) hg ha) (next:=λ_ _=>?_);refine go ?_;refine ae () (hv:=?_) (hp:=trivial);unfold oC;rw[if_neg h1,if_pos h2,Dr ha h2];rfl
 have hs2:g.shape=2:=hg.make.sh.resolve_left h2;refine go ?_;refine ay rfl (λh3=>?_) (λh3=>?_)
 ·refine go ?_;refine aj (JW (g:=g) (vh:=vh) (vc:=vc) hg ha) (next:=λ_ _=>?_);refine go ?_;refine ae () (hv:=?_) (hp:=trivial);unfold oC;rw[if_neg h1,if_neg h2,if_pos h3,F9 ha hs2];rfl
 refine go ?_;refine aj (JW (g:=g) (vh:=vh) (vc:=vc) hg ha) (next:=λ_ _=>?_);refine go ?_;refine aj (Bo (g:=g) (vh:=vh) (vc:=vc) hg ha) (next:=λ_ _=>?_);refine go ?_;refine ae () (hv:=?_) (hp:=trivial);unfold oC;rw[if_neg h1,if_neg h2,if_neg h3,F9 ha hs2];rfl
