/-
  Part LibSX.
-/
import Derived.Test.YtoilpafpgndilaaGreatLibDX
import Derived.Test.YtoilpafpgndilaaGreatPlainCX
set_option linter.all false
set_option maxRecDepth 10000
set_option maxHeartbeats 4000000
namespace Go.Proofs.YtoilpafpgndilaaGreat
open Go.Ideal Kd
theorem JZ{vl:Value}{xs:List Int}{z:Int}(hl:xs.length<9223372036854775808):dD Tryz.prog 200 [vl,.int .i64 z] [ai ae vl xs] (.bool (decide (z∈xs))):=by
 refine aM _ (aP 200) λB w0=>?_;refine go ?_;refine aU (λk=>xs.length - k) (λk:Nat=>[(5,.int .i64 (k:Int))]) (λ_=>[]) (λ_=>[]) (λk=>k<=xs.length/\z∉xs.take k) 0 ⟨by omega,by simp⟩ (body:=?_);rintro k ⟨hk,hno⟩;refine go ?_;refine aA rfl (λh1=>?_) (λh1=>?_)
 ·refine go ?_;intro _ _ x hx;refine go ?_;refine aA rfl (λh2=>?_) (λh2=>?_)
  ·refine go ?_;refine ah () (hv:=?_) (hp:=trivial);subst h2;rw[dK (aZ hx)];rfl
  ·refine go ?_;refine aN (k+1) (by omega) ⟨by omega,?_⟩;rw[bZ hx,dX,not_or];exact⟨hno,by simp;exact λe=>h2 e.symm⟩
 refine go ?_;have:k=xs.length:=by omega
 subst this;rw[bU]at hno;refine ah () (hv:=?_) (hp:=trivial);rw[aR hno];rfl
theorem ahD{vl:Value}{xs:List Int}{z:Int}(hl:xs.length<9223372036854775808):bA Tryz.prog (.func 200) [vl,.int .i64 z] [] [ap ae vl xs] [] (λ_:Unit=>.bool (decide (z∈xs))) (λ_=>[ap ae vl xs]) (λ_=>[]) (λ_=>True):=by
 refine aM _ (aP 200) λB w0=>?_;refine go ?_;refine aU (λk=>xs.length - k) (λk:Nat=>[(5,.int .i64 (k:Int))]) (λ_=>[]) (λ_=>[]) (λk=>k<=xs.length/\z∉xs.take k) 0 ⟨by omega,by simp⟩ (body:=?_);rintro k ⟨hk,hno⟩;refine go ?_;refine aA rfl (λh1=>?_) (λh1=>?_)
 ·refine go ?_;have hx:xs[k]? =some (xs[k]'(by omega)):=bP _;generalize xs[k]'(by omega)=x at hx;refine acI (v:=vl) (xs:=xs) k x hx (next:=λ_ _=>?_);refine go ?_;refine aA rfl (λh2=>?_) (λh2=>?_)
  ·refine go ?_;refine ah () (hv:=?_) (hp:=trivial);subst h2;rw[dK (aZ hx)];rfl
  ·refine go ?_;refine aN (k+1) (by omega) ⟨by omega,?_⟩;rw[bZ hx,dX,not_or];exact⟨hno,by simp;exact λe=>h2 e.symm⟩
 refine go ?_;have:k=xs.length:=by omega
 subst this;rw[bU]at hno;refine ah () (hv:=?_) (hp:=trivial);rw[aR hno];rfl
theorem zF{va vb:Value}{xs ys:List Int}(hl:xs.length<9223372036854775808):dD Tryz.prog 18 [va,vb] [ai ae va xs,ai ae vb ys] (.bool (decide (xs=ys))):=by
 refine aM _ (aP 18) λB w0=>?_;refine aS (E:=ae) (v:=va) (xs:=xs) (by simp) λa1 c1 e1=>?_;subst e1;refine aS (E:=ae) (v:=vb) (xs:=ys) (by simp) λa2 c2 e2=>?_;subst e2;refine go ?_;refine aA rfl (λh1=>?_) (λh1=>?_)
 ·refine go ?_;refine ah () (hv:=?_) (hp:=trivial);rw[aR (λe=>by subst e;omega)];rfl
 have hlen:xs.length=ys.length:=by omega
 refine go ?_;refine aU (λk=>xs.length - k) (λk:Nat=>[(5,.int .i64 (k:Int))]) (λ_=>[]) (λ_=>[]) (λk=>k<=xs.length/\xs.take k=ys.take k) 0 ⟨by omega,by simp⟩ (body:=?_);rintro k ⟨hk,hsame⟩;refine go ?_;refine aA rfl (λh2=>?_) (λh2=>?_)
 ·refine go ?_;intro _ _ x hx _ _ y hy;refine go ?_;refine aA rfl (λh3=>?_) (λh3=>?_)
  ·refine go ?_;refine ah () (hv:=?_) (hp:=trivial);rw[aR (λe=>by subst e;rw[hx]at hy;exact h3 (Option.some.inj hy))];rfl
  ·have hxy:x=y:=ic.1 h3;refine go ?_;refine aN (k+1) (by omega) ⟨by omega,?_⟩;rw[bZ hx,bZ hy,hsame,hxy]
 have:k=xs.length:=by omega
 subst this;refine go ?_;refine ah () (hv:=?_) (hp:=trivial);rw[bU,hlen,bU]at hsame;rw[dK hsame];rfl
theorem zG{g:bz}(hg:fE g){k:Nat}(hk:k<g.cells.length):(0<=(g.cells[k]).tmod g.w/\(g.cells[k]).tmod g.w<16)/\0<=(g.cells[k]).tdiv g.w/\(g.cells[k]).tdiv g.w<16:=by
 have FJ:=hg.make.wi;have hhe:=hg.make.he;have hm:=vF hk;generalize g.cells[k]=x at hm⊢;have hx0:=hg.cell _ hm;rw[hg.cells]at hm;have hx1:=Ui hm;have hb:=xQ FJ hhe;rw[show((g.w*g.h).toNat:Int)=g.w*g.h by omega]at hx1;rw[DJ hx0.1,uz hx0.1];have h1:=Int.emod_nonneg x (show g.w≠0 by omega);have h2:=Int.emod_lt_of_pos x (show 0<g.w by omega);have h3:=Ko hx0.1 (show 0<=g.w by omega);have h4:x/g.w<g.h:=Int.ediv_lt_of_lt_mul (by omega) (by rw[Int.mul_comm];exact hx1.2.1);omega
theorem Dt{g:bz}{vh vc:Value}{k:Nat}(hg:fE g)(hk:k<g.cells.length):dD Tryz.prog 276 [.agg ⟨iO g vh vc⟩,.int .i64 (k:Int)] (jq g vh vc) (.int .i64 ((g.cells[k]).tmod g.w)):=by
 have FJ:=hg.make.wi;refine aM _ (aP 276) λB w0=>?_;refine go ?_;intro b1;refine go ?_;intro _ _ x hx;rw[bP hk]at hx;obtain rfl:=Option.some.inj hx;refine go ?_;refine(fA rfl rfl (AC (a:=g.cells[k]) (b:=g.w) rfl rfl (by omega))).h ?_;refine go ?_;exact ah () (hv:=rfl) (hp:=trivial)
theorem BA{g:bz}{vh vc:Value}{k:Nat}(hg:fE g)(hk:k<g.cells.length):dD Tryz.prog 277 [.agg ⟨iO g vh vc⟩,.int .i64 (k:Int)] (jq g vh vc) (.int .i64 ((g.cells[k]).tdiv g.w)):=by
 have FJ:=hg.make.wi;have hxb:=zG hg hk;refine aM _ (aP 277) λB w0=>?_;refine go ?_;intro b1;refine go ?_;intro _ _ x hx;rw[bP hk]at hx;obtain rfl:=Option.some.inj hx;refine go ?_;refine(fA rfl rfl (EN (a:=g.cells[k]) (b:=g.w) rfl rfl (by omega) (by omega) (by omega))).h ?_;refine go ?_;exact ah () (hv:=rfl) (hp:=trivial)
theorem ahF(y:Int)(h:0<=y):(y - y.tmod 2).tdiv 2=y.tdiv 2:=by
 have h1:y.tmod 2=y%2:=DJ h;rw[h1,uz (show 0<=y - y%2 by omega),uz h];omega
theorem J2{g:bz}{vh vc:Value}{k:Nat}(hg:fE g)(hk:k<g.cells.length):dD Tryz.prog 278 [.agg ⟨iO g vh vc⟩,.int .i64 (k:Int)] (jq g vh vc) (.int .i64 ((g.cells[k]).tmod g.w - ((g.cells[k]).tdiv g.w).tdiv 2)):=by
 obtain⟨hc,hr⟩:=zG hg hk;have hax:=ahF _ hr.1;refine aM _ (aP 278) λB w0=>?_;refine go ?_;intro b1;refine go ?_;refine ay (BA (g:=g) (vh:=vh) (vc:=vc) hg hk) (next:=λ_ _=>?_);refine go ?_;refine ay (Dt (g:=g) (vh:=vh) (vc:=vc) hg hk) (next:=λ_ _=>?_);generalize(g.cells[k]).tmod g.w=x at hc⊢;generalize(g.cells[k]).tdiv g.w=y at hr hax⊢;have h1:y.tmod 2=y%2:=DJ hr.1;refine go ?_;refine(fA rfl rfl (AC (a:=y) (b:=2) rfl rfl (by omega))).h ?_;refine go ?_;have h2:y.tdiv 2=y/2:=uz hr.1;refine(fA rfl rfl (EN (a:=y - y.tmod 2) (b:=2) rfl rfl (by omega) (by rw[hax,h2];omega) (by rw[hax,h2];omega))).h ?_;rw[hax];refine go ?_;exact ah () (hv:=rfl) (hp:=trivial)
theorem FY{g:bz}{k:Nat}(hk:k<g.cells.length)(hs:g.shape=2):gZ g (k:Int)=((g.cells[k]).tmod g.w - ((g.cells[k]).tdiv g.w).tdiv 2,(g.cells[k]).tdiv g.w):=by
 rw[C8 (bP hk)];unfold nM;rw[if_pos hs]
theorem Du{g:bz}{k:Nat}(hk:k<g.cells.length)(hs:g.shape=1):gZ g (k:Int)=((g.cells[k]).tmod g.w,(g.cells[k]).tdiv g.w):=by
 rw[C8 (bP hk)];unfold nM;rw[if_neg (by omega)]
theorem J3{y:Int}(h:0<=y/\y<16):0<=y.tdiv 2/\y.tdiv 2<8:=by
 rw[uz h.1];omega
theorem ahG{g:bz}{vh vc:Value}{a b:Nat}(hg:fE g)(ha:a<g.cells.length)(hb:b<g.cells.length):dD Tryz.prog 202 [.agg ⟨iO g vh vc⟩,.int .i64 (a:Int),.int .i64 (b:Int)] (jq g vh vc) (.bool (xU g.shape (gZ g a) (gZ g b))):=by
 obtain⟨hc1,hr1⟩:=zG hg ha;obtain⟨hc2,hr2⟩:=zG hg hb;have hv1:=J3 hr1;have hv2:=J3 hr2;refine aM _ (aP 202) λB w0=>?_;refine go ?_;intro b1;refine go ?_;refine ay (Dt (g:=g) (vh:=vh) (vc:=vc) hg hb) (next:=λ_ _=>?_);refine go ?_;refine ay (Dt (g:=g) (vh:=vh) (vc:=vc) hg ha) (next:=λ_ _=>?_);refine go ?_;refine ay (BA (g:=g) (vh:=vh) (vc:=vc) hg hb) (next:=λ_ _=>?_);refine go ?_;refine ay (BA (g:=g) (vh:=vh) (vc:=vc) hg ha) (next:=λ_ _=>?_);refine go ?_;refine aA rfl (λhs=>?_) (λhs=>?_)
 ·rw[Du ha hs,Du hb hs,hs];generalize(g.cells[a]).tmod g.w=x1 at hc1⊢;generalize(g.cells[a]).tdiv g.w=y1 at hr1 hv1⊢;generalize(g.cells[b]).tmod g.w=x2 at hc2⊢;generalize(g.cells[b]).tdiv g.w=y2 at hr2 hv2⊢;iterate 7 (all_goals (first|(refine ah () (hv:=?_) (hp:=trivial))|(refine go ?_;first|refine gG (λ_=>?_) (λ_=>?_)|skip)|skip))
  all_goals (apply congrArg Value.bool;unfold xU;simp[*]<;>omega)
 ·have hs2:g.shape=2:=hg.make.sh.resolve_left hs;rw[FY ha hs2,FY hb hs2,hs2];refine go ?_;refine ay (J2 (g:=g) (vh:=vh) (vc:=vc) hg hb) (next:=λ_ _=>?_);refine go ?_;refine ay (J2 (g:=g) (vh:=vh) (vc:=vc) hg ha) (next:=λ_ _=>?_);generalize(g.cells[a]).tmod g.w=x1 at hc1⊢;generalize(g.cells[a]).tdiv g.w=y1 at hr1 hv1⊢;generalize(g.cells[b]).tmod g.w=x2 at hc2⊢;generalize(g.cells[b]).tdiv g.w=y2 at hr2 hv2⊢;generalize y1.tdiv 2=z1 at hv1⊢;generalize y2.tdiv 2=z2 at hv2⊢;iterate 14 (all_goals (first|(refine ah () (hv:=?_) (hp:=trivial))|(refine go ?_;first|refine gG (λ_=>?_) (λ_=>?_)|skip)|skip))
  all_goals (apply congrArg Value.bool;unfold xU;simp[*]<;>omega)
def oh(sh f:Int)(s:Int×Int):Int:=if f=1 then s.2 else if sh=1 then s.1 else if f=2 then s.1 else s.1+s.2
theorem ahH{g:bz}{vh vc:Value}{f:Int}{a:Nat}(hg:fE g)(ha:a<g.cells.length):dD Tryz.prog 279 [.agg ⟨iO g vh vc⟩,.int .i64 f,.int .i64 (a:Int)] (jq g vh vc) (.int .i64 (oh g.shape f (gZ g a))):=by
 obtain⟨hc1,hr1⟩:=zG hg ha;have hv1:=J3 hr1;have hsp2:(gZ g (a:Int)).2=(g.cells[a]).tdiv g.w:=by
  rw[C8 (bP ha)];rfl
 refine aM _ (aP 279) λB w0=>?_;refine go ?_;intro b1;refine go ?_;refine aA rfl (λh1=>?_) (λh1=>?_)
 ·refine go ?_;refine ay (BA (g:=g) (vh:=vh) (vc:=vc) hg ha) (next:=λ_ _=>?_);refine go ?_;refine ah () (hv:=?_) (hp:=trivial);unfold oh;rw[if_pos h1,hsp2];rfl
 refine go ?_;refine aA rfl (λh2=>?_) (λh2=>?_)
 ·refine go ?_;refine ay (Dt (g:=g) (vh:=vh) (vc:=vc) hg ha) (next:=λ_ _=>?_);refine go ?_;refine ah () (hv:=?_) (hp:=trivial);unfold oh;rw[if_neg h1,if_pos h2,Du ha h2];rfl
 have hs2:g.shape=2:=hg.make.sh.resolve_left h2;refine go ?_;refine aA rfl (λh3=>?_) (λh3=>?_)
 ·refine go ?_;refine ay (J2 (g:=g) (vh:=vh) (vc:=vc) hg ha) (next:=λ_ _=>?_);refine go ?_;refine ah () (hv:=?_) (hp:=trivial);unfold oh;rw[if_neg h1,if_neg h2,if_pos h3,FY ha hs2];rfl
 refine go ?_;refine ay (J2 (g:=g) (vh:=vh) (vc:=vc) hg ha) (next:=λ_ _=>?_);refine go ?_;refine ay (BA (g:=g) (vh:=vh) (vc:=vc) hg ha) (next:=λ_ _=>?_);refine go ?_;refine ah () (hv:=?_) (hp:=trivial);unfold oh;rw[if_neg h1,if_neg h2,if_neg h3,FY ha hs2];rfl
