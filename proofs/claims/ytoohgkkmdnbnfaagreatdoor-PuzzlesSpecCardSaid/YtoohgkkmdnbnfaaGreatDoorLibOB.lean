/-
  The reference's grids: what a list has, places of cells, which are side by side, on which line a cell is.
-/
import Derived.Test.YtoohgkkmdnbnfaaGreatDoorLibCB
import Derived.Test.YtoohgkkmdnbnfaaGreatDoorPlainCB
set_option linter.all false
set_option maxRecDepth 10000
set_option maxHeartbeats 4000000
namespace Go.Proofs.YtoohgkkmdnbnfaaGreatDoor
open Go.Ideal Kd
theorem GR{vl:Value}{xs:List Int}{z:Int}(hl:xs.length<9223372036854775808):bY Tryz.prog 131 [vl,.int .i64 z] [ah ae vl xs] (.bool (decide (z∈xs))):=by
 refine aG _ (aM 131) λB w0=>?_;refine go ?_;refine aX (λk=>xs.length - k) (λk:Nat=>[(5,.int .i64 (k:Int))]) (λ_=>[]) (λ_=>[]) (λk=>k<=xs.length/\z∉xs.take k) 0 ⟨by omega,by simp⟩ (body:=?_);rintro k ⟨hk,hno⟩;refine go ?_;refine az rfl (λh1=>?_) (λh1=>?_)
 ·refine go ?_;intro _ _ x hx;refine go ?_;refine az rfl (λh2=>?_) (λh2=>?_)
  ·refine go ?_;refine aa () (hv:=?_) (hp:=trivial);subst h2;rw[eB (bJ hx)];rfl
  ·refine go ?_;refine aO (k+1) (by omega) ⟨by omega,?_⟩;rw[bV hx,dZ,not_or];exact⟨hno,by simp;exact λe=>h2 e.symm⟩
 refine go ?_;have:k=xs.length:=by omega
 subst this;rw[bK]at hno;refine aa () (hv:=?_) (hp:=trivial);rw[aR hno];rfl
theorem adY{vl:Value}{xs:List Int}{z:Int}(hl:xs.length<9223372036854775808):aZ Tryz.prog (.func 131) [vl,.int .i64 z] [] [ap ae vl xs] [] (λ_:Unit=>.bool (decide (z∈xs))) (λ_=>[ap ae vl xs]) (λ_=>[]) (λ_=>True):=by
 refine aG _ (aM 131) λB w0=>?_;refine go ?_;refine aX (λk=>xs.length - k) (λk:Nat=>[(5,.int .i64 (k:Int))]) (λ_=>[]) (λ_=>[]) (λk=>k<=xs.length/\z∉xs.take k) 0 ⟨by omega,by simp⟩ (body:=?_);rintro k ⟨hk,hno⟩;refine go ?_;refine az rfl (λh1=>?_) (λh1=>?_)
 ·refine go ?_;have hx:xs[k]? =some (xs[k]'(by omega)):=cK _;generalize xs[k]'(by omega)=x at hx;refine Y4 (v:=vl) (xs:=xs) k x hx (next:=λ_ _=>?_);refine go ?_;refine az rfl (λh2=>?_) (λh2=>?_)
  ·refine go ?_;refine aa () (hv:=?_) (hp:=trivial);subst h2;rw[eB (bJ hx)];rfl
  ·refine go ?_;refine aO (k+1) (by omega) ⟨by omega,?_⟩;rw[bV hx,dZ,not_or];exact⟨hno,by simp;exact λe=>h2 e.symm⟩
 refine go ?_;have:k=xs.length:=by omega
 subst this;rw[bK]at hno;refine aa () (hv:=?_) (hp:=trivial);rw[aR hno];rfl
theorem Bc{va vb:Value}{xs ys:List Int}(hl:xs.length<9223372036854775808):bY Tryz.prog 137 [va,vb] [ah ae va xs,ah ae vb ys] (.bool (decide (xs=ys))):=by
 refine aG _ (aM 137) λB w0=>?_;refine aT (E:=ae) (v:=va) (xs:=xs) (by simp) λa1 c1 e1=>?_;subst e1;refine aT (E:=ae) (v:=vb) (xs:=ys) (by simp) λa2 c2 e2=>?_;subst e2;refine go ?_;refine az rfl (λh1=>?_) (λh1=>?_)
 ·refine go ?_;refine aa () (hv:=?_) (hp:=trivial);rw[aR (λe=>by subst e;omega)];rfl
 have hlen:xs.length=ys.length:=by omega
 refine go ?_;refine aX (λk=>xs.length - k) (λk:Nat=>[(5,.int .i64 (k:Int))]) (λ_=>[]) (λ_=>[]) (λk=>k<=xs.length/\xs.take k=ys.take k) 0 ⟨by omega,by simp⟩ (body:=?_);rintro k ⟨hk,hsame⟩;refine go ?_;refine az rfl (λh2=>?_) (λh2=>?_)
 ·refine go ?_;intro _ _ x hx _ _ y hy;refine go ?_;refine az rfl (λh3=>?_) (λh3=>?_)
  ·refine go ?_;refine aa () (hv:=?_) (hp:=trivial);rw[aR (λe=>by subst e;rw[hx]at hy;exact h3 (Option.some.inj hy))];rfl
  ·have hxy:x=y:=iF.1 h3;refine go ?_;refine aO (k+1) (by omega) ⟨by omega,?_⟩;rw[bV hx,bV hy,hsame,hxy]
 have:k=xs.length:=by omega
 subst this;refine go ?_;refine aa () (hv:=?_) (hp:=trivial);rw[bK,hlen,bK]at hsame;rw[eB hsame];rfl
theorem xC{g:bz}(hg:fV g){k:Nat}(hk:k<g.cells.length):(0<=(g.cells[k]).tmod g.w/\(g.cells[k]).tmod g.w<16)/\0<=(g.cells[k]).tdiv g.w/\(g.cells[k]).tdiv g.w<16:=by
 have D8:=hg.make.wi;have hhe:=hg.make.he;have hm:=vP hk;generalize g.cells[k]=x at hm⊢;have hx0:=hg.cell _ hm;rw[hg.cells]at hm;have hx1:=QL hm;have hb:=uZ D8 hhe;rw[show((g.w*g.h).toNat:Int)=g.w*g.h by omega]at hx1;rw[Bp hx0.1,rJ hx0.1];have h1:=Int.emod_nonneg x (show g.w≠0 by omega);have h2:=Int.emod_lt_of_pos x (show 0<g.w by omega);have h3:=Hw hx0.1 (show 0<=g.w by omega);have h4:x/g.w<g.h:=Int.ediv_lt_of_lt_mul (by omega) (by rw[Int.mul_comm];exact hx1.2.1);omega
theorem Bd{g:bz}{vh vc:Value}{k:Nat}(hg:fV g)(hk:k<g.cells.length):bY Tryz.prog 179 [.agg ⟨iw g vh vc⟩,.int .i64 (k:Int)] (iV g vh vc) (.int .i64 ((g.cells[k]).tmod g.w)):=by
 have D8:=hg.make.wi;refine aG _ (aM 179) λB w0=>?_;refine go ?_;intro b1;refine go ?_;intro _ _ x hx;rw[cK hk]at hx;obtain rfl:=Option.some.inj hx;refine go ?_;refine(fq rfl rfl (JM (a:=g.cells[k]) (b:=g.w) rfl rfl (by omega))).h ?_;refine go ?_;exact aa () (hv:=rfl) (hp:=trivial)
theorem zm{g:bz}{vh vc:Value}{k:Nat}(hg:fV g)(hk:k<g.cells.length):bY Tryz.prog 180 [.agg ⟨iw g vh vc⟩,.int .i64 (k:Int)] (iV g vh vc) (.int .i64 ((g.cells[k]).tdiv g.w)):=by
 have D8:=hg.make.wi;have hxb:=xC hg hk;refine aG _ (aM 180) λB w0=>?_;refine go ?_;intro b1;refine go ?_;intro _ _ x hx;rw[cK hk]at hx;obtain rfl:=Option.some.inj hx;refine go ?_;refine(fq rfl rfl (FK (a:=g.cells[k]) (b:=g.w) rfl rfl (by omega) (by omega) (by omega))).h ?_;refine go ?_;exact aa () (hv:=rfl) (hp:=trivial)
theorem ad1(y:Int)(h:0<=y):(y - y.tmod 2).tdiv 2=y.tdiv 2:=by
 have h1:y.tmod 2=y%2:=Bp h;rw[h1,rJ (show 0<=y - y%2 by omega),rJ h];omega
theorem GU{g:bz}{vh vc:Value}{k:Nat}(hg:fV g)(hk:k<g.cells.length):bY Tryz.prog 181 [.agg ⟨iw g vh vc⟩,.int .i64 (k:Int)] (iV g vh vc) (.int .i64 ((g.cells[k]).tmod g.w - ((g.cells[k]).tdiv g.w).tdiv 2)):=by
 obtain⟨hc,hr⟩:=xC hg hk;have hax:=ad1 _ hr.1;refine aG _ (aM 181) λB w0=>?_;refine go ?_;intro b1;refine go ?_;refine ak (zm (g:=g) (vh:=vh) (vc:=vc) hg hk) (next:=λ_ _=>?_);refine go ?_;refine ak (Bd (g:=g) (vh:=vh) (vc:=vc) hg hk) (next:=λ_ _=>?_);generalize(g.cells[k]).tmod g.w=x at hc⊢;generalize(g.cells[k]).tdiv g.w=y at hr hax⊢;have h1:y.tmod 2=y%2:=Bp hr.1;refine go ?_;refine(fq rfl rfl (JM (a:=y) (b:=2) rfl rfl (by omega))).h ?_;refine go ?_;have h2:y.tdiv 2=y/2:=rJ hr.1;refine(fq rfl rfl (FK (a:=y - y.tmod 2) (b:=2) rfl rfl (by omega) (by rw[hax,h2];omega) (by rw[hax,h2];omega))).h ?_;rw[hax];refine go ?_;exact aa () (hv:=rfl) (hp:=trivial)
theorem Es{g:bz}{k:Nat}(hk:k<g.cells.length)(hs:g.shape=2):iq g (k:Int)=((g.cells[k]).tmod g.w - ((g.cells[k]).tdiv g.w).tdiv 2,(g.cells[k]).tdiv g.w):=by
 rw[AQ (cK hk)];unfold lV;rw[if_pos hs]
theorem Be{g:bz}{k:Nat}(hk:k<g.cells.length)(hs:g.shape=1):iq g (k:Int)=((g.cells[k]).tmod g.w,(g.cells[k]).tdiv g.w):=by
 rw[AQ (cK hk)];unfold lV;rw[if_neg (by omega)]
theorem GV{y:Int}(h:0<=y/\y<16):0<=y.tdiv 2/\y.tdiv 2<8:=by
 rw[rJ h.1];omega
theorem ad3{g:bz}{vh vc:Value}{a b:Nat}(hg:fV g)(ha:a<g.cells.length)(hb:b<g.cells.length):bY Tryz.prog 133 [.agg ⟨iw g vh vc⟩,.int .i64 (a:Int),.int .i64 (b:Int)] (iV g vh vc) (.bool (vB g.shape (iq g a) (iq g b))):=by
 obtain⟨hc1,hr1⟩:=xC hg ha;obtain⟨hc2,hr2⟩:=xC hg hb;have hv1:=GV hr1;have hv2:=GV hr2;refine aG _ (aM 133) λB w0=>?_;refine go ?_;intro b1;refine go ?_;refine ak (Bd (g:=g) (vh:=vh) (vc:=vc) hg hb) (next:=λ_ _=>?_);refine go ?_;refine ak (Bd (g:=g) (vh:=vh) (vc:=vc) hg ha) (next:=λ_ _=>?_);refine go ?_;refine ak (zm (g:=g) (vh:=vh) (vc:=vc) hg hb) (next:=λ_ _=>?_);refine go ?_;refine ak (zm (g:=g) (vh:=vh) (vc:=vc) hg ha) (next:=λ_ _=>?_);refine go ?_;refine az rfl (λhs=>?_) (λhs=>?_)
 ·rw[Be ha hs,Be hb hs,hs];generalize(g.cells[a]).tmod g.w=x1 at hc1⊢;generalize(g.cells[a]).tdiv g.w=y1 at hr1 hv1⊢;generalize(g.cells[b]).tmod g.w=x2 at hc2⊢;generalize(g.cells[b]).tdiv g.w=y2 at hr2 hv2⊢;iterate 7 (all_goals (first|(refine aa () (hv:=?_) (hp:=trivial))|(refine go ?_;first|with_reducible refine aL (λ_=>?_) (λ_=>?_)|with_reducible refine aK (λ_=>?_) (λ_=>?_)|with_reducible refine aI (λ_=>?_) (λ_=>?_)|skip)|skip))
  all_goals (apply congrArg Value.bool;unfold vB;simp[*]<;>omega)
 ·have hs2:g.shape=2:=hg.make.sh.resolve_left hs;rw[Es ha hs2,Es hb hs2,hs2];refine go ?_;refine ak (GU (g:=g) (vh:=vh) (vc:=vc) hg hb) (next:=λ_ _=>?_);refine go ?_;refine ak (GU (g:=g) (vh:=vh) (vc:=vc) hg ha) (next:=λ_ _=>?_);generalize(g.cells[a]).tmod g.w=x1 at hc1⊢;generalize(g.cells[a]).tdiv g.w=y1 at hr1 hv1⊢;generalize(g.cells[b]).tmod g.w=x2 at hc2⊢;generalize(g.cells[b]).tdiv g.w=y2 at hr2 hv2⊢;generalize y1.tdiv 2=z1 at hv1⊢;generalize y2.tdiv 2=z2 at hv2⊢;iterate 14 (all_goals (first|(refine aa () (hv:=?_) (hp:=trivial))|(refine go ?_;first|with_reducible refine aL (λ_=>?_) (λ_=>?_)|with_reducible refine aK (λ_=>?_) (λ_=>?_)|with_reducible refine aI (λ_=>?_) (λ_=>?_)|skip)|skip))
  all_goals (apply congrArg Value.bool;unfold vB;simp[*]<;>omega)
def mE(sh f:Int)(s:Int×Int):Int:=if f=1 then s.2 else if sh=1 then s.1 else if f=2 then s.1 else s.1+s.2
theorem ad4{g:bz}{vh vc:Value}{f:Int}{a:Nat}(hg:fV g)(ha:a<g.cells.length):bY Tryz.prog 182 [.agg ⟨iw g vh vc⟩,.int .i64 f,.int .i64 (a:Int)] (iV g vh vc) (.int .i64 (mE g.shape f (iq g a))):=by
 obtain⟨hc1,hr1⟩:=xC hg ha;have hv1:=GV hr1;have hsp2:(iq g (a:Int)).2=(g.cells[a]).tdiv g.w:=by
  rw[AQ (cK ha)];rfl
 refine aG _ (aM 182) λB w0=>?_;refine go ?_;intro b1;refine go ?_;refine az rfl (λh1=>?_) (λh1=>?_)
 ·refine go ?_;refine ak (zm (g:=g) (vh:=vh) (vc:=vc) hg ha) (next:=λ_ _=>?_);refine go ?_;refine aa () (hv:=?_) (hp:=trivial);unfold mE;rw[if_pos h1,hsp2];rfl
 refine go ?_;refine az rfl (λh2=>?_) (λh2=>?_)
 ·refine go ?_;refine ak (Bd (g:=g) (vh:=vh) (vc:=vc) hg ha) (next:=λ_ _=>?_);refine go ?_;refine aa () (hv:=?_) (hp:=trivial);unfold mE;rw[if_neg h1,if_pos h2,Be ha h2];rfl
 have hs2:g.shape=2:=hg.make.sh.resolve_left h2;refine go ?_;refine az rfl (λh3=>?_) (λh3=>?_)
 ·refine go ?_;refine ak (GU (g:=g) (vh:=vh) (vc:=vc) hg ha) (next:=λ_ _=>?_);refine go ?_;refine aa () (hv:=?_) (hp:=trivial);unfold mE;rw[if_neg h1,if_neg h2,if_pos h3,Es ha hs2];rfl
 refine go ?_;refine ak (GU (g:=g) (vh:=vh) (vc:=vc) hg ha) (next:=λ_ _=>?_);refine go ?_;refine ak (zm (g:=g) (vh:=vh) (vc:=vc) hg ha) (next:=λ_ _=>?_);refine go ?_;refine aa () (hv:=?_) (hp:=trivial);unfold mE;rw[if_neg h1,if_neg h2,if_neg h3,Es ha hs2];rfl
