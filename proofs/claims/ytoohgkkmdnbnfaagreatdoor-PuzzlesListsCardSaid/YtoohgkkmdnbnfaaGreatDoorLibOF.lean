/-
  The reference's grids: what a list has, places of cells, which are side by side, on which line a cell is.
-/
import Derived.Test.YtoohgkkmdnbnfaaGreatDoorLibCF
import Derived.Test.YtoohgkkmdnbnfaaGreatDoorPlainCF
set_option linter.all false
set_option maxRecDepth 10000
set_option maxHeartbeats 4000000
namespace Go.Proofs.YtoohgkkmdnbnfaaGreatDoor
open Go.Ideal Kd
theorem II{vl:Value}{xs:List Int}{z:Int}(hl:xs.length<9223372036854775808):dG Tryz.prog 131 [vl,.int .i64 z] [ah aa vl xs] (.bool (decide (z∈xs))):=by
 refine aK _ (aP 131) λB w0=>?_;refine go ?_;refine bi (λk=>xs.length - k) (λk:Nat=>[(5,.int .i64 (k:Int))]) (λ_=>[]) (λ_=>[]) (λk=>k<=xs.length/\z∉xs.take k) 0 ⟨by omega,by simp⟩ (body:=?_);rintro k ⟨hk,hno⟩;refine go ?_;refine az rfl (λh1=>?_) (λh1=>?_)
 ·refine go ?_;intro _ _ x hx;refine go ?_;refine az rfl (λh2=>?_) (λh2=>?_)
  ·refine go ?_;refine ae () (hv:=?_) (hp:=trivial);subst h2;rw[dZ (bI hx)];rfl
  ·refine go ?_;refine aQ (k+1) (by omega) ⟨by omega,?_⟩;rw[bX hx,dX,not_or];exact⟨hno,by simp;exact λe=>h2 e.symm⟩
 refine go ?_;have:k=xs.length:=by omega
 subst this;rw[bK]at hno;refine ae () (hv:=?_) (hp:=trivial);rw[aT hno];rfl
theorem afu{vl:Value}{xs:List Int}{z:Int}(hl:xs.length<9223372036854775808):bz Tryz.prog (.func 131) [vl,.int .i64 z] [] [ap aa vl xs] [] (λ_:Unit=>.bool (decide (z∈xs))) (λ_=>[ap aa vl xs]) (λ_=>[]) (λ_=>True):=by
 refine aK _ (aP 131) λB w0=>?_;refine go ?_;refine bi (λk=>xs.length - k) (λk:Nat=>[(5,.int .i64 (k:Int))]) (λ_=>[]) (λ_=>[]) (λk=>k<=xs.length/\z∉xs.take k) 0 ⟨by omega,by simp⟩ (body:=?_);rintro k ⟨hk,hno⟩;refine go ?_;refine az rfl (λh1=>?_) (λh1=>?_)
 ·refine go ?_;have hx:xs[k]? =some (xs[k]'(by omega)):=cz _;generalize xs[k]'(by omega)=x at hx;refine aav (v:=vl) (xs:=xs) k x hx (next:=λ_ _=>?_);refine go ?_;refine az rfl (λh2=>?_) (λh2=>?_)
  ·refine go ?_;refine ae () (hv:=?_) (hp:=trivial);subst h2;rw[dZ (bI hx)];rfl
  ·refine go ?_;refine aQ (k+1) (by omega) ⟨by omega,?_⟩;rw[bX hx,dX,not_or];exact⟨hno,by simp;exact λe=>h2 e.symm⟩
 refine go ?_;have:k=xs.length:=by omega
 subst this;rw[bK]at hno;refine ae () (hv:=?_) (hp:=trivial);rw[aT hno];rfl
theorem BX{va vb:Value}{xs ys:List Int}(hl:xs.length<9223372036854775808):dG Tryz.prog 137 [va,vb] [ah aa va xs,ah aa vb ys] (.bool (decide (xs=ys))):=by
 refine aK _ (aP 137) λB w0=>?_;refine aV (E:=aa) (v:=va) (xs:=xs) (by simp) λa1 c1 e1=>?_;subst e1;refine aV (E:=aa) (v:=vb) (xs:=ys) (by simp) λa2 c2 e2=>?_;subst e2;refine go ?_;refine az rfl (λh1=>?_) (λh1=>?_)
 ·refine go ?_;refine ae () (hv:=?_) (hp:=trivial);rw[aT (λe=>by subst e;omega)];rfl
 have hlen:xs.length=ys.length:=by omega
 refine go ?_;refine bi (λk=>xs.length - k) (λk:Nat=>[(5,.int .i64 (k:Int))]) (λ_=>[]) (λ_=>[]) (λk=>k<=xs.length/\xs.take k=ys.take k) 0 ⟨by omega,by simp⟩ (body:=?_);rintro k ⟨hk,hsame⟩;refine go ?_;refine az rfl (λh2=>?_) (λh2=>?_)
 ·refine go ?_;intro _ _ x hx _ _ y hy;refine go ?_;refine az rfl (λh3=>?_) (λh3=>?_)
  ·refine go ?_;refine ae () (hv:=?_) (hp:=trivial);rw[aT (λe=>by subst e;rw[hx]at hy;exact h3 (Option.some.inj hy))];rfl
  ·have hxy:x=y:=iK.1 h3;refine go ?_;refine aQ (k+1) (by omega) ⟨by omega,?_⟩;rw[bX hx,bX hy,hsame,hxy]
 have:k=xs.length:=by omega
 subst this;refine go ?_;refine ae () (hv:=?_) (hp:=trivial);rw[bK,hlen,bK]at hsame;rw[dZ hsame];rfl
theorem yz{g:bq}(hg:eP g){k:Nat}(hk:k<g.cells.length):(0<=(g.cells[k]).tmod g.w/\(g.cells[k]).tmod g.w<16)/\0<=(g.cells[k]).tdiv g.w/\(g.cells[k]).tdiv g.w<16:=by
 have Eo:=hg.make.wi;have hhe:=hg.make.he;have hm:=wI hk;generalize g.cells[k]=x at hm⊢;have hx0:=hg.cell _ hm;rw[hg.cells]at hm;have hx1:=R9 hm;have hb:=vS Eo hhe;rw[show((g.w*g.h).toNat:Int)=g.w*g.h by omega]at hx1;rw[Cr hx0.1,rW hx0.1];have h1:=Int.emod_nonneg x (show g.w≠0 by omega);have h2:=Int.emod_lt_of_pos x (show 0<g.w by omega);have h3:=Jf hx0.1 (show 0<=g.w by omega);have h4:x/g.w<g.h:=Int.ediv_lt_of_lt_mul (by omega) (by rw[Int.mul_comm];exact hx1.2.1);omega
theorem BZ{g:bq}{vh vc:Value}{k:Nat}(hg:eP g)(hk:k<g.cells.length):dG Tryz.prog 179 [.agg ⟨iI g vh vc⟩,.int .i64 (k:Int)] (je g vh vc) (.int .i64 ((g.cells[k]).tmod g.w)):=by
 have Eo:=hg.make.wi;refine aK _ (aP 179) λB w0=>?_;refine go ?_;intro b1;refine go ?_;intro _ _ x hx;rw[cz hk]at hx;obtain rfl:=Option.some.inj hx;refine go ?_;refine(fJ rfl rfl (KZ (a:=g.cells[k]) (b:=g.w) rfl rfl (by omega))).h ?_;refine go ?_;exact ae () (hv:=rfl) (hp:=trivial)
theorem zT{g:bq}{vh vc:Value}{k:Nat}(hg:eP g)(hk:k<g.cells.length):dG Tryz.prog 180 [.agg ⟨iI g vh vc⟩,.int .i64 (k:Int)] (je g vh vc) (.int .i64 ((g.cells[k]).tdiv g.w)):=by
 have Eo:=hg.make.wi;have hxb:=yz hg hk;refine aK _ (aP 180) λB w0=>?_;refine go ?_;intro b1;refine go ?_;intro _ _ x hx;rw[cz hk]at hx;obtain rfl:=Option.some.inj hx;refine go ?_;refine(fJ rfl rfl (GK (a:=g.cells[k]) (b:=g.w) rfl rfl (by omega) (by omega) (by omega))).h ?_;refine go ?_;exact ae () (hv:=rfl) (hp:=trivial)
theorem afw(y:Int)(h:0<=y):(y - y.tmod 2).tdiv 2=y.tdiv 2:=by
 have h1:y.tmod 2=y%2:=Cr h;rw[h1,rW (show 0<=y - y%2 by omega),rW h];omega
theorem IJ{g:bq}{vh vc:Value}{k:Nat}(hg:eP g)(hk:k<g.cells.length):dG Tryz.prog 181 [.agg ⟨iI g vh vc⟩,.int .i64 (k:Int)] (je g vh vc) (.int .i64 ((g.cells[k]).tmod g.w - ((g.cells[k]).tdiv g.w).tdiv 2)):=by
 obtain⟨hc,hr⟩:=yz hg hk;have hax:=afw _ hr.1;refine aK _ (aP 181) λB w0=>?_;refine go ?_;intro b1;refine go ?_;refine ax (zT (g:=g) (vh:=vh) (vc:=vc) hg hk) (next:=λ_ _=>?_);refine go ?_;refine ax (BZ (g:=g) (vh:=vh) (vc:=vc) hg hk) (next:=λ_ _=>?_);generalize(g.cells[k]).tmod g.w=x at hc⊢;generalize(g.cells[k]).tdiv g.w=y at hr hax⊢;have h1:y.tmod 2=y%2:=Cr hr.1;refine go ?_;refine(fJ rfl rfl (KZ (a:=y) (b:=2) rfl rfl (by omega))).h ?_;refine go ?_;have h2:y.tdiv 2=y/2:=rW hr.1;refine(fJ rfl rfl (GK (a:=y - y.tmod 2) (b:=2) rfl rfl (by omega) (by rw[hax,h2];omega) (by rw[hax,h2];omega))).h ?_;rw[hax];refine go ?_;exact ae () (hv:=rfl) (hp:=trivial)
theorem EJ{g:bq}{k:Nat}(hk:k<g.cells.length)(hs:g.shape=2):iH g (k:Int)=((g.cells[k]).tmod g.w - ((g.cells[k]).tdiv g.w).tdiv 2,(g.cells[k]).tdiv g.w):=by
 rw[BF (cz hk)];unfold mG;rw[if_pos hs]
theorem Ca{g:bq}{k:Nat}(hk:k<g.cells.length)(hs:g.shape=1):iH g (k:Int)=((g.cells[k]).tmod g.w,(g.cells[k]).tdiv g.w):=by
 rw[BF (cz hk)];unfold mG;rw[if_neg (by omega)]
theorem IK{y:Int}(h:0<=y/\y<16):0<=y.tdiv 2/\y.tdiv 2<8:=by
 rw[rW h.1];omega
theorem afx{g:bq}{vh vc:Value}{a b:Nat}(hg:eP g)(ha:a<g.cells.length)(hb:b<g.cells.length):dG Tryz.prog 133 [.agg ⟨iI g vh vc⟩,.int .i64 (a:Int),.int .i64 (b:Int)] (je g vh vc) (.bool (wh g.shape (iH g a) (iH g b))):=by
 obtain⟨hc1,hr1⟩:=yz hg ha;obtain⟨hc2,hr2⟩:=yz hg hb;have hv1:=IK hr1;have hv2:=IK hr2;refine aK _ (aP 133) λB w0=>?_;refine go ?_;intro b1;refine go ?_;refine ax (BZ (g:=g) (vh:=vh) (vc:=vc) hg hb) (next:=λ_ _=>?_);refine go ?_;refine ax (BZ (g:=g) (vh:=vh) (vc:=vc) hg ha) (next:=λ_ _=>?_);refine go ?_;refine ax (zT (g:=g) (vh:=vh) (vc:=vc) hg hb) (next:=λ_ _=>?_);refine go ?_;refine ax (zT (g:=g) (vh:=vh) (vc:=vc) hg ha) (next:=λ_ _=>?_);refine go ?_;refine az rfl (λhs=>?_) (λhs=>?_)
 ·rw[Ca ha hs,Ca hb hs,hs];generalize(g.cells[a]).tmod g.w=x1 at hc1⊢;generalize(g.cells[a]).tdiv g.w=y1 at hr1 hv1⊢;generalize(g.cells[b]).tmod g.w=x2 at hc2⊢;generalize(g.cells[b]).tdiv g.w=y2 at hr2 hv2⊢;iterate 7 (all_goals (first|(refine ae () (hv:=?_) (hp:=trivial))|(refine go ?_;first|with_reducible refine aL (λ_=>?_) (λ_=>?_)|with_reducible refine aO (λ_=>?_) (λ_=>?_)|with_reducible refine aM (λ_=>?_) (λ_=>?_)|skip)|skip))
  all_goals (apply congrArg Value.bool;unfold wh;simp[*]<;>omega)
 ·have hs2:g.shape=2:=hg.make.sh.resolve_left hs;rw[EJ ha hs2,EJ hb hs2,hs2];refine go ?_;refine ax (IJ (g:=g) (vh:=vh) (vc:=vc) hg hb) (next:=λ_ _=>?_);refine go ?_;refine ax (IJ (g:=g) (vh:=vh) (vc:=vc) hg ha) (next:=λ_ _=>?_);generalize(g.cells[a]).tmod g.w=x1 at hc1⊢;generalize(g.cells[a]).tdiv g.w=y1 at hr1 hv1⊢;generalize(g.cells[b]).tmod g.w=x2 at hc2⊢;generalize(g.cells[b]).tdiv g.w=y2 at hr2 hv2⊢;generalize y1.tdiv 2=z1 at hv1⊢;generalize y2.tdiv 2=z2 at hv2⊢;iterate 14 (all_goals (first|(refine ae () (hv:=?_) (hp:=trivial))|(refine go ?_;first|with_reducible refine aL (λ_=>?_) (λ_=>?_)|with_reducible refine aO (λ_=>?_) (λ_=>?_)|with_reducible refine aM (λ_=>?_) (λ_=>?_)|skip)|skip))
  all_goals (apply congrArg Value.bool;unfold wh;simp[*]<;>omega)
def mY(sh f:Int)(s:Int×Int):Int:=if f=1 then s.2 else if sh=1 then s.1 else if f=2 then s.1 else s.1+s.2
theorem afy{g:bq}{vh vc:Value}{f:Int}{a:Nat}(hg:eP g)(ha:a<g.cells.length):dG Tryz.prog 182 [.agg ⟨iI g vh vc⟩,.int .i64 f,.int .i64 (a:Int)] (je g vh vc) (.int .i64 (mY g.shape f (iH g a))):=by
 obtain⟨hc1,hr1⟩:=yz hg ha;have hv1:=IK hr1;have hsp2:(iH g (a:Int)).2=(g.cells[a]).tdiv g.w:=by
  rw[BF (cz ha)];rfl
 refine aK _ (aP 182) λB w0=>?_;refine go ?_;intro b1;refine go ?_;refine az rfl (λh1=>?_) (λh1=>?_)
 ·refine go ?_;refine ax (zT (g:=g) (vh:=vh) (vc:=vc) hg ha) (next:=λ_ _=>?_);refine go ?_;refine ae () (hv:=?_) (hp:=trivial);unfold mY;rw[if_pos h1,hsp2];rfl
 refine go ?_;refine az rfl (λh2=>?_) (λh2=>?_)
 ·refine go ?_;refine ax (BZ (g:=g) (vh:=vh) (vc:=vc) hg ha) (next:=λ_ _=>?_);refine go ?_;refine ae () (hv:=?_) (hp:=trivial);unfold mY;rw[if_neg h1,if_pos h2,Ca ha h2];rfl
 have hs2:g.shape=2:=hg.make.sh.resolve_left h2;refine go ?_;refine az rfl (λh3=>?_) (λh3=>?_)
 ·refine go ?_;refine ax (IJ (g:=g) (vh:=vh) (vc:=vc) hg ha) (next:=λ_ _=>?_);refine go ?_;refine ae () (hv:=?_) (hp:=trivial);unfold mY;rw[if_neg h1,if_neg h2,if_pos h3,EJ ha hs2];rfl
 refine go ?_;refine ax (IJ (g:=g) (vh:=vh) (vc:=vc) hg ha) (next:=λ_ _=>?_);refine go ?_;refine ax (zT (g:=g) (vh:=vh) (vc:=vc) hg ha) (next:=λ_ _=>?_);refine go ?_;refine ae () (hv:=?_) (hp:=trivial);unfold mY;rw[if_neg h1,if_neg h2,if_neg h3,EJ ha hs2];rfl
