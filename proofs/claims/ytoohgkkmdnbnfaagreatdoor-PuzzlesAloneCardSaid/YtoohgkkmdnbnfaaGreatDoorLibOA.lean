/-
  The reference's grids: what a list has, places of cells, which are side by side, on which line a cell is.
-/
import Derived.Test.YtoohgkkmdnbnfaaGreatDoorLibCA
import Derived.Test.YtoohgkkmdnbnfaaGreatDoorPlainCA
set_option linter.all false
set_option maxRecDepth 10000
set_option maxHeartbeats 4000000
namespace Go.Proofs.YtoohgkkmdnbnfaaGreatDoor
open Go.Ideal Kd
theorem Ji{vl:Value}{xs:List Int}{z:Int}(hl:xs.length<9223372036854775808):dz Tryz.prog 131 [vl,.int .i64 z] [ah aa vl xs] (.bool (decide (z∈xs))):=by
 refine aK _ (aP 131) λB w0=>?_;refine go ?_;refine aZ (λk=>xs.length - k) (λk:Nat=>[(5,.int .i64 (k:Int))]) (λ_=>[]) (λ_=>[]) (λk=>k<=xs.length/\z∉xs.take k) 0 ⟨by omega,by simp⟩ (body:=?_);rintro k ⟨hk,hno⟩;refine go ?_;refine aA rfl (λh1=>?_) (λh1=>?_)
 ·refine go ?_;intro _ _ x hx;refine go ?_;refine aA rfl (λh2=>?_) (λh2=>?_)
  ·refine go ?_;refine ae () (hv:=?_) (hp:=trivial);subst h2;rw[dZ (bG hx)];rfl
  ·refine go ?_;refine aQ (k+1) (by omega) ⟨by omega,?_⟩;rw[bY hx,dV,not_or];exact⟨hno,by simp;exact λe=>h2 e.symm⟩
 refine go ?_;have:k=xs.length:=by omega
 subst this;rw[bK]at hno;refine ae () (hv:=?_) (hp:=trivial);rw[aT hno];rfl
theorem agw{vl:Value}{xs:List Int}{z:Int}(hl:xs.length<9223372036854775808):bi Tryz.prog (.func 131) [vl,.int .i64 z] [] [ap aa vl xs] [] (λ_:Unit=>.bool (decide (z∈xs))) (λ_=>[ap aa vl xs]) (λ_=>[]) (λ_=>True):=by
 refine aK _ (aP 131) λB w0=>?_;refine go ?_;refine aZ (λk=>xs.length - k) (λk:Nat=>[(5,.int .i64 (k:Int))]) (λ_=>[]) (λ_=>[]) (λk=>k<=xs.length/\z∉xs.take k) 0 ⟨by omega,by simp⟩ (body:=?_);rintro k ⟨hk,hno⟩;refine go ?_;refine aA rfl (λh1=>?_) (λh1=>?_)
 ·refine go ?_;have hx:xs[k]? =some (xs[k]'(by omega)):=cB _;generalize xs[k]'(by omega)=x at hx;refine abg (v:=vl) (xs:=xs) k x hx (next:=λ_ _=>?_);refine go ?_;refine aA rfl (λh2=>?_) (λh2=>?_)
  ·refine go ?_;refine ae () (hv:=?_) (hp:=trivial);subst h2;rw[dZ (bG hx)];rfl
  ·refine go ?_;refine aQ (k+1) (by omega) ⟨by omega,?_⟩;rw[bY hx,dV,not_or];exact⟨hno,by simp;exact λe=>h2 e.symm⟩
 refine go ?_;have:k=xs.length:=by omega
 subst this;rw[bK]at hno;refine ae () (hv:=?_) (hp:=trivial);rw[aT hno];rfl
theorem CB{va vb:Value}{xs ys:List Int}(hl:xs.length<9223372036854775808):dz Tryz.prog 137 [va,vb] [ah aa va xs,ah aa vb ys] (.bool (decide (xs=ys))):=by
 refine aK _ (aP 137) λB w0=>?_;refine aS (E:=aa) (v:=va) (xs:=xs) (by simp) λa1 c1 e1=>?_;subst e1;refine aS (E:=aa) (v:=vb) (xs:=ys) (by simp) λa2 c2 e2=>?_;subst e2;refine go ?_;refine aA rfl (λh1=>?_) (λh1=>?_)
 ·refine go ?_;refine ae () (hv:=?_) (hp:=trivial);rw[aT (λe=>by subst e;omega)];rfl
 have hlen:xs.length=ys.length:=by omega
 refine go ?_;refine aZ (λk=>xs.length - k) (λk:Nat=>[(5,.int .i64 (k:Int))]) (λ_=>[]) (λ_=>[]) (λk=>k<=xs.length/\xs.take k=ys.take k) 0 ⟨by omega,by simp⟩ (body:=?_);rintro k ⟨hk,hsame⟩;refine go ?_;refine aA rfl (λh2=>?_) (λh2=>?_)
 ·refine go ?_;intro _ _ x hx _ _ y hy;refine go ?_;refine aA rfl (λh3=>?_) (λh3=>?_)
  ·refine go ?_;refine ae () (hv:=?_) (hp:=trivial);rw[aT (λe=>by subst e;rw[hx]at hy;exact h3 (Option.some.inj hy))];rfl
  ·have hxy:x=y:=iO.1 h3;refine go ?_;refine aQ (k+1) (by omega) ⟨by omega,?_⟩;rw[bY hx,bY hy,hsame,hxy]
 have:k=xs.length:=by omega
 subst this;refine go ?_;refine ae () (hv:=?_) (hp:=trivial);rw[bK,hlen,bK]at hsame;rw[dZ hsame];rfl
theorem yP{g:bA}(hg:fq g){k:Nat}(hk:k<g.cells.length):(0<=(g.cells[k]).tmod g.w/\(g.cells[k]).tmod g.w<16)/\0<=(g.cells[k]).tdiv g.w/\(g.cells[k]).tdiv g.w<16:=by
 have FJ:=hg.make.wi;have hhe:=hg.make.he;have hm:=wV hk;generalize g.cells[k]=x at hm⊢;have hx0:=hg.cell _ hm;rw[hg.cells]at hm;have hx1:=Tc hm;have hb:=wy FJ hhe;rw[show((g.w*g.h).toNat:Int)=g.w*g.h by omega]at hx1;rw[De hx0.1,sI hx0.1];have h1:=Int.emod_nonneg x (show g.w≠0 by omega);have h2:=Int.emod_lt_of_pos x (show 0<g.w by omega);have h3:=JH hx0.1 (show 0<=g.w by omega);have h4:x/g.w<g.h:=Int.ediv_lt_of_lt_mul (by omega) (by rw[Int.mul_comm];exact hx1.2.1);omega
theorem CE{g:bA}{vh vc:Value}{k:Nat}(hg:fq g)(hk:k<g.cells.length):dz Tryz.prog 179 [.agg ⟨iM g vh vc⟩,.int .i64 (k:Int)] (jy g vh vc) (.int .i64 ((g.cells[k]).tmod g.w)):=by
 have FJ:=hg.make.wi;refine aK _ (aP 179) λB w0=>?_;refine go ?_;intro b1;refine go ?_;intro _ _ x hx;rw[cB hk]at hx;obtain rfl:=Option.some.inj hx;refine go ?_;refine(eD rfl rfl (LC (a:=g.cells[k]) (b:=g.w) rfl rfl (by omega))).h ?_;refine go ?_;exact ae () (hv:=rfl) (hp:=trivial)
theorem Av{g:bA}{vh vc:Value}{k:Nat}(hg:fq g)(hk:k<g.cells.length):dz Tryz.prog 180 [.agg ⟨iM g vh vc⟩,.int .i64 (k:Int)] (jy g vh vc) (.int .i64 ((g.cells[k]).tdiv g.w)):=by
 have FJ:=hg.make.wi;have hxb:=yP hg hk;refine aK _ (aP 180) λB w0=>?_;refine go ?_;intro b1;refine go ?_;intro _ _ x hx;rw[cB hk]at hx;obtain rfl:=Option.some.inj hx;refine go ?_;refine(eD rfl rfl (HV (a:=g.cells[k]) (b:=g.w) rfl rfl (by omega) (by omega) (by omega))).h ?_;refine go ?_;exact ae () (hv:=rfl) (hp:=trivial)
theorem agy(y:Int)(h:0<=y):(y - y.tmod 2).tdiv 2=y.tdiv 2:=by
 have h1:y.tmod 2=y%2:=De h;rw[h1,sI (show 0<=y - y%2 by omega),sI h];omega
theorem Jj{g:bA}{vh vc:Value}{k:Nat}(hg:fq g)(hk:k<g.cells.length):dz Tryz.prog 181 [.agg ⟨iM g vh vc⟩,.int .i64 (k:Int)] (jy g vh vc) (.int .i64 ((g.cells[k]).tmod g.w - ((g.cells[k]).tdiv g.w).tdiv 2)):=by
 obtain⟨hc,hr⟩:=yP hg hk;have hax:=agy _ hr.1;refine aK _ (aP 181) λB w0=>?_;refine go ?_;intro b1;refine go ?_;refine ax (Av (g:=g) (vh:=vh) (vc:=vc) hg hk) (next:=λ_ _=>?_);refine go ?_;refine ax (CE (g:=g) (vh:=vh) (vc:=vc) hg hk) (next:=λ_ _=>?_);generalize(g.cells[k]).tmod g.w=x at hc⊢;generalize(g.cells[k]).tdiv g.w=y at hr hax⊢;have h1:y.tmod 2=y%2:=De hr.1;refine go ?_;refine(eD rfl rfl (LC (a:=y) (b:=2) rfl rfl (by omega))).h ?_;refine go ?_;have h2:y.tdiv 2=y/2:=sI hr.1;refine(eD rfl rfl (HV (a:=y - y.tmod 2) (b:=2) rfl rfl (by omega) (by rw[hax,h2];omega) (by rw[hax,h2];omega))).h ?_;rw[hax];refine go ?_;exact ae () (hv:=rfl) (hp:=trivial)
theorem F3{g:bA}{k:Nat}(hk:k<g.cells.length)(hs:g.shape=2):iL g (k:Int)=((g.cells[k]).tmod g.w - ((g.cells[k]).tdiv g.w).tdiv 2,(g.cells[k]).tdiv g.w):=by
 rw[Ck (cB hk)];unfold mW;rw[if_pos hs]
theorem CF{g:bA}{k:Nat}(hk:k<g.cells.length)(hs:g.shape=1):iL g (k:Int)=((g.cells[k]).tmod g.w,(g.cells[k]).tdiv g.w):=by
 rw[Ck (cB hk)];unfold mW;rw[if_neg (by omega)]
theorem Jk{y:Int}(h:0<=y/\y<16):0<=y.tdiv 2/\y.tdiv 2<8:=by
 rw[sI h.1];omega
theorem agz{g:bA}{vh vc:Value}{a b:Nat}(hg:fq g)(ha:a<g.cells.length)(hb:b<g.cells.length):dz Tryz.prog 133 [.agg ⟨iM g vh vc⟩,.int .i64 (a:Int),.int .i64 (b:Int)] (jy g vh vc) (.bool (wH g.shape (iL g a) (iL g b))):=by
 obtain⟨hc1,hr1⟩:=yP hg ha;obtain⟨hc2,hr2⟩:=yP hg hb;have hv1:=Jk hr1;have hv2:=Jk hr2;refine aK _ (aP 133) λB w0=>?_;refine go ?_;intro b1;refine go ?_;refine ax (CE (g:=g) (vh:=vh) (vc:=vc) hg hb) (next:=λ_ _=>?_);refine go ?_;refine ax (CE (g:=g) (vh:=vh) (vc:=vc) hg ha) (next:=λ_ _=>?_);refine go ?_;refine ax (Av (g:=g) (vh:=vh) (vc:=vc) hg hb) (next:=λ_ _=>?_);refine go ?_;refine ax (Av (g:=g) (vh:=vh) (vc:=vc) hg ha) (next:=λ_ _=>?_);refine go ?_;refine aA rfl (λhs=>?_) (λhs=>?_)
 ·rw[CF ha hs,CF hb hs,hs];generalize(g.cells[a]).tmod g.w=x1 at hc1⊢;generalize(g.cells[a]).tdiv g.w=y1 at hr1 hv1⊢;generalize(g.cells[b]).tmod g.w=x2 at hc2⊢;generalize(g.cells[b]).tdiv g.w=y2 at hr2 hv2⊢;iterate 7 (all_goals (first|(refine ae () (hv:=?_) (hp:=trivial))|(refine go ?_;first|with_reducible refine aN (λ_=>?_) (λ_=>?_)|with_reducible refine aM (λ_=>?_) (λ_=>?_)|with_reducible refine aL (λ_=>?_) (λ_=>?_)|skip)|skip))
  all_goals (apply congrArg Value.bool;unfold wH;simp[*]<;>omega)
 ·have hs2:g.shape=2:=hg.make.sh.resolve_left hs;rw[F3 ha hs2,F3 hb hs2,hs2];refine go ?_;refine ax (Jj (g:=g) (vh:=vh) (vc:=vc) hg hb) (next:=λ_ _=>?_);refine go ?_;refine ax (Jj (g:=g) (vh:=vh) (vc:=vc) hg ha) (next:=λ_ _=>?_);generalize(g.cells[a]).tmod g.w=x1 at hc1⊢;generalize(g.cells[a]).tdiv g.w=y1 at hr1 hv1⊢;generalize(g.cells[b]).tmod g.w=x2 at hc2⊢;generalize(g.cells[b]).tdiv g.w=y2 at hr2 hv2⊢;generalize y1.tdiv 2=z1 at hv1⊢;generalize y2.tdiv 2=z2 at hv2⊢;iterate 14 (all_goals (first|(refine ae () (hv:=?_) (hp:=trivial))|(refine go ?_;first|with_reducible refine aN (λ_=>?_) (λ_=>?_)|with_reducible refine aM (λ_=>?_) (λ_=>?_)|with_reducible refine aL (λ_=>?_) (λ_=>?_)|skip)|skip))
  all_goals (apply congrArg Value.bool;unfold wH;simp[*]<;>omega)
def nJ(sh f:Int)(s:Int×Int):Int:=if f=1 then s.2 else if sh=1 then s.1 else if f=2 then s.1 else s.1+s.2
theorem agA{g:bA}{vh vc:Value}{f:Int}{a:Nat}(hg:fq g)(ha:a<g.cells.length):dz Tryz.prog 182 [.agg ⟨iM g vh vc⟩,.int .i64 f,.int .i64 (a:Int)] (jy g vh vc) (.int .i64 (nJ g.shape f (iL g a))):=by
 obtain⟨hc1,hr1⟩:=yP hg ha;have hv1:=Jk hr1;have hsp2:(iL g (a:Int)).2=(g.cells[a]).tdiv g.w:=by
  rw[Ck (cB ha)];rfl
 refine aK _ (aP 182) λB w0=>?_;refine go ?_;intro b1;refine go ?_;refine aA rfl (λh1=>?_) (λh1=>?_)
 ·refine go ?_;refine ax (Av (g:=g) (vh:=vh) (vc:=vc) hg ha) (next:=λ_ _=>?_);refine go ?_;refine ae () (hv:=?_) (hp:=trivial);unfold nJ;rw[if_pos h1,hsp2];rfl
 refine go ?_;refine aA rfl (λh2=>?_) (λh2=>?_)
 ·refine go ?_;refine ax (CE (g:=g) (vh:=vh) (vc:=vc) hg ha) (next:=λ_ _=>?_);refine go ?_;refine ae () (hv:=?_) (hp:=trivial);unfold nJ;rw[if_neg h1,if_pos h2,CF ha h2];rfl
 have hs2:g.shape=2:=hg.make.sh.resolve_left h2;refine go ?_;refine aA rfl (λh3=>?_) (λh3=>?_)
 ·refine go ?_;refine ax (Jj (g:=g) (vh:=vh) (vc:=vc) hg ha) (next:=λ_ _=>?_);refine go ?_;refine ae () (hv:=?_) (hp:=trivial);unfold nJ;rw[if_neg h1,if_neg h2,if_pos h3,F3 ha hs2];rfl
 refine go ?_;refine ax (Jj (g:=g) (vh:=vh) (vc:=vc) hg ha) (next:=λ_ _=>?_);refine go ?_;refine ax (Av (g:=g) (vh:=vh) (vc:=vc) hg ha) (next:=λ_ _=>?_);refine go ?_;refine ae () (hv:=?_) (hp:=trivial);unfold nJ;rw[if_neg h1,if_neg h2,if_neg h3,F3 ha hs2];rfl
