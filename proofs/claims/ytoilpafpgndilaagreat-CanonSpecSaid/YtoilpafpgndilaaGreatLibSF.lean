/- Part. -/
import Derived.Test.YtoilpafpgndilaaGreatLibDF
set_option linter.all false
set_option maxRecDepth 10000
set_option maxHeartbeats 4000000
namespace Go.Proofs.YtoilpafpgndilaaGreat
open Tryz (prog)
open Go.Ideal Kd
variable{vl:vI}{xs:kI Int}{z:Int}
def JZ(hl:xs.length<2^63):dD prog 200 [vl,iV z] [ai ae vl xs] (.bool (decide (z∈xs))):=by
 refine gB 200 λB w0=>?_;refine gN xs.length 5 (λk=>k<=xs.length/\z∉xs.take k) ⟨z7,An⟩ ?_;rintro k ⟨hk,hno⟩;refine gIf ?_ ?_<;>intro h1
 .refine go ?_;intro _ _ x hx;exact z6
 exact oE
def ahD(hl:xs.length<2^63):bA prog (.func 200) [vl,iV z] [] [ap ae vl xs] [] (λ_:Unit=>.bool (decide (z∈xs))) (λ_=>[ap ae vl xs]) (λ_=>[]) (λ_=>True):=by
 refine gB 200 λB w0=>?_;refine gN xs.length 5 (λk=>k<=xs.length/\z∉xs.take k) ⟨z7,An⟩ ?_;rintro k ⟨hk,hno⟩;refine gIf ?_ ?_<;>intro h1
 .refine go ?_;have hx:xs[k]? =some (xs[k]'(z7)):=bP _;generalize xs[k]'(z7)=x at hx;refine acI (v:=vl) (xs:=xs) k x hx (next:=λ_ _=>?_);exact z6
 exact oE
def zF{va vb:vI}{ys:kI Int}(hl:xs.length<2^63):dD prog 18 [va,vb] [ai ae va xs,ai ae vb ys] (.bool (decide (xs=ys))):=by
 refine gB 18 λB w0=>?_;refine gF ae va xs λa1 c1 e1=>?_;subst e1;refine gF ae vb ys λa2 c2 e2=>?_;subst e2;refine gIf ?_ ?_<;>intro h1
 .exact eA
 have hlen:xs.length=ys.length:=z7
 refine gN xs.length 5 (λk=>k<=xs.length/\xs.take k=ys.take k) ⟨z7,An⟩ ?_;rintro k ⟨hk,hsame⟩;refine gIf ?_ ?_<;>intro h2
 .refine go ?_;intro _ _ x hx _ _ y hy;refine gIf ?_ ?_<;>intro h3
  .exact cQ
  .have hxy:x=y:=ic.1 h3;refine go ?_;refine aN (k+1) z7 ⟨z7,?_⟩;rw[bZ hx,bZ hy,hsame,hxy]
 exact cP
variable{g:bz}
def zG(hg:fE g){k:Nat}(hk:k<g.cells.length):(0<=(g.cells[k]).tmod g.w/\(g.cells[k]).tmod g.w<16)/\0<=(g.cells[k]).tdiv g.w/\(g.cells[k]).tdiv g.w<16:=by
 have FJ:=hg.make.wi;have hhe:=hg.make.he;have hm:=vF hk;generalize g.cells[k]=x at hm⊢;have hx0:=hg.cell _ hm;rw[hg.cells]at hm;have hx1:=Ui hm;have hb:=xQ FJ hhe;rw[show((g.w*g.h).toNat:Int)=g.w*g.h by omega]at hx1;rw[DJ hx0.1,uz hx0.1];have h1:=Int.emod_nonneg x (show g.w≠0 by omega);have h2:=Int.emod_lt_of_pos x (show 0<g.w by omega);have h3:=Ko hx0.1 (show 0<=g.w by omega);have h4:x/g.w<g.h:=Int.ediv_lt_of_lt_mul z7 (by rw[Int.mul_comm];exact hx1.2.1);omega
variable{vh vc:vI}{k:Nat}
def Dt(hg:fE g)(hk:k<g.cells.length):dD prog 276 [.agg ⟨iO g vh vc⟩,iV (k:Int)] (jq g vh vc) (iV ((g.cells[k]).tmod g.w)):=by
 have FJ:=hg.make.wi;refine gB 276 λB w0=>?_;refine go ?_;intro b1;refine go ?_;intro _ _ x hx;rw[bP hk]at hx;obtain rfl:=Option.some.inj hx;refine go ?_;refine(fA rfl rfl (AC (a:=g.cells[k]) (b:=g.w) rfl rfl z7)).h ?_;exact afN
def BA(hg:fE g)(hk:k<g.cells.length):dD prog 277 [.agg ⟨iO g vh vc⟩,iV (k:Int)] (jq g vh vc) (iV ((g.cells[k]).tdiv g.w)):=by
 have FJ:=hg.make.wi;have hxb:=zG hg hk;refine gB 277 λB w0=>?_;refine go ?_;intro b1;refine go ?_;intro _ _ x hx;rw[bP hk]at hx;obtain rfl:=Option.some.inj hx;refine go ?_;refine(fA rfl rfl (EN (a:=g.cells[k]) (b:=g.w) rfl rfl z7 z7 z7)).h ?_;exact afN
def ahF(y:Int)(h:0<=y):(y - y.tmod 2).tdiv 2=y.tdiv 2:=by
 have h1:y.tmod 2=y%2:=DJ h;rw[h1,uz (show 0<=y - y%2 by omega),uz h];omega
def J2(hg:fE g)(hk:k<g.cells.length):dD prog 278 [.agg ⟨iO g vh vc⟩,iV (k:Int)] (jq g vh vc) (iV ((g.cells[k]).tmod g.w - ((g.cells[k]).tdiv g.w).tdiv 2)):=by
 obtain⟨hc,hr⟩:=zG hg hk;have hax:=ahF _ hr.1;refine gB 278 λB w0=>?_;refine go ?_;intro b1;refine gC (BA (g:=g) (vh:=vh) (vc:=vc) hg hk) λ_ _=>?_;refine gC (Dt (g:=g) (vh:=vh) (vc:=vc) hg hk) λ_ _=>?_;generalize(g.cells[k]).tmod g.w=x at hc⊢;generalize(g.cells[k]).tdiv g.w=y at hr hax⊢;have h1:y.tmod 2=y%2:=DJ hr.1;refine go ?_;refine(fA rfl rfl (AC (a:=y) (b:=2) rfl rfl z7)).h ?_;refine go ?_;have h2:y.tdiv 2=y/2:=uz hr.1;refine(fA rfl rfl (EN (a:=y - y.tmod 2) (b:=2) rfl rfl z7 (by rw[hax,h2];omega) (by rw[hax,h2];omega))).h ?_;rw[hax];exact afN
def FY(hk:k<g.cells.length)(hs:g.shape=2):aic g (k:Int)=((g.cells[k]).tmod g.w - ((g.cells[k]).tdiv g.w).tdiv 2,(g.cells[k]).tdiv g.w):=by
 rw[C8 (bP hk)];unfold nM;rw[if_pos hs]
def Du(hk:k<g.cells.length)(hs:g.shape=1):aic g (k:Int)=((g.cells[k]).tmod g.w,(g.cells[k]).tdiv g.w):=by
 rw[C8 (bP hk)];unfold nM;rw[if_neg z7]
def J3{y:Int}(h:0<=y/\y<16):0<=y.tdiv 2/\y.tdiv 2<8:=by
 rw[uz h.1];omega
variable{a:Nat}
def ahG{b:Nat}(hg:fE g)(ha:a<g.cells.length)(hb:b<g.cells.length):dD prog 202 [.agg ⟨iO g vh vc⟩,iV (a:Int),iV (b:Int)] (jq g vh vc) (.bool (xU g.shape (aic g a) (aic g b))):=by
 obtain⟨hc1,hr1⟩:=zG hg ha;obtain⟨hc2,hr2⟩:=zG hg hb;have hv1:=J3 hr1;have hv2:=J3 hr2;refine gB 202 λB w0=>?_;refine go ?_;intro b1;refine gC (Dt (g:=g) (vh:=vh) (vc:=vc) hg hb) λ_ _=>?_;refine gC (Dt (g:=g) (vh:=vh) (vc:=vc) hg ha) λ_ _=>?_;refine gC (BA (g:=g) (vh:=vh) (vc:=vc) hg hb) λ_ _=>?_;refine gC (BA (g:=g) (vh:=vh) (vc:=vc) hg ha) λ_ _=>?_;refine gIf ?_ ?_<;>intro hs
 .rw[Du ha hs,Du hb hs,hs];generalize(g.cells[a]).tmod g.w=x1 at hc1⊢;generalize(g.cells[a]).tdiv g.w=y1 at hr1 hv1⊢;generalize(g.cells[b]).tmod g.w=x2 at hc2⊢;generalize(g.cells[b]).tdiv g.w=y2 at hr2 hv2⊢;iterate 7 (all_goals (first|(refine ah () (hv:=?_) (hp:=trivial))|(refine go ?_;first|refine gG (λ_=>?_) (λ_=>?_)|skip)|skip))
  all_goals (apply congrArg Value.bool;unfold xU;simp[*]<;>omega)
 .have hs2:g.shape=2:=hg.make.sh.resolve_left hs;rw[FY ha hs2,FY hb hs2,hs2];refine gC (J2 (g:=g) (vh:=vh) (vc:=vc) hg hb) λ_ _=>?_;refine gC (J2 (g:=g) (vh:=vh) (vc:=vc) hg ha) λ_ _=>?_;generalize(g.cells[a]).tmod g.w=x1 at hc1⊢;generalize(g.cells[a]).tdiv g.w=y1 at hr1 hv1⊢;generalize(g.cells[b]).tmod g.w=x2 at hc2⊢;generalize(g.cells[b]).tdiv g.w=y2 at hr2 hv2⊢;generalize y1.tdiv 2=z1 at hv1⊢;generalize y2.tdiv 2=z2 at hv2⊢;iterate 14 (all_goals (first|(refine ah () (hv:=?_) (hp:=trivial))|(refine go ?_;first|refine gG (λ_=>?_) (λ_=>?_)|skip)|skip))
  all_goals (apply congrArg Value.bool;unfold xU;simp[*]<;>omega)
def oh(sh f:Int)(s:Int×Int):Int:=if f=1 then s.2 else if sh=1 then s.1 else if f=2 then s.1 else s.1+s.2
def ahH{f:Int}(hg:fE g)(ha:a<g.cells.length):dD prog 279 [.agg ⟨iO g vh vc⟩,iV f,iV (a:Int)] (jq g vh vc) (iV (oh g.shape f (aic g a))):=by
 obtain⟨hc1,hr1⟩:=zG hg ha;have hv1:=J3 hr1;have hsp2:(aic g (a:Int)).2=(g.cells[a]).tdiv g.w:=by
  rw[C8 (bP ha)];rfl
 refine gB 279 λB w0=>?_;refine go ?_;intro b1;refine gIf ?_ ?_<;>intro h1
 .refine gC (BA (g:=g) (vh:=vh) (vc:=vc) hg ha) λ_ _=>?_;refine acM ?_;unfold oh;rw[if_pos h1,hsp2];rfl
 refine gIf ?_ ?_<;>intro h2
 .refine gC (Dt (g:=g) (vh:=vh) (vc:=vc) hg ha) λ_ _=>?_;refine acM ?_;unfold oh;rw[if_neg h1,if_pos h2,Du ha h2];rfl
 have hs2:g.shape=2:=hg.make.sh.resolve_left h2;refine gIf ?_ ?_<;>intro h3
 .refine gC (J2 (g:=g) (vh:=vh) (vc:=vc) hg ha) λ_ _=>?_;refine acM ?_;unfold oh;rw[if_neg h1,if_neg h2,if_pos h3,FY ha hs2];rfl
 refine gC (J2 (g:=g) (vh:=vh) (vc:=vc) hg ha) λ_ _=>?_;refine gC (BA (g:=g) (vh:=vh) (vc:=vc) hg ha) λ_ _=>?_;refine acM ?_;unfold oh;rw[if_neg h1,if_neg h2,if_neg h3,FY ha hs2];rfl
