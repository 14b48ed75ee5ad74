/- Part. -/
import Derived.Test.YtignbinlipkmfaaGreatDoorLibDK
set_option linter.all false
set_option maxRecDepth 10000
set_option maxHeartbeats 4000000
namespace Go.Proofs.YtignbinlipkmfaaGreatDoor
open Tryz (prog)
open Go.Ideal Kd
variable{vl:ah}{xs:ae Int}{z:Int}
def LD(hl:xs.length<2^63):dL prog 138 [vl,iV z] [aj ai vl xs] (.bool (decide (z∈xs))):=by
 refine gB 138 λB w0=>?_;refine gN xs.length 5 (λk=>k<=xs.length/\z∉xs.take k) ⟨tr,tt⟩ ?_;rintro k ⟨hk,hno⟩;refine aB ?_ ?_<;>intro h1
 .refine go ?_;intro _ _ x hx;exact tn
 exact li
def akJ(hl:xs.length<2^63):cK prog (.func 138) [vl,iV z] [] [ap ai vl xs] [] (λ_:Unit=>.bool (decide (z∈xs))) (λ_=>[ap ai vl xs]) (λ_=>[]) (λ_=>True):=by
 refine gB 138 λB w0=>?_;refine gN xs.length 5 (λk=>k<=xs.length/\z∉xs.take k) ⟨tr,tt⟩ ?_;rintro k ⟨hk,hno⟩;refine aB ?_ ?_<;>intro h1
 .refine go ?_;have hx:xs[k]? =some (xs[k]'(tr)):=bX _;generalize xs[k]'(tr)=x at hx;refine afL (v:=vl) (xs:=xs) k x hx (next:=λ_ _=>?_);exact tn
 exact li
def Er{va vb:ah}{ys:ae Int}(hl:xs.length<2^63):dL prog 111 [va,vb] [aj ai va xs,aj ai vb ys] (.bool (decide (xs=ys))):=by
 refine gB 111 λB w0=>?_;refine gF ai va xs λa1 c1 e1=>?_;subst e1;refine gF ai vb ys λa2 c2 e2=>?_;subst e2;refine aB ?_ ?_<;>intro h1
 .exact cW
 have hlen:xs.length=ys.length:=tr
 refine gN xs.length 5 (λk=>k<=xs.length/\xs.take k=ys.take k) ⟨tr,tt⟩ ?_;rintro k ⟨hk,hsame⟩;refine aB ?_ ?_<;>intro h2
 .refine go ?_;intro _ _ x hx _ _ y hy;refine aB ?_ ?_<;>intro h3
  .exact cH
  .have hxy:x=y:=iD.1 h3;refine go ?_;refine aQ (k+1) tr ⟨tr,?_⟩;rw[cB hx,cB hy,hsame,hxy]
 exact cE
variable{g:bB}
def AJ(hg:eU g){k:Nat}(hk:k<g.cells.length):(0<=(g.cells[k]).tmod g.w/\(g.cells[k]).tmod g.w<16)/\0<=(g.cells[k]).tdiv g.w/\(g.cells[k]).tdiv g.w<16:=by
 have mK:=hg.make.wi;have hhe:=hg.make.he;have hm:=wU hk;generalize g.cells[k]=x at hm⊢;have hx0:=hg.cell _ hm;rw[hg.cells]at hm;have hx1:=V5 hm;have hb:=xE mK hhe;rw[show((g.w*g.h).toNat:Int)=g.w*g.h by omega]at hx1;rw[EG hx0.1,vJ hx0.1];have h1:=Int.emod_nonneg x (show g.w≠0 by omega);have h2:=Int.emod_lt_of_pos x (show 0<g.w by omega);have h3:=ME hx0.1 (show 0<=g.w by omega);have h4:x/g.w<g.h:=Int.ediv_lt_of_lt_mul tr (by rw[Int.mul_comm];exact hx1.2.1);omega
variable{vh vc:ah}{k:Nat}
def Es(hg:eU g)(hk:k<g.cells.length):dL prog 226 [.agg ⟨jm g vh vc⟩,iV (k:Int)] (jU g vh vc) (iV ((g.cells[k]).tmod g.w)):=by
 have mK:=hg.make.wi;refine gB 226 λB w0=>?_;refine go ?_;intro b1;refine go ?_;intro _ _ x hx;rw[bX hk]at hx;obtain rfl:=Option.some.inj hx;refine go ?_;refine(fo rfl rfl (OB (a:=g.cells[k]) (b:=g.w) rfl rfl tr)).h ?_;exact fH
def Ct(hg:eU g)(hk:k<g.cells.length):dL prog 227 [.agg ⟨jm g vh vc⟩,iV (k:Int)] (jU g vh vc) (iV ((g.cells[k]).tdiv g.w)):=by
 have mK:=hg.make.wi;have hxb:=AJ hg hk;refine gB 227 λB w0=>?_;refine go ?_;intro b1;refine go ?_;intro _ _ x hx;rw[bX hk]at hx;obtain rfl:=Option.some.inj hx;refine go ?_;refine(fo rfl rfl (JH (a:=g.cells[k]) (b:=g.w) rfl rfl tr tr tr)).h ?_;exact fH
def akL(y:Int)(h:0<=y):(y - y.tmod 2).tdiv 2=y.tdiv 2:=by
 have h1:y.tmod 2=y%2:=EG h;rw[h1,vJ (show 0<=y - y%2 by omega),vJ h];omega
def LF(hg:eU g)(hk:k<g.cells.length):dL prog 228 [.agg ⟨jm g vh vc⟩,iV (k:Int)] (jU g vh vc) (iV ((g.cells[k]).tmod g.w - ((g.cells[k]).tdiv g.w).tdiv 2)):=by
 obtain⟨hc,hr⟩:=AJ hg hk;have hax:=akL _ hr.1;refine gB 228 λB w0=>?_;refine go ?_;intro b1;refine gC (Ct (g:=g) (vh:=vh) (vc:=vc) hg hk) λ_ _=>?_;refine gC (Es (g:=g) (vh:=vh) (vc:=vc) hg hk) λ_ _=>?_;generalize(g.cells[k]).tmod g.w=x at hc⊢;generalize(g.cells[k]).tdiv g.w=y at hr hax⊢;have h1:y.tmod 2=y%2:=EG hr.1;refine go ?_;refine(fo rfl rfl (OB (a:=y) (b:=2) rfl rfl tr)).h ?_;refine go ?_;have h2:y.tdiv 2=y/2:=vJ hr.1;refine(fo rfl rfl (JH (a:=y - y.tmod 2) (b:=2) rfl rfl tr (by rw[hax,h2];omega) (by rw[hax,h2];omega))).h ?_;rw[hax];exact fH
def G9(hk:k<g.cells.length)(hs:g.shape=2):iR g (k:Int)=((g.cells[k]).tmod g.w - ((g.cells[k]).tdiv g.w).tdiv 2,(g.cells[k]).tdiv g.w):=by
 rw[D7 (bX hk)];unfold oI;rw[if_pos hs]
def Et(hk:k<g.cells.length)(hs:g.shape=1):iR g (k:Int)=((g.cells[k]).tmod g.w,(g.cells[k]).tdiv g.w):=by
 rw[D7 (bX hk)];unfold oI;rw[if_neg tr]
def LG{y:Int}(h:0<=y/\y<16):0<=y.tdiv 2/\y.tdiv 2<8:=by
 rw[vJ h.1];omega
variable{a:Nat}
def akM{b:Nat}(hg:eU g)(ha:a<g.cells.length)(hb:b<g.cells.length):dL prog 139 [.agg ⟨jm g vh vc⟩,iV (a:Int),iV (b:Int)] (jU g vh vc) (.bool (yZ g.shape (iR g a) (iR g b))):=by
 obtain⟨hc1,hr1⟩:=AJ hg ha;obtain⟨hc2,hr2⟩:=AJ hg hb;have hv1:=LG hr1;have hv2:=LG hr2;refine gB 139 λB w0=>?_;refine go ?_;intro b1;refine gC (Es (g:=g) (vh:=vh) (vc:=vc) hg hb) λ_ _=>?_;refine gC (Es (g:=g) (vh:=vh) (vc:=vc) hg ha) λ_ _=>?_;refine gC (Ct (g:=g) (vh:=vh) (vc:=vc) hg hb) λ_ _=>?_;refine gC (Ct (g:=g) (vh:=vh) (vc:=vc) hg ha) λ_ _=>?_;refine aB ?_ ?_<;>intro hs
 .rw[Et ha hs,Et hb hs,hs];generalize(g.cells[a]).tmod g.w=x1 at hc1⊢;generalize(g.cells[a]).tdiv g.w=y1 at hr1 hv1⊢;generalize(g.cells[b]).tmod g.w=x2 at hc2⊢;generalize(g.cells[b]).tdiv g.w=y2 at hr2 hv2⊢;iterate 7 (all_goals (first|(refine fE () (hv:=?_) (hp:=trivial))|(refine go ?_;first|refine gG (λ_=>?_) (λ_=>?_)|skip)|skip))
  all_goals (apply congrArg Value.bool;unfold yZ;simp[*]<;>omega)
 .have hs2:g.shape=2:=hg.make.sh.resolve_left hs;rw[G9 ha hs2,G9 hb hs2,hs2];refine gC (LF (g:=g) (vh:=vh) (vc:=vc) hg hb) λ_ _=>?_;refine gC (LF (g:=g) (vh:=vh) (vc:=vc) hg ha) λ_ _=>?_;generalize(g.cells[a]).tmod g.w=x1 at hc1⊢;generalize(g.cells[a]).tdiv g.w=y1 at hr1 hv1⊢;generalize(g.cells[b]).tmod g.w=x2 at hc2⊢;generalize(g.cells[b]).tdiv g.w=y2 at hr2 hv2⊢;generalize y1.tdiv 2=z1 at hv1⊢;generalize y2.tdiv 2=z2 at hv2⊢;iterate 14 (all_goals (first|(refine fE () (hv:=?_) (hp:=trivial))|(refine go ?_;first|refine gG (λ_=>?_) (λ_=>?_)|skip)|skip))
  all_goals (apply congrArg Value.bool;unfold yZ;simp[*]<;>omega)
def pz(sh f:Int)(s:Int×Int):Int:=if f=1 then s.2 else if sh=1 then s.1 else if f=2 then s.1 else s.1+s.2
def akN{f:Int}(hg:eU g)(ha:a<g.cells.length):dL prog 229 [.agg ⟨jm g vh vc⟩,iV f,iV (a:Int)] (jU g vh vc) (iV (pz g.shape f (iR g a))):=by
 obtain⟨hc1,hr1⟩:=AJ hg ha;have hv1:=LG hr1;have hsp2:(iR g (a:Int)).2=(g.cells[a]).tdiv g.w:=by
  rw[D7 (bX ha)];rfl
 refine gB 229 λB w0=>?_;refine go ?_;intro b1;refine aB ?_ ?_<;>intro h1
 .refine gC (Ct (g:=g) (vh:=vh) (vc:=vc) hg ha) λ_ _=>?_;refine aM ?_;unfold pz;rw[if_pos h1,hsp2];rfl
 refine aB ?_ ?_<;>intro h2
 .refine gC (Es (g:=g) (vh:=vh) (vc:=vc) hg ha) λ_ _=>?_;refine aM ?_;unfold pz;rw[if_neg h1,if_pos h2,Et ha h2];rfl
 have hs2:g.shape=2:=hg.make.sh.resolve_left h2;refine aB ?_ ?_<;>intro h3
 .refine gC (LF (g:=g) (vh:=vh) (vc:=vc) hg ha) λ_ _=>?_;refine aM ?_;unfold pz;rw[if_neg h1,if_neg h2,if_pos h3,G9 ha hs2];rfl
 refine gC (LF (g:=g) (vh:=vh) (vc:=vc) hg ha) λ_ _=>?_;refine gC (Ct (g:=g) (vh:=vh) (vc:=vc) hg ha) λ_ _=>?_;refine aM ?_;unfold pz;rw[if_neg h1,if_neg h2,if_neg h3,G9 ha hs2];rfl
