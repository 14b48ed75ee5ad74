/- Part. -/
import Derived.Test.YtignbinlipkmfaaGreatDoorLibDR
set_option linter.all false
set_option maxRecDepth 10000
set_option maxHeartbeats 4000000
namespace Go.Proofs.YtignbinlipkmfaaGreatDoor
open Tryz (prog)
open Go.Ideal Kd
variable{vl:ah}{xs:ae Int}{z:Int}
def Qn(hl:xs.length<2^63):dF prog 138 [vl,iV z] [aj ai vl xs] (.bool (decide (z∈xs))):=by
 refine gB 138 λB w0=>?_;refine gN xs.length 5 (λk=>k<=xs.length/\z∉xs.take k) ⟨tf,tg⟩ ?_;rintro k ⟨hk,hno⟩;refine aC ?_ ?_<;>intro h1
 .refine go ?_;intro _ _ x hx;exact td
 exact mc
def ar3(hl:xs.length<2^63):bG prog (.func 138) [vl,iV z] [] [ap ai vl xs] [] (λ_:Unit=>.bool (decide (z∈xs))) (λ_=>[ap ai vl xs]) (λ_=>[]) (λ_=>True):=by
 refine gB 138 λB w0=>?_;refine gN xs.length 5 (λk=>k<=xs.length/\z∉xs.take k) ⟨tf,tg⟩ ?_;rintro k ⟨hk,hno⟩;refine aC ?_ ?_<;>intro h1
 .refine go ?_;have hx:xs[k]? =some (xs[k]'(tf)):=bY _;generalize xs[k]'(tf)=x at hx;refine akr (v:=vl) (xs:=xs) k x hx (next:=λ_ _=>?_);exact td
 exact mc
def Hy{va vb:ah}{ys:ae Int}(hl:xs.length<2^63):dF prog 111 [va,vb] [aj ai va xs,aj ai vb ys] (.bool (decide (xs=ys))):=by
 refine gB 111 λB w0=>?_;refine gF ai va xs λa1 c1 e1=>?_;subst e1;refine gF ai vb ys λa2 c2 e2=>?_;subst e2;refine aC ?_ ?_<;>intro h1
 .exact dr
 have hlen:xs.length=ys.length:=tf
 refine gN xs.length 5 (λk=>k<=xs.length/\xs.take k=ys.take k) ⟨tf,tg⟩ ?_;rintro k ⟨hk,hsame⟩;refine aC ?_ ?_<;>intro h2
 .refine go ?_;intro _ _ x hx _ _ y hy;refine aC ?_ ?_<;>intro h3
  .exact cP
  .have hxy:x=y:=iX.1 h3;refine go ?_;refine aO (k+1) tf ⟨tf,?_⟩;rw[bU hx,bU hy,hsame,hxy]
 exact cM
variable{g:bA}
def Di(hg:eF g){k:Nat}(hk:k<g.cells.length):(0<=(g.cells[k]).tmod g.w/\(g.cells[k]).tmod g.w<16)/\0<=(g.cells[k]).tdiv g.w/\(g.cells[k]).tdiv g.w<16:=by
 have mW:=hg.make.wi;have hhe:=hg.make.he;have hm:=rY hk;generalize g.cells[k]=x at hm⊢;have hx0:=hg.cell _ hm;rw[hg.cells]at hm;have hx1:=aaw hm;have hb:=zB mW hhe;rw[show((g.w*g.h).toNat:Int)=g.w*g.h by omega]at hx1;rw[BA hx0.1,su hx0.1];have h1:=Q3 x (show g.w≠0 by omega);have h2:=Int.emod_lt_of_pos x (show 0<g.w by omega);have h3:=Dw hx0.1 (show 0<=g.w by omega);have h4:x/g.w<g.h:=Int.ediv_lt_of_lt_mul tf (by rw[Int.mul_comm];exact hx1.2.1);omega
variable{vh vc:ah}{k:Nat}
def Hz(hg:eF g)(hk:k<g.cells.length):dF prog 226 [.agg ⟨iW g vh vc⟩,iV (k:Int)] (jU g vh vc) (iV ((g.cells[k]).tmod g.w)):=by
 have mW:=hg.make.wi;refine gB 226 λB w0=>?_;refine go ?_;intro b1;refine go ?_;intro _ _ x hx;rw[bY hk]at hx;obtain rfl:=Option.some.inj hx;refine go ?_;refine(cZ rfl rfl (Ea (a:=g.cells[k]) (b:=g.w) rfl rfl tf)).h ?_;exact fQ
def E8(hg:eF g)(hk:k<g.cells.length):dF prog 227 [.agg ⟨iW g vh vc⟩,iV (k:Int)] (jU g vh vc) (iV ((g.cells[k]).tdiv g.w)):=by
 have mW:=hg.make.wi;have hxb:=Di hg hk;refine gB 227 λB w0=>?_;refine go ?_;intro b1;refine go ?_;intro _ _ x hx;rw[bY hk]at hx;obtain rfl:=Option.some.inj hx;refine go ?_;refine(cZ rfl rfl (D9 (a:=g.cells[k]) (b:=g.w) rfl rfl tf tf tf)).h ?_;exact fQ
def ar5(y:Int)(h:0<=y):(y - y.tmod 2).tdiv 2=y.tdiv 2:=by
 have h1:y.tmod 2=y%2:=BA h;rw[h1,su (show 0<=y - y%2 by omega),su h];omega
def Qo(hg:eF g)(hk:k<g.cells.length):dF prog 228 [.agg ⟨iW g vh vc⟩,iV (k:Int)] (jU g vh vc) (iV ((g.cells[k]).tmod g.w - ((g.cells[k]).tdiv g.w).tdiv 2)):=by
 obtain⟨hc,hr⟩:=Di hg hk;have hax:=ar5 _ hr.1;refine gB 228 λB w0=>?_;refine go ?_;intro b1;refine gC (E8 (g:=g) (vh:=vh) (vc:=vc) hg hk) λ_ _=>?_;refine gC (Hz (g:=g) (vh:=vh) (vc:=vc) hg hk) λ_ _=>?_;generalize(g.cells[k]).tmod g.w=x at hc⊢;generalize(g.cells[k]).tdiv g.w=y at hr hax⊢;have h1:y.tmod 2=y%2:=BA hr.1;refine go ?_;refine(cZ rfl rfl (Ea (a:=y) (b:=2) rfl rfl tf)).h ?_;refine go ?_;have h2:y.tdiv 2=y/2:=su hr.1;refine(cZ rfl rfl (D9 (a:=y - y.tmod 2) (b:=2) rfl rfl tf (by rw[hax,h2];omega) (by rw[hax,h2];omega))).h ?_;rw[hax];exact fQ
def K5(hk:k<g.cells.length)(hs:g.shape=2):iZ g (k:Int)=((g.cells[k]).tmod g.w - ((g.cells[k]).tdiv g.w).tdiv 2,(g.cells[k]).tdiv g.w):=by
 rw[GR (bY hk)];unfold jY;rw[if_pos hs]
def HV(hk:k<g.cells.length)(hs:g.shape=1):iZ g (k:Int)=((g.cells[k]).tmod g.w,(g.cells[k]).tdiv g.w):=by
 rw[GR (bY hk)];unfold jY;rw[if_neg tf]
def Qp{y:Int}(h:0<=y/\y<16):0<=y.tdiv 2/\y.tdiv 2<8:=by
 rw[su h.1];omega
variable{a:Nat}
def ar6{b:Nat}(hg:eF g)(ha:a<g.cells.length)(hb:b<g.cells.length):dF prog 139 [.agg ⟨iW g vh vc⟩,iV (a:Int),iV (b:Int)] (jU g vh vc) (.bool (AX g.shape (iZ g a) (iZ g b))):=by
 obtain⟨hc1,hr1⟩:=Di hg ha;obtain⟨hc2,hr2⟩:=Di hg hb;have hv1:=Qp hr1;have hv2:=Qp hr2;refine gB 139 λB w0=>?_;refine go ?_;intro b1;refine gC (Hz (g:=g) (vh:=vh) (vc:=vc) hg hb) λ_ _=>?_;refine gC (Hz (g:=g) (vh:=vh) (vc:=vc) hg ha) λ_ _=>?_;refine gC (E8 (g:=g) (vh:=vh) (vc:=vc) hg hb) λ_ _=>?_;refine gC (E8 (g:=g) (vh:=vh) (vc:=vc) hg ha) λ_ _=>?_;refine aC ?_ ?_<;>intro hs
 .rw[HV ha hs,HV hb hs,hs];generalize(g.cells[a]).tmod g.w=x1 at hc1⊢;generalize(g.cells[a]).tdiv g.w=y1 at hr1 hv1⊢;generalize(g.cells[b]).tmod g.w=x2 at hc2⊢;generalize(g.cells[b]).tdiv g.w=y2 at hr2 hv2⊢;iterate 7 (all_goals (first|(refine fu () (hv:=?_) (hp:=trivial))|(refine go ?_;first|refine gG (λ_=>?_) (λ_=>?_)|skip)|skip))
  all_goals (apply congrArg Value.bool;unfold AX;simp[*]<;>omega)
 .have hs2:g.shape=2:=hg.make.sh.resolve_left hs;rw[K5 ha hs2,K5 hb hs2,hs2];refine gC (Qo (g:=g) (vh:=vh) (vc:=vc) hg hb) λ_ _=>?_;refine gC (Qo (g:=g) (vh:=vh) (vc:=vc) hg ha) λ_ _=>?_;generalize(g.cells[a]).tmod g.w=x1 at hc1⊢;generalize(g.cells[a]).tdiv g.w=y1 at hr1 hv1⊢;generalize(g.cells[b]).tmod g.w=x2 at hc2⊢;generalize(g.cells[b]).tdiv g.w=y2 at hr2 hv2⊢;generalize y1.tdiv 2=z1 at hv1⊢;generalize y2.tdiv 2=z2 at hv2⊢;iterate 14 (all_goals (first|(refine fu () (hv:=?_) (hp:=trivial))|(refine go ?_;first|refine gG (λ_=>?_) (λ_=>?_)|skip)|skip))
  all_goals (apply congrArg Value.bool;unfold AX;simp[*]<;>omega)
def qI(sh f:Int)(s:Int×Int):Int:=if f=1 then s.2 else if sh=1 then s.1 else if f=2 then s.1 else s.1+s.2
def ar7{f:Int}(hg:eF g)(ha:a<g.cells.length):dF prog 229 [.agg ⟨iW g vh vc⟩,iV f,iV (a:Int)] (jU g vh vc) (iV (qI g.shape f (iZ g a))):=by
 obtain⟨hc1,hr1⟩:=Di hg ha;have hv1:=Qp hr1;have hsp2:(iZ g (a:Int)).2=(g.cells[a]).tdiv g.w:=by
  rw[GR (bY ha)];rfl
 refine gB 229 λB w0=>?_;refine go ?_;intro b1;refine aC ?_ ?_<;>intro h1
 .refine gC (E8 (g:=g) (vh:=vh) (vc:=vc) hg ha) λ_ _=>?_;refine aP ?_;unfold qI;rw[if_pos h1,hsp2];rfl
 refine aC ?_ ?_<;>intro h2
 .refine gC (Hz (g:=g) (vh:=vh) (vc:=vc) hg ha) λ_ _=>?_;refine aP ?_;unfold qI;rw[if_neg h1,if_pos h2,HV ha h2];rfl
 have hs2:g.shape=2:=hg.make.sh.resolve_left h2;refine aC ?_ ?_<;>intro h3
 .refine gC (Qo (g:=g) (vh:=vh) (vc:=vc) hg ha) λ_ _=>?_;refine aP ?_;unfold qI;rw[if_neg h1,if_neg h2,if_pos h3,K5 ha hs2];rfl
 refine gC (Qo (g:=g) (vh:=vh) (vc:=vc) hg ha) λ_ _=>?_;refine gC (E8 (g:=g) (vh:=vh) (vc:=vc) hg ha) λ_ _=>?_;refine aP ?_;unfold qI;rw[if_neg h1,if_neg h2,if_neg h3,K5 ha hs2];rfl
