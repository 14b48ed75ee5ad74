/-
  Part LibSW.
-/
import Derived.Test.YtfakljdleblkoaaGreatLibDW
import Derived.Test.YtfakljdleblkoaaGreatPlainCW
set_option linter.all false
set_option maxRecDepth 10000
set_option maxHeartbeats 4000000
namespace Go.Proofs.YtfakljdleblkoaaGreat
open Go.Ideal Kd
variable{vl:Value}{xs:List Int}{z:Int}
theorem JB(hl:xs.length<9223372036854775808):dL Tryz.prog 166 [vl,.int .i64 z] [ai ae vl xs] (.bool (decide (z∈xs))):=by
 refine aH _ (aN 166) λB w0=>?_;refine go ?_;refine aW (λk=>xs.length - k) (λk:Nat=>[(5,.int .i64 (k:Int))]) (λ_=>[]) (λ_=>[]) (λk=>k<=xs.length/\z∉xs.take k) 0 ⟨vj,vm⟩ (body:=?_);rintro k ⟨hk,hno⟩;refine go ?_;refine az rfl (λh1=>?_) (λh1=>?_)
 ·refine go ?_;intro _ _ x hx;exact vf
 exact u9
theorem agR(hl:xs.length<9223372036854775808):aU Tryz.prog (.func 166) [vl,.int .i64 z] [] [ap ae vl xs] [] (λ_:Unit=>.bool (decide (z∈xs))) (λ_=>[ap ae vl xs]) (λ_=>[]) (λ_=>True):=by
 refine aH _ (aN 166) λB w0=>?_;refine go ?_;refine aW (λk=>xs.length - k) (λk:Nat=>[(5,.int .i64 (k:Int))]) (λ_=>[]) (λ_=>[]) (λk=>k<=xs.length/\z∉xs.take k) 0 ⟨vj,vm⟩ (body:=?_);rintro k ⟨hk,hno⟩;refine go ?_;refine az rfl (λh1=>?_) (λh1=>?_)
 ·refine go ?_;have hx:xs[k]? =some (xs[k]'(vj)):=bW _;generalize xs[k]'(vj)=x at hx;refine abT (v:=vl) (xs:=xs) k x hx (next:=λ_ _=>?_);exact vf
 exact u9
theorem CG{va vb:Value}{ys:List Int}(hl:xs.length<9223372036854775808):dL Tryz.prog 192 [va,vb] [ai ae va xs,ai ae vb ys] (.bool (decide (xs=ys))):=by
 refine aH _ (aN 192) λB w0=>?_;refine aT (E:=ae) (v:=va) (xs:=xs) vm λa1 c1 e1=>?_;subst e1;refine aT (E:=ae) (v:=vb) (xs:=ys) vm λa2 c2 e2=>?_;subst e2;refine go ?_;refine az rfl (λh1=>?_) (λh1=>?_)
 ·exact c7
 have hlen:xs.length=ys.length:=vj
 refine go ?_;refine aW (λk=>xs.length - k) (λk:Nat=>[(5,.int .i64 (k:Int))]) (λ_=>[]) (λ_=>[]) (λk=>k<=xs.length/\xs.take k=ys.take k) 0 ⟨vj,vm⟩ (body:=?_);rintro k ⟨hk,hsame⟩;refine go ?_;refine az rfl (λh2=>?_) (λh2=>?_)
 ·refine go ?_;intro _ _ x hx _ _ y hy;refine go ?_;refine az rfl (λh3=>?_) (λh3=>?_)
  ·exact cN
  ·have hxy:x=y:=gT.1 h3;refine go ?_;refine aM (k+1) vj ⟨vj,?_⟩;rw[bU hx,bU hy,hsame,hxy]
 exact cM
variable{g:bz}
theorem zb(hg:eD g){k:Nat}(hk:k<g.cells.length):(0<=(g.cells[k]).tmod g.w/\(g.cells[k]).tmod g.w<16)/\0<=(g.cells[k]).tdiv g.w/\(g.cells[k]).tdiv g.w<16:=by
 have lq:=hg.make.wi;have hhe:=hg.make.he;have hm:=xP hk;generalize g.cells[k]=x at hm⊢;have hx0:=hg.cell _ hm;rw[hg.cells]at hm;have hx1:=Tm hm;have hb:=vH lq hhe;rw[show((g.w*g.h).toNat:Int)=g.w*g.h by omega]at hx1;rw[CW hx0.1,tQ hx0.1];have h1:=Int.emod_nonneg x (show g.w≠0 by omega);have h2:=Int.emod_lt_of_pos x (show 0<g.w by omega);have h3:=JX hx0.1 (show 0<=g.w by omega);have h4:x/g.w<g.h:=Int.ediv_lt_of_lt_mul vj (by rw[Int.mul_comm];exact hx1.2.1);omega
variable{vh vc:Value}{k:Nat}
theorem CJ(hg:eD g)(hk:k<g.cells.length):dL Tryz.prog 227 [.agg ⟨iH g vh vc⟩,.int .i64 (k:Int)] (jk g vh vc) (.int .i64 ((g.cells[k]).tmod g.w)):=by
 have lq:=hg.make.wi;refine aH _ (aN 227) λB w0=>?_;refine go ?_;intro b1;refine go ?_;intro _ _ x hx;rw[bW hk]at hx;obtain rfl:=Option.some.inj hx;refine go ?_;refine(fq rfl rfl (L8 (a:=g.cells[k]) (b:=g.w) rfl rfl vj)).h ?_;refine go ?_;exact ah () (hv:=rfl) (hp:=trivial)
theorem AO(hg:eD g)(hk:k<g.cells.length):dL Tryz.prog 228 [.agg ⟨iH g vh vc⟩,.int .i64 (k:Int)] (jk g vh vc) (.int .i64 ((g.cells[k]).tdiv g.w)):=by
 have lq:=hg.make.wi;have hxb:=zb hg hk;refine aH _ (aN 228) λB w0=>?_;refine go ?_;intro b1;refine go ?_;intro _ _ x hx;rw[bW hk]at hx;obtain rfl:=Option.some.inj hx;refine go ?_;refine(fq rfl rfl (Hy (a:=g.cells[k]) (b:=g.w) rfl rfl vj vj vj)).h ?_;refine go ?_;exact ah () (hv:=rfl) (hp:=trivial)
theorem agT(y:Int)(h:0<=y):(y - y.tmod 2).tdiv 2=y.tdiv 2:=by
 have h1:y.tmod 2=y%2:=CW h;rw[h1,tQ (show 0<=y - y%2 by omega),tQ h];omega
theorem JC(hg:eD g)(hk:k<g.cells.length):dL Tryz.prog 229 [.agg ⟨iH g vh vc⟩,.int .i64 (k:Int)] (jk g vh vc) (.int .i64 ((g.cells[k]).tmod g.w - ((g.cells[k]).tdiv g.w).tdiv 2)):=by
 obtain⟨hc,hr⟩:=zb hg hk;have hax:=agT _ hr.1;refine aH _ (aN 229) λB w0=>?_;refine go ?_;intro b1;refine go ?_;refine ax (AO (g:=g) (vh:=vh) (vc:=vc) hg hk) (next:=λ_ _=>?_);refine go ?_;refine ax (CJ (g:=g) (vh:=vh) (vc:=vc) hg hk) (next:=λ_ _=>?_);generalize(g.cells[k]).tmod g.w=x at hc⊢;generalize(g.cells[k]).tdiv g.w=y at hr hax⊢;have h1:y.tmod 2=y%2:=CW hr.1;refine go ?_;refine(fq rfl rfl (L8 (a:=y) (b:=2) rfl rfl vj)).h ?_;refine go ?_;have h2:y.tdiv 2=y/2:=tQ hr.1;refine(fq rfl rfl (Hy (a:=y - y.tmod 2) (b:=2) rfl rfl vj (by rw[hax,h2];omega) (by rw[hax,h2];omega))).h ?_;rw[hax];refine go ?_;exact ah () (hv:=rfl) (hp:=trivial)
theorem Fp(hk:k<g.cells.length)(hs:g.shape=2):gW g (k:Int)=((g.cells[k]).tmod g.w - ((g.cells[k]).tdiv g.w).tdiv 2,(g.cells[k]).tdiv g.w):=by
 rw[Co (bW hk)];unfold nC;rw[if_pos hs]
theorem CK(hk:k<g.cells.length)(hs:g.shape=1):gW g (k:Int)=((g.cells[k]).tmod g.w,(g.cells[k]).tdiv g.w):=by
 rw[Co (bW hk)];unfold nC;rw[if_neg vj]
theorem JD{y:Int}(h:0<=y/\y<16):0<=y.tdiv 2/\y.tdiv 2<8:=by
 rw[tQ h.1];omega
variable{a:Nat}
theorem agU{b:Nat}(hg:eD g)(ha:a<g.cells.length)(hb:b<g.cells.length):dL Tryz.prog 168 [.agg ⟨iH g vh vc⟩,.int .i64 (a:Int),.int .i64 (b:Int)] (jk g vh vc) (.bool (xy g.shape (gW g a) (gW g b))):=by
 obtain⟨hc1,hr1⟩:=zb hg ha;obtain⟨hc2,hr2⟩:=zb hg hb;have hv1:=JD hr1;have hv2:=JD hr2;refine aH _ (aN 168) λB w0=>?_;refine go ?_;intro b1;refine go ?_;refine ax (CJ (g:=g) (vh:=vh) (vc:=vc) hg hb) (next:=λ_ _=>?_);refine go ?_;refine ax (CJ (g:=g) (vh:=vh) (vc:=vc) hg ha) (next:=λ_ _=>?_);refine go ?_;refine ax (AO (g:=g) (vh:=vh) (vc:=vc) hg hb) (next:=λ_ _=>?_);refine go ?_;refine ax (AO (g:=g) (vh:=vh) (vc:=vc) hg ha) (next:=λ_ _=>?_);refine go ?_;refine az rfl (λhs=>?_) (λhs=>?_)
 ·rw[CK ha hs,CK hb hs,hs];generalize(g.cells[a]).tmod g.w=x1 at hc1⊢;generalize(g.cells[a]).tdiv g.w=y1 at hr1 hv1⊢;generalize(g.cells[b]).tmod g.w=x2 at hc2⊢;generalize(g.cells[b]).tdiv g.w=y2 at hr2 hv2⊢;iterate 7 (all_goals (first|(refine ah () (hv:=?_) (hp:=trivial))|(refine go ?_;first|refine gG (λ_=>?_) (λ_=>?_)|skip)|skip))
  all_goals (apply congrArg Value.bool;unfold xy;simp[*]<;>omega)
 ·have hs2:g.shape=2:=hg.make.sh.resolve_left hs;rw[Fp ha hs2,Fp hb hs2,hs2];refine go ?_;refine ax (JC (g:=g) (vh:=vh) (vc:=vc) hg hb) (next:=λ_ _=>?_);refine go ?_;refine ax (JC (g:=g) (vh:=vh) (vc:=vc) hg ha) (next:=λ_ _=>?_);generalize(g.cells[a]).tmod g.w=x1 at hc1⊢;generalize(g.cells[a]).tdiv g.w=y1 at hr1 hv1⊢;generalize(g.cells[b]).tmod g.w=x2 at hc2⊢;generalize(g.cells[b]).tdiv g.w=y2 at hr2 hv2⊢;generalize y1.tdiv 2=z1 at hv1⊢;generalize y2.tdiv 2=z2 at hv2⊢;iterate 14 (all_goals (first|(refine ah () (hv:=?_) (hp:=trivial))|(refine go ?_;first|refine gG (λ_=>?_) (λ_=>?_)|skip)|skip))
  all_goals (apply congrArg Value.bool;unfold xy;simp[*]<;>omega)
def nQ(sh f:Int)(s:Int×Int):Int:=if f=1 then s.2 else if sh=1 then s.1 else if f=2 then s.1 else s.1+s.2
theorem agV{f:Int}(hg:eD g)(ha:a<g.cells.length):dL Tryz.prog 230 [.agg ⟨iH g vh vc⟩,.int .i64 f,.int .i64 (a:Int)] (jk g vh vc) (.int .i64 (nQ g.shape f (gW g a))):=by
 obtain⟨hc1,hr1⟩:=zb hg ha;have hv1:=JD hr1;have hsp2:(gW g (a:Int)).2=(g.cells[a]).tdiv g.w:=by
  rw[Co (bW ha)];rfl
 refine aH _ (aN 230) λB w0=>?_;refine go ?_;intro b1;refine go ?_;refine az rfl (λh1=>?_) (λh1=>?_)
 ·refine go ?_;refine ax (AO (g:=g) (vh:=vh) (vc:=vc) hg ha) (next:=λ_ _=>?_);refine go ?_;refine ah () (hv:=?_) (hp:=trivial);unfold nQ;rw[if_pos h1,hsp2];rfl
 refine go ?_;refine az rfl (λh2=>?_) (λh2=>?_)
 ·refine go ?_;refine ax (CJ (g:=g) (vh:=vh) (vc:=vc) hg ha) (next:=λ_ _=>?_);refine go ?_;refine ah () (hv:=?_) (hp:=trivial);unfold nQ;rw[if_neg h1,if_pos h2,CK ha h2];rfl
 have hs2:g.shape=2:=hg.make.sh.resolve_left h2;refine go ?_;refine az rfl (λh3=>?_) (λh3=>?_)
 ·refine go ?_;refine ax (JC (g:=g) (vh:=vh) (vc:=vc) hg ha) (next:=λ_ _=>?_);refine go ?_;refine ah () (hv:=?_) (hp:=trivial);unfold nQ;rw[if_neg h1,if_neg h2,if_pos h3,Fp ha hs2];rfl
 refine go ?_;refine ax (JC (g:=g) (vh:=vh) (vc:=vc) hg ha) (next:=λ_ _=>?_);refine go ?_;refine ax (AO (g:=g) (vh:=vh) (vc:=vc) hg ha) (next:=λ_ _=>?_);refine go ?_;refine ah () (hv:=?_) (hp:=trivial);unfold nQ;rw[if_neg h1,if_neg h2,if_neg h3,Fp ha hs2];rfl
