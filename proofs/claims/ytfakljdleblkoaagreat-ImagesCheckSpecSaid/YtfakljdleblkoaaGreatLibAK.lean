/-
  Part LibAK.
-/
import Derived.Test.YtfakljdleblkoaaGreatProg
import Derived.Test.YtfakljdleblkoaaGreatPlainAK
import Derived.Test.YtfakljdleblkoaaGreatIdealMK
set_option linter.all false
set_option maxRecDepth 10000
set_option maxHeartbeats 1000000
namespace Go.Proofs.YtfakljdleblkoaaGreat
open Go.Ideal
noncomputable def Ul:=qj Tryz.prog 153
theorem aef:kU Tryz.prog 153=some Ul:=by kernel_rfl
noncomputable def Um:=qj Tryz.prog 101
theorem aeg:kU Tryz.prog 101=some Um:=by kernel_rfl
structure Un(grid:List Int):Prop where
 len:grid.length<=1000000
 vQ:∀x∈grid,0<=x/\x<16
structure Uo(grid cells:List Int):Prop where
 len:cells.length<=1000000
 cell:∀c∈cells,0<=c/\c<grid.length
def sy(grid:List Int)(c:Int):Nat:=(grid.getD c.toNat 0).toNat
def cnt(grid:List Int)(set:Nat)(cells:List Int):Nat:=(cells.filter λc=>set.testBit (sy grid c)).length
theorem take_one{α:Type}{xs:List α}{k:Nat}{x:α}(h:xs[k]? =some x):xs.take (k+1)=xs.take k++[x]:=by
 rw[nE,h];rfl
structure Uq(values grid:List Int):Prop where
 val:∀v∈values,0<=v/\v<=99
 vQ:∀x∈grid,x<values.length
def va(values grid:List Int)(c:Int):Int:=values.getD (sy grid c) 0
def met(grid cells:List Int):Nat:=cells.foldl (λm c=>m|||1<<<sy grid c) 0
noncomputable def Ur:=qj Tryz.prog 73
theorem aeh:kU Tryz.prog 73=some Ur:=by kernel_rfl
def rn(grid:List Int)(set:Nat):Nat->List Int->List Int
 |n,[]=>if 0<n then[(n:Int)]else[]
 |n,c::cs=>if set.testBit (sy grid c)then rn grid set (n+1) cs else if 0<n then(n:Int)::rn grid set 0 cs else rn grid set 0 cs
abbrev aei{α:Type}(E:Enc α)(b:Nat)(ys:List α):OA:=Mf λv:Value=>[pt b (.cells [v]),ap E v ys]
theorem uH{va vb:Value}{xs ys:List Int}(hal:xs.length<9223372036854775808):dL Tryz.prog 73 [va,vb] [ai ae va xs,ai ae vb ys] (.bool (decide (xs=ys))):=by
 refine aH Ur aeh λB w0=>?_;refine go ?_;refine az rfl (λh1=>?_) (λh1=>?_)
 ·refine go ?_;refine ah () (hv:=?_) (hp:=trivial);rw[aS (λe=>h1 (by rw[e]))];rfl
 have hlen:xs.length=ys.length:=by omega
 refine go ?_;refine aW (λk=>xs.length - k) (λk:Nat=>[(13,.int .i64 (k:Int))]) (λ_=>[]) (λ_=>[]) (λk=>k<=xs.length/\∀j,j<k->xs[j]? =ys[j]?) 0 ⟨by omega,λj hj=>by omega⟩ (body:=?_);rintro k ⟨hkx,hsame⟩;refine go ?_;refine az rfl (λh2=>?_) (λh2=>?_)
 ·refine go ?_;intro _ _ x hx _ _ y hy;refine az rfl (λh3=>?_) (λh3=>?_)
  ·refine go ?_;refine ah () (hv:=?_) (hp:=trivial);rw[aS (λe=>h3 (by rw[e,hy]at hx;cases hx;rfl))];rfl
  refine go ?_;refine aM (k+1) (by omega) ⟨by omega,λj hj=>?_⟩;by_cases e:j=k
  ·subst e;rw[hx,hy,gT.1 h3]
  ·exact hsame j (by omega)
 refine go ?_;refine ah () (hv:=?_) (hp:=trivial);have:xs=ys:=by
  apply jv;intro j;by_cases hj:j<k
  ·exact hsame j hj
  ·rw[gJ (by omega),gJ (by omega)]
 rw[eY this];rfl
theorem aej{va:Value}{xs:List Int}{z:Int}(hl:xs.length<9223372036854775808):
 aU Tryz.prog (.func 309) [va,.int .i64 z] [] [] [ai ae va xs] (λr:Int=>.int .i64 r) (λ_=>[]) (λ_=>[]) (λr=>(0<=r↔z∈xs)):=by
 refine aH _ (aN 309) λB w0=>?_;refine go ?_;refine aW (λk=>xs.length - k) (λk:Nat=>[(8,.int .i64 (k:Int))]) (λ_=>[]) (λ_=>[]) (λk=>k<=xs.length/\z∉xs.take k) 0 ⟨by omega,by simp⟩ (body:=?_);rintro k ⟨hk,hno⟩;refine go ?_;refine az rfl (λh1=>?_) (λh1=>?_)
 ·refine go ?_;intro _ _ x hx;refine az rfl (λh2=>?_) (λh2=>?_)
  ·refine go ?_;refine ah (k:Int) (hv:=rfl) (hp:=?_);subst h2;simp[aP hx]
  ·refine go ?_;refine aM (k+1) (by omega) ⟨by omega,?_⟩;rw[take_one hx,dW,not_or];exact⟨hno,by simpa using h2⟩
 refine go ?_;have:k=xs.length:=by omega
 subst this;rw[bJ]at hno;refine ah (-1) (hv:=rfl) (hp:=?_);simp[hno]
theorem aek{va:Value}{xs:List Int}{z:Int}(hl:xs.length<9223372036854775808):dL Tryz.prog 268 [va,.int .i64 z] [ai ae va xs] (.bool (decide (z∈xs))):=by
 refine aH _ (aN 268) λB w0=>?_;refine go ?_;refine ax (aej hl) (next:=λr hr=>?_);refine go ?_;refine ah () (hv:=?_) (hp:=trivial);rw[<- nS.2 hr];rfl
structure kz(g:List (List Int)):Prop where
 len:g.length<=256
 ok:∀(i:Nat) l,g[i]? =some l->∀(k:Nat) n,l[k]? =some n->0<=n/\n<g.length/\n≠i/\(∀m,0<k->l[k - 1]? =some m->m<n)/\∀l',g[n.toNat]? =some l'->(i:Int)∈l'
set_option maxHeartbeats 2000000
open Go.Ideal Gph
theorem kz.rg{g:List (List Int)}(h:kz g):∀l∈g,∀n∈l,Rg g n:=λl hl n hn=>by
 obtain⟨i,hi⟩:=jT hl;obtain⟨k,hk⟩:=jT hn;have:=h.ok i l hi k n hk;exact⟨this.1,this.2.1⟩
