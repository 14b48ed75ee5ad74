/-
  Part LibAX.
-/
import Derived.Test.YtoilpafpgndilaaGreatProg
import Derived.Test.YtoilpafpgndilaaGreatPlainAX
import Derived.Test.YtoilpafpgndilaaGreatIdealMX
set_option linter.all false
set_option maxRecDepth 10000
set_option maxHeartbeats 1000000
namespace Go.Proofs.YtoilpafpgndilaaGreat
open Go.Ideal
noncomputable def Vj:=uE Tryz.prog 162
theorem aeY:mO Tryz.prog 162=some Vj:=by kernel_rfl
noncomputable def Vk:=uE Tryz.prog 125
theorem aeZ:mO Tryz.prog 125=some Vk:=by kernel_rfl
structure ae0(grid:List Int):Prop where
 len:grid.length<=1000000
 oJ:∀x∈grid,0<=x/\x<16
structure ae1(grid cells:List Int):Prop where
 len:cells.length<=1000000
 cell:∀c∈cells,0<=c/\c<grid.length
def sy(grid:List Int)(c:Int):Nat:=(grid.getD c.toNat 0).toNat
def cnt(grid:List Int)(set:Nat)(cells:List Int):Nat:=(cells.filter λc=>set.testBit (sy grid c)).length
theorem take_one{α:Type}{xs:List α}{k:Nat}{x:α}(h:xs[k]? =some x):xs.take (k+1)=xs.take k++[x]:=by
 rw[nP,h];rfl
structure ae2(values grid:List Int):Prop where
 val:∀v∈values,0<=v/\v<=99
 oJ:∀x∈grid,x<values.length
def va(values grid:List Int)(c:Int):Int:=values.getD (sy grid c) 0
def met(grid cells:List Int):Nat:=cells.foldl (λm c=>m|||1<<<sy grid c) 0
noncomputable def Vl:=uE Tryz.prog 58
theorem ae3:mO Tryz.prog 58=some Vl:=by kernel_rfl
def rn(grid:List Int)(set:Nat):Nat->List Int->List Int
 |n,[]=>if 0<n then[(n:Int)]else[]
 |n,c::cs=>if set.testBit (sy grid c)then rn grid set (n+1) cs else if 0<n then(n:Int)::rn grid set 0 cs else rn grid set 0 cs
abbrev ae4{α:Type}(E:Enc α)(b:Nat)(ys:List α):OA:=MK λv:Value=>[pt b (.cells [v]),ap E v ys]
theorem Bf{va vb:Value}{xs ys:List Int}(hal:xs.length<9223372036854775808):dD Tryz.prog 58 [va,vb] [ai ae va xs,ai ae vb ys] (.bool (decide (xs=ys))):=by
 refine aM Vl ae3 λB w0=>?_;refine go ?_;refine aA rfl (λh1=>?_) (λh1=>?_)
 ·refine go ?_;refine ah () (hv:=?_) (hp:=trivial);rw[aR (λe=>h1 (by rw[e]))];rfl
 have hlen:xs.length=ys.length:=by omega
 refine go ?_;refine aU (λk=>xs.length - k) (λk:Nat=>[(13,.int .i64 (k:Int))]) (λ_=>[]) (λ_=>[]) (λk=>k<=xs.length/\∀j,j<k->xs[j]? =ys[j]?) 0 ⟨by omega,λj hj=>by omega⟩ (body:=?_);rintro k ⟨hkx,hsame⟩;refine go ?_;refine aA rfl (λh2=>?_) (λh2=>?_)
 ·refine go ?_;intro _ _ x hx _ _ y hy;refine aA rfl (λh3=>?_) (λh3=>?_)
  ·refine go ?_;refine ah () (hv:=?_) (hp:=trivial);rw[aR (λe=>h3 (by rw[e,hy]at hx;cases hx;rfl))];rfl
  refine go ?_;refine aN (k+1) (by omega) ⟨by omega,λj hj=>?_⟩;by_cases e:j=k
  ·subst e;rw[hx,hy,ic.1 h3]
  ·exact hsame j (by omega)
 refine go ?_;refine ah () (hv:=?_) (hp:=trivial);have:xs=ys:=by
  apply iY;intro j;by_cases hj:j<k
  ·exact hsame j hj
  ·rw[fO (by omega),fO (by omega)]
 rw[dK this];rfl
abbrev NY(P:Program)(fn:Fn)(first cap:List Value)(v:Value)(F:List aO)(b:Bool):Prop:=bA P fn (first++[v]) cap [] F (λ_:Unit=>.bool b) (λ_=>[]) (λ_=>[]) (λ_=>True)
theorem ae5{fn:Fn}{first cap:List Value}{F1:List aO}{p:Int->Bool}{va:Value}{xs:List Int}(hl:xs.length<9223372036854775808)(hp:∀x∈xs,NY Tryz.prog fn first cap (.int .i64 x) F1 (p x)):
 bA Tryz.prog (.func 220) [va,.func fn ⟨first⟩ ⟨cap⟩] [] [] (ai ae va xs::F1) (λr:Int=>.int .i64 r) (λ_=>[]) (λ_=>[]) (λr=>(0<=r↔xs.any p=true)):=by
 refine aM _ (aP 220) λB w0=>?_;refine go ?_;refine aU (λk=>xs.length - k) (λk:Nat=>[(8,.int .i64 (k:Int))]) (λ_=>[]) (λ_=>[]) (λk=>k<=xs.length/\(xs.take k).any p=false) 0 ⟨by omega,by simp⟩ (body:=?_);rintro k ⟨hk,hno⟩;refine go ?_;refine aA rfl (λh1=>?_) (λh1=>?_)
 ·refine go ?_;intro _ _ x hx;refine ay (hp x (aZ hx)) (next:=λ_ _=>?_);refine go ?_;refine kw rfl (λh2=>?_) (λh2=>?_)
  ·refine go ?_;refine ah (k:Int) (hv:=rfl) (hp:=?_);have:xs.any p=true:=List.any_eq_true.2 ⟨x,aZ hx,h2⟩;simp[this]
  ·refine go ?_;refine aN (k+1) (by omega) ⟨by omega,?_⟩;rw[take_one hx,List.any_append,hno];simp[h2]
 refine go ?_;have:k=xs.length:=by omega
 subst this;rw[bU]at hno;refine ah (-1) (hv:=rfl) (hp:=?_);rw[hno];simp
theorem ae6{fn:Fn}{first cap:List Value}{F1:List aO}{p:Int->Bool}{va:Value}{xs:List Int}(hl:xs.length<9223372036854775808)(hp:∀x∈xs,NY Tryz.prog fn first cap (.int .i64 x) F1 (p x)):
 bA Tryz.prog (.func 145) [va,.func fn ⟨first⟩ ⟨cap⟩] [] [] (ai ae va xs::F1) (λ_:Unit=>.bool (xs.any p)) (λ_=>[]) (λ_=>[]) (λ_=>True):=by
 refine aM _ (aP 145) λB w0=>?_;refine go ?_;refine ay (ae5 hl hp) (next:=λr hr=>?_);refine go ?_;refine ah () (hv:=?_) (hp:=trivial);have:decide (0<=r)=xs.any p:=by
  by_cases h:0<=r
  ·rw[dK h,hr.1 h]
  ·rw[aR h];cases e:xs.any p with
   |false=>rfl
   |true=>exact absurd (hr.2 e) h
 rw[<- this];rfl
theorem ae7{b4 b5:Nat}{lo hi x:Int}:NY Tryz.prog (.func 146) [] [ptr' b4,ptr' b5] (.int .i64 x) [gY b4 0 [.int .i64 lo],gY b5 0 [.int .i64 hi]] (decide (x<lo\/hi<x)):=by
 refine aM _ (aP 146) λB w0=>?_;refine go ?_;refine gG (λh1=>?_) (λh1=>?_)
 ·refine go ?_;refine ah () (hv:=?_) (hp:=trivial);rw[show decide (x<lo\/hi<x)=decide (hi<x)from nO.2 ⟨λh=>h.elim (λh=>absurd h h1) id,.inr⟩];rfl
 refine go ?_;refine ah () (hv:=?_) (hp:=trivial);rw[dK (.inl h1)];rfl
def xZ(xs:List Int)(lo hi:Int):Bool:=decide (∀x∈xs,lo<=x/\x<=hi)
theorem NZ{va:Value}{xs:List Int}{lo hi:Int}(hl:xs.length<9223372036854775808):dD Tryz.prog 109 [va,.int .i64 lo,.int .i64 hi] [ai ae va xs] (.bool (xZ xs lo hi)):=by
 refine aM _ (aP 109) λB w0=>?_;refine go ?_;intro b4 b5;refine bn (eX (b:=b4)) (h:=?_);refine bn (eX (b:=b5)) (h:=?_);refine ay (ae6 (p:=λx=>decide (x<lo\/hi<x)) hl (λx _=>ae7 (b4:=b4) (b5:=b5))) (next:=λ_ _=>?_);refine go ?_;refine ah () (hv:=?_) (hp:=trivial);have:(!xs.any λx=>decide (x<lo\/hi<x))=xZ xs lo hi:=by
  rw[List.not_any_eq_all_not,xZ];rw[zP];simp only[lK,wP,Dy,decide_eq_false_iff_not,not_or,Int.not_lt]
 rw[<- this];rfl
structure kL(g:List (List Int)):Prop where
 len:g.length<=256
 ok:∀(i:Nat) l,g[i]? =some l->∀(k:Nat) n,l[k]? =some n->0<=n/\n<g.length/\n≠i/\(∀m,0<k->l[k - 1]? =some m->m<n)/\∀l',g[n.toNat]? =some l'->(i:Int)∈l'
set_option maxHeartbeats 2000000
open Go.Ideal Gph
theorem kL.rg{g:List (List Int)}(h:kL g):∀l∈g,∀n∈l,Rg g n:=λl hl n hn=>by
 obtain⟨i,hi⟩:=jS hl;obtain⟨k,hk⟩:=jS hn;have:=h.ok i l hi k n hk;exact⟨this.1,this.2.1⟩
