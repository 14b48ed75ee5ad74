/-
  Part LibAW.
-/
import Derived.Test.YtfakljdleblkoaaGreatProg
import Derived.Test.YtfakljdleblkoaaGreatPlainAW
import Derived.Test.YtfakljdleblkoaaGreatIdealMW
set_option linter.all false
set_option maxRecDepth 10000
set_option maxHeartbeats 1000000
namespace Go.Proofs.YtfakljdleblkoaaGreat
open Go.Ideal
noncomputable def Ul:=qj Tryz.prog 153
theorem aef:kU Tryz.prog 153=some Ul:=vA
noncomputable def Um:=qj Tryz.prog 101
theorem aeg:kU Tryz.prog 101=some Um:=vA
structure Un(grid:List Int):Prop where
 len:grid.length<=1000000
 vQ:∀x∈grid,0<=x/\x<16
structure Uo(grid cells:List Int):Prop where
 len:cells.length<=1000000
 cell:∀c∈cells,0<=c/\c<grid.length
def sy(grid:List Int)(c:Int):Nat:=(grid.getD c.toNat 0).toNat
def cnt(grid:List Int)(set:Nat)(cells:List Int):Nat:=(cells.filter λc=>set.testBit (sy grid c)).length
theorem take_one{α:Type}{xs:List α}{k:Nat}{x:α}(h:xs[k]? =some x):xs.take (k+1)=xs.take k++[x]:=by
 rw[nE,h];rfl
structure Uq(values grid:List Int):Prop where
 val:∀v∈values,0<=v/\v<=99
 vQ:∀x∈grid,x<values.length
def va(values grid:List Int)(c:Int):Int:=values.getD (sy grid c) 0
def met(grid cells:List Int):Nat:=cells.foldl (λm c=>m|||1<<<sy grid c) 0
noncomputable def Ur:=qj Tryz.prog 73
theorem aeh:kU Tryz.prog 73=some Ur:=vA
def rn(grid:List Int)(set:Nat):Nat->List Int->List Int
 |n,[]=>if 0<n then[(n:Int)]else[]
 |n,c::cs=>if set.testBit (sy grid c)then rn grid set (n+1) cs else if 0<n then(n:Int)::rn grid set 0 cs else rn grid set 0 cs
abbrev aei{α:Type}(E:Enc α)(b:Nat)(ys:List α):OA:=Mf λv:Value=>[pt b (.cells [v]),ap E v ys]
variable{va:Value}{xs:List Int}
theorem uH{vb:Value}{ys:List Int}(hal:xs.length<9223372036854775808):dL Tryz.prog 73 [va,vb] [ai ae va xs,ai ae vb ys] (.bool (decide (xs=ys))):=by
 refine aH Ur aeh λB w0=>?_;refine go ?_;refine az rfl (λh1=>?_) (λh1=>?_)
 ·exact cW
 have hlen:xs.length=ys.length:=vj
 refine go ?_;refine aW (λk=>xs.length - k) (λk:Nat=>[(13,.int .i64 (k:Int))]) (λ_=>[]) (λ_=>[]) (λk=>k<=xs.length/\∀j,j<k->xs[j]? =ys[j]?) 0 ⟨vj,λj hj=>by omega⟩ (body:=?_);rintro k ⟨hkx,hsame⟩;refine go ?_;refine az rfl (λh2=>?_) (λh2=>?_)
 ·refine go ?_;intro _ _ x hx _ _ y hy;refine az rfl (λh3=>?_) (λh3=>?_)
  ·exact cR
  exact nn
 exact cH
abbrev FnB(P:Program)(fn:Fn)(first cap:List Value)(v:Value)(F:List aK)(b:Bool):Prop:=aU P fn (first++[v]) cap [] F (λ_:Unit=>.bool b) (λ_=>[]) (λ_=>[]) (λ_=>True)
variable{fn:Fn}{first cap:List Value}{F1:List aK}{p:Int->Bool}
theorem alF(hl:xs.length<9223372036854775808)(hp:∀x∈xs,FnB Tryz.prog fn first cap (.int .i64 x) F1 (p x)):
 aU Tryz.prog (.func 200) [va,.func fn ⟨first⟩ ⟨cap⟩] [] [] (ai ae va xs::F1) (λr:Int=>.int .i64 r) (λ_=>[]) (λ_=>[]) (λr=>(0<=r↔xs.any p=true)):=by
 refine aH _ (aN 200) λB w0=>?_;refine go ?_;refine aW (λk=>xs.length - k) (λk:Nat=>[(8,.int .i64 (k:Int))]) (λ_=>[]) (λ_=>[]) (λk=>k<=xs.length/\(xs.take k).any p=false) 0 ⟨vj,vm⟩ (body:=?_);rintro k ⟨hk,hno⟩;refine go ?_;refine az rfl (λh1=>?_) (λh1=>?_)
 ·refine go ?_;intro _ _ x hx;refine ax (hp x (aP hx)) (next:=λ_ _=>?_);refine go ?_;refine jh rfl (λh2=>?_) (λh2=>?_)
  ·refine go ?_;refine ah (k:Int) (hv:=rfl) (hp:=?_);have:xs.any p=true:=List.any_eq_true.2 ⟨x,aP hx,h2⟩;simp[this]
  ·refine go ?_;refine aM (k+1) vj ⟨vj,?_⟩;rw[take_one hx,ajJ,hno];simp[h2]
 refine go ?_;have:k=xs.length:=vj
 subst this;rw[bJ]at hno;refine ah (-1) (hv:=rfl) (hp:=?_);rw[hno];simp
theorem akt(hl:xs.length<9223372036854775808)(hp:∀x∈xs,FnB Tryz.prog fn first cap (.int .i64 x) F1 (p x)):
 aU Tryz.prog (.func 140) [va,.func fn ⟨first⟩ ⟨cap⟩] [] [] (ai ae va xs::F1) (λ_:Unit=>.bool (xs.any p)) (λ_=>[]) (λ_=>[]) (λ_=>True):=by
 refine aH _ (aN 140) λB w0=>?_;refine go ?_;refine ax (alF hl hp) (next:=λr hr=>?_);refine go ?_;refine ah () (hv:=?_) (hp:=trivial);have:decide (0<=r)=xs.any p:=by
  by_cases h:0<=r
  ·rw[eY h,hr.1 h]
  ·rw[aS h];cases e:xs.any p with
   |false=>rfl
   |true=>exact absurd (hr.2 e) h
 rw[<- this];rfl
variable{z:Int}
theorem aej(hl:xs.length<9223372036854775808):
 aU Tryz.prog (.func 309) [va,.int .i64 z] [] [] [ai ae va xs] (λr:Int=>.int .i64 r) (λ_=>[]) (λ_=>[]) (λr=>(0<=r↔z∈xs)):=by
 refine aH _ (aN 309) λB w0=>?_;refine go ?_;refine aW (λk=>xs.length - k) (λk:Nat=>[(8,.int .i64 (k:Int))]) (λ_=>[]) (λ_=>[]) (λk=>k<=xs.length/\z∉xs.take k) 0 ⟨vj,vm⟩ (body:=?_);rintro k ⟨hk,hno⟩;refine go ?_;refine az rfl (λh1=>?_) (λh1=>?_)
 ·refine go ?_;intro _ _ x hx;refine az rfl (λh2=>?_) (λh2=>?_)
  ·refine go ?_;refine ah (k:Int) (hv:=rfl) (hp:=?_);subst h2;simp[aP hx]
  ·refine go ?_;refine aM (k+1) vj ⟨vj,?_⟩;rw[take_one hx,dW,not_or];exact⟨hno,zj⟩
 refine go ?_;have:k=xs.length:=vj
 subst this;rw[bJ]at hno;refine ah (-1) (hv:=rfl) (hp:=?_);simp[hno]
theorem aek(hl:xs.length<9223372036854775808):dL Tryz.prog 268 [va,.int .i64 z] [ai ae va xs] (.bool (decide (z∈xs))):=by
 refine aH _ (aN 268) λB w0=>?_;refine go ?_;refine ax (aej hl) (next:=λr hr=>?_);refine go ?_;refine ah () (hv:=?_) (hp:=trivial);rw[<- nS.2 hr];rfl
variable{lo hi x:Int}{b4:Nat}
theorem alG{b5:Nat}:FnB Tryz.prog (.func 201) [] [ptr' b4,ptr' b5] (.int .i64 x) [fA b4 0 [.int .i64 lo],fA b5 0 [.int .i64 hi]] (decide (x<lo\/hi<x)):=by
 refine aH _ (aN 201) λB w0=>?_;refine go ?_;refine gG (λh1=>?_) (λh1=>?_)
 ·refine go ?_;refine ah () (hv:=?_) (hp:=trivial);rw[show decide (x<lo\/hi<x)=decide (hi<x)from nS.2 ⟨λh=>h.elim (λh=>absurd h h1) id,.inr⟩];rfl
 exact tn
def wit(xs:List Int)(lo hi:Int):Bool:=decide (∀x∈xs,lo<=x/\x<=hi)
theorem ajU(hl:xs.length<9223372036854775808):dL Tryz.prog 142 [va,.int .i64 lo,.int .i64 hi] [ai ae va xs] (.bool (wit xs lo hi)):=by
 refine aH _ (aN 142) λB w0=>?_;refine go ?_;intro b4 b5;refine bi (dR (b:=b4)) (h:=?_);refine bi (dR (b:=b5)) (h:=?_);refine ax (akt (p:=λx=>decide (x<lo\/hi<x)) hl (λx _=>alG (b4:=b4) (b5:=b5))) (next:=λ_ _=>?_);refine go ?_;refine ah () (hv:=?_) (hp:=trivial);have:(!xs.any λx=>decide (x<lo\/hi<x))=wit xs lo hi:=by
  rw[List.not_any_eq_all_not,wit];rw[uQ];simp only[kR,zh,FD,decide_eq_false_iff_not,not_or,Int.not_lt]
 rw[<- this];rfl
structure kz(g:List (List Int)):Prop where
 len:g.length<=256
 ok:∀(i:Nat) l,g[i]? =some l->∀(k:Nat) n,l[k]? =some n->0<=n/\n<g.length/\n≠i/\(∀m,0<k->l[k - 1]? =some m->m<n)/\∀l',g[n.toNat]? =some l'->(i:Int)∈l'
set_option maxHeartbeats 2000000
open Go.Ideal Gph
theorem kz.rg{g:List (List Int)}(h:kz g):∀l∈g,∀n∈l,Rg g n:=λl hl n hn=>by
 obtain⟨i,hi⟩:=jT hl;obtain⟨k,hk⟩:=jT hn;have:=h.ok i l hi k n hk;exact⟨this.1,this.2.1⟩
structure ajk where
 a:Option Addr
 n:Nat
 e:Int
structure ael(c:EC):Prop where
 cells:c.cells.length<9223372036854775808
 runs:c.runs.length<9223372036854775808
theorem alH{sm:Int}:FnB Tryz.prog (.func 141) [] [ptr' b4] (.int .i64 x) [fA b4 0 [.int .i64 sm]] (decide (x<0\/sm<=x)):=by
 refine aH _ (aN 141) λB w0=>?_;refine go ?_;refine gG (λh1=>?_) (λh1=>?_)
 ·refine go ?_;refine ah () (hv:=?_) (hp:=trivial);rw[show decide (x<0\/sm<=x)=decide (sm<=x)from nS.2 ⟨λh=>h.elim (λh=>absurd h h1) id,.inr⟩];rfl
 exact tn
def Fin(cells symbols:Int)(grid:List Int):Prop:=(grid.length:Int)=cells/\∀s∈grid,0<=s/\s<symbols
theorem alI{vg:Value}{cells symbols:Int}{grid:List Int}(hl:grid.length<9223372036854775808):
 aU Tryz.prog (.func 64) [.int .i64 cells,.int .i64 symbols,vg] [] [] [ai ae vg grid] (λb:Bool=>.bool b) (λ_=>[]) (λ_=>[]) (λb=>(b=true↔Fin cells symbols grid)):=by
 refine aH _ (aN 64) λB w0=>?_;refine go ?_;intro b4;refine bi (dR (b:=b4)) (h:=?_);refine go ?_;refine gG (λh1=>?_) (λh1=>?_)
 ·exact sA
 refine go ?_;refine ax (akt (p:=λx=>decide (x<0\/symbols<=x)) hl (λx _=>alH (b4:=b4) (sm:=symbols))) (next:=λ_ _=>?_);refine go ?_;refine ah (!grid.any λx=>decide (x<0\/symbols<=x)) (hv:=rfl) (hp:=?_);rw[List.not_any_eq_all_not];simp only[kR,FD,decide_eq_false_iff_not,not_or,Int.not_lt,Int.not_le];exact⟨λh=>⟨h1,h⟩,λh=>h.2⟩
structure ajl(q:MI):Prop where
 cells:1<=q.cells/\q.cells<=256
 symbols:1<=q.symbols/\q.symbols<=16
 ajm:(q.values.length:Int)=q.symbols
 vals:∀v∈q.values,0<=v/\v<=99
 Ao:(q.aD.length:Int)=q.cells
 ajn:kz q.aD
 many:q.cons.length<=4096
 fine:∀c∈q.cons,MJ q.cells q.symbols c
structure ajo(q:MI):Prop where
 values:q.values.length<9223372036854775808
 aD:∀l∈q.aD,l.length<9223372036854775808
 cons:q.cons.length<9223372036854775808
 con:∀c∈q.cons,ael c
structure ajq(q:MI)(c:EC)(grid:List Int):Prop where
 gr:Un grid
 ce:Uo grid c.cells
 vs:Uq q.values grid
 st:0<=c.set/\c.set<65537
 ot:0<=c.other/\c.other<65537
