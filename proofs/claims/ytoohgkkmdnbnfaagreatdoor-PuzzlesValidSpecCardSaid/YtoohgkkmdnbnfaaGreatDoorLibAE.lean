/-
  What rules mean for lists of cells: sets of symbols, counts, sums, differences, rises, runs.
-/
import Derived.Test.YtoohgkkmdnbnfaaGreatDoorProg
import Derived.Test.YtoohgkkmdnbnfaaGreatDoorPlainBE
import Derived.Laws.Strings
set_option linter.all false
set_option maxRecDepth 10000
set_option maxHeartbeats 1000000
namespace Go.Proofs.YtoohgkkmdnbnfaaGreatDoor
open Go.Ideal
noncomputable def Rz:=tH Tryz.prog 312
theorem aaN:lM Tryz.prog 312=some Rz:=by kernel_rfl
noncomputable def RA:=tH Tryz.prog 289
theorem aaO:lM Tryz.prog 289=some RA:=by kernel_rfl
structure RB(grid:List Int):Prop where
 len:grid.length<=1000000
 RD:∀x∈grid,0<=x/\x<16
structure RG(grid cells:List Int):Prop where
 len:cells.length<=1000000
 cell:∀c∈cells,0<=c/\c<grid.length
def sy(grid:List Int)(c:Int):Nat:=(grid.getD c.toNat 0).toNat
def cnt(grid:List Int)(set:Nat)(cells:List Int):Nat:=(cells.filter λc=>set.testBit (sy grid c)).length
theorem take_one{α:Type}{xs:List α}{k:Nat}{x:α}(h:xs[k]? =some x):xs.take (k+1)=xs.take k++[x]:=by
 rw[mg,h];rfl
structure RH(values grid:List Int):Prop where
 val:∀v∈values,0<=v/\v<=99
 RD:∀x∈grid,x<values.length
def va(values grid:List Int)(c:Int):Int:=values.getD (sy grid c) 0
def met(grid cells:List Int):Nat:=cells.foldl (λm c=>m|||1<<<sy grid c) 0
end Go.Proofs.YtoohgkkmdnbnfaaGreatDoor
namespace Go.Proofs.YtoohgkkmdnbnfaaGreatDoor
open Go.Ideal
abbrev aaP{α:Type}(E:Enc α)(b:Nat)(ys:List α):OA:=Ak λv:Value=>[pt b (.cells [v]),ap E v ys]
theorem yD{va vb:Value}{xs ys:List Int}(hal:xs.length<9223372036854775808):dS Tryz.prog 104 [va,vb] [ai ae va xs,ai ae vb ys] (.bool (decide (xs=ys))):=by
 refine aS _ (aQ 104) λB w0=>?_;refine go ?_;refine aG rfl (λh1=>?_) (λh1=>?_)
 ·refine go ?_;refine aa () (hv:=?_) (hp:=trivial);rw[cO (λe=>h1 (by rw[e]))];rfl
 have hlen:xs.length=ys.length:=by omega
 refine go ?_;refine bJ (λk=>xs.length - k) (λk:Nat=>[(13,.int .i64 (k:Int))]) (λ_=>[]) (λ_=>[]) (λk=>k<=xs.length/\∀j,j<k->xs[j]? =ys[j]?) 0 ⟨by omega,λj hj=>by omega⟩ (body:=?_);rintro k ⟨hkx,hsame⟩;refine go ?_;refine aG rfl (λh2=>?_) (λh2=>?_)
 ·refine go ?_;intro _ _ x hx _ _ y hy;refine aG rfl (λh3=>?_) (λh3=>?_)
  ·refine go ?_;refine aa () (hv:=?_) (hp:=trivial);rw[cO (λe=>h3 (by rw[e,hy]at hx;cases hx;rfl))];rfl
  refine go ?_;refine bi (k+1) (by omega) ⟨by omega,λj hj=>?_⟩;by_cases e:j=k
  ·subst e;rw[hx,hy,nG.1 h3]
  ·exact hsame j (by omega)
 refine go ?_;refine aa () (hv:=?_) (hp:=trivial);have:xs=ys:=by
  apply jD;intro j;by_cases hj:j<k
  ·exact hsame j hj
  ·rw[gy (by omega),gy (by omega)]
 rw[dU this];rfl
end Go.Proofs.YtoohgkkmdnbnfaaGreatDoor
namespace Go.Proofs.YtoohgkkmdnbnfaaGreatDoor
open Go.Ideal
abbrev J6(P:Program)(fn:Fn)(first cap:List Value)(v:Value)(F:List aB)(b:Bool):Prop:=aV P fn (first++[v]) cap [] F (λ_:Unit=>.bool b) (λ_=>[]) (λ_=>[]) (λ_=>True)
theorem aaQ{fn:Fn}{first cap:List Value}{F1:List aB}{p:Int->Bool}{va:Value}{xs:List Int}(hl:xs.length<9223372036854775808)(hp:∀x∈xs,J6 Tryz.prog fn first cap (.int .i64 x) F1 (p x)):
 aV Tryz.prog (.func 121) [va,.func fn ⟨first⟩ ⟨cap⟩] [] [] (ai ae va xs::F1) (λr:Int=>.int .i64 r) (λ_=>[]) (λ_=>[]) (λr=>(0<=r↔xs.any p=true)):=by
 refine aS _ (aQ 121) λB w0=>?_;refine go ?_;refine bJ (λk=>xs.length - k) (λk:Nat=>[(8,.int .i64 (k:Int))]) (λ_=>[]) (λ_=>[]) (λk=>k<=xs.length/\(xs.take k).any p=false) 0 ⟨by omega,by simp⟩ (body:=?_);rintro k ⟨hk,hno⟩;refine go ?_;refine aG rfl (λh1=>?_) (λh1=>?_)
 ·refine go ?_;intro _ _ x hx;refine ax (hp x (bG hx)) (next:=λ_ _=>?_);refine go ?_;refine uj rfl (λh2=>?_) (λh2=>?_)
  ·refine go ?_;refine aa (k:Int) (hv:=rfl) (hp:=?_);have:xs.any p=true:=List.any_eq_true.2 ⟨x,bG hx,h2⟩;simp[this]
  ·refine go ?_;refine bi (k+1) (by omega) ⟨by omega,?_⟩;rw[take_one hx,List.any_append,hno];simp[h2]
 refine go ?_;have:k=xs.length:=by omega
 subst this;rw[eB]at hno;refine aa (-1) (hv:=rfl) (hp:=?_);rw[hno];simp
theorem aaR{fn:Fn}{first cap:List Value}{F1:List aB}{p:Int->Bool}{va:Value}{xs:List Int}(hl:xs.length<9223372036854775808)(hp:∀x∈xs,J6 Tryz.prog fn first cap (.int .i64 x) F1 (p x)):
 aV Tryz.prog (.func 83) [va,.func fn ⟨first⟩ ⟨cap⟩] [] [] (ai ae va xs::F1) (λ_:Unit=>.bool (xs.any p)) (λ_=>[]) (λ_=>[]) (λ_=>True):=by
 refine aS _ (aQ 83) λB w0=>?_;refine go ?_;refine ax (aaQ hl hp) (next:=λr hr=>?_);refine go ?_;refine aa () (hv:=?_) (hp:=trivial);have:decide (0<=r)=xs.any p:=by
  by_cases h:0<=r
  ·rw[dU h,hr.1 h]
  ·rw[cO h];cases e:xs.any p with
   |false=>rfl
   |true=>exact absurd (hr.2 e) h
 rw[<- this];rfl
theorem aaS{va:Value}{xs:List Int}{z:Int}(hl:xs.length<9223372036854775808):
 aV Tryz.prog (.func 122) [va,.int .i64 z] [] [] [ai ae va xs] (λr:Int=>.int .i64 r) (λ_=>[]) (λ_=>[]) (λr=>(0<=r↔z∈xs)):=by
 refine aS _ (aQ 122) λB w0=>?_;refine go ?_;refine bJ (λk=>xs.length - k) (λk:Nat=>[(8,.int .i64 (k:Int))]) (λ_=>[]) (λ_=>[]) (λk=>k<=xs.length/\z∉xs.take k) 0 ⟨by omega,by simp⟩ (body:=?_);rintro k ⟨hk,hno⟩;refine go ?_;refine aG rfl (λh1=>?_) (λh1=>?_)
 ·refine go ?_;intro _ _ x hx;refine aG rfl (λh2=>?_) (λh2=>?_)
  ·refine go ?_;refine aa (k:Int) (hv:=rfl) (hp:=?_);subst h2;simp[bG hx]
  ·refine go ?_;refine bi (k+1) (by omega) ⟨by omega,?_⟩;rw[take_one hx,eZ,not_or];exact⟨hno,by simpa using h2⟩
 refine go ?_;have:k=xs.length:=by omega
 subst this;rw[eB]at hno;refine aa (-1) (hv:=rfl) (hp:=?_);simp[hno]
theorem RI{va:Value}{xs:List Int}{z:Int}(hl:xs.length<9223372036854775808):dS Tryz.prog 85 [va,.int .i64 z] [ai ae va xs] (.bool (decide (z∈xs))):=by
 refine aS _ (aQ 85) λB w0=>?_;refine go ?_;refine ax (aaS hl) (next:=λr hr=>?_);refine go ?_;refine aa () (hv:=?_) (hp:=trivial);rw[<- rO.2 hr];rfl
theorem aaT{b4 b5:Nat}{lo hi x:Int}:J6 Tryz.prog (.func 84) [] [ptr' b4,ptr' b5] (.int .i64 x) [dF b4 0 [.int .i64 lo],dF b5 0 [.int .i64 hi]] (decide (x<lo\/hi<x)):=by
 refine aS _ (aQ 84) λB w0=>?_;refine go ?_;first|with_reducible refine aN (λh1=>?_) (λh1=>?_)|with_reducible refine aO (λh1=>?_) (λh1=>?_)|with_reducible refine aL (λh1=>?_) (λh1=>?_)
 ·refine go ?_;refine aa () (hv:=?_) (hp:=trivial);rw[show decide (x<lo\/hi<x)=decide (hi<x)from rO.2 ⟨λh=>h.elim (λh=>absurd h h1) id,.inr⟩];rfl
 refine go ?_;refine aa () (hv:=?_) (hp:=trivial);rw[dU (.inl h1)];rfl
def gK(xs:List Int)(lo hi:Int):Bool:=decide (∀x∈xs,lo<=x/\x<=hi)
theorem yE{va:Value}{xs:List Int}{lo hi:Int}(hl:xs.length<9223372036854775808):dS Tryz.prog 52 [va,.int .i64 lo,.int .i64 hi] [ai ae va xs] (.bool (gK xs lo hi)):=by
 refine aS _ (aQ 52) λB w0=>?_;refine go ?_;intro b4 b5;refine aZ (fo (b:=b4)) (h:=?_);refine aZ (fo (b:=b5)) (h:=?_);refine ax (aaR (p:=λx=>decide (x<lo\/hi<x)) hl (λx _=>aaT (b4:=b4) (b5:=b5))) (next:=λ_ _=>?_);refine go ?_;refine aa () (hv:=?_) (hp:=trivial);have:(!xs.any λx=>decide (x<lo\/hi<x))=gK xs lo hi:=by
  rw[List.not_any_eq_all_not,gK];rw[uL];simp only[jR,Bo,Bp,decide_eq_false_iff_not,not_or,Int.not_lt]
 rw[<- this];rfl
structure gQ(g:List (List Int)):Prop where
 len:g.length<=256
 ok:∀(i:Nat) l,g[i]? =some l->∀(k:Nat) n,l[k]? =some n->0<=n/\n<g.length/\n≠i/\(∀m,0<k->l[k - 1]? =some m->m<n)/\∀l',g[n.toNat]? =some l'->(i:Int)∈l'
theorem aaU{vg:Value}{g:List (List Int)}(hll:∀l∈g,l.length<9223372036854775808):aV Tryz.prog (.func 53) [vg] [] [] [ai (aC ae) vg g] (λb:Bool=>.int .i64 (if b then 0 else 120)) (λ_=>[]) (λ_=>[]) (λb=>(b=true↔gQ g)):=by
 refine aS _ (aQ 53) λB w0=>?_;refine go ?_;refine aG rfl (λh1=>?_) (λh1=>?_)
 ·refine go ?_;exact aa false (hv:=rfl) (hp:=⟨(λh=>by cases h),(λh=>by have:=h.len;omega)⟩)
 refine go ?_;refine bJ (λk=>g.length - k) (λk:Nat=>[(12,.int .i64 (k:Int))]) (λ_=>[]) (λ_=>[])
  (λi=>i<=g.length/\∀(i':Nat) l,i'<i->g[i']? =some l->∀(k:Nat) n,l[k]? =some n->0<=n/\n<g.length/\n≠i'/\(∀m,0<k->l[k - 1]? =some m->m<n)/\∀l',g[n.toNat]? =some l'->(i':Int)∈l') 0 ⟨by omega,λi' l h=>by omega⟩ (body:=?_)
 rintro i ⟨hi,hall⟩;refine go ?_;refine aG rfl (λh2=>?_) (λh2=>?_)
 ·refine go ?_;refine dm (aC ae) (next:=λ_ _ l (vl:Value) sI=>?_);have hl1:=hll l (bG sI);refine go ?_;refine bJ (λk=>l.length - k) (λk:Nat=>[(19,.int .i64 (k:Int))]) (λ_=>[]) (λ_=>[])
   (λk=>k<=l.length/\∀(k':Nat) n,k'<k->l[k']? =some n->0<=n/\n<g.length/\n≠i/\(∀m,0<k'->l[k' - 1]? =some m->m<n)/\∀l',g[n.toNat]? =some l'->(i:Int)∈l') 0 ⟨by omega,λk' n h=>by omega⟩ (body:=?_)
  rintro k ⟨hk,hin⟩;refine go ?_;refine aG rfl (λh3=>?_) (λh3=>?_)
  ·refine go ?_;intro _ _ n hn;have hbad:∀(_:¬(0<=n/\n<g.length/\n≠i/\(∀m,0<k->l[k - 1]? =some m->m<n)/\∀l',g[n.toNat]? =some l'->(i:Int)∈l')),¬gQ g:=λh hG=>h (hG.ok i l sI k n hn);first|with_reducible refine aN (λh4=>?_) (λh4=>?_)|with_reducible refine aO (λh4=>?_) (λh4=>?_)|with_reducible refine aL (λh4=>?_) (λh4=>?_)
   rotate_left
   ·refine go ?_;exact aa false (hv:=rfl) (hp:=⟨(λh=>by cases h),λhG=>absurd hG (hbad (λh=>by omega))⟩)
   refine go ?_;first|with_reducible refine aN (λh5=>?_) (λh5=>?_)|with_reducible refine aO (λh5=>?_) (λh5=>?_)|with_reducible refine aL (λh5=>?_) (λh5=>?_)
   rotate_left
   ·refine go ?_;exact aa false (hv:=rfl) (hp:=⟨(λh=>by cases h),λhG=>absurd hG (hbad (λh=>by omega))⟩)
   refine go ?_;first|with_reducible refine aN (λh6=>?_) (λh6=>?_)|with_reducible refine aO (λh6=>?_) (λh6=>?_)|with_reducible refine aL (λh6=>?_) (λh6=>?_)
   rotate_left
   ·refine go ?_;exact aa false (hv:=rfl) (hp:=⟨(λh=>by cases h),λhG=>absurd hG (hbad (λh=>by omega))⟩)
   refine go ?_;obtain⟨n,rfl⟩:=qB (show 0<=n by omega);first|with_reducible refine aN (λh7=>?_) (λh7=>?_)|with_reducible refine aO (λh7=>?_) (λh7=>?_)|with_reducible refine aL (λh7=>?_) (λh7=>?_)
   ·have yF:∀m,0<k->l[k - 1]? =some m->m<(n:Int):=λm hm=>by omega
    refine go ?_;refine dm (aC ae) (next:=λ_ _ l' (J7:Value) hl'=>?_);have yG:=hll l' (bG hl');refine go ?_;refine ax (RI (xs:=l') yG) (next:=λ_ _=>?_);refine go ?_;refine lg rfl (λh9=>?_) (λh9=>?_)
    ·refine go ?_;exact aa false (hv:=rfl) (hp:=⟨(λh=>by cases h),λhG=>absurd hG (hbad (λh=>h9 (h.2.2.2.2 l' (by simpa using hl'))))⟩)
    refine go ?_;refine bi (k+1) (by omega) ⟨by omega,λk' m hk' hm=>?_⟩;by_cases e:k'=k
    ·subst e;rw[hn]at hm;cases hm;refine⟨by omega,by omega,h6,yF,λl2 hl2=>?_⟩;rw[kV]at hl2;rw[hl2]at hl';cases hl';exact h9
    ·exact hin k' m (by omega) hm
   refine go ?_;obtain⟨k,rfl⟩:∃k',k=k'+1:=⟨k - 1,by omega⟩
   intro _ _ m hm;rw[show(((k+1:Nat):Int) - 1).toNat=k by omega]at hm;first|with_reducible refine aN (λh8=>?_) (λh8=>?_)|with_reducible refine aO (λh8=>?_) (λh8=>?_)|with_reducible refine aL (λh8=>?_) (λh8=>?_)
   ·have yF:∀u,0<k+1->l[k+1 - 1]? =some u->u<(n:Int):=λu _ hu=>by
     rw[GA,hm]at hu;cases hu;omega
    refine go ?_;refine dm (aC ae) (next:=λ_ _ l' (J7:Value) hl'=>?_);have yG:=hll l' (bG hl');refine go ?_;refine ax (RI (xs:=l') yG) (next:=λ_ _=>?_);refine go ?_;refine lg rfl (λh9=>?_) (λh9=>?_)
    ·refine go ?_;exact aa false (hv:=rfl) (hp:=⟨(λh=>by cases h),λhG=>absurd hG (hbad (λh=>h9 (h.2.2.2.2 l' (by simpa using hl'))))⟩)
    refine go ?_;refine bi (k+1+1) (by omega) ⟨by omega,λk' m hk' hm=>?_⟩;by_cases e:k'=k+1
    ·subst e;rw[hn]at hm;cases hm;refine⟨by omega,by omega,h6,yF,λl2 hl2=>?_⟩;rw[kV]at hl2;rw[hl2]at hl';cases hl';exact h9
    ·exact hin k' m (by omega) hm
   refine go ?_;refine aa false (hv:=rfl) (hp:=⟨(λh=>by cases h),λhG=>absurd hG (hbad (λh=>by have:=h.2.2.2.1 m (by omega) (by rw[GA];exact hm);omega))⟩)
  refine go ?_;refine bi (i+1) (by omega) ⟨by omega,λi' l2 hi' hl2=>?_⟩;by_cases e:i'=i
  ·subst e;rw[sI]at hl2;cases hl2;exact λk' n hn=>hin k' n (by have:=(bA.1 hn).1;omega) hn
  ·exact hall i' l2 (by omega) hl2
 refine go ?_;refine aa true (hv:=rfl) (hp:=⟨λ_=>⟨by omega,λi' l hl=>hall i' l (by have:=(bA.1 hl).1;omega) hl⟩,λ_=>rfl⟩)
end Go.Proofs.YtoohgkkmdnbnfaaGreatDoor
set_option maxHeartbeats 2000000
namespace Go.Proofs.YtoohgkkmdnbnfaaGreatDoor
open Go.Ideal Kd
noncomputable def RJ:fI:=⟨2,[(.tmp 0)],(.seq (.ops [0] [⟨⟨(some 0),none,(.lG (.const (.slice none 0 0)))⟩,[]⟩]) (.seq (.ops [1,0] [⟨⟨(some 1),none,(.uT 9 8 [(.string ⟨⟨[]⟩⟩),(.string ⟨⟨[]⟩⟩),(.string ⟨⟨[]⟩⟩),(.string ⟨⟨[]⟩⟩),(.string ⟨⟨[]⟩⟩),(.string ⟨⟨[]⟩⟩),(.string ⟨⟨[]⟩⟩),(.string ⟨⟨[]⟩⟩)] [⟨0,⟨1,(.const (.string ⟨⟨[99,101,108,108,115]⟩⟩))⟩⟩,⟨1,⟨1,(.const (.string ⟨⟨[114,111,119,115]⟩⟩))⟩⟩,⟨2,⟨1,(.const (.string ⟨⟨[99,111,108,117,109,110,115]⟩⟩))⟩⟩,⟨3,⟨1,(.const (.string ⟨⟨[100,105,97,103,111,110,97,108,115]⟩⟩))⟩⟩,⟨4,⟨1,(.const (.string ⟨⟨[97,114,111,117,110,100]⟩⟩))⟩⟩,⟨5,⟨1,(.const (.string ⟨⟨[110,101,97,114]⟩⟩))⟩⟩,⟨6,⟨1,(.const (.string ⟨⟨[112,97,105,114,115]⟩⟩))⟩⟩,⟨7,⟨1,(.const (.string ⟨⟨[97,108,108]⟩⟩))⟩⟩])⟩,[]⟩,⟨⟨(some 0),none,(.lG (.tmp 1))⟩,[]⟩]) .ret))⟩
theorem aaV:lM Tryz.prog 207=some RJ:=by kernel_rfl
abbrev dZ:ByteArray->Value:=λs=>.string s
theorem rz:oO Tryz.prog 9 dZ:=YQ (by kernel_rfl)
abbrev qw(e:Int):List PanicEntry:=[{v:=.iface 41 (.int .i64 e),recovered:=false}]
theorem RN{x:lV}:dS Tryz.prog 203 [.agg ⟨[.string x.name,.int .i64 x.value]⟩] [] (.string x.name):=by
 refine aS _ (aQ 203) λB w0=>?_;refine go ?_;intro b;refine go ?_;exact aa () (hv:=rfl) (hp:=trivial)
theorem RO{x:lW}{v:Value}:dS Tryz.prog 205 [.agg ⟨[.string x.name,v]⟩] [] (.string x.name):=by
 refine aS _ (aQ 205) λB w0=>?_;refine go ?_;intro b;refine go ?_;exact aa () (hv:=rfl) (hp:=trivial)
theorem RP{x:ji}:dS Tryz.prog 210 [.agg ⟨[.string x.name,.string x.on,.int .i64 x.family,.int .i64 x.type,.int .i64 x.lo,.int .i64 x.hi]⟩] [] (.string x.name):=by
 refine aS _ (aQ 210) λB w0=>?_;refine go ?_;intro b;refine go ?_;exact aa () (hv:=rfl) (hp:=trivial)
theorem RQ{x:aW}{v1 v2:Value}:dS Tryz.prog 214 [.agg ⟨jX x v1 v2⟩] [] (.string x.name):=by
 refine aS _ (aQ 214) λB w0=>?_;refine go ?_;intro b;refine go ?_;exact aa () (hv:=rfl) (hp:=trivial)
theorem RU{s:ByteArray}:dS Tryz.prog 208 [.string s] [] (.string s):=by
 refine aS _ (aQ 208) λB w0=>?_;refine go ?_;exact aa () (hv:=rfl) (hp:=trivial)
theorem Dc{P:Program}{B:List Nat}{w0:Wd}{kl kl':List OA}{F:List aB}{K:KO}{ds:List Tmp}{rest:List bz}{n:Nat}{l:List (Nat×Value)}{D:List Deferred}{pm:Option FrameMode}{ro:Option Nat}{d:Nat}{g:Option (Tmp×Bool)}
 {α:Type} [DecidableEq α] {aP:α->Value} {kt:TypeId} {zero:Value} {m k:Operand} {b:Nat} {ah:List (α×Value)} (hk:oO P kt aP) (a:α)
 (hit:∀v,bW a ah=some v->a∈ah.map (·.1)->R (λh=>aD P ds rest (act n ((d,.tuple ⟨[v,.bool true]⟩)::l) D pm ro) h K) B w0 kl F)
 (miss:a∉ah.map (·.1)->R (λh=>aD P ds rest (act n ((d,.tuple ⟨[zero,.bool false]⟩)::l) D pm ro) h K) B w0 kl F)
 (hm:ev l m=.map (some b):=by rfl) (ha:ev l k=aP a:=by conv=>lhs;whnf) (hs:aj (fu aP b ah) kl kl':=by exact fE) (hn:Nat.blt d n=true:=by rfl) (hg:bE l g=true:=by rfl):
 R (λh=>aD P ds (⟨⟨some d,g,.lookup kt zero m k true⟩,[]⟩::rest) (act n l D pm ro) h K) B w0 kl F:=by
 refine CP (ok:=true) hk a ?_ hm ha hs hn hg;by_cases h:a∈ah.map (·.1)
 ·obtain⟨v,hv⟩:=CZ h;have e:jA true zero a ah=.tuple ⟨[v,.bool true]⟩:=by unfold jA;rw[hv];rfl
  rw[e];exact hit v hv h
 ·have e:jA true zero a ah=.tuple ⟨[zero,.bool false]⟩:=by unfold jA;rw[oQ h];rfl
  rw[e];exact miss h
theorem nA{α:Type}{ah:List (ByteArray×Value)}{xs:List α}{nm:α->ByteArray}{start k:Nat}{x:α}(hx:xs[k]? =some x):
 (ah++dL ((xs.take k).map nm) start).map (·.1)=ah.map (·.1)++(xs.take k).map nm/\dL ((xs.take (k+1)).map nm) start=dL ((xs.take k).map nm) start++[(nm x,.int .i64 ((start:Int)+(k:Int)))]:=by
 have hk:=(bA.1 hx).1;refine⟨by rw[dM,qm],?_⟩;rw[mg,hx,dM,JM];congr 1;rw[bT,jE,yT (by omega)];simp[dL]
theorem aaW{vs:Value}{xs:List ByteArray}{b start:Nat}{ah:List (ByteArray×Value)}(hl:xs.length<=4096)(hs:start<=4096)(hnd:(ah.map (·.1)).Nodup):
 nS Tryz.prog (.func 206) [vs,.int .i64 (start:Int),.func (.func 208) #[] #[],.map (some b)] [] [fu dZ b ah] [ai bV vs xs] (λy:Bool×List ByteArray=>if y.1=true then .ok (.map (some b))else .dW (qw 161))
  (λy=>[fu dZ b (ah++dL y.2 start)]) (λ_=>[]) (λy=>(y.1=true->y.2=xs/\(ah.map (·.1)++xs).Nodup)/\(y.1=false->¬(ah.map (·.1)++xs).Nodup)):=by
 let nm:ByteArray->ByteArray:=λs=>s
 have hmap:∀l:List ByteArray,l.map nm=l:=λl=>List.map_id' l;suffices h:nS Tryz.prog (.func 206) [vs,.int .i64 (start:Int),.func (.func 208) #[] #[],.map (some b)] [] [fu dZ b ah] [ai bV vs xs] (λy:Bool×List ByteArray=>if y.1=true then .ok (.map (some b))else .dW (qw 161))
  (λy=>[fu dZ b (ah++dL y.2 start)]) (λ_=>[]) (λy=>(y.1=true->y.2=(xs.map nm)/\(ah.map (·.1)++xs.map nm).Nodup)/\(y.1=false->¬(ah.map (·.1)++xs.map nm).Nodup))by
  rw[hmap]at h;exact h
 refine vW _ (aQ 206) λB w0=>?_;refine go ?_;rw[show fu dZ b ah=fu dZ b (ah++dL ((xs.take 0).map nm) start)by simp[dL]];refine bJ (λk=>xs.length - k) (λk:Nat=>[(15,.int .i64 (k:Int))]) (λk=>[fu dZ b (ah++dL ((xs.take k).map nm) start)]) (λ_=>[]) (λk=>k<=xs.length/\(ah.map (·.1)++(xs.take k).map nm).Nodup) 0 ⟨dD _,by simpa using hnd⟩ (body:=?_);rintro k ⟨hk,hall⟩;refine go ?_;refine aG rfl (λh1=>?_) (λh1=>?_)
 ·refine go ?_;refine dm bV (next:=λ_ _ x (y:Unit) hx=>?_);refine go ?_;refine ax (RU (s:=x)) (next:=λ_ _=>?_);refine go ?_;refine Dc rz (nm x) (λv hv hm=>?_) (λhm=>?_)
  ·refine go ?_;refine Ap ?_;refine go ?_;refine xZ (false,(xs.take k).map nm) (hv:=rfl) (hp:=⟨(λh=>by cases h),λ_ hn=>?_⟩);rw[(nA hx).1]at hm;have hsub:(ah.map (·.1)++(xs.take k).map nm++[nm x]).Nodup:=by
    have e:xs.map nm=(xs.take k).map nm++nm x::(xs.drop (k+1)).map nm:=by
     conv=>lhs;rw[<- rH k xs]
     rw[dM];congr 1;rw[rM (bA.1 hx).1,fG,(bA.1 hx).2]
    rw[e,<- dQ]at hn;rw[gM]at hn⊢;exact⟨hn.1,by simp,λa ha c hc=>hn.2.2 a ha c (by rw[bC.1 hc];exact bF ..)⟩
   rw[gM]at hsub;exact hsub.2.2 _ hm _ (bC.2 rfl) rfl
  refine go ?_;refine ax (RU (s:=x)) (next:=λ_ _=>?_);refine go ?_;refine uo rz (nm x) (ah:=ah++dL ((xs.take k).map nm) start) (v:=.int .i64 ((start:Int)+(k:Int))) ?_;have hm2:=hm;rw[(nA hx).1]at hm2;rw[AB hm,dQ,<- (nA (ah:=ah) hx).2];refine go ?_;refine bi (k+1) (by omega) ⟨by omega,?_⟩;rw[mg,hx,dM,<- dQ,gM];refine⟨hall,by simp,λa ha c hc=>?_⟩;have:c=nm x:=by simpa using hc
  subst this;intro e;subst e;exact hm2 ha
 have hkl:k=xs.length:=by omega
 subst hkl;rw[eB]at hall;rw[eB];refine go ?_;exact xY (true,xs.map nm) (hv:=rfl) (hp:=⟨λ_=>⟨rfl,hall⟩,λh=>by cases h⟩)
theorem aaX{vs:Value}{xs:List lV}{b start:Nat}{ah:List (ByteArray×Value)}(hl:xs.length<=4096)(hs:start<=4096)(hnd:(ah.map (·.1)).Nodup):
 nS Tryz.prog (.func 202) [vs,.int .i64 (start:Int),.func (.func 203) #[] #[],.map (some b)] [] [fu dZ b ah] [ai jM vs xs] (λy:Bool×List ByteArray=>if y.1=true then .ok (.map (some b))else .dW (qw 161))
  (λy=>[fu dZ b (ah++dL y.2 start)]) (λ_=>[]) (λy=>(y.1=true->y.2=(xs.map lV.name)/\(ah.map (·.1)++xs.map lV.name).Nodup)/\(y.1=false->¬(ah.map (·.1)++xs.map lV.name).Nodup)):=by
 let nm:lV->ByteArray:=lV.name
 refine vW _ (aQ 202) λB w0=>?_;refine go ?_;rw[show fu dZ b ah=fu dZ b (ah++dL ((xs.take 0).map nm) start)by simp[dL]];refine bJ (λk=>xs.length - k) (λk:Nat=>[(15,.int .i64 (k:Int))]) (λk=>[fu dZ b (ah++dL ((xs.take k).map nm) start)]) (λ_=>[]) (λk=>k<=xs.length/\(ah.map (·.1)++(xs.take k).map nm).Nodup) 0 ⟨dD _,by simpa using hnd⟩ (body:=?_);rintro k ⟨hk,hall⟩;refine go ?_;refine aG rfl (λh1=>?_) (λh1=>?_)
 ·refine go ?_;refine dm jM (next:=λ_ _ x y hx=>?_);refine go ?_;intro b10;refine go ?_;refine ax (RN (x:=x)) (next:=λ_ _=>?_);refine go ?_;refine Dc rz (nm x) (λv hv hm=>?_) (λhm=>?_)
  ·refine go ?_;refine Ap ?_;refine go ?_;refine xZ (false,(xs.take k).map nm) (hv:=rfl) (hp:=⟨(λh=>by cases h),λ_ hn=>?_⟩);rw[(nA hx).1]at hm;have hsub:(ah.map (·.1)++(xs.take k).map nm++[nm x]).Nodup:=by
    have e:xs.map nm=(xs.take k).map nm++nm x::(xs.drop (k+1)).map nm:=by
     conv=>lhs;rw[<- rH k xs]
     rw[dM];congr 1;rw[rM (bA.1 hx).1,fG,(bA.1 hx).2]
    rw[e,<- dQ]at hn;rw[gM]at hn⊢;exact⟨hn.1,by simp,λa ha c hc=>hn.2.2 a ha c (by rw[bC.1 hc];exact bF ..)⟩
   rw[gM]at hsub;exact hsub.2.2 _ hm _ (bC.2 rfl) rfl
  refine go ?_;refine ax (RN (x:=x)) (next:=λ_ _=>?_);refine go ?_;refine uo rz (nm x) (ah:=ah++dL ((xs.take k).map nm) start) (v:=.int .i64 ((start:Int)+(k:Int))) ?_;have hm2:=hm;rw[(nA hx).1]at hm2;rw[AB hm,dQ,<- (nA (ah:=ah) hx).2];refine go ?_;refine bi (k+1) (by omega) ⟨by omega,?_⟩;rw[mg,hx,dM,<- dQ,gM];refine⟨hall,by simp,λa ha c hc=>?_⟩;have:c=nm x:=by simpa using hc
  subst this;intro e;subst e;exact hm2 ha
 have hkl:k=xs.length:=by omega
 subst hkl;rw[eB]at hall;rw[eB];refine go ?_;exact xY (true,xs.map nm) (hv:=rfl) (hp:=⟨λ_=>⟨rfl,hall⟩,λh=>by cases h⟩)
theorem aaY{vs:Value}{xs:List lW}{b start:Nat}{ah:List (ByteArray×Value)}(hl:xs.length<=4096)(hs:start<=4096)(hnd:(ah.map (·.1)).Nodup):
 nS Tryz.prog (.func 204) [vs,.int .i64 (start:Int),.func (.func 205) #[] #[],.map (some b)] [] [fu dZ b ah] [ai iV vs xs] (λy:Bool×List ByteArray=>if y.1=true then .ok (.map (some b))else .dW (qw 161))
  (λy=>[fu dZ b (ah++dL y.2 start)]) (λ_=>[]) (λy=>(y.1=true->y.2=(xs.map lW.name)/\(ah.map (·.1)++xs.map lW.name).Nodup)/\(y.1=false->¬(ah.map (·.1)++xs.map lW.name).Nodup)):=by
 let nm:lW->ByteArray:=lW.name
 refine vW _ (aQ 204) λB w0=>?_;refine go ?_;rw[show fu dZ b ah=fu dZ b (ah++dL ((xs.take 0).map nm) start)by simp[dL]];refine bJ (λk=>xs.length - k) (λk:Nat=>[(15,.int .i64 (k:Int))]) (λk=>[fu dZ b (ah++dL ((xs.take k).map nm) start)]) (λ_=>[]) (λk=>k<=xs.length/\(ah.map (·.1)++(xs.take k).map nm).Nodup) 0 ⟨dD _,by simpa using hnd⟩ (body:=?_);rintro k ⟨hk,hall⟩;refine go ?_;refine aG rfl (λh1=>?_) (λh1=>?_)
 ·refine go ?_;refine dm iV (next:=λ_ _ x y hx=>?_);refine go ?_;intro b10;refine go ?_;refine ax (RO (x:=x) (v:=y)) (next:=λ_ _=>?_);refine go ?_;refine Dc rz (nm x) (λv hv hm=>?_) (λhm=>?_)
  ·refine go ?_;refine Ap ?_;refine go ?_;refine xZ (false,(xs.take k).map nm) (hv:=rfl) (hp:=⟨(λh=>by cases h),λ_ hn=>?_⟩);rw[(nA hx).1]at hm;have hsub:(ah.map (·.1)++(xs.take k).map nm++[nm x]).Nodup:=by
    have e:xs.map nm=(xs.take k).map nm++nm x::(xs.drop (k+1)).map nm:=by
     conv=>lhs;rw[<- rH k xs]
     rw[dM];congr 1;rw[rM (bA.1 hx).1,fG,(bA.1 hx).2]
    rw[e,<- dQ]at hn;rw[gM]at hn⊢;exact⟨hn.1,by simp,λa ha c hc=>hn.2.2 a ha c (by rw[bC.1 hc];exact bF ..)⟩
   rw[gM]at hsub;exact hsub.2.2 _ hm _ (bC.2 rfl) rfl
  refine go ?_;refine ax (RO (x:=x) (v:=y)) (next:=λ_ _=>?_);refine go ?_;refine uo rz (nm x) (ah:=ah++dL ((xs.take k).map nm) start) (v:=.int .i64 ((start:Int)+(k:Int))) ?_;have hm2:=hm;rw[(nA hx).1]at hm2;rw[AB hm,dQ,<- (nA (ah:=ah) hx).2];refine go ?_;refine bi (k+1) (by omega) ⟨by omega,?_⟩;rw[mg,hx,dM,<- dQ,gM];refine⟨hall,by simp,λa ha c hc=>?_⟩;have:c=nm x:=by simpa using hc
  subst this;intro e;subst e;exact hm2 ha
 have hkl:k=xs.length:=by omega
 subst hkl;rw[eB]at hall;rw[eB];refine go ?_;exact xY (true,xs.map nm) (hv:=rfl) (hp:=⟨λ_=>⟨rfl,hall⟩,λh=>by cases h⟩)
theorem aaZ{vs:Value}{xs:List ji}{b start:Nat}{ah:List (ByteArray×Value)}(hl:xs.length<=4096)(hs:start<=4096)(hnd:(ah.map (·.1)).Nodup):
 nS Tryz.prog (.func 209) [vs,.int .i64 (start:Int),.func (.func 210) #[] #[],.map (some b)] [] [fu dZ b ah] [ai dH vs xs] (λy:Bool×List ByteArray=>if y.1=true then .ok (.map (some b))else .dW (qw 161))
  (λy=>[fu dZ b (ah++dL y.2 start)]) (λ_=>[]) (λy=>(y.1=true->y.2=(xs.map ji.name)/\(ah.map (·.1)++xs.map ji.name).Nodup)/\(y.1=false->¬(ah.map (·.1)++xs.map ji.name).Nodup)):=by
 let nm:ji->ByteArray:=ji.name
 refine vW _ (aQ 209) λB w0=>?_;refine go ?_;rw[show fu dZ b ah=fu dZ b (ah++dL ((xs.take 0).map nm) start)by simp[dL]];refine bJ (λk=>xs.length - k) (λk:Nat=>[(15,.int .i64 (k:Int))]) (λk=>[fu dZ b (ah++dL ((xs.take k).map nm) start)]) (λ_=>[]) (λk=>k<=xs.length/\(ah.map (·.1)++(xs.take k).map nm).Nodup) 0 ⟨dD _,by simpa using hnd⟩ (body:=?_);rintro k ⟨hk,hall⟩;refine go ?_;refine aG rfl (λh1=>?_) (λh1=>?_)
 ·refine go ?_;refine dm dH (next:=λ_ _ x y hx=>?_);refine go ?_;intro b10;refine go ?_;refine ax (RP (x:=x)) (next:=λ_ _=>?_);refine go ?_;refine Dc rz (nm x) (λv hv hm=>?_) (λhm=>?_)
  ·refine go ?_;refine Ap ?_;refine go ?_;refine xZ (false,(xs.take k).map nm) (hv:=rfl) (hp:=⟨(λh=>by cases h),λ_ hn=>?_⟩);rw[(nA hx).1]at hm;have hsub:(ah.map (·.1)++(xs.take k).map nm++[nm x]).Nodup:=by
    have e:xs.map nm=(xs.take k).map nm++nm x::(xs.drop (k+1)).map nm:=by
     conv=>lhs;rw[<- rH k xs]
     rw[dM];congr 1;rw[rM (bA.1 hx).1,fG,(bA.1 hx).2]
    rw[e,<- dQ]at hn;rw[gM]at hn⊢;exact⟨hn.1,by simp,λa ha c hc=>hn.2.2 a ha c (by rw[bC.1 hc];exact bF ..)⟩
   rw[gM]at hsub;exact hsub.2.2 _ hm _ (bC.2 rfl) rfl
  refine go ?_;refine ax (RP (x:=x)) (next:=λ_ _=>?_);refine go ?_;refine uo rz (nm x) (ah:=ah++dL ((xs.take k).map nm) start) (v:=.int .i64 ((start:Int)+(k:Int))) ?_;have hm2:=hm;rw[(nA hx).1]at hm2;rw[AB hm,dQ,<- (nA (ah:=ah) hx).2];refine go ?_;refine bi (k+1) (by omega) ⟨by omega,?_⟩;rw[mg,hx,dM,<- dQ,gM];refine⟨hall,by simp,λa ha c hc=>?_⟩;have:c=nm x:=by simpa using hc
  subst this;intro e;subst e;exact hm2 ha
 have hkl:k=xs.length:=by omega
 subst hkl;rw[eB]at hall;rw[eB];refine go ?_;exact xY (true,xs.map nm) (hv:=rfl) (hp:=⟨λ_=>⟨rfl,hall⟩,λh=>by cases h⟩)
theorem aa0{vs:Value}{xs:List aW}{b start:Nat}{ah:List (ByteArray×Value)}(hl:xs.length<=4096)(hs:start<=4096)(hnd:(ah.map (·.1)).Nodup):
 nS Tryz.prog (.func 213) [vs,.int .i64 (start:Int),.func (.func 214) #[] #[],.map (some b)] [] [fu dZ b ah] [ai bq vs xs] (λy:Bool×List ByteArray=>if y.1=true then .ok (.map (some b))else .dW (qw 161))
  (λy=>[fu dZ b (ah++dL y.2 start)]) (λ_=>[]) (λy=>(y.1=true->y.2=(xs.map aW.name)/\(ah.map (·.1)++xs.map aW.name).Nodup)/\(y.1=false->¬(ah.map (·.1)++xs.map aW.name).Nodup)):=by
 let nm:aW->ByteArray:=aW.name
 refine vW _ (aQ 213) λB w0=>?_;refine go ?_;rw[show fu dZ b ah=fu dZ b (ah++dL ((xs.take 0).map nm) start)by simp[dL]];refine bJ (λk=>xs.length - k) (λk:Nat=>[(15,.int .i64 (k:Int))]) (λk=>[fu dZ b (ah++dL ((xs.take k).map nm) start)]) (λ_=>[]) (λk=>k<=xs.length/\(ah.map (·.1)++(xs.take k).map nm).Nodup) 0 ⟨dD _,by simpa using hnd⟩ (body:=?_);rintro k ⟨hk,hall⟩;refine go ?_;refine aG rfl (λh1=>?_) (λh1=>?_)
 ·refine go ?_;refine dm bq (next:=λ_ _ x y hx=>?_);refine go ?_;intro b10;refine go ?_;refine ax (RQ (x:=x) (v1:=y.1) (v2:=y.2)) (next:=λ_ _=>?_);refine go ?_;refine Dc rz (nm x) (λv hv hm=>?_) (λhm=>?_)
  ·refine go ?_;refine Ap ?_;refine go ?_;refine xZ (false,(xs.take k).map nm) (hv:=rfl) (hp:=⟨(λh=>by cases h),λ_ hn=>?_⟩);rw[(nA hx).1]at hm;have hsub:(ah.map (·.1)++(xs.take k).map nm++[nm x]).Nodup:=by
    have e:xs.map nm=(xs.take k).map nm++nm x::(xs.drop (k+1)).map nm:=by
     conv=>lhs;rw[<- rH k xs]
     rw[dM];congr 1;rw[rM (bA.1 hx).1,fG,(bA.1 hx).2]
    rw[e,<- dQ]at hn;rw[gM]at hn⊢;exact⟨hn.1,by simp,λa ha c hc=>hn.2.2 a ha c (by rw[bC.1 hc];exact bF ..)⟩
   rw[gM]at hsub;exact hsub.2.2 _ hm _ (bC.2 rfl) rfl
  refine go ?_;refine ax (RQ (x:=x) (v1:=y.1) (v2:=y.2)) (next:=λ_ _=>?_);refine go ?_;refine uo rz (nm x) (ah:=ah++dL ((xs.take k).map nm) start) (v:=.int .i64 ((start:Int)+(k:Int))) ?_;have hm2:=hm;rw[(nA hx).1]at hm2;rw[AB hm,dQ,<- (nA (ah:=ah) hx).2];refine go ?_;refine bi (k+1) (by omega) ⟨by omega,?_⟩;rw[mg,hx,dM,<- dQ,gM];refine⟨hall,by simp,λa ha c hc=>?_⟩;have:c=nm x:=by simpa using hc
  subst this;intro e;subst e;exact hm2 ha
 have hkl:k=xs.length:=by omega
 subst hkl;rw[eB]at hall;rw[eB];refine go ?_;exact xY (true,xs.map nm) (hv:=rfl) (hp:=⟨λ_=>⟨rfl,hall⟩,λh=>by cases h⟩)
end Go.Proofs.YtoohgkkmdnbnfaaGreatDoor
namespace Go.Proofs.YtoohgkkmdnbnfaaGreatDoor
open Go.Ideal Kd
noncomputable def J8:fI:=⟨9,[],(.seq (.ops [3,2] [⟨⟨(some 3),none,.recover⟩,[]⟩,⟨⟨(some 2),none,(.lG (.tmp 3))⟩,[]⟩]) (.seq (.ops [4,5] [⟨⟨(some 4),none,(.mv (.tmp 2))⟩,[]⟩,⟨⟨(some 5),none,(.bin .neq 20 (.tmp 4) (.const .nilIface))⟩,[]⟩]) (.cond (.tmp 5) (.ops [6,7,8] [⟨⟨(some 6),none,(.build [(.string ⟨⟨[]⟩⟩),(.int .i64 0),(.int .i64 0),(.int .i64 0),(.int .i64 0),(.slice none 0 0),(.slice none 0 0),(.slice none 0 0),(.slice none 0 0),(.slice none 0 0)] [])⟩,[]⟩,⟨⟨(some 7),none,(.mv (.tmp 2))⟩,[]⟩,⟨⟨(some 8),none,(.DY 41 (.int .i64 0) false (.tmp 7))⟩,[]⟩,⟨⟨none,none,(.store 10 (.tmp 0) (.tmp 6))⟩,[]⟩,⟨⟨none,none,(.store 1 (.tmp 1) (.tmp 8))⟩,[]⟩]) .skip)))⟩
theorem RV:lM Tryz.prog 201=some J8:=by kernel_rfl
section
variable {P:Program} {B:List Nat} {w0:Wd} {kl kl':List OA} {F:List aB} {K:KO} {ds:List Tmp} {rest:List bz} {n:Nat} {l:List (Nat×Value)} {D:List Deferred} {pm:Option FrameMode} {ro:Option Nat} {d:Nat} {g:Option (Tmp×Bool)}
theorem RX{α:Type}[DecidableEq α]{aP:α->Value}{kt:TypeId}{zero:Value}{m k:Operand}{b:Nat}{ah:List (α×Value)}(hk:oO P kt aP)(a:α)
 (hit:∀v,bW a ah=some v->a∈ah.map (·.1)->R (λh=>aD P ds rest (act n ((d,.tuple ⟨[v,.bool true]⟩)::l) D pm ro) h K) B w0 kl F)
 (miss:a∉ah.map (·.1)->R (λh=>aD P ds rest (act n ((d,.tuple ⟨[zero,.bool false]⟩)::l) D pm ro) h K) B w0 kl F)
 (hm:ev l m=.map (some b):=by rfl) (ha:ev l k=aP a:=by conv=>lhs;whnf) (hf:qd aP b ah∈F:=by exact um) (hn:Nat.blt d n=true:=by rfl) (hg:bE l g=true:=by rfl):
 R (λh=>aD P ds (⟨⟨some d,g,.lookup kt zero m k true⟩,[]⟩::rest) (act n l D pm ro) h K) B w0 kl F:=by
 refine Qg (ok:=true) hk a ?_ hm ha hf hn hg;by_cases h:a∈ah.map (·.1)
 ·obtain⟨v,hv⟩:=CZ h;have e:jA true zero a ah=.tuple ⟨[v,.bool true]⟩:=by unfold jA;rw[hv];rfl
  rw[e];exact hit v hv h
 ·have e:jA true zero a ah=.tuple ⟨[zero,.bool false]⟩:=by unfold jA;rw[oQ h];rfl
  rw[e];exact miss h
theorem J9{α:Type}(E:Enc α){v:Value}{aF:List (α×E.Y)}{Q:IH->Prop}(h0:aF=[]->∀c,v=.slice none 0 c->R Q B w0 kl F)(h1:aF=[]->∀i o f c,v=.slice (some ⟨i,o,some f⟩) 0 c->R Q B w0 kl F)
 (h2:0<aF.length->∀i o f c,v=.slice (some ⟨i,o,some f⟩) aF.length c->R Q B w0 kl F) (hf:qg E v aF∈F:=by exact um):R Q B w0 kl F:=λw s=>by
 rcases s.facts _ hf with⟨e,a,c,hv,hg⟩|⟨i,o,f,c,cells,⟨hv,_⟩,_⟩
 ·match a,hv,hg with
  |none,hv,_=>exact h0 e c hv w s
  |some ⟨i,o,some f⟩,hv,_=>exact h1 e i o f c hv w s
 ·by_cases hx:aF=[]
  ·subst hx;exact h1 rfl i o f c hv w s
  ·exact h2 (DI.2 hx) i o f c hv w s
theorem Ka{α:Type}(E:Enc α){Q:IH->Prop}(h:R Q B w0 (ar E (.slice none 0 0) []::kl) F):R Q B w0 kl F:=λw s=>by
 obtain⟨S,h1,h2,h3⟩:=s.own;exact h w ⟨s.agree,s.le,s.dR,⟨S,⟨[],S,.inl ⟨rfl,⟨none,rfl,trivial⟩,rfl⟩,h1,rfl⟩,h2,h3⟩,s.facts⟩
end
theorem aa1:aV Tryz.prog (.func 207) [] [] [] [] (λv:Value=>v) (λ_=>[]) (λv=>[ai bV v yu]) (λ_=>True):=by
 refine aS RJ aaV λB w0=>?_;refine go ?_;intro b;refine go ?_;refine sF (b:=b) (m:=8) (f:=0) bV (aF:=yu.map λs=>(s,())) rfl (.inl rfl) ?_ (hk:=aj.here);refine EY (E:=bV) ?_ (λw hw p hp f hf=>by cases hf);exact aa (.slice (some ⟨b,0,some 0⟩) 8 8) (hv:=rfl) (hp:=trivial) (hF:=.cons (bB _ (bF ..)) .nil)
theorem FN{b:Nat}{s:ByteArray}{ah:List (ByteArray×Value)}:
 nS Tryz.prog (.func 212) [.map (some b),.string s] [] [] [qd dZ b ah] (λy:Option Value=>match y with|some v=>.ok v|none=>.dW (qw 160)) (λ_=>[]) (λ_=>[]) (λy=>y=bW s ah):=by
 refine vW _ (aQ 212) λB w0=>?_;refine go ?_;refine RX rz s (λv hv hm=>?_) (λhm=>?_)
 ·refine go ?_;exact xY (some v) (hv:=rfl) (hp:=hv.symm)
 ·refine go ?_;refine Ap ?_;refine go ?_;exact xZ none (hv:=rfl) (hp:=(oQ hm).symm)
theorem aa2{dA l:List ByteArray}{k:Nat}{s:ByteArray}(h:l[k]? =some s):jl dA (l.take (k+1))=jl dA (l.take k)|||1<<<gX s dA:=by
 unfold jl;rw[mg,h,DU];rfl
theorem RY{dA:List ByteArray}(hs:dA.length<=16):∀(l:List ByteArray) (m:Nat),(∀s∈l,s∈dA)->m<65536->l.foldl (λm s=>m|||1<<<gX s dA) m<65536
 |[],m,_,hm=>hm
 |s::l,m,h,hm=>by
  rw[rE];refine RY hs l _ (λx hx=>h x (bB _ hx)) ?_;have h1:=yo (h s (bF ..));have h2:1<<<gX s dA<2^16:=by
   rw[Gw,uQ];exact GG (by omega) (by omega)
  exact Nat.or_lt_two_pow (n:=16) hm h2
theorem RZ{b4 bs:Nat}{vl:Value}{dA l:List ByteArray}(hs:dA.length<=16)(hl:l.length<9223372036854775808):
 nS Tryz.prog (.func 216) [vl] [ptr' b4] [] [dF b4 0 [.map (some bs)],qd dZ bs (dL dA 0),ai bV vl l] (λy:Bool=>if y=true then .ok (.int .i64 (jl dA l:Int))else .dW (qw 160)) (λ_=>[]) (λ_=>[])
  (λy=>(y=true->∀s∈l,s∈dA)/\(y=false->¬∀s∈l,s∈dA)):=by
 refine vW _ (aQ 216) λB w0=>?_;refine go ?_;refine bJ (λk=>l.length - k) (λk:Nat=>[(8,.int .i64 (k:Int)),(3,.int .i64 (jl dA (l.take k):Int))]) (λ_=>[]) (λ_=>[]) (λk=>k<=l.length/\∀s∈l.take k,s∈dA) 0 ⟨dD _,by simp⟩ (body:=?_);rintro k ⟨hk,hall⟩;refine go ?_;refine aG rfl (λh1=>?_) (λh1=>?_)
 ·refine go ?_;refine dm bV (next:=λ_ _ x (y:Unit) hx=>?_);refine go ?_;refine qX (FN (b:=bs) (s:=x) (ah:=dL dA 0)) (λy v hy e=>?_) (λy ch hy e=>?_)
  ·have hm:x∈dA:=by
    by_cases h:x∈dA
    ·exact h
    ·rw[oQ (by rw[qm];exact h)]at hy;subst hy;cases e
   rw[uw hm]at hy;subst hy;injection e with e;subst e;have hp:=yo hm;have h2:1<<<gX x dA<2^16:=by
    rw[Gw,uQ];exact GG (by omega) (by omega)
   have h3:=RY hs (l.take k) 0 hall (by omega);rw[eG];refine(fP rfl rfl (qa (a:=1) (b:=gX x dA) rfl rfl (by omega) (by omega))).h ?_;refine(fP rfl rfl (YC (a:=jl dA (l.take k)) (b:=1<<<gX x dA) rfl rfl (Nat.lt_trans h3 (by omega)) (by omega))).h ?_;refine go ?_;refine bi (k+1) (by omega) ⟨by omega,λs hs'=>?_⟩ (hl:=⟨rfl,by rw[aa2 hx];rfl,by repeat (first|exact trivial|refine⟨rfl,?_⟩)⟩);rw[mg,hx]at hs';rcases eZ.1 hs' with h|h
   ·exact hall s h
   ·have:s=x:=by simpa using h
    rw[this];exact hm
  ·refine go ?_;have hm:x∉dA:=by
    intro h;rw[uw h]at hy;subst hy;cases e
   have hch:ch=qw 160:=by
    rw[oQ (by rw[qm];exact hm)]at hy;subst hy;injection e with e;exact e.symm
   subst hch;exact xZ false (hv:=rfl) (hp:=⟨(λh=>by cases h),λ_ h=>hm (h x (bG hx))⟩)
 have hkl:k=l.length:=by omega
 subst hkl;rw[eB]at hall⊢;refine go ?_;exact xY true (hv:=rfl) (hp:=⟨λ_=>hall,λh=>by cases h⟩)
theorem aa3{v:Value}{aF:List (ji×dH.Y)}(hl:aF.length<=4096):aV Tryz.prog (.func 211) [v] [] [] [qg dH v aF] (λv':Value=>v') (λv'=>[ar dH v' aF]) (λ_=>[]) (λ_=>True):=by
 refine aS _ (aQ 211) λB w0=>?_;refine J9 (v:=v) (aF:=aF) dH (λe c ev=>?_) (λe i o f c ev=>?_) (λhne i o f c ev=>?_)
 ·subst e ev;refine go ?_;refine(fP rfl rfl (EZ (e:=115) (by kernel_rfl) rfl)).h ?_;refine go ?_;refine Ka dH ?_;exact aa (.slice none 0 0) (hv:=rfl) (hp:=trivial)
 ·subst e ev;refine go ?_;refine(fP rfl rfl (Au (e:=115) (by kernel_rfl) rfl)).h ?_;refine go ?_;intro b;refine go ?_;refine JC (b:=b) ?_;refine go ?_;refine sF (b:=b) (m:=0) (f:=0) dH (aF:=[]) rfl (.inl rfl) ?_ (hk:=aj.here);exact aa (.slice (some ⟨b,0,some 0⟩) 0 0) (hv:=rfl) (hp:=trivial)
 ·subst ev;refine go ?_;refine(fP rfl rfl (Au (e:=115) (by kernel_rfl) rfl)).h ?_;refine go ?_;intro b;refine go ?_;refine JD (b:=b) dH aF hne (by omega) (λb'=>?_);refine go ?_;refine sF (b:=b') (m:=aF.length) (f:=dH.n) dH (aF:=aF) rfl (.inr rfl) ?_ (hk:=aj.here);exact aa (.slice (some ⟨b',0,some dH.n⟩) aF.length aF.length) (hv:=rfl) (hp:=trivial)
theorem aa4{v:Value}{aF:List (aW×bq.Y)}(hl:aF.length<=4096):aV Tryz.prog (.func 215) [v] [] [] [qg bq v aF] (λv':Value=>v') (λv'=>[ar bq v' aF]) (λ_=>[]) (λ_=>True):=by
 refine aS _ (aQ 215) λB w0=>?_;refine J9 (v:=v) (aF:=aF) bq (λe c ev=>?_) (λe i o f c ev=>?_) (λhne i o f c ev=>?_)
 ·subst e ev;refine go ?_;refine(fP rfl rfl (EZ (e:=71) (by kernel_rfl) rfl)).h ?_;refine go ?_;refine Ka bq ?_;exact aa (.slice none 0 0) (hv:=rfl) (hp:=trivial)
 ·subst e ev;refine go ?_;refine(fP rfl rfl (Au (e:=71) (by kernel_rfl) rfl)).h ?_;refine go ?_;intro b;refine go ?_;refine JC (b:=b) ?_;refine go ?_;refine sF (b:=b) (m:=0) (f:=0) bq (aF:=[]) rfl (.inl rfl) ?_ (hk:=aj.here);exact aa (.slice (some ⟨b,0,some 0⟩) 0 0) (hv:=rfl) (hp:=trivial)
 ·subst ev;refine go ?_;refine(fP rfl rfl (Au (e:=71) (by kernel_rfl) rfl)).h ?_;refine go ?_;intro b;refine go ?_;refine JD (b:=b) bq aF hne (by omega) (λb'=>?_);refine go ?_;refine sF (b:=b') (m:=aF.length) (f:=bq.n) bq (aF:=aF) rfl (.inr rfl) ?_ (hk:=aj.here);exact aa (.slice (some ⟨b',0,some bq.n⟩) aF.length aF.length) (hv:=rfl) (hp:=trivial)
end Go.Proofs.YtoohgkkmdnbnfaaGreatDoor
set_option maxHeartbeats 4000000
namespace Go.Proofs.YtoohgkkmdnbnfaaGreatDoor
open Go.Ideal Kd
noncomputable def FO:fI:=⟨128,[(.nK 10 2),(.cell1 3)],(.seq (.ops [1,2,3] [⟨⟨(some 1),none,(.box (.tmp 0) 28)⟩,[]⟩,⟨⟨(some 2),none,(.new [(.string ⟨⟨[]⟩⟩),(.int .i64 0),(.int .i64 0),(.int .i64 0),(.int .i64 0),(.slice none 0 0),(.slice none 0 0),(.slice none 0 0),(.slice none 0 0),(.slice none 0 0)] 28)⟩,[]⟩,⟨⟨(some 3),none,(.new [(.int .i64 0)] 41)⟩,[]⟩]) (.seq (.ops [11] [⟨⟨(some 11),none,(.yX (.func 201) [] [(.tmp 2),(.tmp 3)])⟩,[]⟩,⟨⟨none,none,(.dcall (.tmp 11) [])⟩,[]⟩]) (.seq (.seq (.ops [12,13,14,15] [⟨⟨(some 12),none,(.dV 6 (.tmp 1))⟩,[]⟩,⟨⟨(some 13),none,(.fH (.tmp 12))⟩,[]⟩,⟨⟨(some 14),none,(.sW (.tmp 13))⟩,[]⟩,⟨⟨(some 15),none,(.bin .gtr 3 (.tmp 14) (.const (.int .i64 16)))⟩,[]⟩]) (.cond (.tmp 15) (.seq (.ops [16] [⟨⟨(some 16),none,(.nH 10 (.tmp 2))⟩,[]⟩,⟨⟨none,none,(.store 10 (.tmp 2) (.tmp 16))⟩,[]⟩,⟨⟨none,none,(.store 1 (.tmp 3) (.const (.int .i64 2)))⟩,[]⟩]) .ret) .skip)) (.seq (.ops [17,18,19,20,4] [⟨⟨(some 17),none,(.dV 6 (.tmp 1))⟩,[]⟩,⟨⟨(some 18),none,(.fH (.tmp 17))⟩,[]⟩,⟨⟨(some 19),none,.rQ⟩,[]⟩,⟨⟨(some 20),none,(.call (.func 202) [(.tmp 18),(.const (.int .i64 0)),(.func 203),(.tmp 19)])⟩,[]⟩,⟨⟨(some 4),none,(.new [(.map none)] 245)⟩,[]⟩,⟨⟨none,none,(.store 1 (.tmp 4) (.tmp 20))⟩,[]⟩]) (.seq (.ops [21,22,23,24,25,26,5] [⟨⟨(some 21),none,(.dV 7 (.tmp 1))⟩,[]⟩,⟨⟨(some 22),none,(.fH (.tmp 21))⟩,[]⟩,⟨⟨(some 24),none,.rQ⟩,[]⟩,⟨⟨(some 23),none,(.call (.func 207) [])⟩,[⟨(some 22),none,(.fH (.tmp 21))⟩]⟩,⟨⟨(some 25),none,(.call (.func 206) [(.tmp 23),(.const (.int .i64 0)),(.func 208),(.tmp 24)])⟩,[⟨(some 22),none,(.fH (.tmp 21))⟩]⟩,⟨⟨(some 26),none,(.call (.func 204) [(.tmp 22),(.const (.int .i64 8)),(.func 205),(.tmp 25)])⟩,[]⟩,⟨⟨(some 5),none,(.lG (.tmp 26))⟩,[]⟩]) (.seq (.ops [27,28,29,30,6] [⟨⟨(some 27),none,(.dV 8 (.tmp 1))⟩,[]⟩,⟨⟨(some 28),none,(.fH (.tmp 27))⟩,[]⟩,⟨⟨(some 29),none,.rQ⟩,[]⟩,⟨⟨(some 30),none,(.call (.func 209) [(.tmp 28),(.const (.int .i64 0)),(.func 210),(.tmp 29)])⟩,[]⟩,⟨⟨(some 6),none,(.lG (.tmp 30))⟩,[]⟩]) (.seq (.ops [31,32,33,34] [⟨⟨(some 31),none,(.dV 8 (.tmp 1))⟩,[]⟩,⟨⟨(some 32),none,(.fH (.tmp 31))⟩,[]⟩,⟨⟨(some 33),none,(.call (.func 211) [(.tmp 32)])⟩,[]⟩,⟨⟨(some 34),none,(.dV 8 (.tmp 1))⟩,[]⟩,⟨⟨none,none,(.store 1 (.tmp 34) (.tmp 33))⟩,[]⟩]) (.seq (.seq (.ops [35,36,37,38] [⟨⟨(some 35),none,(.dV 8 (.tmp 1))⟩,[]⟩,⟨⟨(some 36),none,(.fH (.tmp 35))⟩,[]⟩,⟨⟨(some 37),none,(.sW (.tmp 36))⟩,[]⟩,⟨⟨(some 38),none,(.mv (.const (.int .i64 0)))⟩,[]⟩]) (.block 0 (.loop (.seq (.ops [39] [⟨⟨(some 39),none,(.bin .lss 3 (.tmp 38) (.tmp 37))⟩,[]⟩]) (.seq (.cond (.tmp 39) .skip (.exit 0)) (.seq (.block 1 (.seq (.ops [40,7] [⟨⟨(some 40),none,(.mv (.tmp 38))⟩,[]⟩,⟨⟨(some 7),none,(.lG (.tmp 40))⟩,[]⟩]) (.ops [41,42,43,44,45,46,47,48,49,50,51,52,53] [⟨⟨(some 41),none,(.dV 8 (.tmp 1))⟩,[]⟩,⟨⟨(some 42),none,(.fH (.tmp 41))⟩,[]⟩,⟨⟨(some 43),none,(.mv (.tmp 7))⟩,[]⟩,⟨⟨(some 44),none,(.mv (.tmp 5))⟩,[]⟩,⟨⟨(some 45),none,(.dV 8 (.tmp 1))⟩,[]⟩,⟨⟨(some 46),none,(.fH (.tmp 45))⟩,[]⟩,⟨⟨(some 47),none,(.mv (.tmp 7))⟩,[]⟩,⟨⟨(some 48),none,(.mh 6 (.tmp 46) (.tmp 47))⟩,[]⟩,⟨⟨(some 49),none,(.dV 1 (.tmp 48))⟩,[]⟩,⟨⟨(some 50),none,(.fH (.tmp 49))⟩,[]⟩,⟨⟨(some 51),none,(.call (.func 212) [(.tmp 44),(.tmp 50)])⟩,[⟨(some 42),none,(.fH (.tmp 41))⟩]⟩,⟨⟨(some 52),none,(.mh 6 (.tmp 42) (.tmp 43))⟩,[]⟩,⟨⟨(some 53),none,(.dV 2 (.tmp 52))⟩,[]⟩,⟨⟨none,none,(.store 1 (.tmp 53) (.tmp 51))⟩,[]⟩]))) (.ops [54,38] [⟨⟨(some 54),none,(.bin .add 3 (.tmp 38) (.const (.int .i64 1)))⟩,[]⟩,⟨⟨(some 38),none,(.mv (.tmp 54))⟩,[]⟩]))))))) (.seq (.ops [55,56,57,58] [⟨⟨(some 55),none,(.dV 9 (.tmp 1))⟩,[]⟩,⟨⟨(some 56),none,(.fH (.tmp 55))⟩,[]⟩,⟨⟨(some 57),none,.rQ⟩,[]⟩,⟨⟨(some 58),none,(.call (.func 213) [(.tmp 56),(.const (.int .i64 0)),(.func 214),(.tmp 57)])⟩,[]⟩]) (.seq (.ops [59,60,61,62] [⟨⟨(some 59),none,(.dV 9 (.tmp 1))⟩,[]⟩,⟨⟨(some 60),none,(.fH (.tmp 59))⟩,[]⟩,⟨⟨(some 61),none,(.call (.func 215) [(.tmp 60)])⟩,[]⟩,⟨⟨(some 62),none,(.dV 9 (.tmp 1))⟩,[]⟩,⟨⟨none,none,(.store 1 (.tmp 62) (.tmp 61))⟩,[]⟩]) (.seq (.ops [63,8] [⟨⟨(some 63),none,(.yX (.func 216) [] [(.tmp 4)])⟩,[]⟩,⟨⟨(some 8),none,(.lG (.tmp 63))⟩,[]⟩]) (.seq (.seq (.ops [64,65,66,67] [⟨⟨(some 64),none,(.dV 9 (.tmp 1))⟩,[]⟩,⟨⟨(some 65),none,(.fH (.tmp 64))⟩,[]⟩,⟨⟨(some 66),none,(.sW (.tmp 65))⟩,[]⟩,⟨⟨(some 67),none,(.mv (.const (.int .i64 0)))⟩,[]⟩]) (.block 2 (.loop (.seq (.ops [68] [⟨⟨(some 68),none,(.bin .lss 3 (.tmp 67) (.tmp 66))⟩,[]⟩]) (.seq (.cond (.tmp 68) .skip (.exit 2)) (.seq (.block 3 (.seq (.ops [69,9] [⟨⟨(some 69),none,(.mv (.tmp 67))⟩,[]⟩,⟨⟨(some 9),none,(.lG (.tmp 69))⟩,[]⟩]) (.seq (.ops [70,71,72,73,10] [⟨⟨(some 70),none,(.dV 9 (.tmp 1))⟩,[]⟩,⟨⟨(some 71),none,(.fH (.tmp 70))⟩,[]⟩,⟨⟨(some 72),none,(.mv (.tmp 9))⟩,[]⟩,⟨⟨(some 73),none,(.mh 12 (.tmp 71) (.tmp 72))⟩,[]⟩,⟨⟨(some 10),none,(.lG (.tmp 73))⟩,[]⟩]) (.seq (.ops [74,75,76,77,78,79] [⟨⟨(some 74),none,(.mv (.tmp 10))⟩,[]⟩,⟨⟨(some 75),none,(.mv (.tmp 10))⟩,[]⟩,⟨⟨(some 76),none,(.jF (.tmp 74))⟩,[]⟩,⟨⟨(some 77),none,(.dV 3 (.tmp 76))⟩,[]⟩,⟨⟨none,none,(.store 1 (.tmp 77) (.const (.int .i64 0)))⟩,[]⟩,⟨⟨(some 78),none,(.jF (.tmp 75))⟩,[]⟩,⟨⟨(some 79),none,(.dV 11 (.tmp 78))⟩,[]⟩,⟨⟨none,none,(.store 1 (.tmp 79) (.const (.int .i64 (-1))))⟩,[]⟩]) (.seq (.seq (.ops [80,81,82,83,84] [⟨⟨(some 80),none,(.mv (.tmp 10))⟩,[]⟩,⟨⟨(some 81),none,(.jF (.tmp 80))⟩,[]⟩,⟨⟨(some 82),none,(.dV 1 (.tmp 81))⟩,[]⟩,⟨⟨(some 83),none,(.fH (.tmp 82))⟩,[]⟩,⟨⟨(some 84),none,(.bin .neq 9 (.tmp 83) (.const (.string ⟨⟨[]⟩⟩)))⟩,[]⟩]) (.cond (.tmp 84) (.ops [85,86,87,88,89,90,91,92,93] [⟨⟨(some 85),none,(.mv (.tmp 10))⟩,[]⟩,⟨⟨(some 86),none,(.mv (.tmp 5))⟩,[]⟩,⟨⟨(some 87),none,(.mv (.tmp 10))⟩,[]⟩,⟨⟨(some 88),none,(.jF (.tmp 87))⟩,[]⟩,⟨⟨(some 89),none,(.dV 1 (.tmp 88))⟩,[]⟩,⟨⟨(some 90),none,(.fH (.tmp 89))⟩,[]⟩,⟨⟨(some 91),none,(.call (.func 212) [(.tmp 86),(.tmp 90)])⟩,[]⟩,⟨⟨(some 92),none,(.jF (.tmp 85))⟩,[]⟩,⟨⟨(some 93),none,(.dV 3 (.tmp 92))⟩,[]⟩,⟨⟨none,none,(.store 1 (.tmp 93) (.tmp 91))⟩,[]⟩]) .skip)) (.seq (.ops [94,95,96,97,98,99,100,101,102,103,104,105,106,107,108,109,110,111] [⟨⟨(some 94),none,(.mv (.tmp 10))⟩,[]⟩,⟨⟨(some 95),none,(.mv (.tmp 10))⟩,[]⟩,⟨⟨(some 96),none,(.mv (.tmp 8))⟩,[]⟩,⟨⟨(some 97),none,(.mv (.tmp 10))⟩,[]⟩,⟨⟨(some 98),none,(.jF (.tmp 97))⟩,[]⟩,⟨⟨(some 99),none,(.dV 4 (.tmp 98))⟩,[]⟩,⟨⟨(some 100),none,(.fH (.tmp 99))⟩,[]⟩,⟨⟨(some 102),none,(.mv (.tmp 8))⟩,[]⟩,⟨⟨(some 103),none,(.mv (.tmp 10))⟩,[]⟩,⟨⟨(some 104),none,(.jF (.tmp 103))⟩,[]⟩,⟨⟨(some 105),none,(.dV 5 (.tmp 104))⟩,[]⟩,⟨⟨(some 106),none,(.fH (.tmp 105))⟩,[]⟩,⟨⟨(some 101),none,(.call (.tmp 96) [(.tmp 100)])⟩,[⟨(some 106),none,(.fH (.tmp 105))⟩]⟩,⟨⟨(some 107),none,(.call (.tmp 102) [(.tmp 106)])⟩,[]⟩,⟨⟨(some 108),none,(.jF (.tmp 94))⟩,[]⟩,⟨⟨(some 109),none,(.dV 6 (.tmp 108))⟩,[]⟩,⟨⟨none,none,(.store 1 (.tmp 109) (.tmp 101))⟩,[]⟩,⟨⟨(some 110),none,(.jF (.tmp 95))⟩,[]⟩,⟨⟨(some 111),none,(.dV 7 (.tmp 110))⟩,[]⟩,⟨⟨none,none,(.store 1 (.tmp 111) (.tmp 107))⟩,[]⟩]) (.seq (.ops [112,113,114,115,116] [⟨⟨(some 112),none,(.mv (.tmp 10))⟩,[]⟩,⟨⟨(some 113),none,(.jF (.tmp 112))⟩,[]⟩,⟨⟨(some 114),none,(.dV 10 (.tmp 113))⟩,[]⟩,⟨⟨(some 115),none,(.fH (.tmp 114))⟩,[]⟩,⟨⟨(some 116),none,(.bin .neq 9 (.tmp 115) (.const (.string ⟨⟨[]⟩⟩)))⟩,[]⟩]) (.cond (.tmp 116) (.ops [117,118,119,120,121,122,123,124,125] [⟨⟨(some 117),none,(.mv (.tmp 10))⟩,[]⟩,⟨⟨(some 118),none,(.mv (.tmp 6))⟩,[]⟩,⟨⟨(some 119),none,(.mv (.tmp 10))⟩,[]⟩,⟨⟨(some 120),none,(.jF (.tmp 119))⟩,[]⟩,⟨⟨(some 121),none,(.dV 10 (.tmp 120))⟩,[]⟩,⟨⟨(some 122),none,(.fH (.tmp 121))⟩,[]⟩,⟨⟨(some 123),none,(.call (.func 212) [(.tmp 118),(.tmp 122)])⟩,[]⟩,⟨⟨(some 124),none,(.jF (.tmp 117))⟩,[]⟩,⟨⟨(some 125),none,(.dV 11 (.tmp 124))⟩,[]⟩,⟨⟨none,none,(.store 1 (.tmp 125) (.tmp 123))⟩,[]⟩]) .skip)))))))) (.ops [126,67] [⟨⟨(some 126),none,(.bin .add 3 (.tmp 67) (.const (.int .i64 1)))⟩,[]⟩,⟨⟨(some 67),none,(.mv (.tmp 126))⟩,[]⟩]))))))) (.seq (.ops [127] [⟨⟨(some 127),none,(.nH 10 (.tmp 1))⟩,[]⟩,⟨⟨none,none,(.store 10 (.tmp 2) (.tmp 127))⟩,[]⟩,⟨⟨none,none,(.store 1 (.tmp 3) (.const (.int .i64 0)))⟩,[]⟩]) .ret)))))))))))))⟩
theorem aa5:lM Tryz.prog 150=some FO:=by kernel_rfl
theorem nC(a b:ByteArray):(a.toList==b.toList)=decide (a=b):=by
 rw[ByteArray.toList_eq,ByteArray.toList_eq];by_cases h:a=b
 ·subst h;simp
 ·rw[cO h];cases hb:a.data.toList==b.data.toList with
  |false=>rfl
  |true=>
   have:=eq_of_beq hb;exact absurd (ByteArray.ext (Array.ext' this)) h
abbrev sJ:List Value:=[.string ⟨⟨[]⟩⟩,.int .i64 0,.int .i64 0,.int .i64 0,.int .i64 0,.slice none 0 0,.slice none 0 0,.slice none 0 0,.slice none 0 0,.slice none 0 0]
theorem aa6{b2 b3:Nat}:EU Tryz.prog (.func 201) [] [ptr' b2,ptr' b3] .returning [] [] (λ_:Unit=>.ok (.tuple ⟨[]⟩)) (λ_=>.returning) (λ_=>[]) (λ_=>[]) (λ_=>True):=by
 refine PV J8 RV λB w0=>?_;refine go ?_;refine PW (v:=.nilIface) (m':=.returning) rfl ?_;refine go ?_;refine(fP (v:=.bool false) rfl rfl (λh=>by
  show(match jS Tryz.prog .neq 20 (.tmp 4) (.const .nilIface) .nilIface .nilIface with|some v=>some (v,h)|none=>none)=_;rw[show jS Tryz.prog .neq 20 (.tmp 4) (.const .nilIface) .nilIface .nilIface=some (.bool false)by kernel_rfl])).h ?_
 refine go ?_;exact PZ () (hv:=rfl) (hm:=rfl) (hp:=trivial)
theorem aa7{b2 b3:Nat}{e:Int}(he:e=160\/e=161):EU Tryz.prog (.func 201) [] [ptr' b2,ptr' b3] (.panicking (qw e)) [pt b2 (.cells sJ),pt b3 (.cells [.int .i64 0])] [] (λ_:Unit=>.ok (.tuple ⟨[]⟩)) (λ_=>.panicking [{v:=.iface 41 (.int .i64 e),recovered:=true}])
 (λ_=>[pt b2 (.cells sJ),pt b3 (.cells [.int .i64 e])]) (λ_=>[]) (λ_=>True):=by
 refine PV J8 RV λB w0=>?_;refine go ?_;refine PW (v:=.iface 41 (.int .i64 e)) (m':=.panicking [{v:=.iface 41 (.int .i64 e),recovered:=true}]) rfl ?_;refine go ?_;refine(fP (v:=.bool true) rfl rfl (λh=>by
  show(match jS Tryz.prog .neq 20 (.tmp 4) (.const .nilIface) (.iface 41 (.int .i64 e)) .nilIface with|some v=>some (v,h)|none=>none)=_;rcases he with rfl|rfl
  ·rw[show jS Tryz.prog .neq 20 (.tmp 4) (.const .nilIface) (.iface 41 (.int .i64 160)) .nilIface=some (.bool true)by kernel_rfl]
  ·rw[show jS Tryz.prog .neq 20 (.tmp 4) (.const .nilIface) (.iface 41 (.int .i64 161)) .nilIface=some (.bool true)by kernel_rfl])).h ?_
 refine go ?_;exact PZ () (hv:=rfl) (hm:=rfl) (hp:=trivial)
structure De where
 ok:Bool
 e:Int
 vc:Value
 vu:Value
abbrev wC(d:bR)(vh vs vr:Value)(y:De):Value:=.tuple ⟨[.agg ⟨cond y.ok (jY (Kd.cB d) vh vs vr y.vc y.vu) sJ⟩,.int .i64 y.e]⟩
abbrev qx(d:bR)(y:De):List aB:=cond y.ok [ai dH y.vc (Kd.cB d).bI,ai bq y.vu (Kd.cB d).rules] []
def AX(d:bR)(y:De):Prop:=(y.ok=true->y.e=0/\AJ d)/\(y.ok=false->y.e≠0/\¬AJ d)
structure nX(d:bR):Prop where
 dA:d.symbols.length<=4096
 regs:d.regions.length<=4096
 jZ:d.bI.length<=4096
 l5:d.rules.length<=4096
 uC:∀r∈d.rules,r.names.length<9223372036854775808/\r.others.length<9223372036854775808
 holes:d.holes.length<9223372036854775808
 uD:∀r∈d.regions,r.lists.length<9223372036854775808/\∀l∈r.lists,l.length<9223372036854775808
section
variable {B:List Nat} {w0:Wd} {kl aR:List OA} {F:List aB} {l:List (Nat×Value)} {b2 b3:Nat} {n:Nat}
theorem uE{d:bR}{vh vs vr:Value}{e:Int}(he:e=160\/e=161)(hno:¬AJ d)(h2:lk l 2=ptr' b2)(h3:lk l 3=ptr' b3)(hk:aM [pt b2 (.cells sJ),pt b3 (.cells [.int .i64 0])] kl aR):
 R (λh=>nR Tryz.prog FO (xX B w0 (λy=>.ok (wC d vh vs vr y)) (λ_=>[]) (qx d) (AX d)) (.panic (qw e)) (act n l [{target:=.fn (.func 201) ⟨[ptr' b2,ptr' b3]⟩,args:=⟨[]⟩}] none none) h) B w0 kl F:=by
 refine CL (m:=.panicking (qw e)) ?_;refine PX (aR:=aR) (bX:=λ_=>[pt b2 (.cells sJ),pt b3 (.cells [.int .i64 e])]++aR) (F2:=λ_=>F) (aa7 (b2:=b2) (b3:=b3) he) (λy v _ _=>?_) (λy ch _ hc=>by cases hc) (hk:=hk) (hF:=.nil) (hk2:=λ_=>aT.app) (hF2:=λ_=>aT.nil);show RL _ _ _ _ .returning _ _ _ _ _;refine P5 (aR:=[pt b2 (.cells sJ),pt b3 (.cells [.int .i64 e])]++aR) (vs:=[.agg ⟨sJ⟩,.int .i64 e]) ⟨false,e,.nilFunc,.nilFunc⟩ rfl ⟨(λh=>by cases h),λ_=>⟨by rcases he with rfl|rfl<;>simp,hno⟩⟩ (hr:=?_) (hk:=.nil) (hF:=.nil);show RS l _ [.nK 10 2,.cell1 3] _;exact .nK h2 .here rfl (.cell1 h3 (.there .here) rfl .nil)
end
section
variable {B:List Nat} {w0:Wd} {kl aR:List OA} {F:List aB} {l:List (Nat×Value)} {b2 b3:Nat} {n:Nat}
theorem R3{d:bR}{vh vs vr:Value}{o:Out}{cs:List Value}{e:Int}(y:De)(ho:qE o=some .returning)(hcs:cs=cond y.ok (jY (Kd.cB d) vh vs vr y.vc y.vu) sJ)(hl:cs.length=10)(hy:y.e=e)(hp:AX d y)(hF:∀w,(∀f∈F,f.p w)->∀f∈qx d y,f.p w)(h2:lk l 2=ptr' b2)(h3:lk l 3=ptr' b3)(hk:aM [pt b2 (.cells cs),pt b3 (.cells [.int .i64 e])] kl aR):
 R (λh=>nR Tryz.prog FO (xX B w0 (λy=>.ok (wC d vh vs vr y)) (λ_=>[]) (qx d) (AX d)) o (act n l [{target:=.fn (.func 201) ⟨[ptr' b2,ptr' b3]⟩,args:=⟨[]⟩}] none none) h) B w0 kl F:=by
 refine CL (m:=.returning) ?_ ho;refine PX (k1:=[]) (aR:=kl) (bX:=λ_=>kl) (F2:=λ_=>F) (aa6 (b2:=b2) (b3:=b3)) (λ_ v _ _=>?_) (λ_ ch _ hc=>by cases hc) (hk:=.nil) (hF:=.nil) (hk2:=λ_=>aT.nil) (hF2:=λ_=>aT.nil);show RL _ _ _ _ .returning _ _ _ _ _;intro w s;have s':St B w0 ([pt b2 (.cells cs),pt b3 (.cells [.int .i64 e])]++aR) (qx d y) w:=by
  have:=s.iC hk;exact⟨this.agree,this.le,this.dR,this.own,hF w this.facts⟩
 refine P5 (F:=qx d y) (aR:=[pt b2 (.cells cs),pt b3 (.cells [.int .i64 e])]++aR) (vs:=[.agg ⟨cs⟩,.int .i64 e]) y ?_ hp (hr:=?_) (hk:=.nil) (hF:=?_) w s'
 ·show gB.ok (wC d vh vs vr y)=_;unfold wC;rw[<- hcs,hy];rfl
 ·show RS l _ [.nK 10 2,.cell1 3] _;exact .nK h2 .here (by rw[mo,mU,wQ,if_pos (by omega),<- hl,eB]) (.cell1 h3 (.there .here) rfl .nil)
 ·have:∀k:List aB,Sub k k:=λk=>by
   have:=Sub.refl' k [];simpa using this
  exact this _
end
theorem AY{X:List (aW×bq.Y)}{k:Nat}(hk:k<X.length){q q':aW×bq.Y}{j:Nat}{v:Value}(h:(bq.pat q.1 q.2).set j v=bq.pat q'.1 q'.2)(hj:j<12):(eO bq (X.set k q)).set (0+k*12+j) v=eO bq (X.set k q'):=by
 rw[eG];have:=JA (E:=bq) (aF:=X.set k q) (k:=k) (p:=q) (p':=q') (by rw[rJ,if_pos rfl,if_pos hk]) h hj;rw[List.set_set]at this;exact this
theorem yH{X:List (aW×bq.Y)}{k:Nat}(hk:k<X.length){q:aW×bq.Y}{j:Nat}{u:Value}(h:(bq.pat q.1 q.2)[j]? =some u):(eO bq (X.set k q))[0+k*12+j]? =some u:=by
 rw[eG];exact yg (E:=bq) (aF:=X.set k q) (k:=k) (by rw[rJ,if_pos rfl,if_pos hk]) h
theorem AZ{X:List (aW×bq.Y)}{k:Nat}(hk:k<X.length){q:aW×bq.Y}{j:Nat}(hj:j<12):0+k*12+j<(eO bq (X.set k q)).length:=by
 rw[CS,yV];show 0+k*12+j<X.length*12;omega
theorem R4{d:bR}{vh vs vr vc vu:Value}(hS:nX d):aV Tryz.prog (.func 150) [.agg ⟨jY d vh vs vr vc vu⟩] [] [] (nT d vh vs vr vc vu) (wC d vh vs vr) (λ_=>[]) (qx d) (AX d):=by
 refine nS.toC _ ?_ (λ_ _=>rfl);have hsl:=hS.dA;have hrl:=hS.regs;have hcl:=hS.jZ;have Kb:=hS.l5;refine vW FO aa5 λB w0=>?_;refine go ?_;intro b1 b2 b3;refine go ?_;refine YN ?_;refine go ?_;refine aG rfl (λh1=>?_) (λh1=>?_)
 ·refine go ?_;exact R3 (e:=2) (cs:=sJ) ⟨false,2,.nilFunc,.nilFunc⟩ rfl rfl rfl rfl ⟨(λh=>by cases h),λ_=>⟨by simp,λh=>by have:=h.dA;omega⟩⟩ (λw _ f hf=>by cases hf) rfl rfl (by repeat (first|exact aM.nil|(apply aM.cons;(focus (repeat (first|exact aj.here|apply aj.there))))))
 have hsy:(gD d).length<=16:=by show(d.symbols.map (·.name)).length<=16;rw[bT];omega
 refine go ?_;refine vY dZ (λbs=>?_);refine go ?_;refine qX (aaX (b:=bs) (start:=0) (ah:=[]) hsl (by omega) uS) (λy v hy e=>?_) (λy ch hy e=>?_)
 rotate_left
 ·obtain⟨y,ns⟩:=y;cases y with
  |true=>cases e
  |false=>
   injection e with e;subst e;refine go ?_;exact uE (e:=161) (.inr rfl) (λh=>hy.2 rfl (by simpa[gD]using h.ZO)) rfl rfl (by repeat (first|exact aM.nil|(apply aM.cons;(focus (repeat (first|exact aj.here|apply aj.there))))))
 obtain⟨y,ns⟩:=y;cases y with
 |false=>cases e
 |true=>
 injection e with e;subst e;have hns:ns=gD d:=(hy.1 rfl).1;have hsn:(gD d).Nodup:=by have:=(hy.1 rfl).2;simpa[gD]using this
 clear hy;subst hns;dsimp only;rw[show([]:List (ByteArray×Value))++dL _ 0=dL _ 0 from rfl];refine aZ (Aq (b:=bs)) (h:=?_);refine go ?_;intro b4;refine go ?_;refine vY dZ (λbf=>?_);refine ax aa1 (next:=λvg _=>?_);refine qX (aaW (b:=bf) (xs:=yu) (start:=0) (ah:=[]) (by decide) (by omega) uS) (λy v hy e=>?_) (λy ch hy e=>?_)
 rotate_left
 ·obtain⟨y,ns⟩:=y;cases y with
  |true=>cases e
  |false=>exact absurd (by decide) (hy.2 rfl)
 obtain⟨y,ns⟩:=y;cases y with
 |false=>cases e
 |true=>
 injection e with e;subst e;have hns:ns=yu:=(hy.1 rfl).1;clear hy;subst hns;dsimp only;rw[show([]:List (ByteArray×Value))++dL _ 0=dL _ 0 from rfl];refine qX (aaY (b:=bf) (start:=8) (ah:=dL yu 0) hrl (by omega) (by rw[qm];decide)) (λy v hy e=>?_) (λy ch hy e=>?_)
 rotate_left
 ·obtain⟨y,ns⟩:=y;cases y with
  |true=>cases e
  |false=>
   injection e with e;subst e;refine go ?_;exact uE (e:=161) (.inr rfl) (λh=>hy.2 rfl (by rw[qm];exact h.ZP)) rfl rfl (by repeat (first|exact aM.nil|(apply aM.cons;(focus (repeat (first|exact aj.here|apply aj.there))))))
 obtain⟨y,ns⟩:=y;cases y with
 |false=>cases e
 |true=>
 injection e with e;subst e;have hns:ns=d.regions.map lW.name:=(hy.1 rfl).1;have hfn:(fw d).Nodup:=by have:=(hy.1 rfl).2;rw[qm]at this;exact this
 clear hy;subst hns;dsimp only;have hfe:dL yu 0++dL (d.regions.map lW.name) 8=dL (fw d) 0:=by
  unfold fw;rw[JM];rfl
 rw[hfe];clear hfe;refine aZ (Aq (b:=bf)) (h:=?_);refine go ?_;refine vY dZ (λbc=>?_);refine go ?_;refine qX (aaZ (b:=bc) (start:=0) (ah:=[]) hcl (by omega) uS) (λy v hy e=>?_) (λy ch hy e=>?_)
 rotate_left
 ·obtain⟨y,ns⟩:=y;cases y with
  |true=>cases e
  |false=>
   injection e with e;subst e;refine go ?_;exact uE (e:=161) (.inr rfl) (λh=>hy.2 rfl (by simpa[jk]using h.ZQ)) rfl rfl (by repeat (first|exact aM.nil|(apply aM.cons;(focus (repeat (first|exact aj.here|apply aj.there))))))
 obtain⟨y,ns⟩:=y;cases y with
 |false=>cases e
 |true=>
 injection e with e;subst e;have hns:ns=jk d:=(hy.1 rfl).1;have hcn:(jk d).Nodup:=by have:=(hy.1 rfl).2;simpa[jk]using this
 clear hy;subst hns;dsimp only;rw[show([]:List (ByteArray×Value))++dL _ 0=dL _ 0 from rfl];refine aZ (Aq (b:=bc)) (h:=?_);refine go ?_;refine JB dH vc (λxc A7=>?_);have hxl:xc.length=d.bI.length:=by rw[<- A7,bT]
 refine ax (aa3 (aF:=xc) (by omega)) (next:=λv1 _=>?_);refine Qr (E:=dH) (v:=v1) (aF:=xc) (λa1 e1=>?_);subst e1;refine go ?_;let f1:ji×dH.Y->ji×dH.Y:=λp=>(AC (fw d) p.1,p.2)
 rw[show ar dH (.slice a1 xc.length xc.length) xc=ar dH (.slice a1 xc.length xc.length) (iE f1 0 xc)from rfl];refine bJ (λk=>xc.length - k) (λk:Nat=>[(38,.int .i64 (k:Int))]) (λk=>[ar dH (.slice a1 xc.length xc.length) (iE f1 k xc)]) (λ_=>[]) (λk=>k<=xc.length/\∀p∈xc.take k,p.1.on∈fw d) 0 ⟨dD _,by simp⟩ (body:=?_);rintro k ⟨hk,hall⟩;refine go ?_;refine aG rfl (λh2=>?_) (λh2=>?_)
 ·refine go ?_;refine Qq (E:=dH) (aF:=iE f1 k xc) (by rw[wh];omega) (λbx fx hfx ev=>?_);injection ev with ea _ _;subst ea;refine go ?_;obtain⟨p,hp⟩:∃p,xc[k]? =some p:=⟨xc[k]'(by omega),dz _⟩
  have hget:(iE f1 k xc)[k]? =some p:=by rw[Q0 _ (by omega)];exact hp
  have jw:p.1∈d.bI:=by rw[<- A7];exact Gx (bG hp)
  refine su (o:=0+k*6+1) (cs:=eO dH (iE f1 k xc)) (.string p.1.on) (by rw[eG];exact yg (E:=dH) (j:=1) hget rfl) ?_;refine qX (FN (b:=bf) (s:=p.1.on) (ah:=dL (fw d) 0)) (λy v hy e=>?_) (λy ch hy e=>?_)
  rotate_left
  ·have hm:p.1.on∉fw d:=by
    intro h;rw[uw h]at hy;subst hy;cases e
   rw[oQ (by rw[qm];exact hm)]at hy;subst hy;injection e with e;subst e;refine go ?_;exact uE (e:=160) (.inl rfl) (λh=>hm (h.QY p.1 jw)) rfl rfl (by repeat (first|exact aM.nil|(apply aM.cons;(focus (repeat (first|exact aj.here|apply aj.there))))))
  have hm:p.1.on∈fw d:=by
   by_cases h:p.1.on∈fw d
   ·exact h
   ·rw[oQ (by rw[qm];exact h)]at hy;subst hy;cases e
  rw[uw hm]at hy;subst hy;injection e with e;subst e;rw[eG];refine go ?_;refine sj (o:=0+k*6+2) (cs:=eO dH (iE f1 k xc)) (cs':=eO dH (iE f1 (k+1) xc)) (v:=.int .i64 ((gX p.1.on (fw d):Nat):Int)) (by rw[eG,<- Q3 f1 hp];exact JA (E:=dH) (j:=2) (p':=f1 p) hget rfl (by decide)) (by rw[CS,wh];show 0+k*6+2<xc.length*6;omega) ?_;refine go ?_;refine sF (b:=bx) (f:=fx) (m:=xc.length) dH (aF:=iE f1 (k+1) xc) (by rw[wh]) hfx ?_;refine bi (k+1) (by omega) ⟨by omega,λq hq=>?_⟩;rw[mg,hp]at hq;rcases eZ.1 hq with h|h
  ·exact hall q h
  ·have:q=p:=by simpa using h
   rw[this];exact hm
 have hkl:k=xc.length:=by omega
 subst hkl;rw[eB]at hall;have hcon:∀c∈d.bI,c.on∈fw d:=by
  intro c hc;rw[<- A7]at hc;obtain⟨p,hp,rfl⟩:=ed.1 hc;exact hall p hp
 clear hall hk;rw[QZ];refine go ?_;refine vY dZ (λbu=>?_);refine go ?_;refine qX (aa0 (b:=bu) (start:=0) (ah:=[]) Kb (by omega) uS) (λy v hy e=>?_) (λy ch hy e=>?_)
 rotate_left
 ·obtain⟨y,ns⟩:=y;cases y with
  |true=>cases e
  |false=>
   injection e with e;subst e;refine go ?_;exact uE (e:=161) (.inr rfl) (λh=>hy.2 rfl (by simpa[Fq]using h.ZR)) rfl rfl (by repeat (first|exact aM.nil|(apply aM.cons;(focus (repeat (first|exact aj.here|apply aj.there))))))
 obtain⟨y,ns⟩:=y;cases y with
 |false=>cases e
 |true=>
 injection e with e;subst e;have hrn:(Fq d).Nodup:=by have:=(hy.1 rfl).2;simpa[Fq]using this
 clear hy;dsimp only;refine aZ (Aq (b:=bu)) (h:=?_);refine go ?_;refine JB bq vu (λxr FP=>?_);have afb:xr.length=d.rules.length:=by rw[<- FP,bT]
 refine ax (aa4 (aF:=xr) (by omega)) (next:=λv2 _=>?_);refine Qr (E:=bq) (v:=v2) (aF:=xr) (λa2 e2=>?_);subst e2;refine go ?_;refine aZ (fo (b:=b4)) (h:=?_);refine go ?_;let f2:aW×bq.Y->aW×bq.Y:=λp=>(qY (gD d) (fw d) (jk d) p.1,p.2)
 rw[show ar bq (.slice a2 xr.length xr.length) xr=ar bq (.slice a2 xr.length xr.length) (iE f2 0 xr)from rfl];refine Y5 (E:=bq) (v:=vu) (aF:=xr) ?_;refine bJ (λk=>xr.length - k) (λk:Nat=>[(67,.int .i64 (k:Int))]) (λk=>[ar bq (.slice a2 xr.length xr.length) (iE f2 k xr)]) (λ_=>[]) (λk=>k<=xr.length/\∀p∈xr.take k,JN (gD d) (fw d) (jk d) p.1) 0 ⟨dD _,by simp⟩ (body:=?_);rintro k ⟨hk,hall⟩;refine go ?_;refine aG rfl (λh2=>?_) (λh2=>?_)
 ·refine go ?_;refine Qq (E:=bq) (aF:=iE f2 k xr) (by rw[wh];omega) (λeU fy R5 ev=>?_);injection ev with ea _ _;subst ea;obtain⟨p,hp⟩:∃p,xr[k]? =some p:=⟨xr[k]'(by omega),dz _⟩
  have hpm:=bG hp;have hget:(iE f2 k xr)[k]? =some p:=by rw[Q0 _ (by omega)];exact hp
  have jw:p.1∈d.rules:=by rw[<- FP];exact Gx hpm
  have hfin:=Q3 f2 hp;obtain⟨r,v3,v4⟩:=p;have hrs:=hS.uC r jw;have kg:k<(iE f2 k xr).length:=by rw[wh];omega
  have aa8:(iE f2 k xr).length=xr.length:=wh _ _ _;have e0:iE f2 k xr=(iE f2 k xr).set k (r,v3,v4):=by
   apply jD;intro i;rw[rJ];by_cases hi:k=i
   ·subst hi;rw[if_pos rfl,if_pos kg,hget]
   ·rw[if_neg hi]
  refine iD (ai bV v3 r.names) (λw h=>h (vZ bq xr) (bF ..) _ hpm _ (bF ..)) ?_;refine iD (ai bV v4 r.others) (λw h=>h (vZ bq xr) (bB _ (bF ..)) _ hpm _ (bB _ (bF ..))) ?_;rw[e0];rw[<- e0];generalize hX:iE f2 k xr=X at kg aa8 e0 hfin;rw[e0];refine go ?_;refine sj (o:=0+k*12+3) (cs:=eO bq (X.set k (r,v3,v4))) (cs':=eO bq (X.set k ({r with family:=0},v3,v4))) (v:=.int .i64 0) (AY kg rfl (by omega)) (AZ kg (by omega)) ?_;refine go ?_;refine sj (o:=0+k*12+11) (cs:=eO bq (X.set k ({r with family:=0},v3,v4))) (cs':=eO bq (X.set k ({r with family:=0,aJ:= -1},v3,v4))) (v:=.int .i64 (-1)) (AY kg rfl (by omega)) (AZ kg (by omega)) ?_;refine go ?_;refine su (o:=0+k*12+1) (cs:=eO bq (X.set k ({r with family:=0,aJ:= -1},v3,v4))) (.string r.on) (yH kg rfl) ?_;refine go ?_;refine Jq (aR:=[pt b1 (.cells [.string d.name,.int .i64 d.version,.int .i64 d.shape,.int .i64 d.w,.int .i64 d.h,vh,vs,vr,.slice a1 xc.length xc.length,.slice (some ⟨eU,0,some fy⟩) xr.length xr.length]),ar dH (.slice a1 xc.length xc.length) (xc.map f1),pt b3 (.cells [.int .i64 0]),pt b2 (.cells sJ)]) [] (λ_:Unit=>[]) (λ_=>[pt eU (.cells (eO bq (X.set k ({r with family:=if r.on=⟨⟨[]⟩⟩then 0 else(gX r.on (fw d):Int),aJ:= -1},v3,v4))))]) (λ_=>[]) (λ_=>r.on=⟨⟨[]⟩⟩\/r.on∈fw d) (hx:=?_) (hy:=?_)
  ·refine lg (p:=r.on=⟨⟨[]⟩⟩) (by show Value.bool _=_;rw[nC]) (λh3=>?_) (λh3=>?_)
   ·refine go ?_;refine su (o:=0+k*12+1) (cs:=eO bq (X.set k ({r with family:=0,aJ:= -1},v3,v4))) (.string r.on) (yH kg rfl) ?_;refine qX (FN (b:=bf) (s:=r.on) (ah:=dL (fw d) 0)) (λy v hy e=>?_) (λy ch hy e=>?_)
    rotate_left
    ·have hm:r.on∉fw d:=by
      intro h;rw[uw h]at hy;subst hy;cases e
     rw[oQ (by rw[qm];exact hm)]at hy;subst hy;injection e with e;subst e;refine go ?_;refine YK ?_;refine go ?_;exact uE (e:=160) (.inl rfl) (λh=>(h.uy r jw).on.elim h3 hm) rfl rfl (by repeat (first|exact aM.nil|(apply aM.cons;(focus (repeat (first|exact aj.here|apply aj.there))))))
    have hm:r.on∈fw d:=by
     by_cases h:r.on∈fw d
     ·exact h
     ·rw[oQ (by rw[qm];exact h)]at hy;subst hy;cases e
    rw[uw hm]at hy;subst hy;injection e with e;subst e;rw[eG];refine go ?_;refine sj (o:=0+k*12+3) (cs:=eO bq (X.set k ({r with family:=0,aJ:= -1},v3,v4))) (cs':=eO bq (X.set k ({r with family:=if r.on=⟨⟨[]⟩⟩then 0 else(gX r.on (fw d):Int),aJ:= -1},v3,v4))) (v:=.int .i64 ((gX r.on (fw d):Nat):Int)) (by rw[if_neg h3];exact AY kg rfl (by omega)) (AZ kg (by omega)) ?_;refine go ?_;exact oN () (.inr hm)
   ·refine go ?_;rw[show({r with family:=0,aJ:= -1}:aW)={r with family:=if r.on=⟨⟨[]⟩⟩then 0 else(gX r.on (fw d):Int),aJ:= -1}by rw[if_pos h3]];exact oN () (.inl h3)
  intro _ hon;generalize hfm:(if r.on=⟨⟨[]⟩⟩then 0 else(gX r.on (fw d):Int))=fm;refine go ?_;refine su (o:=0+k*12+4) (cs:=eO bq (X.set k ({r with family:=fm,aJ:= -1},v3,v4))) v3 (yH kg rfl) ?_;refine go ?_;refine su (o:=0+k*12+5) (cs:=eO bq (X.set k ({r with family:=fm,aJ:= -1},v3,v4))) v4 (yH kg rfl) ?_;refine go ?_;refine qX (RZ (b4:=b4) (bs:=bs) (vl:=v3) (dA:=gD d) (l:=r.names) hsy hrs.1) (λy v hy e=>?_) (λy ch hy e=>?_)
   (hs:=λy v _ _=>vP (b:=eU) (o:=0+k*12+5) (cs:=eO bq (X.set k ({r with family:=fm,aJ:= -1},v3,v4))) (v:=v4) rfl (by repeat (first|exact aj.here|apply aj.there)) (by rw[pO];exact yH kg rfl) rfl vO)
  rotate_left
  ·cases y with
   |true=>cases e
   |false=>
    injection e with e;subst e;refine go ?_;exact uE (e:=160) (.inl rfl) (λh=>hy.2 rfl (h.uy r jw).names) rfl rfl (by repeat (first|exact aM.nil|(apply aM.cons;(focus (repeat (first|exact aj.here|apply aj.there))))))
  cases y with
  |false=>cases e
  |true=>
  injection e with e;subst e;have aa9:=hy.1 rfl;clear hy;refine go ?_;refine go ?_;refine qX (RZ (b4:=b4) (bs:=bs) (vl:=v4) (dA:=gD d) (l:=r.others) hsy hrs.2) (λy v hy e=>?_) (λy ch hy e=>?_)
  rotate_left
  ·cases y with
   |true=>cases e
   |false=>
    injection e with e;subst e;refine go ?_;exact uE (e:=160) (.inl rfl) (λh=>hy.2 rfl (h.uy r jw).others) rfl rfl (by repeat (first|exact aM.nil|(apply aM.cons;(focus (repeat (first|exact aj.here|apply aj.there))))))
  cases y with
  |false=>cases e
  |true=>
  injection e with e;subst e;have aba:=hy.1 rfl;clear hy;refine go ?_;refine sj (o:=0+k*12+6) (cs:=eO bq (X.set k ({r with family:=fm,aJ:= -1},v3,v4))) (cs':=eO bq (X.set k ({r with family:=fm,aJ:= -1,set:=(jl (gD d) r.names:Int)},v3,v4))) (v:=.int .i64 (jl (gD d) r.names:Int)) (AY kg rfl (by omega)) (AZ kg (by omega)) ?_;refine go ?_;refine sj (o:=0+k*12+7) (cs:=eO bq (X.set k ({r with family:=fm,aJ:= -1,set:=(jl (gD d) r.names:Int)},v3,v4))) (cs':=eO bq (X.set k ({r with family:=fm,aJ:= -1,set:=(jl (gD d) r.names:Int),other:=(jl (gD d) r.others:Int)},v3,v4))) (v:=.int .i64 (jl (gD d) r.others:Int)) (AY kg rfl (by omega)) (AZ kg (by omega)) ?_;refine go ?_;refine su (o:=0+k*12+10) (cs:=eO bq (X.set k ({r with family:=fm,aJ:= -1,set:=(jl (gD d) r.names:Int),other:=(jl (gD d) r.others:Int)},v3,v4))) (.string r.eU) (yH kg rfl) ?_;refine go ?_;have hnext:(r.eU=⟨⟨[]⟩⟩\/r.eU∈jk d)->∀q∈xr.take (k+1),JN (gD d) (fw d) (jk d) q.1:=by
   intro hby q hq;rw[mg,hp]at hq;rcases eZ.1 hq with h|h
   ·exact hall q h
   ·have:q=(r,v3,v4):=bC.1 (show q∈[(r,v3,v4)]from h);rw[this];exact⟨hon,aa9,aba,hby⟩
  refine lg (p:=r.eU=⟨⟨[]⟩⟩) (by show Value.bool _=_;rw[nC]) (λh3=>?_) (λh3=>?_)
  ·refine go ?_;refine su (o:=0+k*12+10) (cs:=eO bq (X.set k ({r with family:=fm,aJ:= -1,set:=(jl (gD d) r.names:Int),other:=(jl (gD d) r.others:Int)},v3,v4))) (.string r.eU) (yH kg rfl) ?_;refine qX (FN (b:=bc) (s:=r.eU) (ah:=dL (jk d) 0)) (λy v hy e=>?_) (λy ch hy e=>?_)
   rotate_left
   ·have hm:r.eU∉jk d:=by
     intro h;rw[uw h]at hy;subst hy;cases e
    rw[oQ (by rw[qm];exact hm)]at hy;subst hy;injection e with e;subst e;refine go ?_;exact uE (e:=160) (.inl rfl) (λh=>(h.uy r jw).eU.elim h3 hm) rfl rfl (by repeat (first|exact aM.nil|(apply aM.cons;(focus (repeat (first|exact aj.here|apply aj.there))))))
   have hm:r.eU∈jk d:=by
    by_cases h:r.eU∈jk d
    ·exact h
    ·rw[oQ (by rw[qm];exact h)]at hy;subst hy;cases e
   rw[uw hm]at hy;subst hy;injection e with e;subst e;rw[eG];refine go ?_;refine sj (o:=0+k*12+11) (cs:=eO bq (X.set k ({r with family:=fm,aJ:= -1,set:=(jl (gD d) r.names:Int),other:=(jl (gD d) r.others:Int)},v3,v4))) (cs':=eO bq (X.set k (f2 (r,v3,v4)))) (v:=.int .i64 ((gX r.eU (jk d):Nat):Int)) (AY kg (by show _=jX (qY (gD d) (fw d) (jk d) r) v3 v4;unfold qY;rw[if_neg h3,hfm];rfl) (by omega)) (AZ kg (by omega)) ?_;refine go ?_;rw[hfin];refine sF (b:=eU) (f:=fy) (m:=xr.length) bq (aF:=iE f2 (k+1) xr) (by rw[wh]) R5 ?_;exact bi (k+1) (by omega) ⟨by omega,hnext (.inr hm)⟩
  ·refine go ?_;rw[show X.set k (({r with family:=fm,aJ:= -1,set:=(jl (gD d) r.names:Int),other:=(jl (gD d) r.others:Int)}:aW),v3,v4)=iE f2 (k+1) xr by
    rw[<- hfin];congr 1;show _=(qY (gD d) (fw d) (jk d) r,v3,v4)
    unfold qY;rw[if_pos h3,hfm];rfl]
   refine sF (b:=eU) (f:=fy) (m:=xr.length) bq (aF:=iE f2 (k+1) xr) (by rw[wh]) R5 ?_;exact bi (k+1) (by omega) ⟨by omega,hnext (.inl h3)⟩
 have hkl:k=xr.length:=by omega
 subst hkl;rw[eB]at hall;rw[QZ];refine EY (E:=dH) (v:=.slice a1 xc.length xc.length) (aF:=xc.map f1) ?_ (λw h p hp f hf=>by cases hf);refine EY (E:=bq) (v:=.slice a2 xr.length xr.length) (aF:=xr.map f2) ?_ (λw h p hp f hf=>by
  obtain⟨q,hq,rfl⟩:=ed.1 hp;exact h (vZ bq xr) (bB _ (bB _ (bF ..))) q hq f hf)
 refine go ?_;refine R3 (e:=0) ⟨true,0,.slice a1 xc.length xc.length,.slice a2 xr.length xr.length⟩ rfl (by rfl) rfl rfl ⟨λ_=>⟨rfl,⟨by omega,hsn,hfn,hcn,hcon,hrn,λr hr=>?_⟩⟩,λh=>by cases h⟩ (λw h f hf=>?_) rfl rfl (by repeat (first|exact aM.nil|(apply aM.cons;(focus (repeat (first|exact aj.here|apply aj.there))))))
 ·rw[<- FP]at hr;obtain⟨p,hp,rfl⟩:=ed.1 hr;exact hall p hp
 ·have ec:(xc.map f1).map (·.1)=(Kd.cB d).bI:=by
   show _=d.bI.map (AC (fw d));rw[<- A7,sU,sU];rfl
  have er:(xr.map f2).map (·.1)=(Kd.cB d).rules:=by
   show _=d.rules.map (qY (gD d) (fw d) (jk d));rw[<- FP,sU,sU];rfl
  rw[ec,er]at h;have hf:f∈[ai dH (.slice a1 xc.length xc.length) (Kd.cB d).bI,ai bq (.slice a2 xr.length xr.length) (Kd.cB d).rules]:=hf;rcases cK.1 hf with rfl|hf
  ·exact h _ (by simp)
  ·rw[bC.1 hf];exact h _ (by simp)
