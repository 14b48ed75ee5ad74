/-
  Comparisons: cmp.Compare and slices.Compare of numbers.
-/
import Derived.Test.YtoohgkkmdnbnfaaGreatDoorProg
import Derived.Test.YtoohgkkmdnbnfaaGreatDoorPlainCE
import Derived.Test.YtoohgkkmdnbnfaaGreatDoorShelfS
import Derived.Test.YtoohgkkmdnbnfaaGreatDoorIdealPE
set_option linter.all false
set_option maxRecDepth 10000
set_option maxHeartbeats 1000000
namespace Go.Proofs.YtoohgkkmdnbnfaaGreatDoor
open Go.Ideal Canon
set_option maxHeartbeats 4000000
open Go.Ideal Kd Canon
theorem Tf(x:Int):dS Tryz.prog 108 [.int .i64 x] [] (.bool false):=by
 refine aS _ (aQ 108) λB w0=>?_;refine go ?_;refine aa () (hv:=?_) (hp:=trivial);simp[oM]
theorem Tg(x y:Int):dS Tryz.prog 69 [.int .i64 x,.int .i64 y] [] (.int .i64 (fO x y)):=by
 refine aS _ (aQ 69) λB w0=>?_;refine go ?_;refine ax (Tf x) (next:=λ_ _=>?_);refine go ?_;refine ax (Tf y) (next:=λ_ _=>?_);refine go ?_;refine aG rfl (λh1=>?_) (λh1=>?_)
 ·refine go ?_;refine aa () (hv:=?_) (hp:=trivial);rw[fO,if_pos h1];rfl
 refine go ?_;refine aG rfl (λh2=>?_) (λh2=>?_)
 ·refine go ?_;refine aa () (hv:=?_) (hp:=trivial);rw[fO,if_neg h1,if_pos h2];rfl
 refine go ?_;refine aa () (hv:=?_) (hp:=trivial);rw[fO,if_neg h1,if_neg h2];rfl
theorem adE{α:Type}{xs:List α}{k:Nat}{x:α}(h:xs[k]? =some x):xs.drop k=x::xs.drop (k+1):=by
 obtain⟨hlt,he⟩:=bA.1 h;rw[rM hlt,he]
theorem adF{v:Value}{xs:List Int}(hl:xs.length<9223372036854775808):dS Tryz.prog 68 [v] [ai ae v xs] (.int .i64 (qo xs)):=by
 refine aS _ (aQ 68) λB w0=>?_;refine go ?_;refine bJ (λk=>xs.length - k) (λk:Nat=>[(8,.int .i64 (k:Int))]) (λ_=>[]) (λ_=>[]) (λk=>k<=xs.length/\qo xs=qo (xs.drop k)) 0 ⟨by omega,rfl⟩ (body:=?_);rintro k ⟨hk,hf⟩;refine go ?_;refine aG rfl (λh1=>?_) (λh1=>?_)
 ·refine go ?_;intro _ _ x hx;have hd:=adE hx;refine go ?_;refine aG rfl (λh2=>?_) (λh2=>?_)
  ·refine go ?_;refine aa () (hv:=?_) (hp:=trivial);rw[hf,hd,qo,if_pos h2];rfl
  ·refine go ?_;refine bi (k+1) (by show xs.length - (k+1)<xs.length - k;omega) ⟨by omega,?_⟩;rw[hf,hd,qo,if_neg h2]
 have hk:k=xs.length:=by omega
 refine go ?_;refine aa () (hv:=?_) (hp:=trivial);rw[hf,hk,List.drop_length];rfl
theorem Li{a b:Clue}{va vb:Value}:dS Tryz.prog 38 [FE a va,FE b vb] [] (.int .i64 (eP a b)):=by
 refine aS _ (aQ 38) λB w0=>?_;refine go ?_;intro b2 b3;refine go ?_;refine ax (Tg a.aJ b.aJ) (next:=λ_ _=>?_);refine go ?_;refine ax (Tg a.at_ b.at_) (next:=λ_ _=>?_);refine go ?_;intro b15;refine aZ (A:=pt b15 (.cells [.int .i64 (fO a.aJ b.aJ),.int .i64 (fO a.at_ b.at_)])) (fs:=[ai ae (.slice (some ⟨b15,0,some 0⟩) 2 2) [fO a.aJ b.aJ,fO a.at_ b.at_]]) (EL (b:=b15) (f:=0) (c:=2) (xs:=[fO a.aJ b.aJ,fO a.at_ b.at_])) (h:=?_);refine go ?_;refine ax (adF (xs:=[fO a.aJ b.aJ,fO a.at_ b.at_]) (by simp)) (next:=λ_ _=>?_);refine go ?_;exact aa () (hv:=rfl) (hp:=trivial)
open Go.Ideal Kd Canon Go.Sort
theorem Lj{α:Type}{l:List α}{k:Nat}{x:α}(h:l[k]? =some x):l.take (k+1)=l.take k++[x]:=by
 rw[mg,h];rfl
theorem adG{va:Value}{xs:List Clue}(hl:xs.length<9223372036854775808):aV Tryz.prog (.func 12) [.agg ⟨[va]⟩] [] [] [ai kI va xs] (λb:Bool=>.bool b) (λ_=>[]) (λ_=>[]) (λb=>b=true->xs.length<=60/\∀g∈xs,g.values.length<=20):=by
 refine aS _ (aQ 12) λB w0=>?_;refine fq (E:=kI) (v:=va) (xs:=xs) (by simp) λav cv Du=>?_;subst Du;refine go ?_;intro b1;refine bJ (λk=>xs.length - k) (λk:Nat=>[(3,.int .i64 (k:Int))]) (λ_=>[]) (λ_=>[]) (λk=>k<=xs.length/\∀j g,j<k->xs[j]? =some g->g.values.length<=20) 0 ⟨by omega,λj g hj=>by omega⟩ (body:=?_);rintro k ⟨hkx,hall⟩;refine go ?_;refine aG rfl (λh1=>?_) (λh1=>?_)
 rotate_left
 ·refine go ?_;refine aa _ (hv:=rfl) (hp:=λh=>?_);have h:=iJ h;refine⟨by omega,λg hg=>?_⟩;obtain⟨j,hj⟩:=ku hg;exact hall j g (by have:=(bA.1 hj).1;omega) hj
 refine go ?_;refine dm kI (next:=λ_ _ x (vx:Value) hxk=>?_);refine go ?_;refine aG rfl (λh3=>?_) (λh3=>?_)
 ·refine go ?_;exact aa false (hv:=rfl) (hp:=λh=>by cases h)
 refine go ?_;refine bi (k+1) (by omega) ⟨by omega,λj g hj hg=>?_⟩;by_cases e:j=k
 ·subst e;rw[hxk]at hg;cases hg;omega
 ·exact hall j g (by omega) hg
def uH(l rs:List Clue)(i:Nat)(best:Int):Prop:=(best= -1/\∀x∈l.take i,opn rs x=false)\/∃(b:Nat) (y:Clue),best=(b:Int)/\l[b]? =some y/\opn rs y=true/\∀x∈l.take i,opn rs x=true->¬qU x y<0
theorem uH.skip{l rs:List Clue}{i:Nat}{best:Int}{x:Clue}(h:uH l rs i best)(hx:l[i]? =some x)(ho:opn rs x=false):uH l rs (i+1) best:=by
 have hm:∀z∈l.take (i+1),z∈l.take i\/z=x:=λz hz=>by
  rw[Lj hx]at hz;rcases eZ.1 hz with h|h
  ·exact .inl h
  ·exact .inr (bC.1 h)
 rcases h with⟨h1,h2⟩|⟨b,y,h1,h2,h3,h4⟩
 ·refine .inl ⟨h1,λz hz=>?_⟩;rcases hm z hz with h|h
  ·exact h2 z h
  ·rw[h];exact ho
 ·refine .inr ⟨b,y,h1,h2,h3,λz hz uI=>?_⟩;rcases hm z hz with h|h
  ·exact h4 z h uI
  ·rw[h,ho]at uI;cases uI
theorem uH.take{l rs:List Clue}{i:Nat}{best:Int}{x:Clue}(h:uH l rs i best)(hx:l[i]? =some x)(ho:opn rs x=true)(hb:best= -1\/∃(b:Nat) (y:Clue),best=(b:Int)/\l[b]? =some y/\qU x y<0):uH l rs (i+1) (i:Int):=by
 have hO:=Yc;refine .inr ⟨i,x,rfl,hx,ho,λz hz uI hlt=>?_⟩;rw[Lj hx]at hz;rcases eZ.1 hz with hz|hz
 ·rcases h with⟨h1,h2⟩|⟨b,y,h1,h2,h3,h4⟩
  ·rw[h2 z hz]at uI;cases uI
  ·rcases hb with hb|⟨b',y',e1,e2,e3⟩
   ·omega
   ·have:b'=b:=by omega
    subst this;cases h2.symm.trans e2;exact h4 z hz uI (hO.trans z x y hlt e3)
 ·rw[bC.1 hz]at hlt;have:=(hO.zero x x).2 rfl;omega
theorem uH.keep{l rs:List Clue}{i b:Nat}{x y:Clue}(h:uH l rs i (b:Int))(hx:l[i]? =some x)(hy:l[b]? =some y)(hn:¬qU x y<0):uH l rs (i+1) (b:Int):=by
 rcases h with⟨h1,h2⟩|⟨b',y',h1,h2,h3,h4⟩
 ·omega
 ·have:b'=b:=by omega
  subst this;cases h2.symm.trans hy;refine .inr ⟨b',y,rfl,hy,h3,λz hz uI=>?_⟩;rw[Lj hx]at hz;rcases eZ.1 hz with hz|hz
  ·exact h4 z hz uI
  ·rw[bC.1 hz];exact hn
