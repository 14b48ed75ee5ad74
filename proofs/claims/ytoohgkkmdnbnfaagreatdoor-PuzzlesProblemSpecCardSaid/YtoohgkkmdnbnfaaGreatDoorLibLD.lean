/-
  Comparisons: cmp.Compare and slices.Compare of numbers.
-/
import Derived.Test.YtoohgkkmdnbnfaaGreatDoorProg
import Derived.Test.YtoohgkkmdnbnfaaGreatDoorPlainCD
import Derived.Test.YtoohgkkmdnbnfaaGreatDoorShelfS
import Derived.Test.YtoohgkkmdnbnfaaGreatDoorIdealPD
set_option linter.all false
set_option maxRecDepth 10000
set_option maxHeartbeats 1000000
namespace Go.Proofs.YtoohgkkmdnbnfaaGreatDoor
open Go.Ideal Canon
theorem drop_cons{α:Type}{xs:List α}{k:Nat}{x:α}(h:xs[k]? =some x):xs.drop k=x::xs.drop (k+1):=by
 obtain⟨hlt,he⟩:=bP.1 h;rw[pg hlt,he]
theorem Ce{xs ys:List Int}{k:Nat}(hx:k<=xs.length)(hy:k<=ys.length)(h:k=xs.length\/k=ys.length):
 iL fU (xs.drop k) (ys.drop k)=if xs.length<ys.length then -1 else if ys.length<xs.length then 1 else 0:=by
 rcases h with h|h
 ·rw[show xs.drop k=[]from Fq (by omega)];by_cases e:xs.length<ys.length
  ·rw[if_pos e];have:k<ys.length:=by omega
   rw[pg this];rfl
  ·rw[if_neg e,if_neg (by omega),show ys.drop k=[]from Fq (by omega)];rfl
 ·rw[show ys.drop k=[]from Fq (by omega)];by_cases e:ys.length<xs.length
  ·rw[if_neg (by omega),if_pos e];have:k<xs.length:=by omega
   rw[pg this];rfl
  ·rw[if_neg (by omega),if_neg e,show xs.drop k=[]from Fq (by omega)];rfl
set_option maxHeartbeats 4000000
open Go.Ideal Kd Canon
theorem UB(x:Int):cK Tryz.prog 108 [.int .i64 x] [] (.bool false):=by
 refine aI _ (aO 108) λB w0=>?_;refine go ?_;refine ae () (hv:=?_) (hp:=trivial);simp[qA]
theorem UC(x y:Int):cK Tryz.prog 69 [.int .i64 x,.int .i64 y] [] (.int .i64 (fU x y)):=by
 refine aI _ (aO 69) λB w0=>?_;refine go ?_;refine ax (UB x) (next:=λ_ _=>?_);refine go ?_;refine ax (UB y) (next:=λ_ _=>?_);refine go ?_;refine ay rfl (λh1=>?_) (λh1=>?_)
 ·refine go ?_;refine ae () (hv:=?_) (hp:=trivial);rw[fU,if_pos h1];rfl
 refine go ?_;refine ay rfl (λh2=>?_) (λh2=>?_)
 ·refine go ?_;refine ae () (hv:=?_) (hp:=trivial);rw[fU,if_neg h1,if_pos h2];rfl
 refine go ?_;refine ae () (hv:=?_) (hp:=trivial);rw[fU,if_neg h1,if_neg h2];rfl
theorem afs{α:Type}{xs:List α}{k:Nat}{x:α}(h:xs[k]? =some x):xs.drop k=x::xs.drop (k+1):=by
 obtain⟨hlt,he⟩:=bP.1 h;rw[pg hlt,he]
theorem aft{v:Value}{xs:List Int}(hl:xs.length<9223372036854775808):cK Tryz.prog 68 [v] [ah aa v xs] (.int .i64 (rT xs)):=by
 refine aI _ (aO 68) λB w0=>?_;refine go ?_;refine aZ (λk=>xs.length - k) (λk:Nat=>[(8,.int .i64 (k:Int))]) (λ_=>[]) (λ_=>[]) (λk=>k<=xs.length/\rT xs=rT (xs.drop k)) 0 ⟨by omega,rfl⟩ (body:=?_);rintro k ⟨hk,hf⟩;refine go ?_;refine ay rfl (λh1=>?_) (λh1=>?_)
 ·refine go ?_;intro _ _ x hx;have hd:=afs hx;refine go ?_;refine ay rfl (λh2=>?_) (λh2=>?_)
  ·refine go ?_;refine ae () (hv:=?_) (hp:=trivial);rw[hf,hd,rT,if_pos h2];rfl
  ·refine go ?_;refine aP (k+1) (by show xs.length - (k+1)<xs.length - k;omega) ⟨by omega,?_⟩;rw[hf,hd,rT,if_neg h2]
 have hk:k=xs.length:=by omega
 refine go ?_;refine ae () (hv:=?_) (hp:=trivial);rw[hf,hk,List.drop_length];rfl
theorem Ns{a b:Clue}{va vb:Value}:cK Tryz.prog 38 [zN a va,zN b vb] [] (.int .i64 (gu a b)):=by
 refine aI _ (aO 38) λB w0=>?_;refine go ?_;intro b2 b3;refine go ?_;refine ax (UC a.aH b.aH) (next:=λ_ _=>?_);refine go ?_;refine ax (UC a.at_ b.at_) (next:=λ_ _=>?_);refine go ?_;intro b15;refine bA (A:=pt b15 (.cells [.int .i64 (fU a.aH b.aH),.int .i64 (fU a.at_ b.at_)])) (fs:=[ah aa (.slice (some ⟨b15,0,some 0⟩) 2 2) [fU a.aH b.aH,fU a.at_ b.at_]]) (zu (b:=b15) (f:=0) (c:=2) (xs:=[fU a.aH b.aH,fU a.at_ b.at_])) (h:=?_);refine go ?_;refine ax (aft (xs:=[fU a.aH b.aH,fU a.at_ b.at_]) (by simp)) (next:=λ_ _=>?_);refine go ?_;exact ae () (hv:=rfl) (hp:=trivial)
open Go.Ideal Kd Canon Go.Sort
theorem Nt{α:Type}{l:List α}{k:Nat}{x:α}(h:l[k]? =some x):l.take (k+1)=l.take k++[x]:=by
 rw[mo,h];rfl
theorem I5{va vb:Value}{xs ys:List Int}(hal:xs.length<=1000000)(hbl:ys.length<=1000000):
 cK Tryz.prog 29 [va,vb] [ah aa va xs,ah aa vb ys] (.int .i64 (iL fU xs ys)):=by
 refine aI _ (aO 29) λB w0=>?_;refine go ?_;refine aZ (λk=>xs.length - k) (λk:Nat=>[(5,.int .i64 (k:Int))]) (λ_=>[]) (λ_=>[]) (λk=>k<=xs.length/\k<=ys.length/\iL fU xs ys=iL fU (xs.drop k) (ys.drop k)) 0 ⟨by omega,by omega,rfl⟩ (body:=?_);rintro k ⟨hkx,Cf,rW⟩;refine go ?_;first|with_reducible refine aN (λh1=>?_) (λh1=>?_)|with_reducible refine aM (λh1=>?_) (λh1=>?_)|with_reducible refine aK (λh1=>?_) (λh1=>?_)
 ·refine go ?_;refine ay rfl (λh3=>?_) (λh3=>?_)
  ·refine go ?_;refine ae () (hv:=?_) (hp:=trivial);rw[rW,Ce hkx Cf (by omega),if_pos (by omega)];rfl
  refine go ?_;refine ay rfl (λh4=>?_) (λh4=>?_)
  ·refine go ?_;refine ae () (hv:=?_) (hp:=trivial);rw[rW,Ce hkx Cf (by omega),if_neg (by omega),if_pos (by omega)];rfl
  refine go ?_;refine ae () (hv:=?_) (hp:=trivial);rw[rW,Ce hkx Cf (by omega),if_neg (by omega),if_neg (by omega)];rfl
 refine go ?_;refine ay rfl (λh2=>?_) (λh2=>?_)
 rotate_left
 ·refine go ?_;refine ay rfl (λh3=>?_) (λh3=>?_)
  ·refine go ?_;refine ae () (hv:=?_) (hp:=trivial);rw[rW,Ce hkx Cf (by omega),if_pos (by omega)];rfl
  refine go ?_;refine ay rfl (λh4=>?_) (λh4=>?_)
  ·refine go ?_;refine ae () (hv:=?_) (hp:=trivial);rw[rW,Ce hkx Cf (by omega),if_neg (by omega),if_pos (by omega)];rfl
  refine go ?_;refine ae () (hv:=?_) (hp:=trivial);rw[rW,Ce hkx Cf (by omega),if_neg (by omega),if_neg (by omega)];rfl
 refine go ?_;intro _ _ x hx _ _ y hy;refine ay rfl (λh3=>?_) (λh3=>?_)
 ·refine go ?_;refine ae () (hv:=?_) (hp:=trivial);rw[rW,drop_cons hx,drop_cons hy,iL,fU,if_pos h3];rfl
 refine go ?_;intro _ _ x' hx' _ _ y' hy';cases hx.symm.trans hx';cases hy.symm.trans hy';refine ay rfl (λh4=>?_) (λh4=>?_)
 ·refine go ?_;refine ae () (hv:=?_) (hp:=trivial);rw[rW,drop_cons hx,drop_cons hy,iL,fU,if_neg h3,if_pos h4];rfl
 refine go ?_;refine aP (k+1) (by omega) ⟨by omega,by omega,?_⟩;rw[rW,drop_cons hx,drop_cons hy,iL,fU,if_neg h3,if_neg h4];rfl
theorem UD{b:Nat}{x y:Int}:rD (pt b (.cells [.int .i64 x,.int .i64 y])) [ah aa (.slice (some ⟨b,0,some 0⟩) 2 2) [x,y]]:=zu (xs:=[x,y])
theorem afu{va vb:Value}{a b:Clue}:cK Tryz.prog 28 [zN a va,zN b vb] [] (.int .i64 (iL fU [a.aH,a.at_] [b.aH,b.at_])):=by
 refine aI _ (aO 28) λB w0=>?_;refine go ?_;intro b1 b2 b3 b4;refine bA (UD) (h:=?_);refine bA (UD) (h:=?_);refine ax (I5 (xs:=[a.aH,a.at_]) (ys:=[b.aH,b.at_]) (by simp) (by simp)) (next:=λ_ _=>?_);refine go ?_;exact ae () (hv:=rfl) (hp:=trivial)
theorem afv{va:Value}{xs:List Clue}(hl:xs.length<9223372036854775808):bn Tryz.prog (.func 12) [.agg ⟨[va]⟩] [] [] [ah iV va xs] (λb:Bool=>.bool b) (λ_=>[]) (λ_=>[]) (λb=>b=true->xs.length<=60/\∀g∈xs,g.values.length<=20):=by
 refine aI _ (aO 12) λB w0=>?_;refine aS (E:=iV) (v:=va) (xs:=xs) (by simp) λav cv wJ=>?_;subst wJ;refine go ?_;intro b1;refine aZ (λk=>xs.length - k) (λk:Nat=>[(3,.int .i64 (k:Int))]) (λ_=>[]) (λ_=>[]) (λk=>k<=xs.length/\∀j g,j<k->xs[j]? =some g->g.values.length<=20) 0 ⟨by omega,λj g hj=>by omega⟩ (body:=?_);rintro k ⟨hkx,hall⟩;refine go ?_;refine ay rfl (λh1=>?_) (λh1=>?_)
 rotate_left
 ·refine go ?_;refine ae _ (hv:=rfl) (hp:=λh=>?_);have h:=gX h;refine⟨by omega,λg hg=>?_⟩;obtain⟨j,hj⟩:=mP hg;exact hall j g (by have:=(bP.1 hj).1;omega) hj
 refine go ?_;refine bi iV (next:=λ_ _ x (vx:Value) hxk=>?_);refine go ?_;refine ay rfl (λh3=>?_) (λh3=>?_)
 ·refine go ?_;exact ae false (hv:=rfl) (hp:=λh=>by cases h)
 refine go ?_;refine aP (k+1) (by omega) ⟨by omega,λj g hj hg=>?_⟩;by_cases e:j=k
 ·subst e;rw[hxk]at hg;cases hg;omega
 ·exact hall j g (by omega) hg
def wK(l rs:List Clue)(i:Nat)(best:Int):Prop:=(best= -1/\∀x∈l.take i,opn rs x=false)\/∃(b:Nat) (y:Clue),best=(b:Int)/\l[b]? =some y/\opn rs y=true/\∀x∈l.take i,opn rs x=true->¬sU x y<0
theorem wK.skip{l rs:List Clue}{i:Nat}{best:Int}{x:Clue}(h:wK l rs i best)(hx:l[i]? =some x)(ho:opn rs x=false):wK l rs (i+1) best:=by
 have hm:∀z∈l.take (i+1),z∈l.take i\/z=x:=λz hz=>by
  rw[Nt hx]at hz;rcases dZ.1 hz with h|h
  ·exact .inl h
  ·exact .inr (bI.1 h)
 rcases h with⟨h1,h2⟩|⟨b,y,h1,h2,h3,h4⟩
 ·refine .inl ⟨h1,λz hz=>?_⟩;rcases hm z hz with h|h
  ·exact h2 z h
  ·rw[h];exact ho
 ·refine .inr ⟨b,y,h1,h2,h3,λz hz wL=>?_⟩;rcases hm z hz with h|h
  ·exact h4 z h wL
  ·rw[h,ho]at wL;cases wL
theorem wK.take{l rs:List Clue}{i:Nat}{best:Int}{x:Clue}(h:wK l rs i best)(hx:l[i]? =some x)(ho:opn rs x=true)(hb:best= -1\/∃(b:Nat) (y:Clue),best=(b:Int)/\l[b]? =some y/\sU x y<0):wK l rs (i+1) (i:Int):=by
 have hO:=ZJ;refine .inr ⟨i,x,rfl,hx,ho,λz hz wL hlt=>?_⟩;rw[Nt hx]at hz;rcases dZ.1 hz with hz|hz
 ·rcases h with⟨h1,h2⟩|⟨b,y,h1,h2,h3,h4⟩
  ·rw[h2 z hz]at wL;cases wL
  ·rcases hb with hb|⟨b',y',e1,e2,e3⟩
   ·omega
   ·have:b'=b:=by omega
    subst this;cases h2.symm.trans e2;exact h4 z hz wL (hO.trans z x y hlt e3)
 ·rw[bI.1 hz]at hlt;have:=(hO.zero x x).2 rfl;omega
theorem wK.keep{l rs:List Clue}{i b:Nat}{x y:Clue}(h:wK l rs i (b:Int))(hx:l[i]? =some x)(hy:l[b]? =some y)(hn:¬sU x y<0):wK l rs (i+1) (b:Int):=by
 rcases h with⟨h1,h2⟩|⟨b',y',h1,h2,h3,h4⟩
 ·omega
 ·have:b'=b:=by omega
  subst this;cases h2.symm.trans hy;refine .inr ⟨b',y,rfl,hy,h3,λz hz wL=>?_⟩;rw[Nt hx]at hz;rcases dZ.1 hz with hz|hz
  ·exact h4 z hz wL
  ·rw[bI.1 hz];exact hn
