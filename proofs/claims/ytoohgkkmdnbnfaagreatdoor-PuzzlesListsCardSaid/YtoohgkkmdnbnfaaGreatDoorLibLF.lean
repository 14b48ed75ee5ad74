/-
  Comparisons: cmp.Compare and slices.Compare of numbers.
-/
import Derived.Test.YtoohgkkmdnbnfaaGreatDoorProg
import Derived.Test.YtoohgkkmdnbnfaaGreatDoorPlainCF
import Derived.Test.YtoohgkkmdnbnfaaGreatDoorShelfS
import Derived.Test.YtoohgkkmdnbnfaaGreatDoorIdealPF
set_option linter.all false
set_option maxRecDepth 10000
set_option maxHeartbeats 1000000
namespace Go.Proofs.YtoohgkkmdnbnfaaGreatDoor
open Go.Ideal Canon
theorem drop_cons{α:Type}{xs:List α}{k:Nat}{x:α}(h:xs[k]? =some x):xs.drop k=x::xs.drop (k+1):=by
 obtain⟨hlt,he⟩:=bN.1 h;rw[oQ hlt,he]
theorem BS{xs ys:List Int}{k:Nat}(hx:k<=xs.length)(hy:k<=ys.length)(h:k=xs.length\/k=ys.length):
 iE fQ (xs.drop k) (ys.drop k)=if xs.length<ys.length then -1 else if ys.length<xs.length then 1 else 0:=by
 rcases h with h|h
 ·rw[show xs.drop k=[]from EZ (by omega)];by_cases e:xs.length<ys.length
  ·rw[if_pos e];have:k<ys.length:=by omega
   rw[oQ this];rfl
  ·rw[if_neg e,if_neg (by omega),show ys.drop k=[]from EZ (by omega)];rfl
 ·rw[show ys.drop k=[]from EZ (by omega)];by_cases e:ys.length<xs.length
  ·rw[if_neg (by omega),if_pos e];have:k<xs.length:=by omega
   rw[oQ this];rfl
  ·rw[if_neg (by omega),if_neg e,show xs.drop k=[]from EZ (by omega)];rfl
set_option maxHeartbeats 4000000
open Go.Ideal Kd Canon
theorem Uh(x:Int):dG Tryz.prog 108 [.int .i64 x] [] (.bool false):=by
 refine aK _ (aP 108) λB w0=>?_;refine go ?_;refine ae () (hv:=?_) (hp:=trivial);simp[qm]
theorem Ui(x y:Int):dG Tryz.prog 69 [.int .i64 x,.int .i64 y] [] (.int .i64 (fQ x y)):=by
 refine aK _ (aP 69) λB w0=>?_;refine go ?_;refine ax (Uh x) (next:=λ_ _=>?_);refine go ?_;refine ax (Uh y) (next:=λ_ _=>?_);refine go ?_;refine az rfl (λh1=>?_) (λh1=>?_)
 ·refine go ?_;refine ae () (hv:=?_) (hp:=trivial);rw[fQ,if_pos h1];rfl
 refine go ?_;refine az rfl (λh2=>?_) (λh2=>?_)
 ·refine go ?_;refine ae () (hv:=?_) (hp:=trivial);rw[fQ,if_neg h1,if_pos h2];rfl
 refine go ?_;refine ae () (hv:=?_) (hp:=trivial);rw[fQ,if_neg h1,if_neg h2];rfl
theorem afh{α:Type}{xs:List α}{k:Nat}{x:α}(h:xs[k]? =some x):xs.drop k=x::xs.drop (k+1):=by
 obtain⟨hlt,he⟩:=bN.1 h;rw[oQ hlt,he]
theorem afi{v:Value}{xs:List Int}(hl:xs.length<9223372036854775808):dG Tryz.prog 68 [v] [ah aa v xs] (.int .i64 (rH xs)):=by
 refine aK _ (aP 68) λB w0=>?_;refine go ?_;refine bi (λk=>xs.length - k) (λk:Nat=>[(8,.int .i64 (k:Int))]) (λ_=>[]) (λ_=>[]) (λk=>k<=xs.length/\rH xs=rH (xs.drop k)) 0 ⟨by omega,rfl⟩ (body:=?_);rintro k ⟨hk,hf⟩;refine go ?_;refine az rfl (λh1=>?_) (λh1=>?_)
 ·refine go ?_;intro _ _ x hx;have hd:=afh hx;refine go ?_;refine az rfl (λh2=>?_) (λh2=>?_)
  ·refine go ?_;refine ae () (hv:=?_) (hp:=trivial);rw[hf,hd,rH,if_pos h2];rfl
  ·refine go ?_;refine aQ (k+1) (by show xs.length - (k+1)<xs.length - k;omega) ⟨by omega,?_⟩;rw[hf,hd,rH,if_neg h2]
 have hk:k=xs.length:=by omega
 refine go ?_;refine ae () (hv:=?_) (hp:=trivial);rw[hf,hk,List.drop_length];rfl
theorem M6{a b:Clue}{va vb:Value}:dG Tryz.prog 38 [HZ a va,HZ b vb] [] (.int .i64 (fK a b)):=by
 refine aK _ (aP 38) λB w0=>?_;refine go ?_;intro b2 b3;refine go ?_;refine ax (Ui a.aG b.aG) (next:=λ_ _=>?_);refine go ?_;refine ax (Ui a.at_ b.at_) (next:=λ_ _=>?_);refine go ?_;intro b15;refine bC (A:=pt b15 (.cells [.int .i64 (fQ a.aG b.aG),.int .i64 (fQ a.at_ b.at_)])) (fs:=[ah aa (.slice (some ⟨b15,0,some 0⟩) 2 2) [fQ a.aG b.aG,fQ a.at_ b.at_]]) (A8 (b:=b15) (f:=0) (c:=2) (xs:=[fQ a.aG b.aG,fQ a.at_ b.at_])) (h:=?_);refine go ?_;refine ax (afi (xs:=[fQ a.aG b.aG,fQ a.at_ b.at_]) (by simp)) (next:=λ_ _=>?_);refine go ?_;exact ae () (hv:=rfl) (hp:=trivial)
open Go.Ideal Kd Canon Go.Sort
theorem M7{α:Type}{l:List α}{k:Nat}{x:α}(h:l[k]? =some x):l.take (k+1)=l.take k++[x]:=by
 rw[l9,h];rfl
theorem Uj{va vb:Value}{xs ys:List Int}(hal:xs.length<=1000000)(hbl:ys.length<=1000000):
 dG Tryz.prog 29 [va,vb] [ah aa va xs,ah aa vb ys] (.int .i64 (iE fQ xs ys)):=by
 refine aK _ (aP 29) λB w0=>?_;refine go ?_;refine bi (λk=>xs.length - k) (λk:Nat=>[(5,.int .i64 (k:Int))]) (λ_=>[]) (λ_=>[]) (λk=>k<=xs.length/\k<=ys.length/\iE fQ xs ys=iE fQ (xs.drop k) (ys.drop k)) 0 ⟨by omega,by omega,rfl⟩ (body:=?_);rintro k ⟨hkx,BU,rO⟩;refine go ?_;first|with_reducible refine aL (λh1=>?_) (λh1=>?_)|with_reducible refine aO (λh1=>?_) (λh1=>?_)|with_reducible refine aM (λh1=>?_) (λh1=>?_)
 ·refine go ?_;refine az rfl (λh3=>?_) (λh3=>?_)
  ·refine go ?_;refine ae () (hv:=?_) (hp:=trivial);rw[rO,BS hkx BU (by omega),if_pos (by omega)];rfl
  refine go ?_;refine az rfl (λh4=>?_) (λh4=>?_)
  ·refine go ?_;refine ae () (hv:=?_) (hp:=trivial);rw[rO,BS hkx BU (by omega),if_neg (by omega),if_pos (by omega)];rfl
  refine go ?_;refine ae () (hv:=?_) (hp:=trivial);rw[rO,BS hkx BU (by omega),if_neg (by omega),if_neg (by omega)];rfl
 refine go ?_;refine az rfl (λh2=>?_) (λh2=>?_)
 rotate_left
 ·refine go ?_;refine az rfl (λh3=>?_) (λh3=>?_)
  ·refine go ?_;refine ae () (hv:=?_) (hp:=trivial);rw[rO,BS hkx BU (by omega),if_pos (by omega)];rfl
  refine go ?_;refine az rfl (λh4=>?_) (λh4=>?_)
  ·refine go ?_;refine ae () (hv:=?_) (hp:=trivial);rw[rO,BS hkx BU (by omega),if_neg (by omega),if_pos (by omega)];rfl
  refine go ?_;refine ae () (hv:=?_) (hp:=trivial);rw[rO,BS hkx BU (by omega),if_neg (by omega),if_neg (by omega)];rfl
 refine go ?_;intro _ _ x hx _ _ y hy;refine az rfl (λh3=>?_) (λh3=>?_)
 ·refine go ?_;refine ae () (hv:=?_) (hp:=trivial);rw[rO,drop_cons hx,drop_cons hy,iE,fQ,if_pos h3];rfl
 refine go ?_;intro _ _ x' hx' _ _ y' hy';cases hx.symm.trans hx';cases hy.symm.trans hy';refine az rfl (λh4=>?_) (λh4=>?_)
 ·refine go ?_;refine ae () (hv:=?_) (hp:=trivial);rw[rO,drop_cons hx,drop_cons hy,iE,fQ,if_neg h3,if_pos h4];rfl
 refine go ?_;refine aQ (k+1) (by omega) ⟨by omega,by omega,?_⟩;rw[rO,drop_cons hx,drop_cons hy,iE,fQ,if_neg h3,if_neg h4];rfl
theorem Uk{b:Nat}{x y:Int}:qZ (pt b (.cells [.int .i64 x,.int .i64 y])) [ah aa (.slice (some ⟨b,0,some 0⟩) 2 2) [x,y]]:=A8 (xs:=[x,y])
theorem afj{va:Value}{xs:List Clue}(hl:xs.length<9223372036854775808):bz Tryz.prog (.func 12) [.agg ⟨[va]⟩] [] [] [ah j6 va xs] (λb:Bool=>.bool b) (λ_=>[]) (λ_=>[]) (λb=>b=true->xs.length<=60/\∀g∈xs,g.values.length<=20):=by
 refine aK _ (aP 12) λB w0=>?_;refine aV (E:=j6) (v:=va) (xs:=xs) (by simp) λav cv EF=>?_;subst EF;refine go ?_;intro b1;refine bi (λk=>xs.length - k) (λk:Nat=>[(3,.int .i64 (k:Int))]) (λ_=>[]) (λ_=>[]) (λk=>k<=xs.length/\∀j g,j<k->xs[j]? =some g->g.values.length<=20) 0 ⟨by omega,λj g hj=>by omega⟩ (body:=?_);rintro k ⟨hkx,hall⟩;refine go ?_;refine az rfl (λh1=>?_) (λh1=>?_)
 rotate_left
 ·refine go ?_;refine ae _ (hv:=rfl) (hp:=λh=>?_);have h:=gQ h;refine⟨by omega,λg hg=>?_⟩;obtain⟨j,hj⟩:=mH hg;exact hall j g (by have:=(bN.1 hj).1;omega) hj
 refine go ?_;refine aZ j6 (next:=λ_ _ x (vx:Value) hxk=>?_);refine go ?_;refine az rfl (λh3=>?_) (λh3=>?_)
 ·refine go ?_;exact ae false (hv:=rfl) (hp:=λh=>by cases h)
 refine go ?_;refine aQ (k+1) (by omega) ⟨by omega,λj g hj hg=>?_⟩;by_cases e:j=k
 ·subst e;rw[hxk]at hg;cases hg;omega
 ·exact hall j g (by omega) hg
def wC(l rs:List Clue)(i:Nat)(best:Int):Prop:=(best= -1/\∀x∈l.take i,opn rs x=false)\/∃(b:Nat) (y:Clue),best=(b:Int)/\l[b]? =some y/\opn rs y=true/\∀x∈l.take i,opn rs x=true->¬sM x y<0
theorem wC.skip{l rs:List Clue}{i:Nat}{best:Int}{x:Clue}(h:wC l rs i best)(hx:l[i]? =some x)(ho:opn rs x=false):wC l rs (i+1) best:=by
 have hm:∀z∈l.take (i+1),z∈l.take i\/z=x:=λz hz=>by
  rw[M7 hx]at hz;rcases dX.1 hz with h|h
  ·exact .inl h
  ·exact .inr (bH.1 h)
 rcases h with⟨h1,h2⟩|⟨b,y,h1,h2,h3,h4⟩
 ·refine .inl ⟨h1,λz hz=>?_⟩;rcases hm z hz with h|h
  ·exact h2 z h
  ·rw[h];exact ho
 ·refine .inr ⟨b,y,h1,h2,h3,λz hz wD=>?_⟩;rcases hm z hz with h|h
  ·exact h4 z h wD
  ·rw[h,ho]at wD;cases wD
theorem wC.take{l rs:List Clue}{i:Nat}{best:Int}{x:Clue}(h:wC l rs i best)(hx:l[i]? =some x)(ho:opn rs x=true)(hb:best= -1\/∃(b:Nat) (y:Clue),best=(b:Int)/\l[b]? =some y/\sM x y<0):wC l rs (i+1) (i:Int):=by
 have hO:=Zl;refine .inr ⟨i,x,rfl,hx,ho,λz hz wD hlt=>?_⟩;rw[M7 hx]at hz;rcases dX.1 hz with hz|hz
 ·rcases h with⟨h1,h2⟩|⟨b,y,h1,h2,h3,h4⟩
  ·rw[h2 z hz]at wD;cases wD
  ·rcases hb with hb|⟨b',y',e1,e2,e3⟩
   ·omega
   ·have:b'=b:=by omega
    subst this;cases h2.symm.trans e2;exact h4 z hz wD (hO.trans z x y hlt e3)
 ·rw[bH.1 hz]at hlt;have:=(hO.zero x x).2 rfl;omega
theorem wC.keep{l rs:List Clue}{i b:Nat}{x y:Clue}(h:wC l rs i (b:Int))(hx:l[i]? =some x)(hy:l[b]? =some y)(hn:¬sM x y<0):wC l rs (i+1) (b:Int):=by
 rcases h with⟨h1,h2⟩|⟨b',y',h1,h2,h3,h4⟩
 ·omega
 ·have:b'=b:=by omega
  subst this;cases h2.symm.trans hy;refine .inr ⟨b',y,rfl,hy,h3,λz hz wD=>?_⟩;rw[M7 hx]at hz;rcases dX.1 hz with hz|hz
  ·exact h4 z hz wD
  ·rw[bH.1 hz];exact hn
