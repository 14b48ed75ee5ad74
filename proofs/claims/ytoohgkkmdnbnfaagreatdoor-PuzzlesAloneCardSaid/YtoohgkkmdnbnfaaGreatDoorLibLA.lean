/-
  Comparisons: cmp.Compare and slices.Compare of numbers.
-/
import Derived.Test.YtoohgkkmdnbnfaaGreatDoorProg
import Derived.Test.YtoohgkkmdnbnfaaGreatDoorPlainCA
import Derived.Test.YtoohgkkmdnbnfaaGreatDoorShelfS
import Derived.Test.YtoohgkkmdnbnfaaGreatDoorIdealPA
set_option linter.all false
set_option maxRecDepth 10000
set_option maxHeartbeats 1000000
namespace Go.Proofs.YtoohgkkmdnbnfaaGreatDoor
open Go.Ideal Canon
theorem drop_cons{α:Type}{xs:List α}{k:Nat}{x:α}(h:xs[k]? =some x):xs.drop k=x::xs.drop (k+1):=by
 obtain⟨hlt,he⟩:=bO.1 h;rw[oI hlt,he]
theorem Cx{xs ys:List Int}{k:Nat}(hx:k<=xs.length)(hy:k<=ys.length)(h:k=xs.length\/k=ys.length):
 iP gB (xs.drop k) (ys.drop k)=if xs.length<ys.length then -1 else if ys.length<xs.length then 1 else 0:=by
 rcases h with h|h
 ·rw[show xs.drop k=[]from Db (by omega)];by_cases e:xs.length<ys.length
  ·rw[if_pos e];have:k<ys.length:=by omega
   rw[oI this];rfl
  ·rw[if_neg e,if_neg (by omega),show ys.drop k=[]from Db (by omega)];rfl
 ·rw[show ys.drop k=[]from Db (by omega)];by_cases e:ys.length<xs.length
  ·rw[if_neg (by omega),if_pos e];have:k<xs.length:=by omega
   rw[oI this];rfl
  ·rw[if_neg (by omega),if_neg e,show xs.drop k=[]from Db (by omega)];rfl
set_option maxHeartbeats 4000000
open Go.Ideal Kd Canon
theorem U4(x:Int):dz Tryz.prog 108 [.int .i64 x] [] (.bool false):=by
 refine aK _ (aP 108) λB w0=>?_;refine go ?_;refine ae () (hv:=?_) (hp:=trivial);simp[qH]
theorem U5(x y:Int):dz Tryz.prog 69 [.int .i64 x,.int .i64 y] [] (.int .i64 (gB x y)):=by
 refine aK _ (aP 69) λB w0=>?_;refine go ?_;refine ax (U4 x) (next:=λ_ _=>?_);refine go ?_;refine ax (U4 y) (next:=λ_ _=>?_);refine go ?_;refine aA rfl (λh1=>?_) (λh1=>?_)
 ·refine go ?_;refine ae () (hv:=?_) (hp:=trivial);rw[gB,if_pos h1];rfl
 refine go ?_;refine aA rfl (λh2=>?_) (λh2=>?_)
 ·refine go ?_;refine ae () (hv:=?_) (hp:=trivial);rw[gB,if_neg h1,if_pos h2];rfl
 refine go ?_;refine ae () (hv:=?_) (hp:=trivial);rw[gB,if_neg h1,if_neg h2];rfl
theorem af9{α:Type}{xs:List α}{k:Nat}{x:α}(h:xs[k]? =some x):xs.drop k=x::xs.drop (k+1):=by
 obtain⟨hlt,he⟩:=bO.1 h;rw[oI hlt,he]
theorem aga{v:Value}{xs:List Int}(hl:xs.length<9223372036854775808):dz Tryz.prog 68 [v] [ah aa v xs] (.int .i64 (si xs)):=by
 refine aK _ (aP 68) λB w0=>?_;refine go ?_;refine aZ (λk=>xs.length - k) (λk:Nat=>[(8,.int .i64 (k:Int))]) (λ_=>[]) (λ_=>[]) (λk=>k<=xs.length/\si xs=si (xs.drop k)) 0 ⟨by omega,rfl⟩ (body:=?_);rintro k ⟨hk,hf⟩;refine go ?_;refine aA rfl (λh1=>?_) (λh1=>?_)
 ·refine go ?_;intro _ _ x hx;have hd:=af9 hx;refine go ?_;refine aA rfl (λh2=>?_) (λh2=>?_)
  ·refine go ?_;refine ae () (hv:=?_) (hp:=trivial);rw[hf,hd,si,if_pos h2];rfl
  ·refine go ?_;refine aQ (k+1) (by show xs.length - (k+1)<xs.length - k;omega) ⟨by omega,?_⟩;rw[hf,hd,si,if_neg h2]
 have hk:k=xs.length:=by omega
 refine go ?_;refine ae () (hv:=?_) (hp:=trivial);rw[hf,hk,List.drop_length];rfl
theorem NH{a b:Clue}{va vb:Value}:dz Tryz.prog 38 [IE a va,IE b vb] [] (.int .i64 (gq a b)):=by
 refine aK _ (aP 38) λB w0=>?_;refine go ?_;intro b2 b3;refine go ?_;refine ax (U5 a.aG b.aG) (next:=λ_ _=>?_);refine go ?_;refine ax (U5 a.at_ b.at_) (next:=λ_ _=>?_);refine go ?_;intro b15;refine bD (A:=pt b15 (.cells [.int .i64 (gB a.aG b.aG),.int .i64 (gB a.at_ b.at_)])) (fs:=[ah aa (.slice (some ⟨b15,0,some 0⟩) 2 2) [gB a.aG b.aG,gB a.at_ b.at_]]) (Ej (b:=b15) (f:=0) (c:=2) (xs:=[gB a.aG b.aG,gB a.at_ b.at_])) (h:=?_);refine go ?_;refine ax (aga (xs:=[gB a.aG b.aG,gB a.at_ b.at_]) (by simp)) (next:=λ_ _=>?_);refine go ?_;exact ae () (hv:=rfl) (hp:=trivial)
open Go.Ideal Kd Canon Go.Sort
theorem NI{α:Type}{l:List α}{k:Nat}{x:α}(h:l[k]? =some x):l.take (k+1)=l.take k++[x]:=by
 rw[mM,h];rfl
theorem NJ{va vb:Value}{xs ys:List Int}(hal:xs.length<=1000000)(hbl:ys.length<=1000000):
 dz Tryz.prog 29 [va,vb] [ah aa va xs,ah aa vb ys] (.int .i64 (iP gB xs ys)):=by
 refine aK _ (aP 29) λB w0=>?_;refine go ?_;refine aZ (λk=>xs.length - k) (λk:Nat=>[(5,.int .i64 (k:Int))]) (λ_=>[]) (λ_=>[]) (λk=>k<=xs.length/\k<=ys.length/\iP gB xs ys=iP gB (xs.drop k) (ys.drop k)) 0 ⟨by omega,by omega,rfl⟩ (body:=?_);rintro k ⟨hkx,Cy,su⟩;refine go ?_;first|with_reducible refine aN (λh1=>?_) (λh1=>?_)|with_reducible refine aM (λh1=>?_) (λh1=>?_)|with_reducible refine aL (λh1=>?_) (λh1=>?_)
 ·refine go ?_;refine aA rfl (λh3=>?_) (λh3=>?_)
  ·refine go ?_;refine ae () (hv:=?_) (hp:=trivial);rw[su,Cx hkx Cy (by omega),if_pos (by omega)];rfl
  refine go ?_;refine aA rfl (λh4=>?_) (λh4=>?_)
  ·refine go ?_;refine ae () (hv:=?_) (hp:=trivial);rw[su,Cx hkx Cy (by omega),if_neg (by omega),if_pos (by omega)];rfl
  refine go ?_;refine ae () (hv:=?_) (hp:=trivial);rw[su,Cx hkx Cy (by omega),if_neg (by omega),if_neg (by omega)];rfl
 refine go ?_;refine aA rfl (λh2=>?_) (λh2=>?_)
 rotate_left
 ·refine go ?_;refine aA rfl (λh3=>?_) (λh3=>?_)
  ·refine go ?_;refine ae () (hv:=?_) (hp:=trivial);rw[su,Cx hkx Cy (by omega),if_pos (by omega)];rfl
  refine go ?_;refine aA rfl (λh4=>?_) (λh4=>?_)
  ·refine go ?_;refine ae () (hv:=?_) (hp:=trivial);rw[su,Cx hkx Cy (by omega),if_neg (by omega),if_pos (by omega)];rfl
  refine go ?_;refine ae () (hv:=?_) (hp:=trivial);rw[su,Cx hkx Cy (by omega),if_neg (by omega),if_neg (by omega)];rfl
 refine go ?_;intro _ _ x hx _ _ y hy;refine aA rfl (λh3=>?_) (λh3=>?_)
 ·refine go ?_;refine ae () (hv:=?_) (hp:=trivial);rw[su,drop_cons hx,drop_cons hy,iP,gB,if_pos h3];rfl
 refine go ?_;intro _ _ x' hx' _ _ y' hy';cases hx.symm.trans hx';cases hy.symm.trans hy';refine aA rfl (λh4=>?_) (λh4=>?_)
 ·refine go ?_;refine ae () (hv:=?_) (hp:=trivial);rw[su,drop_cons hx,drop_cons hy,iP,gB,if_neg h3,if_pos h4];rfl
 refine go ?_;refine aQ (k+1) (by omega) ⟨by omega,by omega,?_⟩;rw[su,drop_cons hx,drop_cons hy,iP,gB,if_neg h3,if_neg h4];rfl
theorem agb{va:Value}{xs:List Clue}(hl:xs.length<9223372036854775808):bi Tryz.prog (.func 12) [.agg ⟨[va]⟩] [] [] [ah eF va xs] (λb:Bool=>.bool b) (λ_=>[]) (λ_=>[]) (λb=>b=true->xs.length<=60/\∀g∈xs,g.values.length<=20):=by
 refine aK _ (aP 12) λB w0=>?_;refine aS (E:=eF) (v:=va) (xs:=xs) (by simp) λav cv Ar=>?_;subst Ar;refine go ?_;intro b1;refine aZ (λk=>xs.length - k) (λk:Nat=>[(3,.int .i64 (k:Int))]) (λ_=>[]) (λ_=>[]) (λk=>k<=xs.length/\∀j g,j<k->xs[j]? =some g->g.values.length<=20) 0 ⟨by omega,λj g hj=>by omega⟩ (body:=?_);rintro k ⟨hkx,hall⟩;refine go ?_;refine aA rfl (λh1=>?_) (λh1=>?_)
 rotate_left
 ·refine go ?_;refine ae _ (hv:=rfl) (hp:=λh=>?_);have h:=gY h;refine⟨by omega,λg hg=>?_⟩;obtain⟨j,hj⟩:=lH hg;exact hall j g (by have:=(bO.1 hj).1;omega) hj
 refine go ?_;refine bz eF (next:=λ_ _ x (vx:Value) hxk=>?_);refine go ?_;refine aA rfl (λh3=>?_) (λh3=>?_)
 ·refine go ?_;exact ae false (hv:=rfl) (hp:=λh=>by cases h)
 refine go ?_;refine aQ (k+1) (by omega) ⟨by omega,λj g hj hg=>?_⟩;by_cases e:j=k
 ·subst e;rw[hxk]at hg;cases hg;omega
 ·exact hall j g (by omega) hg
def wO(l rs:List Clue)(i:Nat)(best:Int):Prop:=(best= -1/\∀x∈l.take i,opn rs x=false)\/∃(b:Nat) (y:Clue),best=(b:Int)/\l[b]? =some y/\opn rs y=true/\∀x∈l.take i,opn rs x=true->¬tJ x y<0
theorem wO.skip{l rs:List Clue}{i:Nat}{best:Int}{x:Clue}(h:wO l rs i best)(hx:l[i]? =some x)(ho:opn rs x=false):wO l rs (i+1) best:=by
 have hm:∀z∈l.take (i+1),z∈l.take i\/z=x:=λz hz=>by
  rw[NI hx]at hz;rcases dV.1 hz with h|h
  ·exact .inl h
  ·exact .inr (bH.1 h)
 rcases h with⟨h1,h2⟩|⟨b,y,h1,h2,h3,h4⟩
 ·refine .inl ⟨h1,λz hz=>?_⟩;rcases hm z hz with h|h
  ·exact h2 z h
  ·rw[h];exact ho
 ·refine .inr ⟨b,y,h1,h2,h3,λz hz wP=>?_⟩;rcases hm z hz with h|h
  ·exact h4 z h wP
  ·rw[h,ho]at wP;cases wP
theorem wO.take{l rs:List Clue}{i:Nat}{best:Int}{x:Clue}(h:wO l rs i best)(hx:l[i]? =some x)(ho:opn rs x=true)(hb:best= -1\/∃(b:Nat) (y:Clue),best=(b:Int)/\l[b]? =some y/\tJ x y<0):wO l rs (i+1) (i:Int):=by
 have hO:=aab;refine .inr ⟨i,x,rfl,hx,ho,λz hz wP hlt=>?_⟩;rw[NI hx]at hz;rcases dV.1 hz with hz|hz
 ·rcases h with⟨h1,h2⟩|⟨b,y,h1,h2,h3,h4⟩
  ·rw[h2 z hz]at wP;cases wP
  ·rcases hb with hb|⟨b',y',e1,e2,e3⟩
   ·omega
   ·have:b'=b:=by omega
    subst this;cases h2.symm.trans e2;exact h4 z hz wP (hO.trans z x y hlt e3)
 ·rw[bH.1 hz]at hlt;have:=(hO.zero x x).2 rfl;omega
theorem wO.keep{l rs:List Clue}{i b:Nat}{x y:Clue}(h:wO l rs i (b:Int))(hx:l[i]? =some x)(hy:l[b]? =some y)(hn:¬tJ x y<0):wO l rs (i+1) (b:Int):=by
 rcases h with⟨h1,h2⟩|⟨b',y',h1,h2,h3,h4⟩
 ·omega
 ·have:b'=b:=by omega
  subst this;cases h2.symm.trans hy;refine .inr ⟨b',y,rfl,hy,h3,λz hz wP=>?_⟩;rw[NI hx]at hz;rcases dV.1 hz with hz|hz
  ·exact h4 z hz wP
  ·rw[bH.1 hz];exact hn
