/-
  Comparisons: cmp.Compare and slices.Compare of numbers.
-/
import Derived.Test.YtoohgkkmdnbnfaaGreatDoorProg
import Derived.Test.YtoohgkkmdnbnfaaGreatDoorPlainCB
import Derived.Test.YtoohgkkmdnbnfaaGreatDoorShelfS
import Derived.Test.YtoohgkkmdnbnfaaGreatDoorIdealPB
set_option linter.all false
set_option maxRecDepth 10000
set_option maxHeartbeats 1000000
namespace Go.Proofs.YtoohgkkmdnbnfaaGreatDoor
open Go.Ideal Canon
theorem Sr(x:Int):bY Tryz.prog 108 [.int .i64 x] [] (.bool false):=by
 refine aG _ (aM 108) λB w0=>?_;refine go ?_;refine aa () (hv:=?_) (hp:=trivial);simp[pW]
theorem adG(x y:Int):bY Tryz.prog 69 [.int .i64 x,.int .i64 y] [] (.int .i64 (dV x y)):=by
 refine aG _ (aM 69) λB w0=>?_;refine go ?_;refine ak (Sr x) (next:=λ_ _=>?_);refine go ?_;refine ak (Sr y) (next:=λ_ _=>?_);refine go ?_;refine az rfl (λh1=>?_) (λh1=>?_)
 ·refine go ?_;refine aa () (hv:=?_) (hp:=trivial);rw[dV,if_pos h1];rfl
 refine go ?_;refine az rfl (λh2=>?_) (λh2=>?_)
 ·refine go ?_;refine aa () (hv:=?_) (hp:=trivial);rw[dV,if_neg h1,if_pos h2];rfl
 refine go ?_;refine aa () (hv:=?_) (hp:=trivial);rw[dV,if_neg h1,if_neg h2];rfl
theorem drop_cons{α:Type}{xs:List α}{k:Nat}{x:α}(h:xs[k]? =some x):xs.drop k=x::xs.drop (k+1):=by
 obtain⟨hlt,he⟩:=bT.1 h;rw[pz hlt,he]
theorem xB{xs ys:List Int}{k:Nat}(hx:k<=xs.length)(hy:k<=ys.length)(h:k=xs.length\/k=ys.length):
 fJ dV (xs.drop k) (ys.drop k)=if xs.length<ys.length then -1 else if ys.length<xs.length then 1 else 0:=by
 rcases h with h|h
 ·rw[show xs.drop k=[]from zx (by omega)];by_cases e:xs.length<ys.length
  ·rw[if_pos e];have:k<ys.length:=by omega
   rw[pz this];rfl
  ·rw[if_neg e,if_neg (by omega),show ys.drop k=[]from zx (by omega)];rfl
 ·rw[show ys.drop k=[]from zx (by omega)];by_cases e:ys.length<xs.length
  ·rw[if_neg (by omega),if_pos e];have:k<xs.length:=by omega
   rw[pz this];rfl
  ·rw[if_neg (by omega),if_neg e,show xs.drop k=[]from zx (by omega)];rfl
theorem adH{va vb:Value}{xs ys:List Int}(hal:xs.length<=1000000)(hbl:ys.length<=1000000):
 bY Tryz.prog 71 [va,vb] [ah ae va xs,ah ae vb ys] (.int .i64 (fJ dV xs ys)):=by
 refine aG _ (aM 71) λB w0=>?_;refine go ?_;refine aX (λk=>xs.length - k) (λk:Nat=>[(11,.int .i64 (k:Int))]) (λ_=>[]) (λ_=>[]) (λk=>k<=xs.length/\k<=ys.length/\fJ dV xs ys=fJ dV (xs.drop k) (ys.drop k)) 0 ⟨by omega,by omega,rfl⟩ (body:=?_);rintro k ⟨hkx,vJ,og⟩;refine go ?_;refine az rfl (λh1=>?_) (λh1=>?_)
 ·refine go ?_;intro _ _ x hx;refine az rfl (λh2=>?_) (λh2=>?_)
  ·refine go ?_;refine aa () (hv:=?_) (hp:=trivial);rw[og,drop_cons hx,show ys.drop k=[]from zx (by omega)];rfl
  refine go ?_;intro _ _ y hy;refine ak (adG x y) (next:=λ_ _=>?_);refine go ?_;refine az rfl (λh3=>?_) (λh3=>?_)
  ·refine go ?_;refine aa () (hv:=?_) (hp:=trivial);rw[og,drop_cons hx,drop_cons hy,fJ,if_pos h3];rfl
  refine go ?_;refine aO (k+1) (by omega) ⟨by omega,by omega,?_⟩;rw[og,drop_cons hx,drop_cons hy,fJ,if_neg (by simpa using h3)]
 refine go ?_;have hkm:k=xs.length:=by omega
 refine az rfl (λh3=>?_) (λh3=>?_)
 ·refine go ?_;refine aa () (hv:=?_) (hp:=trivial);rw[og,xB hkx vJ (by omega),if_pos (by omega)];rfl
 refine go ?_;refine aa () (hv:=?_) (hp:=trivial);rw[og,xB hkx vJ (by omega),if_neg (by omega),if_neg (by omega)];rfl
set_option maxHeartbeats 4000000
open Go.Ideal Kd Canon
theorem Su(x:Int):bY Tryz.prog 108 [.int .i64 x] [] (.bool false):=by
 refine aG _ (aM 108) λB w0=>?_;refine go ?_;refine aa () (hv:=?_) (hp:=trivial);simp[pW]
theorem Sv(x y:Int):bY Tryz.prog 69 [.int .i64 x,.int .i64 y] [] (.int .i64 (dV x y)):=by
 refine aG _ (aM 69) λB w0=>?_;refine go ?_;refine ak (Su x) (next:=λ_ _=>?_);refine go ?_;refine ak (Su y) (next:=λ_ _=>?_);refine go ?_;refine az rfl (λh1=>?_) (λh1=>?_)
 ·refine go ?_;refine aa () (hv:=?_) (hp:=trivial);rw[dV,if_pos h1];rfl
 refine go ?_;refine az rfl (λh2=>?_) (λh2=>?_)
 ·refine go ?_;refine aa () (hv:=?_) (hp:=trivial);rw[dV,if_neg h1,if_pos h2];rfl
 refine go ?_;refine aa () (hv:=?_) (hp:=trivial);rw[dV,if_neg h1,if_neg h2];rfl
theorem adI{α:Type}{xs:List α}{k:Nat}{x:α}(h:xs[k]? =some x):xs.drop k=x::xs.drop (k+1):=by
 obtain⟨hlt,he⟩:=bT.1 h;rw[pz hlt,he]
theorem Sw{v:Value}{xs:List Int}(hl:xs.length<9223372036854775808):bY Tryz.prog 68 [v] [ah ae v xs] (.int .i64 (ry xs)):=by
 refine aG _ (aM 68) λB w0=>?_;refine go ?_;refine aX (λk=>xs.length - k) (λk:Nat=>[(8,.int .i64 (k:Int))]) (λ_=>[]) (λ_=>[]) (λk=>k<=xs.length/\ry xs=ry (xs.drop k)) 0 ⟨by omega,rfl⟩ (body:=?_);rintro k ⟨hk,hf⟩;refine go ?_;refine az rfl (λh1=>?_) (λh1=>?_)
 ·refine go ?_;intro _ _ x hx;have hd:=adI hx;refine go ?_;refine az rfl (λh2=>?_) (λh2=>?_)
  ·refine go ?_;refine aa () (hv:=?_) (hp:=trivial);rw[hf,hd,ry,if_pos h2];rfl
  ·refine go ?_;refine aO (k+1) (by show xs.length - (k+1)<xs.length - k;omega) ⟨by omega,?_⟩;rw[hf,hd,ry,if_neg h2]
 have hk:k=xs.length:=by omega
 refine go ?_;refine aa () (hv:=?_) (hp:=trivial);rw[hf,hk,List.drop_length];rfl
theorem Sy{a b:Clue}{va vb:Value}:bY Tryz.prog 38 [ru a va,ru b vb] [] (.int .i64 (gK a b)):=by
 refine aG _ (aM 38) λB w0=>?_;refine go ?_;intro b2 b3;refine go ?_;refine ak (Sv a.aQ b.aQ) (next:=λ_ _=>?_);refine go ?_;refine ak (Sv a.at_ b.at_) (next:=λ_ _=>?_);refine go ?_;intro b15;refine bB (A:=pt b15 (.cells [.int .i64 (dV a.aQ b.aQ),.int .i64 (dV a.at_ b.at_)])) (fs:=[ah ae (.slice (some ⟨b15,0,some 0⟩) 2 2) [dV a.aQ b.aQ,dV a.at_ b.at_]]) (yF (b:=b15) (f:=0) (c:=2) (xs:=[dV a.aQ b.aQ,dV a.at_ b.at_])) (h:=?_);refine go ?_;refine ak (Sw (xs:=[dV a.aQ b.aQ,dV a.at_ b.at_]) (by simp)) (next:=λ_ _=>?_);refine go ?_;exact aa () (hv:=rfl) (hp:=trivial)
open Go.Ideal Kd Canon Go.Sort
theorem adJ{a b:Clue}{va vb:Value}(ha:a.values.length<=1000000)(hb:b.values.length<=1000000):bY Tryz.prog 42 [ru a va,ru b vb] [ah ae va a.values,ah ae vb b.values] (.int .i64 (pU a b)):=by
 refine aG _ (aM 42) λB w0=>?_;refine go ?_;intro b2 b3;refine go ?_;refine ak (Sy (a:=a) (b:=b) (va:=va) (vb:=vb)) (next:=λ_ _=>?_);refine go ?_;refine ak (adH (xs:=a.values) (ys:=b.values) ha hb) (next:=λ_ _=>?_);refine go ?_;intro b15;refine bB (A:=pt b15 (.cells [.int .i64 (gK a b),.int .i64 (fJ dV a.values b.values)])) (fs:=[ah ae (.slice (some ⟨b15,0,some 0⟩) 2 2) [gK a b,fJ dV a.values b.values]]) (yF (b:=b15) (f:=0) (c:=2) (xs:=[gK a b,fJ dV a.values b.values])) (h:=?_);refine go ?_;refine ak (Sw (xs:=[gK a b,fJ dV a.values b.values]) (by simp)) (next:=λ_ _=>?_);refine go ?_;refine aa () (hv:=?_) (hp:=trivial);rw[OV,<- KE];simp only[ry];by_cases h1:gK a b=0
 ·by_cases h2:fJ dV a.values b.values=0
  ·simp[h1,h2];rfl
  ·simp[h1,h2];rfl
 ·simp[h1];rfl
abbrev CV:=Clue×bU.Y
theorem LJ{α:Type}{l:List α}{k:Nat}{x:α}(h:l[k]? =some x):l.take (k+1)=l.take k++[x]:=by
 rw[lJ,h];rfl
theorem Sz{va vb:Value}{xs ys:List Int}(hal:xs.length<=1000000)(hbl:ys.length<=1000000):
 bY Tryz.prog 29 [va,vb] [ah ae va xs,ah ae vb ys] (.int .i64 (fJ dV xs ys)):=by
 refine aG _ (aM 29) λB w0=>?_;refine go ?_;refine aX (λk=>xs.length - k) (λk:Nat=>[(5,.int .i64 (k:Int))]) (λ_=>[]) (λ_=>[]) (λk=>k<=xs.length/\k<=ys.length/\fJ dV xs ys=fJ dV (xs.drop k) (ys.drop k)) 0 ⟨by omega,by omega,rfl⟩ (body:=?_);rintro k ⟨hkx,vJ,og⟩;refine go ?_;first|with_reducible refine aL (λh1=>?_) (λh1=>?_)|with_reducible refine aK (λh1=>?_) (λh1=>?_)|with_reducible refine aI (λh1=>?_) (λh1=>?_)
 ·refine go ?_;refine az rfl (λh3=>?_) (λh3=>?_)
  ·refine go ?_;refine aa () (hv:=?_) (hp:=trivial);rw[og,xB hkx vJ (by omega),if_pos (by omega)];rfl
  refine go ?_;refine az rfl (λh4=>?_) (λh4=>?_)
  ·refine go ?_;refine aa () (hv:=?_) (hp:=trivial);rw[og,xB hkx vJ (by omega),if_neg (by omega),if_pos (by omega)];rfl
  refine go ?_;refine aa () (hv:=?_) (hp:=trivial);rw[og,xB hkx vJ (by omega),if_neg (by omega),if_neg (by omega)];rfl
 refine go ?_;refine az rfl (λh2=>?_) (λh2=>?_)
 rotate_left
 ·refine go ?_;refine az rfl (λh3=>?_) (λh3=>?_)
  ·refine go ?_;refine aa () (hv:=?_) (hp:=trivial);rw[og,xB hkx vJ (by omega),if_pos (by omega)];rfl
  refine go ?_;refine az rfl (λh4=>?_) (λh4=>?_)
  ·refine go ?_;refine aa () (hv:=?_) (hp:=trivial);rw[og,xB hkx vJ (by omega),if_neg (by omega),if_pos (by omega)];rfl
  refine go ?_;refine aa () (hv:=?_) (hp:=trivial);rw[og,xB hkx vJ (by omega),if_neg (by omega),if_neg (by omega)];rfl
 refine go ?_;intro _ _ x hx _ _ y hy;refine az rfl (λh3=>?_) (λh3=>?_)
 ·refine go ?_;refine aa () (hv:=?_) (hp:=trivial);rw[og,drop_cons hx,drop_cons hy,fJ,dV,if_pos h3];rfl
 refine go ?_;intro _ _ x' hx' _ _ y' hy';cases hx.symm.trans hx';cases hy.symm.trans hy';refine az rfl (λh4=>?_) (λh4=>?_)
 ·refine go ?_;refine aa () (hv:=?_) (hp:=trivial);rw[og,drop_cons hx,drop_cons hy,fJ,dV,if_neg h3,if_pos h4];rfl
 refine go ?_;refine aO (k+1) (by omega) ⟨by omega,by omega,?_⟩;rw[og,drop_cons hx,drop_cons hy,fJ,dV,if_neg h3,if_neg h4];rfl
theorem SA{b:Nat}{x y:Int}:qN (pt b (.cells [.int .i64 x,.int .i64 y])) [ah ae (.slice (some ⟨b,0,some 0⟩) 2 2) [x,y]]:=yF (xs:=[x,y])
def short(l:List Clue):Prop:=∀g∈l,g.values.length<=1000000
theorem SB{va vb:Value}{a b:Clue}:bY Tryz.prog 28 [ru a va,ru b vb] [] (.int .i64 (fJ dV [a.aQ,a.at_] [b.aQ,b.at_])):=by
 refine aG _ (aM 28) λB w0=>?_;refine go ?_;intro b1 b2 b3 b4;refine bB (SA) (h:=?_);refine bB (SA) (h:=?_);refine ak (Sz (xs:=[a.aQ,a.at_]) (ys:=[b.aQ,b.at_]) (by simp) (by simp)) (next:=λ_ _=>?_);refine go ?_;exact aa () (hv:=rfl) (hp:=trivial)
theorem adK{va vb:Value}{a b:Clue}(hal:a.values.length<=1000000)(hbl:b.values.length<=1000000):
 bY Tryz.prog 27 [ru a va,ru b vb] [ah ae va a.values,ah ae vb b.values] (.bool (decide (a=b))):=by
 refine aG _ (aM 27) λB w0=>?_;refine go ?_;intro b1 b2;refine ak (SB (a:=a) (b:=b)) (next:=λ_ _=>?_);refine go ?_;have hz:=(yD yC).zero [a.aQ,a.at_] [b.aQ,b.at_];first|with_reducible refine aL (λh1=>?_) (λh1=>?_)|with_reducible refine aK (λh1=>?_) (λh1=>?_)|with_reducible refine aI (λh1=>?_) (λh1=>?_)
 ·refine go ?_;refine aa () (hv:=?_) (hp:=trivial);rw[aR (λe=>h1 (hz.2 (by rw[e])))];rfl
 refine go ?_;refine ak (Sz hal hbl) (next:=λ_ _=>?_);refine go ?_;refine aa () (hv:=?_) (hp:=trivial);have e1:=hz.1 h1;simp only[xL,vT]at e1;have:decide (fJ dV a.values b.values=0)=decide (a=b):=by
  rw[mG,(yD yC).zero];obtain⟨c,p,l⟩:=a;obtain⟨d,q,m⟩:=b;simp only[Clue.mk.injEq]at e1⊢;exact⟨λe=>⟨e1.1,e1.2,e⟩,λe=>e.2.2⟩
 rw[<- this];rfl
theorem SC{va vb:Value}{xs ys:List Clue}(hal:xs.length<=1000000)(hx:short xs)(hy:short ys):
 bY Tryz.prog 17 [.agg ⟨[va]⟩,.agg ⟨[vb]⟩] [ah bU va xs,ah bU vb ys] (.bool (decide (xs=ys))):=by
 refine aG _ (aM 17) λB w0=>?_;refine go ?_;intro b2 b3;refine az rfl (λh1=>?_) (λh1=>?_)
 ·refine go ?_;refine aa () (hv:=?_) (hp:=trivial);rw[aR (λe=>h1 (by rw[e]))];rfl
 have hlen:xs.length=ys.length:=by omega
 refine go ?_;refine aX (λk=>xs.length - k) (λk:Nat=>[(5,.int .i64 (k:Int))]) (λ_=>[]) (λ_=>[]) (λk=>k<=xs.length/\∀j,j<k->xs[j]? =ys[j]?) 0 ⟨by omega,λj hj=>by omega⟩ (body:=?_);rintro k ⟨hkx,hsame⟩;refine go ?_;refine az rfl (λh2=>?_) (λh2=>?_)
 ·refine go ?_;refine aY bU (next:=λ_ _ x (vx:Value) hxk=>?_);refine go ?_;refine aY bU (next:=λ_ _ y (vy:Value) hyk=>?_);refine go ?_;refine ak (adK (a:=x) (b:=y) (hx x (bJ hxk)) (hy y (bJ hyk))) (next:=λ_ _=>?_);refine go ?_;refine ed rfl (λh3=>?_) (λh3=>?_)
  ·refine go ?_;refine aa () (hv:=?_) (hp:=trivial);rw[aR (λe=>h3 (by rw[e,hyk]at hxk;cases hxk;rfl))];rfl
  refine go ?_;refine aO (k+1) (by omega) ⟨by omega,λj hj=>?_⟩;by_cases e:j=k
  ·subst e;rw[hxk,hyk,h3]
  ·exact hsame j (by omega)
 refine go ?_;refine aa () (hv:=?_) (hp:=trivial);have:xs=ys:=by
  apply jw;intro j;by_cases hj:j<k
  ·exact hsame j hj
  ·rw[gL (by omega),gL (by omega)]
 rw[eB this];rfl
theorem SE{va:Value}{xs:List Clue}(hl:xs.length<9223372036854775808):aZ Tryz.prog (.func 12) [.agg ⟨[va]⟩] [] [] [ah bU va xs] (λb:Bool=>.bool b) (λ_=>[]) (λ_=>[]) (λb=>b=true->xs.length<=60/\∀g∈xs,g.values.length<=20):=by
 refine aG _ (aM 12) λB w0=>?_;refine aT (E:=bU) (v:=va) (xs:=xs) (by simp) λav cv zk=>?_;subst zk;refine go ?_;intro b1;refine aX (λk=>xs.length - k) (λk:Nat=>[(3,.int .i64 (k:Int))]) (λ_=>[]) (λ_=>[]) (λk=>k<=xs.length/\∀j g,j<k->xs[j]? =some g->g.values.length<=20) 0 ⟨by omega,λj g hj=>by omega⟩ (body:=?_);rintro k ⟨hkx,hall⟩;refine go ?_;refine az rfl (λh1=>?_) (λh1=>?_)
 rotate_left
 ·refine go ?_;refine aa _ (hv:=rfl) (hp:=λh=>?_);have h:=iB h;refine⟨by omega,λg hg=>?_⟩;obtain⟨j,hj⟩:=qo hg;exact hall j g (by have:=(bT.1 hj).1;omega) hj
 refine go ?_;refine aY bU (next:=λ_ _ x (vx:Value) hxk=>?_);refine go ?_;refine az rfl (λh3=>?_) (λh3=>?_)
 ·refine go ?_;exact aa false (hv:=rfl) (hp:=λh=>by cases h)
 refine go ?_;refine aO (k+1) (by omega) ⟨by omega,λj g hj hg=>?_⟩;by_cases e:j=k
 ·subst e;rw[hxk]at hg;cases hg;omega
 ·exact hall j g (by omega) hg
def vK(l rs:List Clue)(i:Nat)(best:Int):Prop:=(best= -1/\∀x∈l.take i,opn rs x=false)\/∃(b:Nat) (y:Clue),best=(b:Int)/\l[b]? =some y/\opn rs y=true/\∀x∈l.take i,opn rs x=true->¬pU x y<0
theorem vK.skip{l rs:List Clue}{i:Nat}{best:Int}{x:Clue}(h:vK l rs i best)(hx:l[i]? =some x)(ho:opn rs x=false):vK l rs (i+1) best:=by
 have hm:∀z∈l.take (i+1),z∈l.take i\/z=x:=λz hz=>by
  rw[LJ hx]at hz;rcases dZ.1 hz with h|h
  ·exact .inl h
  ·exact .inr (bG.1 h)
 rcases h with⟨h1,h2⟩|⟨b,y,h1,h2,h3,h4⟩
 ·refine .inl ⟨h1,λz hz=>?_⟩;rcases hm z hz with h|h
  ·exact h2 z h
  ·rw[h];exact ho
 ·refine .inr ⟨b,y,h1,h2,h3,λz hz vL=>?_⟩;rcases hm z hz with h|h
  ·exact h4 z h vL
  ·rw[h,ho]at vL;cases vL
theorem vK.take{l rs:List Clue}{i:Nat}{best:Int}{x:Clue}(h:vK l rs i best)(hx:l[i]? =some x)(ho:opn rs x=true)(hb:best= -1\/∃(b:Nat) (y:Clue),best=(b:Int)/\l[b]? =some y/\pU x y<0):vK l rs (i+1) (i:Int):=by
 have hO:=OW;refine .inr ⟨i,x,rfl,hx,ho,λz hz vL hlt=>?_⟩;rw[LJ hx]at hz;rcases dZ.1 hz with hz|hz
 ·rcases h with⟨h1,h2⟩|⟨b,y,h1,h2,h3,h4⟩
  ·rw[h2 z hz]at vL;cases vL
  ·rcases hb with hb|⟨b',y',e1,e2,e3⟩
   ·omega
   ·have:b'=b:=by omega
    subst this;cases h2.symm.trans e2;exact h4 z hz vL (hO.trans z x y hlt e3)
 ·rw[bG.1 hz]at hlt;have:=(hO.zero x x).2 rfl;omega
theorem vK.keep{l rs:List Clue}{i b:Nat}{x y:Clue}(h:vK l rs i (b:Int))(hx:l[i]? =some x)(hy:l[b]? =some y)(hn:¬pU x y<0):vK l rs (i+1) (b:Int):=by
 rcases h with⟨h1,h2⟩|⟨b',y',h1,h2,h3,h4⟩
 ·omega
 ·have:b'=b:=by omega
  subst this;cases h2.symm.trans hy;refine .inr ⟨b',y,rfl,hy,h3,λz hz vL=>?_⟩;rw[LJ hx]at hz;rcases dZ.1 hz with hz|hz
  ·exact h4 z hz vL
  ·rw[bG.1 hz];exact hn
