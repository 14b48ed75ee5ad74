/-
  The reference's comparing of clues.
-/
import Derived.Test.YtoohgkkmdnbnfaaGreatDoorLibDG
set_option linter.all false
set_option maxRecDepth 10000
set_option maxHeartbeats 4000000
namespace Go.Proofs.YtoohgkkmdnbnfaaGreatDoor
open Go.Ideal Kd Canon
theorem qO{va vb:Value}{xs ys:List Int}(hal:xs.length<=1000000)(hbl:ys.length<=1000000):
 fV Tryz.prog 29 [va,vb] [bg fo va xs,bg fo vb ys] (.int .i64 (aZ aO xs ys)):=by
 refine dY _ (dP 29) λB w0=>?_;refine go ?_;refine iJ (λk=>xs.length - k) (λk:Nat=>[(5,.int .i64 (k:Int))]) (λ_=>[]) (λ_=>[]) (λk=>k<=xs.length/\k<=ys.length/\aZ aO xs ys=aZ aO (xs.drop k) (ys.drop k)) 0 ⟨by omega,by omega,rfl⟩ (body:=?_);rintro k ⟨hkx,mG,iB⟩;refine go ?_;first|with_reducible refine kY (λh1=>?_) (λh1=>?_)|with_reducible refine kZ (λh1=>?_) (λh1=>?_)|with_reducible refine jI (λh1=>?_) (λh1=>?_)
 ·refine go ?_;refine bL rfl (λh3=>?_) (λh3=>?_)
  ·refine go ?_;refine bf () (hv:=?_) (hp:=trivial);rw[iB,nN hkx mG (by omega),if_pos (by omega)];rfl
  refine go ?_;refine bL rfl (λh4=>?_) (λh4=>?_)
  ·refine go ?_;refine bf () (hv:=?_) (hp:=trivial);rw[iB,nN hkx mG (by omega),if_neg (by omega),if_pos (by omega)];rfl
  refine go ?_;refine bf () (hv:=?_) (hp:=trivial);rw[iB,nN hkx mG (by omega),if_neg (by omega),if_neg (by omega)];rfl
 refine go ?_;refine bL rfl (λh2=>?_) (λh2=>?_)
 rotate_left
 ·refine go ?_;refine bL rfl (λh3=>?_) (λh3=>?_)
  ·refine go ?_;refine bf () (hv:=?_) (hp:=trivial);rw[iB,nN hkx mG (by omega),if_pos (by omega)];rfl
  refine go ?_;refine bL rfl (λh4=>?_) (λh4=>?_)
  ·refine go ?_;refine bf () (hv:=?_) (hp:=trivial);rw[iB,nN hkx mG (by omega),if_neg (by omega),if_pos (by omega)];rfl
  refine go ?_;refine bf () (hv:=?_) (hp:=trivial);rw[iB,nN hkx mG (by omega),if_neg (by omega),if_neg (by omega)];rfl
 refine go ?_;intro _ _ x hx _ _ y hy;refine bL rfl (λh3=>?_) (λh3=>?_)
 ·refine go ?_;refine bf () (hv:=?_) (hp:=trivial);rw[iB,drop_cons hx,drop_cons hy,aZ,aO,if_pos h3];rfl
 refine go ?_;intro _ _ x' hx' _ _ y' hy';cases hx.symm.trans hx';cases hy.symm.trans hy';refine bL rfl (λh4=>?_) (λh4=>?_)
 ·refine go ?_;refine bf () (hv:=?_) (hp:=trivial);rw[iB,drop_cons hx,drop_cons hy,aZ,aO,if_neg h3,if_pos h4];rfl
 refine go ?_;refine dw (k+1) (by omega) ⟨by omega,by omega,?_⟩;rw[iB,drop_cons hx,drop_cons hy,aZ,aO,if_neg h3,if_neg h4];rfl
theorem F9{b:Nat}{x y:Int}:oN (pt b (.cells [.int .i64 x,.int .i64 y])) [bg fo (.slice (some ⟨b,0,some 0⟩) 2 2) [x,y]]:=z8 (xs:=[x,y])
def short(l:List Clue):Prop:=∀g∈l,g.values.length<=1000000
theorem lu{va vb:Value}{a b:Clue}:fV Tryz.prog 28 [lg a va,lg b vb] [] (.int .i64 (aZ aO [a.bA,a.at_] [b.bA,b.at_])):=by
 refine dY _ (dP 28) λB w0=>?_;refine go ?_;intro b1 b2 b3 b4;refine oP (F9) (h:=?_);refine oP (F9) (h:=?_);refine bn (qO (xs:=[a.bA,a.at_]) (ys:=[b.bA,b.at_]) (by simp) (by simp)) (next:=λ_ _=>?_);refine go ?_;exact bf () (hv:=rfl) (hp:=trivial)
theorem Ga{va vb:Value}{a b:Clue}(hal:a.values.length<=1000000)(hbl:b.values.length<=1000000):
 fV Tryz.prog 27 [lg a va,lg b vb] [bg fo va a.values,bg fo vb b.values] (.bool (decide (a=b))):=by
 refine dY _ (dP 27) λB w0=>?_;refine go ?_;intro b1 b2;refine bn (lu (a:=a) (b:=b)) (next:=λ_ _=>?_);refine go ?_;have hz:=(kW kV).zero [a.bA,a.at_] [b.bA,b.at_];first|with_reducible refine kY (λh1=>?_) (λh1=>?_)|with_reducible refine kZ (λh1=>?_) (λh1=>?_)|with_reducible refine jI (λh1=>?_) (λh1=>?_)
 ·refine go ?_;refine bf () (hv:=?_) (hp:=trivial);rw[mQ (λe=>h1 (hz.2 (by rw[e])))];rfl
 refine go ?_;refine bn (qO hal hbl) (next:=λ_ _=>?_);refine go ?_;refine bf () (hv:=?_) (hp:=trivial);have e1:=hz.1 h1;simp only[pg,mM]at e1;have:decide (aZ aO a.values b.values=0)=decide (a=b):=by
  rw[decide_eq_decide,(kW kV).zero];obtain⟨c,p,l⟩:=a;obtain⟨d,q,m⟩:=b;simp only[Clue.mk.injEq]at e1⊢;exact⟨λe=>⟨e1.1,e1.2,e⟩,λe=>e.2.2⟩
 rw[<- this];rfl
theorem Bf{va vb:Value}{xs ys:List Clue}(hal:xs.length<=1000000)(hx:short xs)(hy:short ys):
 fV Tryz.prog 17 [.agg ⟨[va]⟩,.agg ⟨[vb]⟩] [bg az va xs,bg az vb ys] (.bool (decide (xs=ys))):=by
 refine dY _ (dP 17) λB w0=>?_;refine go ?_;intro b2 b3;refine bL rfl (λh1=>?_) (λh1=>?_)
 ·refine go ?_;refine bf () (hv:=?_) (hp:=trivial);rw[mQ (λe=>h1 (by rw[e]))];rfl
 have hlen:xs.length=ys.length:=by omega
 refine go ?_;refine iJ (λk=>xs.length - k) (λk:Nat=>[(5,.int .i64 (k:Int))]) (λ_=>[]) (λ_=>[]) (λk=>k<=xs.length/\∀j,j<k->xs[j]? =ys[j]?) 0 ⟨by omega,λj hj=>by omega⟩ (body:=?_);rintro k ⟨hkx,hsame⟩;refine go ?_;refine bL rfl (λh2=>?_) (λh2=>?_)
 ·refine go ?_;refine eX az (next:=λ_ _ x (vx:Value) hxk=>?_);refine go ?_;refine eX az (next:=λ_ _ y (vy:Value) hyk=>?_);refine go ?_;refine bn (Ga (a:=x) (b:=y) (hx x (cK hxk)) (hy y (cK hyk))) (next:=λ_ _=>?_);refine go ?_;refine Mi rfl (λh3=>?_) (λh3=>?_)
  ·refine go ?_;refine bf () (hv:=?_) (hp:=trivial);rw[mQ (λe=>h3 (by rw[e,hyk]at hxk;cases hxk;rfl))];rfl
  refine go ?_;refine dw (k+1) (by omega) ⟨by omega,λj hj=>?_⟩;by_cases e:j=k
  ·subst e;rw[hxk,hyk,h3]
  ·exact hsame j (by omega)
 refine go ?_;refine bf () (hv:=?_) (hp:=trivial);have:xs=ys:=by
  apply gX;intro j;by_cases hj:j<k
  ·exact hsame j hj
  ·rw[dF (by omega),dF (by omega)]
 rw[mO this];rfl
theorem Gb{va:Value}{xs:List Clue}(hl:xs.length<9223372036854775808):cB Tryz.prog (.func 12) [.agg ⟨[va]⟩] [] [] [bg az va xs] (λb:Bool=>.bool b) (λ_=>[]) (λ_=>[]) (λb=>b=true->xs.length<=60/\∀g∈xs,g.values.length<=20):=by
 refine dY _ (dP 12) λB w0=>?_;refine qB (E:=az) (v:=va) (xs:=xs) (by simp) λav cv oZ=>?_;subst oZ;refine go ?_;intro b1;refine iJ (λk=>xs.length - k) (λk:Nat=>[(3,.int .i64 (k:Int))]) (λ_=>[]) (λ_=>[]) (λk=>k<=xs.length/\∀j g,j<k->xs[j]? =some g->g.values.length<=20) 0 ⟨by omega,λj g hj=>by omega⟩ (body:=?_);rintro k ⟨hkx,hall⟩;refine go ?_;refine bL rfl (λh1=>?_) (λh1=>?_)
 rotate_left
 ·refine go ?_;refine bf _ (hv:=rfl) (hp:=λh=>?_);have h:=jO h;refine⟨by omega,λg hg=>?_⟩;obtain⟨j,hj⟩:=jL hg;exact hall j g (by have:=(bH.1 hj).1;omega) hj
 refine go ?_;refine eX az (next:=λ_ _ x (vx:Value) hxk=>?_);refine go ?_;refine bL rfl (λh3=>?_) (λh3=>?_)
 ·refine go ?_;exact bf false (hv:=rfl) (hp:=λh=>by cases h)
 refine go ?_;refine dw (k+1) (by omega) ⟨by omega,λj g hj hg=>?_⟩;by_cases e:j=k
 ·subst e;rw[hxk]at hg;cases hg;omega
 ·exact hall j g (by omega) hg
def kH(l rs:List Clue)(i:Nat)(best:Int):Prop:=(best= -1/\∀x∈l.take i,opn rs x=false)\/∃(b:Nat) (y:Clue),best=(b:Int)/\l[b]? =some y/\opn rs y=true/\∀x∈l.take i,opn rs x=true->¬iw x y<0
theorem kH.skip{l rs:List Clue}{i:Nat}{best:Int}{x:Clue}(h:kH l rs i best)(hx:l[i]? =some x)(ho:opn rs x=false):kH l rs (i+1) best:=by
 have hm:∀z∈l.take (i+1),z∈l.take i\/z=x:=λz hz=>by
  rw[mH hx]at hz;rcases dS.1 hz with h|h
  ·exact .inl h
  ·exact .inr (bV.1 h)
 rcases h with⟨h1,h2⟩|⟨b,y,h1,h2,h3,h4⟩
 ·refine .inl ⟨h1,λz hz=>?_⟩;rcases hm z hz with h|h
  ·exact h2 z h
  ·rw[h];exact ho
 ·refine .inr ⟨b,y,h1,h2,h3,λz hz mI=>?_⟩;rcases hm z hz with h|h
  ·exact h4 z h mI
  ·rw[h,ho]at mI;cases mI
theorem kH.take{l rs:List Clue}{i:Nat}{best:Int}{x:Clue}(h:kH l rs i best)(hx:l[i]? =some x)(ho:opn rs x=true)(hb:best= -1\/∃(b:Nat) (y:Clue),best=(b:Int)/\l[b]? =some y/\iw x y<0):kH l rs (i+1) (i:Int):=by
 have hO:=Er;refine .inr ⟨i,x,rfl,hx,ho,λz hz mI hlt=>?_⟩;rw[mH hx]at hz;rcases dS.1 hz with hz|hz
 ·rcases h with⟨h1,h2⟩|⟨b,y,h1,h2,h3,h4⟩
  ·rw[h2 z hz]at mI;cases mI
  ·rcases hb with hb|⟨b',y',e1,e2,e3⟩
   ·omega
   ·have:b'=b:=by omega
    subst this;cases h2.symm.trans e2;exact h4 z hz mI (hO.trans z x y hlt e3)
 ·rw[bV.1 hz]at hlt;have:=(hO.zero x x).2 rfl;omega
theorem kH.keep{l rs:List Clue}{i b:Nat}{x y:Clue}(h:kH l rs i (b:Int))(hx:l[i]? =some x)(hy:l[b]? =some y)(hn:¬iw x y<0):kH l rs (i+1) (b:Int):=by
 rcases h with⟨h1,h2⟩|⟨b',y',h1,h2,h3,h4⟩
 ·omega
 ·have:b'=b:=by omega
  subst this;cases h2.symm.trans hy;refine .inr ⟨b',y,rfl,hy,h3,λz hz mI=>?_⟩;rw[mH hx]at hz;rcases dS.1 hz with hz|hz
  ·exact h4 z hz mI
  ·rw[bV.1 hz];exact hn
theorem Qb{v:Value}{xs:List Clue}(hl:xs.length<=1000000)(hv:∀x∈xs,x.values.length<=1000000):cB Tryz.prog (.func 20) [v] [] [] [bg az v xs] (λy:Value×List Clue=>.agg ⟨[y.1]⟩) (λ_=>[]) (λy=>[bg az y.1 y.2]) (λy=>fC xs y.2):=by
 refine dY _ (dP 20) λB w0=>?_;refine qB (E:=az) (v:=v) (xs:=xs) (by simp) λav cv oZ=>?_;subst oZ;refine go ?_;intro b2 b3;refine go ?_;refine Ab az ?_;refine iJ (λx:Nat×Value×List Clue=>xs.length - x.1) (λx=>[(4,.int .i64 (x.1:Int))]) (λx=>[pt b3 (.cells [x.2.1]),ap az x.2.1 x.2.2]) (λ_=>[]) (λx=>x.1<=xs.length/\mE xs x.2.2 x.1/\x.2.2.length=x.1) (0,.slice none 0 0,[]) ⟨jl _,O0,rfl⟩ (body:=?_);rintro⟨n,vr,rs⟩ ⟨hn,hsel,hlen⟩;dsimp only at hn hsel hlen⊢;refine OC (E:=az) (v:=vr) (xs:=rs) λkG hr1 _=>?_;subst hr1;refine go ?_;refine bL rfl (λh1=>?_) (λh1=>?_)
 rotate_left
 ·have hnx:n=xs.length:=by omega
  subst hnx;refine go ?_;refine oP (A:=ap az (.slice kG rs.length rs.length) rs) (fs:=[bg az (.slice kG rs.length rs.length) rs]) Et (h:=?_);exact bf (.slice kG rs.length rs.length,rs) (hv:=rfl) (hp:=hsel.full)
 refine go ?_;refine iJ (λx:Nat×Int=>xs.length - x.1) (λx=>[(6,.int .i64 (x.1:Int)),(5,.int .i64 x.2)]) (λ_=>[]) (λ_=>[]) (λx=>x.1<=xs.length/\kH xs rs x.1 x.2) (0, -1) ⟨jl _,.inl ⟨rfl,by simp⟩⟩ (body:=?_);rintro⟨i,best⟩ ⟨hi,hb⟩;dsimp only at hi hb⊢;refine go ?_;refine bL rfl (λh2=>?_) (λh2=>?_)
 rotate_left
 ·have hix:i=xs.length:=by omega
  rw[hix]at hb;unfold kH at hb;rw[nT]at hb;refine go ?_;rcases hb with⟨rfl,hb⟩|⟨b,y,rfl,hy,ho,hb⟩
  ·refine go ?_;refine oP (A:=ap az (.slice kG rs.length rs.length) rs) (fs:=[bg az (.slice kG rs.length rs.length) rs]) Et (h:=?_);exact bf (.slice kG rs.length rs.length,rs) (hv:=rfl) (hp:=hsel.stop hb)
  ·refine bL rfl (λh3=>?_) (λh3=>?_)
   ·omega
   have hbl:=(bH.1 hy).1;refine go ?_;refine eX az (xs:=xs) (next:=λ_ _ y' (vy:Value) hy'=>?_);cases hy.symm.trans hy';refine go ?_;intro Rz;refine go ?_;refine Na az (xs:=rs) y vy (by omega) (λad=>?_);refine go ?_;refine dw (n+1,.slice ad (rs.length+1) (rs.length+1),rs++[y]) (by show xs.length - (n+1)<xs.length - n;omega) ⟨by dsimp only;omega,hsel.step (cK hy) ho hb,by dsimp only;rw[dO,hlen];rfl⟩
 have hil:i<xs.length:=by omega
 refine go ?_;obtain⟨x,hx⟩:∃x,xs[i]? =some x:=⟨_,aU hil⟩
 first|with_reducible refine kY (λh3=>?_) (λh3=>?_)|with_reducible refine kZ (λh3=>?_) (λh3=>?_)|with_reducible refine jI (λh3=>?_) (λh3=>?_)
 ·have hr0:rs=[]:=jm.1 (by omega);have hox:opn rs x=true:=by rw[hr0];rfl
  refine go ?_;have hb0:=hb;rcases hb with⟨rfl,_⟩|⟨b,y,rfl,hy,_,_⟩
  ·refine go ?_;refine dw (i+1,(i:Int)) (by show xs.length - (i+1)<xs.length - i;omega) ⟨by dsimp only;omega,hb0.take hx hox (.inl rfl)⟩
  have hbl:=(bH.1 hy).1;rw[show decide ((b:Int)<0)=false from mQ (by omega)];refine go ?_;refine eX az (xs:=xs) (next:=λ_ _ x1 (Bg:Value) hx1=>?_);cases hx.symm.trans hx1;refine go ?_;refine eX az (xs:=xs) (next:=λ_ _ y1 (Bh:Value) hy1=>?_);cases hy.symm.trans hy1;refine go ?_;refine bn (lu (a:=x) (b:=y) (va:=Bg) (vb:=Bh)) (next:=λ_ _=>?_);rw[<- kD];refine go ?_;first|with_reducible refine kY (λh5=>?_) (λh5=>?_)|with_reducible refine kZ (λh5=>?_) (λh5=>?_)|with_reducible refine jI (λh5=>?_) (λh5=>?_)
  rotate_left
  ·refine go ?_;refine dw (i+1,(i:Int)) (by show xs.length - (i+1)<xs.length - i;omega) ⟨by dsimp only;omega,hb0.take hx hox (.inr ⟨b,y,rfl,hy,kE.2 (.inl h5)⟩)⟩
  refine go ?_;refine eX az (xs:=xs) (next:=λ_ _ x2 (Bi:Value) hx2=>?_);cases hx.symm.trans hx2;refine go ?_;refine eX az (xs:=xs) (next:=λ_ _ y2 (Bj:Value) hy2=>?_);cases hy.symm.trans hy2;refine go ?_;refine bn (lu (a:=x) (b:=y) (va:=Bi) (vb:=Bj)) (next:=λ_ _=>?_);rw[<- kD];refine go ?_;first|with_reducible refine kY (λh6=>?_) (λh6=>?_)|with_reducible refine kZ (λh6=>?_) (λh6=>?_)|with_reducible refine jI (λh6=>?_) (λh6=>?_)
  ·refine go ?_;refine dw (i+1,(b:Int)) (by show xs.length - (i+1)<xs.length - i;omega) ⟨by dsimp only;omega,hb0.keep hx hy (λh=>(kE.1 h).elim h5 λh=>h6 h.1)⟩
  refine go ?_;refine eX az (xs:=xs) (next:=λ_ _ x3 (Qc:Value) hx3=>?_);cases hx.symm.trans hx3;refine go ?_;refine eX az (xs:=xs) (next:=λ_ _ y3 (Qd:Value) hy3=>?_);cases hy.symm.trans hy3;refine go ?_;refine bn (qO (xs:=x.values) (ys:=y.values) (hv x (cK hx)) (hv y (cK hy))) (next:=λ_ _=>?_);refine go ?_;refine bL rfl (λh7=>?_) (λh7=>?_)
  ·refine go ?_;refine dw (i+1,(i:Int)) (by show xs.length - (i+1)<xs.length - i;omega) ⟨by dsimp only;omega,hb0.take hx hox (.inr ⟨b,y,rfl,hy,kE.2 (.inr ⟨h6,h7⟩)⟩)⟩
  refine go ?_;refine dw (i+1,(b:Int)) (by show xs.length - (i+1)<xs.length - i;omega) ⟨by dsimp only;omega,hb0.keep hx hy (λh=>(kE.1 h).elim h5 λh=>h7 h.2)⟩
 ·obtain⟨z,hz⟩:∃z,rs[rs.length - 1]? =some z:=⟨_,aU (by omega)⟩
  have hzl:rs.getLast? =some z:=by rw[List.getLast?_eq_getElem?];exact hz
  have Gc:opn rs x=decide (0<aV x z):=by unfold opn;rw[hzl]
  refine go ?_;refine eX az (xs:=xs) (next:=λ_ _ x0 (Qe:Value) hx0=>?_);cases hx.symm.trans hx0;refine go ?_;rw[show((rs.length:Nat):Int) - 1=((rs.length - 1:Nat):Int)by omega];refine OD az (xs:=rs) (rs.length - 1) z hz (λ_ _ (vz:Value)=>?_);rw[show∀F:List ay,az.fs z vz++F=bg fo vz z.values::F from λF=>rfl];refine go ?_;refine bn (lu (a:=x) (b:=z) (va:=Qe) (vb:=vz)) (next:=λ_ _=>?_);rw[<- kD];refine go ?_;refine bL rfl (λh4=>?_) (λh4=>?_)
  ·refine go ?_;refine dw (i+1,best) (by show xs.length - (i+1)<xs.length - i;omega) ⟨by dsimp only;omega,hb.skip hx (by rw[Gc];exact mQ (by omega))⟩
  have hox:opn rs x=true:=by rw[Gc];exact mO (by omega)
  refine go ?_;have hb0:=hb;rcases hb with⟨rfl,_⟩|⟨b,y,rfl,hy,_,_⟩
  ·refine go ?_;refine dw (i+1,(i:Int)) (by show xs.length - (i+1)<xs.length - i;omega) ⟨by dsimp only;omega,hb0.take hx hox (.inl rfl)⟩
  have hbl:=(bH.1 hy).1;rw[show decide ((b:Int)<0)=false from mQ (by omega)];refine go ?_;refine eX az (xs:=xs) (next:=λ_ _ x1 (Bg:Value) hx1=>?_);cases hx.symm.trans hx1;refine go ?_;refine eX az (xs:=xs) (next:=λ_ _ y1 (Bh:Value) hy1=>?_);cases hy.symm.trans hy1;refine go ?_;refine bn (lu (a:=x) (b:=y) (va:=Bg) (vb:=Bh)) (next:=λ_ _=>?_);rw[<- kD];refine go ?_;first|with_reducible refine kY (λh5=>?_) (λh5=>?_)|with_reducible refine kZ (λh5=>?_) (λh5=>?_)|with_reducible refine jI (λh5=>?_) (λh5=>?_)
  rotate_left
  ·refine go ?_;refine dw (i+1,(i:Int)) (by show xs.length - (i+1)<xs.length - i;omega) ⟨by dsimp only;omega,hb0.take hx hox (.inr ⟨b,y,rfl,hy,kE.2 (.inl h5)⟩)⟩
  refine go ?_;refine eX az (xs:=xs) (next:=λ_ _ x2 (Bi:Value) hx2=>?_);cases hx.symm.trans hx2;refine go ?_;refine eX az (xs:=xs) (next:=λ_ _ y2 (Bj:Value) hy2=>?_);cases hy.symm.trans hy2;refine go ?_;refine bn (lu (a:=x) (b:=y) (va:=Bi) (vb:=Bj)) (next:=λ_ _=>?_);rw[<- kD];refine go ?_;first|with_reducible refine kY (λh6=>?_) (λh6=>?_)|with_reducible refine kZ (λh6=>?_) (λh6=>?_)|with_reducible refine jI (λh6=>?_) (λh6=>?_)
  ·refine go ?_;refine dw (i+1,(b:Int)) (by show xs.length - (i+1)<xs.length - i;omega) ⟨by dsimp only;omega,hb0.keep hx hy (λh=>(kE.1 h).elim h5 λh=>h6 h.1)⟩
  refine go ?_;refine eX az (xs:=xs) (next:=λ_ _ x3 (Qc:Value) hx3=>?_);cases hx.symm.trans hx3;refine go ?_;refine eX az (xs:=xs) (next:=λ_ _ y3 (Qd:Value) hy3=>?_);cases hy.symm.trans hy3;refine go ?_;refine bn (qO (xs:=x.values) (ys:=y.values) (hv x (cK hx)) (hv y (cK hy))) (next:=λ_ _=>?_);refine go ?_;refine bL rfl (λh7=>?_) (λh7=>?_)
  ·refine go ?_;refine dw (i+1,(i:Int)) (by show xs.length - (i+1)<xs.length - i;omega) ⟨by dsimp only;omega,hb0.take hx hox (.inr ⟨b,y,rfl,hy,kE.2 (.inr ⟨h6,h7⟩)⟩)⟩
  refine go ?_;refine dw (i+1,(b:Int)) (by show xs.length - (i+1)<xs.length - i;omega) ⟨by dsimp only;omega,hb0.keep hx hy (λh=>(kE.1 h).elim h5 λh=>h7 h.2)⟩
