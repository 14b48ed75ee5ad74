/-
  The reference's comparisons: lists, rules, regions, declarations, grids.
-/
import Derived.Test.YtoohgkkmdnbnfaaGreatDoorLibOD
set_option linter.all false
set_option maxRecDepth 10000
set_option maxHeartbeats 4000000
namespace Go.Proofs.YtoohgkkmdnbnfaaGreatDoor
open Go.Ideal Kd
theorem UW{va vb:Value}{xs ys:List Int}(hl:xs.length<9223372036854775808):cK Tryz.prog 138 [va,vb] [ah aa va xs,ah aa vb ys] (.bool (decide (xs=ys))):=by
 refine aI _ (aO 138) λB w0=>?_;refine aS (E:=aa) (v:=va) (xs:=xs) (by simp) λa1 c1 e1=>?_;subst e1;refine aS (E:=aa) (v:=vb) (xs:=ys) (by simp) λa2 c2 e2=>?_;subst e2;refine go ?_;refine ay rfl (λh1=>?_) (λh1=>?_)
 ·refine go ?_;refine ae () (hv:=?_) (hp:=trivial);rw[aU (λe=>by subst e;omega)];rfl
 have hlen:xs.length=ys.length:=by omega
 refine go ?_;refine aZ (λk=>xs.length - k) (λk:Nat=>[(5,.int .i64 (k:Int))]) (λ_=>[]) (λ_=>[]) (λk=>k<=xs.length/\xs.take k=ys.take k) 0 ⟨by omega,by simp⟩ (body:=?_);rintro k ⟨hk,hsame⟩;refine go ?_;refine ay rfl (λh2=>?_) (λh2=>?_)
 ·refine go ?_;intro _ _ x hx _ _ y hy;refine go ?_;refine ay rfl (λh3=>?_) (λh3=>?_)
  rotate_left
  ·have h3:x=y:=iI.1 h3;refine go ?_;refine aP (k+1) (by omega) ⟨by omega,?_⟩;rw[bU hx,bU hy,hsame,h3]
  ·refine go ?_;refine ae () (hv:=?_) (hp:=trivial);rw[aU (λe=>by subst e;rw[hx]at hy;exact h3 (Option.some.inj hy))];rfl
 have:k=xs.length:=by omega
 subst this;refine go ?_;refine ae () (hv:=?_) (hp:=trivial);rw[bK,hlen,bK]at hsame;rw[dS hsame];rfl
theorem UX{va vb:Value}{xs ys:List Int}(hl:xs.length<9223372036854775808):cK Tryz.prog 172 [va,vb] [ah aa va xs,ah aa vb ys] (.bool (decide (xs=ys))):=by
 refine aI _ (aO 172) λB w0=>?_;refine aS (E:=aa) (v:=va) (xs:=xs) (by simp) λa1 c1 e1=>?_;subst e1;refine aS (E:=aa) (v:=vb) (xs:=ys) (by simp) λa2 c2 e2=>?_;subst e2;refine go ?_;refine ay rfl (λh1=>?_) (λh1=>?_)
 ·refine go ?_;refine ae () (hv:=?_) (hp:=trivial);rw[aU (λe=>by subst e;omega)];rfl
 have hlen:xs.length=ys.length:=by omega
 refine go ?_;refine aZ (λk=>xs.length - k) (λk:Nat=>[(5,.int .i64 (k:Int))]) (λ_=>[]) (λ_=>[]) (λk=>k<=xs.length/\xs.take k=ys.take k) 0 ⟨by omega,by simp⟩ (body:=?_);rintro k ⟨hk,hsame⟩;refine go ?_;refine ay rfl (λh2=>?_) (λh2=>?_)
 ·refine go ?_;intro _ _ x hx _ _ y hy;refine go ?_;refine ay rfl (λh3=>?_) (λh3=>?_)
  rotate_left
  ·have h3:x=y:=iI.1 h3;refine go ?_;refine aP (k+1) (by omega) ⟨by omega,?_⟩;rw[bU hx,bU hy,hsame,h3]
  ·refine go ?_;refine ae () (hv:=?_) (hp:=trivial);rw[aU (λe=>by subst e;rw[hx]at hy;exact h3 (Option.some.inj hy))];rfl
 have:k=xs.length:=by omega
 subst this;refine go ?_;refine ae () (hv:=?_) (hp:=trivial);rw[bK,hlen,bK]at hsame;rw[dS hsame];rfl
theorem UY{va vb:Value}{xs ys:List ByteArray}(hl:xs.length<9223372036854775808):cK Tryz.prog 183 [va,vb] [ah aT va xs,ah aT vb ys] (.bool (decide (xs=ys))):=by
 refine aI _ (aO 183) λB w0=>?_;refine aS (E:=aT) (v:=va) (xs:=xs) (by simp) λa1 c1 e1=>?_;subst e1;refine aS (E:=aT) (v:=vb) (xs:=ys) (by simp) λa2 c2 e2=>?_;subst e2;refine go ?_;refine ay rfl (λh1=>?_) (λh1=>?_)
 ·refine go ?_;refine ae () (hv:=?_) (hp:=trivial);rw[aU (λe=>by subst e;omega)];rfl
 have hlen:xs.length=ys.length:=by omega
 refine go ?_;refine aZ (λk=>xs.length - k) (λk:Nat=>[(5,.int .i64 (k:Int))]) (λ_=>[]) (λ_=>[]) (λk=>k<=xs.length/\xs.take k=ys.take k) 0 ⟨by omega,by simp⟩ (body:=?_);rintro k ⟨hk,hsame⟩;refine go ?_;refine ay rfl (λh2=>?_) (λh2=>?_)
 ·refine go ?_;refine bi aT (xs:=xs) (next:=λ_ _ x (_:Unit) hx=>?_);refine go ?_;refine bi aT (xs:=ys) (next:=λ_ _ y (_:Unit) hy=>?_);refine go ?_;refine eF (p:=x=y) (by show Value.bool _=_;rw[dW]) (λh3=>?_) (λh3=>?_)
  ·refine go ?_;refine ae () (hv:=?_) (hp:=trivial);rw[aU (λe=>by subst e;rw[hx]at hy;exact h3 (Option.some.inj hy))];rfl
  refine go ?_;refine aP (k+1) (by omega) ⟨by omega,?_⟩;rw[bU hx,bU hy,hsame,h3]
 have:k=xs.length:=by omega
 subst this;refine go ?_;refine ae () (hv:=?_) (hp:=trivial);rw[bK,hlen,bK]at hsame;rw[dS hsame];rfl
theorem UZ{va vb:Value}{xs ys:List ByteArray}(hl:xs.length<9223372036854775808):cK Tryz.prog 240 [va,vb] [ah aT va xs,ah aT vb ys] (.bool (decide (xs=ys))):=by
 refine aI _ (aO 240) λB w0=>?_;refine aS (E:=aT) (v:=va) (xs:=xs) (by simp) λa1 c1 e1=>?_;subst e1;refine aS (E:=aT) (v:=vb) (xs:=ys) (by simp) λa2 c2 e2=>?_;subst e2;refine go ?_;refine ay rfl (λh1=>?_) (λh1=>?_)
 ·refine go ?_;refine ae () (hv:=?_) (hp:=trivial);rw[aU (λe=>by subst e;omega)];rfl
 have hlen:xs.length=ys.length:=by omega
 refine go ?_;refine aZ (λk=>xs.length - k) (λk:Nat=>[(5,.int .i64 (k:Int))]) (λ_=>[]) (λ_=>[]) (λk=>k<=xs.length/\xs.take k=ys.take k) 0 ⟨by omega,by simp⟩ (body:=?_);rintro k ⟨hk,hsame⟩;refine go ?_;refine ay rfl (λh2=>?_) (λh2=>?_)
 ·refine go ?_;refine bi aT (xs:=xs) (next:=λ_ _ x (_:Unit) hx=>?_);refine go ?_;refine bi aT (xs:=ys) (next:=λ_ _ y (_:Unit) hy=>?_);refine go ?_;refine eF (p:=x=y) (by show Value.bool _=_;rw[dW]) (λh3=>?_) (λh3=>?_)
  ·refine go ?_;refine ae () (hv:=?_) (hp:=trivial);rw[aU (λe=>by subst e;rw[hx]at hy;exact h3 (Option.some.inj hy))];rfl
  refine go ?_;refine aP (k+1) (by omega) ⟨by omega,?_⟩;rw[bU hx,bU hy,hsame,h3]
 have:k=xs.length:=by omega
 subst this;refine go ?_;refine ae () (hv:=?_) (hp:=trivial);rw[bK,hlen,bK]at hsame;rw[dS hsame];rfl
theorem U0{va vb:Value}{xs ys:List (List Int)}(hl:xs.length<9223372036854775808)(hll:∀l∈xs,l.length<9223372036854775808):cK Tryz.prog 95 [va,vb] [ah (aj aa) va xs,ah (aj aa) vb ys] (.bool (decide (xs=ys))):=by
 refine aI _ (aO 95) λB w0=>?_;refine aS (E:=aj aa) (v:=va) (xs:=xs) (by simp) λa1 c1 e1=>?_;subst e1;refine aS (E:=aj aa) (v:=vb) (xs:=ys) (by simp) λa2 c2 e2=>?_;subst e2;refine go ?_;refine ay rfl (λh1=>?_) (λh1=>?_)
 ·refine go ?_;refine ae () (hv:=?_) (hp:=trivial);rw[aU (λe=>by subst e;omega)];rfl
 have hlen:xs.length=ys.length:=by omega
 refine go ?_;refine aZ (λk=>xs.length - k) (λk:Nat=>[(5,.int .i64 (k:Int))]) (λ_=>[]) (λ_=>[]) (λk=>k<=xs.length/\xs.take k=ys.take k) 0 ⟨by omega,by simp⟩ (body:=?_);rintro k ⟨hk,hsame⟩;refine go ?_;refine ay rfl (λh2=>?_) (λh2=>?_)
 ·refine go ?_;refine bi (aj aa) (xs:=xs) (next:=λ_ _ x (_:Value) hx=>?_);refine go ?_;refine bi (aj aa) (xs:=ys) (next:=λ_ _ y (_:Value) hy=>?_);refine go ?_;refine ax (Ch (xs:=x) (ys:=y) (hll x (bH hx))) (next:=λ_ _=>?_);refine go ?_;refine eF rfl (λh3=>?_) (λh3=>?_)
  ·refine go ?_;refine ae () (hv:=?_) (hp:=trivial);rw[aU (λe=>by subst e;rw[hx]at hy;exact h3 (Option.some.inj hy))];rfl
  refine go ?_;refine aP (k+1) (by omega) ⟨by omega,?_⟩;rw[bU hx,bU hy,hsame,h3]
 have:k=xs.length:=by omega
 subst this;refine go ?_;refine ae () (hv:=?_) (hp:=trivial);rw[bK,hlen,bK]at hsame;rw[dS hsame];rfl
theorem af7{va vb:Value}{xs ys:List (List Int)}(hl:xs.length<9223372036854775808)(hll:∀l∈xs,l.length<9223372036854775808):cK Tryz.prog 173 [va,vb] [ah (aj aa) va xs,ah (aj aa) vb ys] (.bool (decide (xs=ys))):=by
 refine aI _ (aO 173) λB w0=>?_;refine aS (E:=aj aa) (v:=va) (xs:=xs) (by simp) λa1 c1 e1=>?_;subst e1;refine aS (E:=aj aa) (v:=vb) (xs:=ys) (by simp) λa2 c2 e2=>?_;subst e2;refine go ?_;refine ay rfl (λh1=>?_) (λh1=>?_)
 ·refine go ?_;refine ae () (hv:=?_) (hp:=trivial);rw[aU (λe=>by subst e;omega)];rfl
 have hlen:xs.length=ys.length:=by omega
 refine go ?_;refine aZ (λk=>xs.length - k) (λk:Nat=>[(5,.int .i64 (k:Int))]) (λ_=>[]) (λ_=>[]) (λk=>k<=xs.length/\xs.take k=ys.take k) 0 ⟨by omega,by simp⟩ (body:=?_);rintro k ⟨hk,hsame⟩;refine go ?_;refine ay rfl (λh2=>?_) (λh2=>?_)
 ·refine go ?_;refine bi (aj aa) (xs:=xs) (next:=λ_ _ x (_:Value) hx=>?_);refine go ?_;refine bi (aj aa) (xs:=ys) (next:=λ_ _ y (_:Value) hy=>?_);refine go ?_;refine ax (UX (xs:=x) (ys:=y) (hll x (bH hx))) (next:=λ_ _=>?_);refine go ?_;refine eF rfl (λh3=>?_) (λh3=>?_)
  ·refine go ?_;refine ae () (hv:=?_) (hp:=trivial);rw[aU (λe=>by subst e;rw[hx]at hy;exact h3 (Option.some.inj hy))];rfl
  refine go ?_;refine aP (k+1) (by omega) ⟨by omega,?_⟩;rw[bU hx,bU hy,hsame,h3]
 have:k=xs.length:=by omega
 subst this;refine go ?_;refine ae () (hv:=?_) (hp:=trivial);rw[bK,hlen,bK]at hsame;rw[dS hsame];rfl
theorem af8{x y:aQ}{v1 v2 u1 u2:Value}(hl:x.names.length<9223372036854775808)(hll:x.others.length<9223372036854775808):cK Tryz.prog 140 [.agg ⟨iQ x v1 v2⟩,.agg ⟨iQ y u1 u2⟩] [ah aT v1 x.names,ah aT v2 x.others,ah aT u1 y.names,ah aT u2 y.others] (.bool (decide (x=y))):=by
 obtain⟨n1,o1,k1,f1,uM,os1,s1,t1,p1,m1,y1,c1⟩:=x;obtain⟨n2,o2,k2,f2,BU,os2,s2,t2,p2,m2,y2,c2⟩:=y;dsimp only[iQ]at hl hll⊢;refine aI _ (aO 140) λB w0=>?_;refine go ?_;intro b2 b3;refine go ?_;first|with_reducible refine aN (λh1=>?_) (λh1=>?_)|with_reducible refine aM (λh1=>?_) (λh1=>?_)|with_reducible refine aK (λh1=>?_) (λh1=>?_)
 ·rw[dW]at h1;have h1:=mQ h1;refine go ?_;refine ae () (hv:=?_) (hp:=trivial);rw[aU (λe=>h1 (by cases e;rfl))];rfl
 rw[dW]at h1;have h1:=gX h1;refine go ?_;first|with_reducible refine aN (λh2=>?_) (λh2=>?_)|with_reducible refine aM (λh2=>?_) (λh2=>?_)|with_reducible refine aK (λh2=>?_) (λh2=>?_)
 ·rw[dW]at h2;have h2:=mQ h2;refine go ?_;refine ae () (hv:=?_) (hp:=trivial);rw[aU (λe=>h2 (by cases e;rfl))];rfl
 rw[dW]at h2;have h2:=gX h2;refine go ?_;first|with_reducible refine aN (λh3=>?_) (λh3=>?_)|with_reducible refine aM (λh3=>?_) (λh3=>?_)|with_reducible refine aK (λh3=>?_) (λh3=>?_)
 ·refine go ?_;refine ae () (hv:=?_) (hp:=trivial);rw[aU (λe=>h3 (by cases e;rfl))];rfl
 refine go ?_;first|with_reducible refine aN (λh4=>?_) (λh4=>?_)|with_reducible refine aM (λh4=>?_) (λh4=>?_)|with_reducible refine aK (λh4=>?_) (λh4=>?_)
 ·refine go ?_;refine ae () (hv:=?_) (hp:=trivial);rw[aU (λe=>h4 (by cases e;rfl))];rfl
 refine go ?_;refine ax (UY (xs:=uM) (ys:=BU) hl) (next:=λ_ _=>?_);refine go ?_;first|with_reducible refine aN (λh5=>?_) (λh5=>?_)|with_reducible refine aM (λh5=>?_) (λh5=>?_)|with_reducible refine aK (λh5=>?_) (λh5=>?_)
 ·refine go ?_;refine ae () (hv:=?_) (hp:=trivial);rw[aU (λe=>h5 (by cases e;rfl))];rfl
 refine go ?_;refine ax (UY (xs:=os1) (ys:=os2) hll) (next:=λ_ _=>?_);refine go ?_;first|with_reducible refine aN (λh6=>?_) (λh6=>?_)|with_reducible refine aM (λh6=>?_) (λh6=>?_)|with_reducible refine aK (λh6=>?_) (λh6=>?_)
 ·refine go ?_;refine ae () (hv:=?_) (hp:=trivial);rw[aU (λe=>h6 (by cases e;rfl))];rfl
 refine go ?_;first|with_reducible refine aN (λh7=>?_) (λh7=>?_)|with_reducible refine aM (λh7=>?_) (λh7=>?_)|with_reducible refine aK (λh7=>?_) (λh7=>?_)
 ·refine go ?_;refine ae () (hv:=?_) (hp:=trivial);rw[aU (λe=>h7 (by cases e;rfl))];rfl
 refine go ?_;first|with_reducible refine aN (λh8=>?_) (λh8=>?_)|with_reducible refine aM (λh8=>?_) (λh8=>?_)|with_reducible refine aK (λh8=>?_) (λh8=>?_)
 ·refine go ?_;refine ae () (hv:=?_) (hp:=trivial);rw[aU (λe=>h8 (by cases e;rfl))];rfl
 refine go ?_;first|with_reducible refine aN (λh9=>?_) (λh9=>?_)|with_reducible refine aM (λh9=>?_) (λh9=>?_)|with_reducible refine aK (λh9=>?_) (λh9=>?_)
 ·refine go ?_;refine ae () (hv:=?_) (hp:=trivial);rw[aU (λe=>h9 (by cases e;rfl))];rfl
 refine go ?_;first|with_reducible refine aN (λh10=>?_) (λh10=>?_)|with_reducible refine aM (λh10=>?_) (λh10=>?_)|with_reducible refine aK (λh10=>?_) (λh10=>?_)
 ·refine go ?_;refine ae () (hv:=?_) (hp:=trivial);rw[aU (λe=>h10 (by cases e;rfl))];rfl
 refine go ?_;first|with_reducible refine aN (λh11=>?_) (λh11=>?_)|with_reducible refine aM (λh11=>?_) (λh11=>?_)|with_reducible refine aK (λh11=>?_) (λh11=>?_)
 ·rw[dW]at h11;have h11:=mQ h11;refine go ?_;refine ae () (hv:=?_) (hp:=trivial);rw[aU (λe=>h11 (by cases e;rfl))];rfl
 rw[dW]at h11;have h11:=gX h11;refine go ?_;refine ae () (hv:=?_) (hp:=trivial);subst h1 h2 h3 h4 h5 h6 h7 h8 h9 h10 h11;rw[show decide (aQ.mk n1 o1 k1 f1 uM os1 s1 t1 p1 m1 y1 c1=aQ.mk n1 o1 k1 f1 uM os1 s1 t1 p1 m1 y1 c2)=decide (c1=c2)from nU.2 ⟨λh=>by cases h;rfl,λh=>by rw[h]⟩];rfl
theorem af9{x y:aQ}{v1 v2 u1 u2:Value}(hl:x.names.length<9223372036854775808)(hll:x.others.length<9223372036854775808):cK Tryz.prog 174 [.agg ⟨iQ x v1 v2⟩,.agg ⟨iQ y u1 u2⟩] [ah aT v1 x.names,ah aT v2 x.others,ah aT u1 y.names,ah aT u2 y.others] (.bool (decide (x=y))):=by
 obtain⟨n1,o1,k1,f1,uM,os1,s1,t1,p1,m1,y1,c1⟩:=x;obtain⟨n2,o2,k2,f2,BU,os2,s2,t2,p2,m2,y2,c2⟩:=y;dsimp only[iQ]at hl hll⊢;refine aI _ (aO 174) λB w0=>?_;refine go ?_;intro b2 b3;refine go ?_;first|with_reducible refine aN (λh1=>?_) (λh1=>?_)|with_reducible refine aM (λh1=>?_) (λh1=>?_)|with_reducible refine aK (λh1=>?_) (λh1=>?_)
 ·rw[dW]at h1;have h1:=mQ h1;refine go ?_;refine ae () (hv:=?_) (hp:=trivial);rw[aU (λe=>h1 (by cases e;rfl))];rfl
 rw[dW]at h1;have h1:=gX h1;refine go ?_;first|with_reducible refine aN (λh2=>?_) (λh2=>?_)|with_reducible refine aM (λh2=>?_) (λh2=>?_)|with_reducible refine aK (λh2=>?_) (λh2=>?_)
 ·rw[dW]at h2;have h2:=mQ h2;refine go ?_;refine ae () (hv:=?_) (hp:=trivial);rw[aU (λe=>h2 (by cases e;rfl))];rfl
 rw[dW]at h2;have h2:=gX h2;refine go ?_;first|with_reducible refine aN (λh3=>?_) (λh3=>?_)|with_reducible refine aM (λh3=>?_) (λh3=>?_)|with_reducible refine aK (λh3=>?_) (λh3=>?_)
 ·rw[dW]at h3;have h3:=mQ h3;refine go ?_;refine ae () (hv:=?_) (hp:=trivial);rw[aU (λe=>h3 (by cases e;rfl))];rfl
 rw[dW]at h3;have h3:=gX h3;refine go ?_;refine ax (UZ (xs:=uM) (ys:=BU) hl) (next:=λ_ _=>?_);refine go ?_;first|with_reducible refine aN (λh4=>?_) (λh4=>?_)|with_reducible refine aM (λh4=>?_) (λh4=>?_)|with_reducible refine aK (λh4=>?_) (λh4=>?_)
 ·refine go ?_;refine ae () (hv:=?_) (hp:=trivial);rw[aU (λe=>h4 (by cases e;rfl))];rfl
 refine go ?_;refine ax (UZ (xs:=os1) (ys:=os2) hll) (next:=λ_ _=>?_);refine go ?_;first|with_reducible refine aN (λh5=>?_) (λh5=>?_)|with_reducible refine aM (λh5=>?_) (λh5=>?_)|with_reducible refine aK (λh5=>?_) (λh5=>?_)
 ·refine go ?_;refine ae () (hv:=?_) (hp:=trivial);rw[aU (λe=>h5 (by cases e;rfl))];rfl
 refine go ?_;first|with_reducible refine aN (λh6=>?_) (λh6=>?_)|with_reducible refine aM (λh6=>?_) (λh6=>?_)|with_reducible refine aK (λh6=>?_) (λh6=>?_)
 ·refine go ?_;refine ae () (hv:=?_) (hp:=trivial);rw[aU (λe=>h6 (by cases e;rfl))];rfl
 refine go ?_;first|with_reducible refine aN (λh7=>?_) (λh7=>?_)|with_reducible refine aM (λh7=>?_) (λh7=>?_)|with_reducible refine aK (λh7=>?_) (λh7=>?_)
 ·refine go ?_;refine ae () (hv:=?_) (hp:=trivial);rw[aU (λe=>h7 (by cases e;rfl))];rfl
 refine go ?_;first|with_reducible refine aN (λh8=>?_) (λh8=>?_)|with_reducible refine aM (λh8=>?_) (λh8=>?_)|with_reducible refine aK (λh8=>?_) (λh8=>?_)
 ·refine go ?_;refine ae () (hv:=?_) (hp:=trivial);rw[aU (λe=>h8 (by cases e;rfl))];rfl
 refine go ?_;first|with_reducible refine aN (λh9=>?_) (λh9=>?_)|with_reducible refine aM (λh9=>?_) (λh9=>?_)|with_reducible refine aK (λh9=>?_) (λh9=>?_)
 ·refine go ?_;refine ae () (hv:=?_) (hp:=trivial);rw[aU (λe=>h9 (by cases e;rfl))];rfl
 refine go ?_;first|with_reducible refine aN (λh10=>?_) (λh10=>?_)|with_reducible refine aM (λh10=>?_) (λh10=>?_)|with_reducible refine aK (λh10=>?_) (λh10=>?_)
 ·refine go ?_;refine ae () (hv:=?_) (hp:=trivial);rw[aU (λe=>h10 (by cases e;rfl))];rfl
 refine go ?_;first|with_reducible refine aN (λh11=>?_) (λh11=>?_)|with_reducible refine aM (λh11=>?_) (λh11=>?_)|with_reducible refine aK (λh11=>?_) (λh11=>?_)
 ·refine go ?_;refine ae () (hv:=?_) (hp:=trivial);rw[aU (λe=>h11 (by cases e;rfl))];rfl
 refine go ?_;refine ae () (hv:=?_) (hp:=trivial);subst h1 h2 h3 h4 h5 h6 h7 h8 h9 h10 h11;rw[show decide (aQ.mk n1 o1 k1 f1 uM os1 s1 t1 p1 m1 y1 c1=aQ.mk n1 o1 k1 f1 uM os1 s1 t1 p1 m1 y1 c2)=decide (c1=c2)from nU.2 ⟨λh=>by cases h;rfl,λh=>by rw[h]⟩];rfl
theorem aga{x y:bC}{h1 c1 h2 c2:Value}(hS:pV x):cK Tryz.prog 97 [.agg ⟨iO x h1 c1⟩,.agg ⟨iO y h2 c2⟩] [ah aa h1 x.holes,ah aa c1 x.cells,ah aa h2 y.holes,ah aa c2 y.cells] (.bool (decide (x=y))):=by
 have e2:=hS.holes;have e3:=hS.cells;clear hS;obtain⟨xs,xw,xh,Ac,Ad⟩:=x;obtain⟨ys,yw,yh,Nr,EL⟩:=y;dsimp only[iO]at e2 e3⊢;refine aI _ (aO 97) λB w0=>?_;refine go ?_;intro b2 b3;refine go ?_;first|with_reducible refine aN (λk1=>?_) (λk1=>?_)|with_reducible refine aM (λk1=>?_) (λk1=>?_)|with_reducible refine aK (λk1=>?_) (λk1=>?_)
 ·refine go ?_;refine ae () (hv:=?_) (hp:=trivial);rw[aU (λe=>k1 (by cases e;rfl))];rfl
 refine go ?_;first|with_reducible refine aN (λk2=>?_) (λk2=>?_)|with_reducible refine aM (λk2=>?_) (λk2=>?_)|with_reducible refine aK (λk2=>?_) (λk2=>?_)
 ·refine go ?_;refine ae () (hv:=?_) (hp:=trivial);rw[aU (λe=>k2 (by cases e;rfl))];rfl
 refine go ?_;first|with_reducible refine aN (λk3=>?_) (λk3=>?_)|with_reducible refine aM (λk3=>?_) (λk3=>?_)|with_reducible refine aK (λk3=>?_) (λk3=>?_)
 ·refine go ?_;refine ae () (hv:=?_) (hp:=trivial);rw[aU (λe=>k3 (by cases e;rfl))];rfl
 refine go ?_;refine ax (Ch (xs:=Ac) (ys:=Nr) (by omega)) (next:=λ_ _=>?_);refine go ?_;first|with_reducible refine aN (λk4=>?_) (λk4=>?_)|with_reducible refine aM (λk4=>?_) (λk4=>?_)|with_reducible refine aK (λk4=>?_) (λk4=>?_)
 ·refine go ?_;refine ae () (hv:=?_) (hp:=trivial);rw[aU (λe=>k4 (by cases e;rfl))];rfl
 refine go ?_;refine ax (Ch (xs:=Ad) (ys:=EL) (by omega)) (next:=λ_ _=>?_);refine go ?_;refine ae () (hv:=?_) (hp:=trivial);subst k1 k2 k3 k4;rw[show decide (bC.mk xs xw xh Ac Ad=bC.mk xs xw xh Ac EL)=decide (Ad=EL)from nU.2 ⟨λh=>by cases h;rfl,λh=>by rw[h]⟩];rfl
theorem agb{x y:lX}{vx vy:Value}(hl:x.lists.length<9223372036854775808)(hll:∀l∈x.lists,l.length<9223372036854775808):cK Tryz.prog 139 [.agg ⟨[.string x.name,vx]⟩,.agg ⟨[.string y.name,vy]⟩] [ah (aj aa) vx x.lists,ah (aj aa) vy y.lists] (.bool (decide (x=y))):=by
 obtain⟨n1,xs⟩:=x;obtain⟨n2,ys⟩:=y;dsimp only at hl hll⊢;refine aI _ (aO 139) λB w0=>?_;refine aS (E:=aj aa) (v:=vx) (xs:=xs) (by simp) λa1 c1 e1=>?_;subst e1;refine aS (E:=aj aa) (v:=vy) (xs:=ys) (by simp) λa2 c2 e2=>?_;subst e2;refine go ?_;intro b2 b3;refine go ?_;refine aK (λk1=>?_) (λk1=>?_)
 rotate_left
 ·rw[dW]at k1;have k1:¬n1=n2:=by simpa using k1
  refine go ?_;refine ae () (hv:=?_) (hp:=trivial);rw[aU (λe=>k1 (by cases e;rfl))];rfl
 rw[dW]at k1;have k1:n1=n2:=by simpa using k1
 subst k1;have hdd:decide (lX.mk n1 xs=lX.mk n1 ys)=decide (xs=ys):=nU.2 ⟨λh=>by cases h;rfl,λh=>by rw[h]⟩;rw[hdd];refine go ?_;refine ay rfl (λh1=>?_) (λh1=>?_)
 ·refine go ?_;refine ae () (hv:=?_) (hp:=trivial);rw[aU (λe=>by subst e;omega)];rfl
 have hlen:xs.length=ys.length:=by omega
 refine go ?_;refine aZ (λk=>xs.length - k) (λk:Nat=>[(5,.int .i64 (k:Int))]) (λ_=>[]) (λ_=>[]) (λk=>k<=xs.length/\xs.take k=ys.take k) 0 ⟨by omega,by simp⟩ (body:=?_);rintro k ⟨hk,hsame⟩;refine go ?_;refine ay rfl (λh2=>?_) (λh2=>?_)
 ·refine go ?_;refine bi (aj aa) (xs:=xs) (next:=λ_ _ x (_:Value) hx=>?_);refine go ?_;refine bi (aj aa) (xs:=ys) (next:=λ_ _ y (_:Value) hy=>?_);refine go ?_;refine ax (UW (xs:=x) (ys:=y) (hll x (bH hx))) (next:=λ_ _=>?_);refine go ?_;refine eF rfl (λh3=>?_) (λh3=>?_)
  ·refine go ?_;refine ae () (hv:=?_) (hp:=trivial);rw[aU (λe=>by subst e;rw[hx]at hy;exact h3 (Option.some.inj hy))];rfl
  refine go ?_;refine aP (k+1) (by omega) ⟨by omega,?_⟩;rw[bU hx,bU hy,hsame,h3]
 have:k=xs.length:=by omega
 subst this;refine go ?_;refine ae () (hv:=?_) (hp:=trivial);rw[bK,hlen,bK]at hsame;rw[dS hsame];rfl
theorem agc{x y:bF}{h1 s1 r1 c1 u1 h2 s2 r2 c2 u2:Value}(hS:l6 x):cK Tryz.prog 96 [.agg ⟨gD x h1 s1 r1 c1 u1⟩,.agg ⟨gD y h2 s2 r2 c2 u2⟩] (kM x h1 s1 r1 c1 u1++kM y h2 s2 r2 c2 u2) (.bool (decide (x=y))):=by
 have e1:=hS.dO;have e2:=hS.regs;have e3:=hS.jm;have e4:=hS.kz;have e5:=hS.qE;have e6:=hS.holes;have e7:=hS.qF;clear hS;obtain⟨fs1,hu1,NM⟩:=MK;obtain⟨Jf,hu2,hrow2⟩:=ML;obtain⟨n1,v1,p1,w1,g1,ho1,l7,lI,l8,lJ⟩:=x;obtain⟨n2,v2,p2,w2,g2,ho2,pR,oQ,pU,oU⟩:=y;dsimp only at e1 e2 e3 e4 e5 e6 e7;dsimp only[gD,kM,List.cons_append,List.nil_append];refine aI _ (aO 96) λB w0=>?_;refine aS (E:=fq) (v:=s1) (xs:=l7) (by simp) λkC cs1 es=>?_;subst es;refine aS (E:=fq) (v:=s2) (xs:=pR) (by simp) λas2 cs2 es=>?_;subst es;refine aS (E:=eG) (v:=r1) (xs:=lI) (by simp) λar1 cr1 es=>?_;subst es;refine aS (E:=eG) (v:=r2) (xs:=oQ) (by simp) λar2 cr2 es=>?_;subst es;refine aS (E:=bM) (v:=c1) (xs:=l8) (by simp) λac1 cc1 es=>?_;subst es;refine aS (E:=bM) (v:=c2) (xs:=pU) (by simp) λac2 cc2 es=>?_;subst es;refine aS (E:=aY) (v:=u1) (xs:=lJ) (by simp) λau1 cu1 es=>?_;subst es;refine aS (E:=aY) (v:=u2) (xs:=oU) (by simp) λau2 cu2 es=>?_;subst es;refine go ?_;intro b2 b3;refine go ?_;refine aK (λk1=>?_) (λk1=>?_)
 rotate_left
 ·rw[dW]at k1;have k1:¬n1=n2:=by simpa using k1
  refine go ?_;refine ae () (hv:=?_) (hp:=trivial);rw[aU (λe=>k1 (by cases e;rfl))];rfl
 rw[dW]at k1;have k1:n1=n2:=by simpa using k1
 refine go ?_;first|with_reducible refine aN (λk2=>?_) (λk2=>?_)|with_reducible refine aM (λk2=>?_) (λk2=>?_)|with_reducible refine aK (λk2=>?_) (λk2=>?_)
 rotate_left
 ·refine go ?_;refine ae () (hv:=?_) (hp:=trivial);rw[aU (λe=>k2 (by cases e;rfl))];rfl
 refine go ?_;first|with_reducible refine aN (λk3=>?_) (λk3=>?_)|with_reducible refine aM (λk3=>?_) (λk3=>?_)|with_reducible refine aK (λk3=>?_) (λk3=>?_)
 rotate_left
 ·refine go ?_;refine ae () (hv:=?_) (hp:=trivial);rw[aU (λe=>k3 (by cases e;rfl))];rfl
 refine go ?_;first|with_reducible refine aN (λk4=>?_) (λk4=>?_)|with_reducible refine aM (λk4=>?_) (λk4=>?_)|with_reducible refine aK (λk4=>?_) (λk4=>?_)
 rotate_left
 ·refine go ?_;refine ae () (hv:=?_) (hp:=trivial);rw[aU (λe=>k4 (by cases e;rfl))];rfl
 refine go ?_;first|with_reducible refine aN (λk5=>?_) (λk5=>?_)|with_reducible refine aM (λk5=>?_) (λk5=>?_)|with_reducible refine aK (λk5=>?_) (λk5=>?_)
 rotate_left
 ·refine go ?_;refine ae () (hv:=?_) (hp:=trivial);rw[aU (λe=>k5 (by cases e;rfl))];rfl
 refine go ?_;refine ax (UW (xs:=ho1) (ys:=ho2) e6) (next:=λ_ _=>?_);refine go ?_;refine aM (λk6=>?_) (λk6=>?_)
 rotate_left
 ·refine go ?_;refine ae () (hv:=?_) (hp:=trivial);rw[aU (λe=>k6 (by cases e;rfl))];rfl
 refine go ?_;first|with_reducible refine aN (λk7=>?_) (λk7=>?_)|with_reducible refine aM (λk7=>?_) (λk7=>?_)|with_reducible refine aK (λk7=>?_) (λk7=>?_)
 rotate_left
 ·refine go ?_;refine ae () (hv:=?_) (hp:=trivial);rw[aU (λe=>k7 (by cases e;rfl))];rfl
 refine go ?_;first|with_reducible refine aN (λk8=>?_) (λk8=>?_)|with_reducible refine aM (λk8=>?_) (λk8=>?_)|with_reducible refine aK (λk8=>?_) (λk8=>?_)
 rotate_left
 ·refine go ?_;refine ae () (hv:=?_) (hp:=trivial);rw[aU (λe=>k8 (by cases e;rfl))];rfl
 refine go ?_;first|with_reducible refine aN (λk9=>?_) (λk9=>?_)|with_reducible refine aM (λk9=>?_) (λk9=>?_)|with_reducible refine aK (λk9=>?_) (λk9=>?_)
 rotate_left
 ·refine go ?_;refine ae () (hv:=?_) (hp:=trivial);rw[aU (λe=>k9 (by cases e;rfl))];rfl
 refine go ?_;refine ay rfl (λk10=>?_) (λk10=>?_)
 ·refine go ?_;refine ae () (hv:=?_) (hp:=trivial);rw[aU (λe=>k10 (by cases e;rfl))];rfl
 have l1:l7.length=pR.length:=by omega
 have l2:lI.length=oQ.length:=by omega
 have l3:l8.length=pU.length:=by omega
 have l4:lJ.length=oU.length:=by omega
 refine go ?_;refine aZ (λk=>l7.length - k) (λk:Nat=>[(5,.int .i64 (k:Int))]) (λ_=>[]) (λ_=>[]) (λk=>k<=l7.length/\l7.take k=pR.take k) 0 ⟨by omega,by simp⟩ (body:=?_);rintro k ⟨hk,hsame⟩;refine go ?_;refine ay rfl (λh2=>?_) (λh2=>?_)
 ·refine go ?_;refine bi fq (xs:=l7) (next:=λ_ _ x (_:Unit) hx=>?_);refine go ?_;refine bi fq (xs:=pR) (next:=λ_ _ y (_:Unit) hy=>?_);refine go ?_;refine(fJ (v:=.bool (!decide (x=y))) rfl rfl (by rw[<- MI];exact BD rfl rfl hu1 (by kernel_rfl) (by kernel_rfl) (row_of NM rfl rfl (λj=>by rw[fD]) (λj=>by rw[fD])) (by simp[fH,bR,Ideal.cellV]) (by simp[fH,bR,Ideal.cellV]))).h ?_;refine go ?_;refine eF rfl (λh3=>?_) (λh3=>?_)
  ·refine go ?_;refine ae () (hv:=?_) (hp:=trivial);rw[aU (λe=>by cases e;rw[hx]at hy;exact h3 (Option.some.inj hy))];rfl
  refine go ?_;refine aP (k+1) (by omega) ⟨by omega,?_⟩;rw[bU hx,bU hy,hsame,h3]
 have hkl:k=l7.length:=by omega
 subst hkl;rw[bK,l1,bK]at hsame;have m1:=hsame;clear hsame hk h2;refine go ?_;refine aZ (λk=>lI.length - k) (λk:Nat=>[(6,.int .i64 (k:Int))]) (λ_=>[]) (λ_=>[]) (λk=>k<=lI.length/\lI.take k=oQ.take k) 0 ⟨by omega,by simp⟩ (body:=?_);rintro k ⟨hk,hsame⟩;refine go ?_;refine ay rfl (λh2=>?_) (λh2=>?_)
 ·refine go ?_;refine bi eG (xs:=lI) (next:=λ_ _ x (vx:Value) hx=>?_);have hxl:=e7 x (bH hx);refine go ?_;refine bi eG (xs:=oQ) (next:=λ_ _ y (vy:Value) hy=>?_);refine go ?_;refine ax (agb (x:=x) (y:=y) (vx:=vx) (vy:=vy) hxl.1 hxl.2) (next:=λ_ _=>?_);refine go ?_;refine eF rfl (λh3=>?_) (λh3=>?_)
  ·refine go ?_;refine ae () (hv:=?_) (hp:=trivial);rw[aU (λe=>by cases e;rw[hx]at hy;exact h3 (Option.some.inj hy))];rfl
  refine go ?_;refine aP (k+1) (by omega) ⟨by omega,?_⟩;rw[bU hx,bU hy,hsame,h3]
 have hkl:k=lI.length:=by omega
 subst hkl;rw[bK,l2,bK]at hsame;have m2:=hsame;clear hsame hk h2;refine go ?_;refine aZ (λk=>l8.length - k) (λk:Nat=>[(7,.int .i64 (k:Int))]) (λ_=>[]) (λ_=>[]) (λk=>k<=l8.length/\l8.take k=pU.take k) 0 ⟨by omega,by simp⟩ (body:=?_);rintro k ⟨hk,hsame⟩;refine go ?_;refine ay rfl (λh2=>?_) (λh2=>?_)
 ·refine go ?_;refine bi bM (xs:=l8) (next:=λ_ _ x (_:Unit) hx=>?_);refine go ?_;refine bi bM (xs:=pU) (next:=λ_ _ y (_:Unit) hy=>?_);refine go ?_;refine(fJ (v:=.bool (!decide (x=y))) rfl rfl (by rw[<- MJ];exact BD rfl rfl hu2 (by kernel_rfl) (by kernel_rfl) (row_of hrow2 rfl rfl (λj=>by rw[fD]) (λj=>by rw[fD])) (by simp[fH,bR,Ideal.cellV]) (by simp[fH,bR,Ideal.cellV]))).h ?_;refine go ?_;refine eF rfl (λh3=>?_) (λh3=>?_)
  ·refine go ?_;refine ae () (hv:=?_) (hp:=trivial);rw[aU (λe=>by cases e;rw[hx]at hy;exact h3 (Option.some.inj hy))];rfl
  refine go ?_;refine aP (k+1) (by omega) ⟨by omega,?_⟩;rw[bU hx,bU hy,hsame,h3]
 have hkl:k=l8.length:=by omega
 subst hkl;rw[bK,l3,bK]at hsame;have m3:=hsame;clear hsame hk h2;refine go ?_;refine aZ (λk=>lJ.length - k) (λk:Nat=>[(8,.int .i64 (k:Int))]) (λ_=>[]) (λ_=>[]) (λk=>k<=lJ.length/\lJ.take k=oU.take k) 0 ⟨by omega,by simp⟩ (body:=?_);rintro k ⟨hk,hsame⟩;refine go ?_;refine ay rfl (λh2=>?_) (λh2=>?_)
 ·refine go ?_;refine bi aY (xs:=lJ) (next:=λ_ _ x (vx:Value×Value) hx=>?_);have hxl:=e5 x (bH hx);refine go ?_;refine bi aY (xs:=oU) (next:=λ_ _ y (vy:Value×Value) hy=>?_);refine go ?_;refine ax (af8 (x:=x) (y:=y) (v1:=vx.1) (v2:=vx.2) (u1:=vy.1) (u2:=vy.2) hxl.1 hxl.2) (next:=λ_ _=>?_);refine go ?_;refine eF rfl (λh3=>?_) (λh3=>?_)
  ·refine go ?_;refine ae () (hv:=?_) (hp:=trivial);rw[aU (λe=>by cases e;rw[hx]at hy;exact h3 (Option.some.inj hy))];rfl
  refine go ?_;refine aP (k+1) (by omega) ⟨by omega,?_⟩;rw[bU hx,bU hy,hsame,h3]
 have hkl:k=lJ.length:=by omega
 subst hkl;rw[bK,l4,bK]at hsame;have m4:=hsame;clear hsame hk h2;refine go ?_;refine ae () (hv:=?_) (hp:=trivial);rw[dS (show bF.mk n1 v1 p1 w1 g1 ho1 l7 lI l8 lJ=bF.mk n2 v2 p2 w2 g2 ho2 pR oQ pU oU from by rw[k1,iI.1 k2,iI.1 k3,iI.1 k4,iI.1 k5,k6,m1,m2,m3,m4])];rfl
theorem agu{x y:bF}{h1 s1 r1 c1 u1 h2 s2 r2 c2 u2:Value}(hS:l6 x):cK Tryz.prog 127 [.agg ⟨gD x h1 s1 r1 c1 u1⟩,.agg ⟨gD y h2 s2 r2 c2 u2⟩] (kM x h1 s1 r1 c1 u1++kM y h2 s2 r2 c2 u2) (.bool (decide (x=y))):=by
 have e1:=hS.dO;have e2:=hS.regs;have e3:=hS.jm;have e4:=hS.kz;have e5:=hS.qE;have e6:=hS.holes;have e7:=hS.qF;clear hS;obtain⟨fs1,hu1,NM⟩:=MK;obtain⟨Jf,hu2,hrow2⟩:=ML;obtain⟨n1,v1,p1,w1,g1,ho1,l7,lI,l8,lJ⟩:=x;obtain⟨n2,v2,p2,w2,g2,ho2,pR,oQ,pU,oU⟩:=y;dsimp only at e1 e2 e3 e4 e5 e6 e7;dsimp only[gD,kM,List.cons_append,List.nil_append];refine aI _ (aO 127) λB w0=>?_;refine aS (E:=fq) (v:=s1) (xs:=l7) (by simp) λkC cs1 es=>?_;subst es;refine aS (E:=fq) (v:=s2) (xs:=pR) (by simp) λas2 cs2 es=>?_;subst es;refine aS (E:=eG) (v:=r1) (xs:=lI) (by simp) λar1 cr1 es=>?_;subst es;refine aS (E:=eG) (v:=r2) (xs:=oQ) (by simp) λar2 cr2 es=>?_;subst es;refine aS (E:=bM) (v:=c1) (xs:=l8) (by simp) λac1 cc1 es=>?_;subst es;refine aS (E:=bM) (v:=c2) (xs:=pU) (by simp) λac2 cc2 es=>?_;subst es;refine aS (E:=aY) (v:=u1) (xs:=lJ) (by simp) λau1 cu1 es=>?_;subst es;refine aS (E:=aY) (v:=u2) (xs:=oU) (by simp) λau2 cu2 es=>?_;subst es;refine go ?_;intro b2 b3;refine go ?_;refine aK (λk1=>?_) (λk1=>?_)
 rotate_left
 ·rw[dW]at k1;have k1:¬n1=n2:=by simpa using k1
  refine go ?_;refine ae () (hv:=?_) (hp:=trivial);rw[aU (λe=>k1 (by cases e;rfl))];rfl
 rw[dW]at k1;have k1:n1=n2:=by simpa using k1
 refine go ?_;first|with_reducible refine aN (λk2=>?_) (λk2=>?_)|with_reducible refine aM (λk2=>?_) (λk2=>?_)|with_reducible refine aK (λk2=>?_) (λk2=>?_)
 rotate_left
 ·refine go ?_;refine ae () (hv:=?_) (hp:=trivial);rw[aU (λe=>k2 (by cases e;rfl))];rfl
 refine go ?_;first|with_reducible refine aN (λk3=>?_) (λk3=>?_)|with_reducible refine aM (λk3=>?_) (λk3=>?_)|with_reducible refine aK (λk3=>?_) (λk3=>?_)
 rotate_left
 ·refine go ?_;refine ae () (hv:=?_) (hp:=trivial);rw[aU (λe=>k3 (by cases e;rfl))];rfl
 refine go ?_;first|with_reducible refine aN (λk4=>?_) (λk4=>?_)|with_reducible refine aM (λk4=>?_) (λk4=>?_)|with_reducible refine aK (λk4=>?_) (λk4=>?_)
 rotate_left
 ·refine go ?_;refine ae () (hv:=?_) (hp:=trivial);rw[aU (λe=>k4 (by cases e;rfl))];rfl
 refine go ?_;first|with_reducible refine aN (λk5=>?_) (λk5=>?_)|with_reducible refine aM (λk5=>?_) (λk5=>?_)|with_reducible refine aK (λk5=>?_) (λk5=>?_)
 rotate_left
 ·refine go ?_;refine ae () (hv:=?_) (hp:=trivial);rw[aU (λe=>k5 (by cases e;rfl))];rfl
 refine go ?_;refine ax (UX (xs:=ho1) (ys:=ho2) e6) (next:=λ_ _=>?_);refine go ?_;refine eF rfl (λk6=>?_) (λk6=>?_)
 ·refine go ?_;refine ae () (hv:=?_) (hp:=trivial);rw[aU (λe=>k6 (by cases e;rfl))];rfl
 refine go ?_;first|with_reducible refine aN (λk7=>?_) (λk7=>?_)|with_reducible refine aM (λk7=>?_) (λk7=>?_)|with_reducible refine aK (λk7=>?_) (λk7=>?_)
 rotate_left
 ·refine go ?_;refine ae () (hv:=?_) (hp:=trivial);rw[aU (λe=>k7 (by cases e;rfl))];rfl
 refine go ?_;first|with_reducible refine aN (λk8=>?_) (λk8=>?_)|with_reducible refine aM (λk8=>?_) (λk8=>?_)|with_reducible refine aK (λk8=>?_) (λk8=>?_)
 rotate_left
 ·refine go ?_;refine ae () (hv:=?_) (hp:=trivial);rw[aU (λe=>k8 (by cases e;rfl))];rfl
 refine go ?_;first|with_reducible refine aN (λk9=>?_) (λk9=>?_)|with_reducible refine aM (λk9=>?_) (λk9=>?_)|with_reducible refine aK (λk9=>?_) (λk9=>?_)
 rotate_left
 ·refine go ?_;refine ae () (hv:=?_) (hp:=trivial);rw[aU (λe=>k9 (by cases e;rfl))];rfl
 refine go ?_;refine ay rfl (λk10=>?_) (λk10=>?_)
 ·refine go ?_;refine ae () (hv:=?_) (hp:=trivial);rw[aU (λe=>k10 (by cases e;rfl))];rfl
 have l1:l7.length=pR.length:=by omega
 have l2:lI.length=oQ.length:=by omega
 have l3:l8.length=pU.length:=by omega
 have l4:lJ.length=oU.length:=by omega
 refine go ?_;refine aZ (λk=>l7.length - k) (λk:Nat=>[(5,.int .i64 (k:Int))]) (λ_=>[]) (λ_=>[]) (λk=>k<=l7.length/\l7.take k=pR.take k) 0 ⟨by omega,by simp⟩ (body:=?_);rintro k ⟨hk,hsame⟩;refine go ?_;refine ay rfl (λh2=>?_) (λh2=>?_)
 ·refine go ?_;refine bi fq (xs:=l7) (next:=λ_ _ x (_:Unit) hx=>?_);refine go ?_;refine bi fq (xs:=pR) (next:=λ_ _ y (_:Unit) hy=>?_);refine go ?_;refine(fJ (v:=.bool (!decide (x=y))) rfl rfl (by rw[<- MI];exact BD rfl rfl hu1 (by kernel_rfl) (by kernel_rfl) (row_of NM rfl rfl (λj=>by rw[fD]) (λj=>by rw[fD])) (by simp[fH,bR,Ideal.cellV]) (by simp[fH,bR,Ideal.cellV]))).h ?_;refine go ?_;refine eF rfl (λh3=>?_) (λh3=>?_)
  ·refine go ?_;refine ae () (hv:=?_) (hp:=trivial);rw[aU (λe=>by cases e;rw[hx]at hy;exact h3 (Option.some.inj hy))];rfl
  refine go ?_;refine aP (k+1) (by omega) ⟨by omega,?_⟩;rw[bU hx,bU hy,hsame,h3]
 have hkl:k=l7.length:=by omega
 subst hkl;rw[bK,l1,bK]at hsame;have m1:=hsame;clear hsame hk h2;refine go ?_;refine aZ (λk=>lI.length - k) (λk:Nat=>[(6,.int .i64 (k:Int))]) (λ_=>[]) (λ_=>[]) (λk=>k<=lI.length/\lI.take k=oQ.take k) 0 ⟨by omega,by simp⟩ (body:=?_);rintro k ⟨hk,hsame⟩;refine go ?_;refine ay rfl (λh2=>?_) (λh2=>?_)
 ·refine go ?_;refine bi eG (xs:=lI) (next:=λ_ _ x (vx:Value) hx=>?_);have hxl:=e7 x (bH hx);refine go ?_;refine bi eG (xs:=oQ) (next:=λ_ _ y (vy:Value) hy=>?_);refine go ?_;refine aK (λj1=>?_) (λj1=>?_)
  rotate_left
  ·rw[dW]at j1;have j1:¬x.name=y.name:=by simpa using j1
   have h3:¬x=y:=λe=>j1 (by rw[e]);refine go ?_;refine ae () (hv:=?_) (hp:=trivial);rw[aU (λe=>by cases e;rw[hx]at hy;exact h3 (Option.some.inj hy))];rfl
  rw[dW]at j1;have j1:x.name=y.name:=by simpa using j1
  refine go ?_;refine bi eG (xs:=lI) (next:=λ_ _ x' (vx:Value) hx'=>?_);cases hx.symm.trans hx';refine go ?_;refine bi eG (xs:=oQ) (next:=λ_ _ y' (vy:Value) hy'=>?_);cases hy.symm.trans hy';refine go ?_;refine ax (af7 (xs:=x.lists) (ys:=y.lists) hxl.1 hxl.2) (next:=λ_ _=>?_);refine go ?_;refine eF rfl (λh3=>?_) (λh3=>?_)
  ·have h3:¬x=y:=λe=>h3 (by rw[e]);refine go ?_;refine ae () (hv:=?_) (hp:=trivial);rw[aU (λe=>by cases e;rw[hx]at hy;exact h3 (Option.some.inj hy))];rfl
  have h3:x=y:=by
   obtain⟨a,b⟩:=x;obtain⟨c,d⟩:=y;dsimp only at j1 h3;rw[j1,h3]
  refine go ?_;refine aP (k+1) (by omega) ⟨by omega,?_⟩;rw[bU hx,bU hy,hsame,h3]
 have hkl:k=lI.length:=by omega
 subst hkl;rw[bK,l2,bK]at hsame;have m2:=hsame;clear hsame hk h2;refine go ?_;refine aZ (λk=>l8.length - k) (λk:Nat=>[(7,.int .i64 (k:Int))]) (λ_=>[]) (λ_=>[]) (λk=>k<=l8.length/\l8.take k=pU.take k) 0 ⟨by omega,by simp⟩ (body:=?_);rintro k ⟨hk,hsame⟩;refine go ?_;refine ay rfl (λh2=>?_) (λh2=>?_)
 ·refine go ?_;refine bi bM (xs:=l8) (next:=λ_ _ x (_:Unit) hx=>?_);refine go ?_;refine bi bM (xs:=pU) (next:=λ_ _ y (_:Unit) hy=>?_);refine go ?_;refine(fJ (v:=.bool (!decide (x=y))) rfl rfl (by rw[<- MJ];exact BD rfl rfl hu2 (by kernel_rfl) (by kernel_rfl) (row_of hrow2 rfl rfl (λj=>by rw[fD]) (λj=>by rw[fD])) (by simp[fH,bR,Ideal.cellV]) (by simp[fH,bR,Ideal.cellV]))).h ?_;refine go ?_;refine eF rfl (λh3=>?_) (λh3=>?_)
  ·refine go ?_;refine ae () (hv:=?_) (hp:=trivial);rw[aU (λe=>by cases e;rw[hx]at hy;exact h3 (Option.some.inj hy))];rfl
  refine go ?_;refine aP (k+1) (by omega) ⟨by omega,?_⟩;rw[bU hx,bU hy,hsame,h3]
 have hkl:k=l8.length:=by omega
 subst hkl;rw[bK,l3,bK]at hsame;have m3:=hsame;clear hsame hk h2;refine go ?_;refine aZ (λk=>lJ.length - k) (λk:Nat=>[(8,.int .i64 (k:Int))]) (λ_=>[]) (λ_=>[]) (λk=>k<=lJ.length/\lJ.take k=oU.take k) 0 ⟨by omega,by simp⟩ (body:=?_);rintro k ⟨hk,hsame⟩;refine go ?_;refine ay rfl (λh2=>?_) (λh2=>?_)
 ·refine go ?_;refine bi aY (xs:=lJ) (next:=λ_ _ x (vx:Value×Value) hx=>?_);have hxl:=e5 x (bH hx);refine go ?_;refine bi aY (xs:=oU) (next:=λ_ _ y (vy:Value×Value) hy=>?_);refine go ?_;refine ax (af9 (x:=x) (y:=y) (v1:=vx.1) (v2:=vx.2) (u1:=vy.1) (u2:=vy.2) hxl.1 hxl.2) (next:=λ_ _=>?_);refine go ?_;refine eF rfl (λh3=>?_) (λh3=>?_)
  ·refine go ?_;refine ae () (hv:=?_) (hp:=trivial);rw[aU (λe=>by cases e;rw[hx]at hy;exact h3 (Option.some.inj hy))];rfl
  refine go ?_;refine aP (k+1) (by omega) ⟨by omega,?_⟩;rw[bU hx,bU hy,hsame,h3]
 have hkl:k=lJ.length:=by omega
 subst hkl;rw[bK,l4,bK]at hsame;have m4:=hsame;clear hsame hk h2;refine go ?_;refine ae () (hv:=?_) (hp:=trivial);rw[dS (show bF.mk n1 v1 p1 w1 g1 ho1 l7 lI l8 lJ=bF.mk n2 v2 p2 w2 g2 ho2 pR oQ pU oU from by rw[k1,iI.1 k2,iI.1 k3,iI.1 k4,iI.1 k5,k6,m1,m2,m3,m4])];rfl
