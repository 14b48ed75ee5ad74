/-
  The reference's comparisons: lists, rules, regions, declarations, grids.
-/
import Derived.Test.YtoohgkkmdnbnfaaGreatDoorLibOB
set_option linter.all false
set_option maxRecDepth 10000
set_option maxHeartbeats 4000000
namespace Go.Proofs.YtoohgkkmdnbnfaaGreatDoor
open Go.Ideal Kd
theorem Ti{va vb:Value}{xs ys:List Int}(hl:xs.length<9223372036854775808):bY Tryz.prog 138 [va,vb] [ah ae va xs,ah ae vb ys] (.bool (decide (xs=ys))):=by
 refine aG _ (aM 138) λB w0=>?_;refine aT (E:=ae) (v:=va) (xs:=xs) (by simp) λa1 c1 e1=>?_;subst e1;refine aT (E:=ae) (v:=vb) (xs:=ys) (by simp) λa2 c2 e2=>?_;subst e2;refine go ?_;refine az rfl (λh1=>?_) (λh1=>?_)
 ·refine go ?_;refine aa () (hv:=?_) (hp:=trivial);rw[aR (λe=>by subst e;omega)];rfl
 have hlen:xs.length=ys.length:=by omega
 refine go ?_;refine aX (λk=>xs.length - k) (λk:Nat=>[(5,.int .i64 (k:Int))]) (λ_=>[]) (λ_=>[]) (λk=>k<=xs.length/\xs.take k=ys.take k) 0 ⟨by omega,by simp⟩ (body:=?_);rintro k ⟨hk,hsame⟩;refine go ?_;refine az rfl (λh2=>?_) (λh2=>?_)
 ·refine go ?_;intro _ _ x hx _ _ y hy;refine go ?_;refine az rfl (λh3=>?_) (λh3=>?_)
  rotate_left
  ·have h3:x=y:=iF.1 h3;refine go ?_;refine aO (k+1) (by omega) ⟨by omega,?_⟩;rw[bV hx,bV hy,hsame,h3]
  ·refine go ?_;refine aa () (hv:=?_) (hp:=trivial);rw[aR (λe=>by subst e;rw[hx]at hy;exact h3 (Option.some.inj hy))];rfl
 have:k=xs.length:=by omega
 subst this;refine go ?_;refine aa () (hv:=?_) (hp:=trivial);rw[bK,hlen,bK]at hsame;rw[eB hsame];rfl
theorem Tj{va vb:Value}{xs ys:List Int}(hl:xs.length<9223372036854775808):bY Tryz.prog 172 [va,vb] [ah ae va xs,ah ae vb ys] (.bool (decide (xs=ys))):=by
 refine aG _ (aM 172) λB w0=>?_;refine aT (E:=ae) (v:=va) (xs:=xs) (by simp) λa1 c1 e1=>?_;subst e1;refine aT (E:=ae) (v:=vb) (xs:=ys) (by simp) λa2 c2 e2=>?_;subst e2;refine go ?_;refine az rfl (λh1=>?_) (λh1=>?_)
 ·refine go ?_;refine aa () (hv:=?_) (hp:=trivial);rw[aR (λe=>by subst e;omega)];rfl
 have hlen:xs.length=ys.length:=by omega
 refine go ?_;refine aX (λk=>xs.length - k) (λk:Nat=>[(5,.int .i64 (k:Int))]) (λ_=>[]) (λ_=>[]) (λk=>k<=xs.length/\xs.take k=ys.take k) 0 ⟨by omega,by simp⟩ (body:=?_);rintro k ⟨hk,hsame⟩;refine go ?_;refine az rfl (λh2=>?_) (λh2=>?_)
 ·refine go ?_;intro _ _ x hx _ _ y hy;refine go ?_;refine az rfl (λh3=>?_) (λh3=>?_)
  rotate_left
  ·have h3:x=y:=iF.1 h3;refine go ?_;refine aO (k+1) (by omega) ⟨by omega,?_⟩;rw[bV hx,bV hy,hsame,h3]
  ·refine go ?_;refine aa () (hv:=?_) (hp:=trivial);rw[aR (λe=>by subst e;rw[hx]at hy;exact h3 (Option.some.inj hy))];rfl
 have:k=xs.length:=by omega
 subst this;refine go ?_;refine aa () (hv:=?_) (hp:=trivial);rw[bK,hlen,bK]at hsame;rw[eB hsame];rfl
theorem Tk{va vb:Value}{xs ys:List ByteArray}(hl:xs.length<9223372036854775808):bY Tryz.prog 183 [va,vb] [ah aN va xs,ah aN vb ys] (.bool (decide (xs=ys))):=by
 refine aG _ (aM 183) λB w0=>?_;refine aT (E:=aN) (v:=va) (xs:=xs) (by simp) λa1 c1 e1=>?_;subst e1;refine aT (E:=aN) (v:=vb) (xs:=ys) (by simp) λa2 c2 e2=>?_;subst e2;refine go ?_;refine az rfl (λh1=>?_) (λh1=>?_)
 ·refine go ?_;refine aa () (hv:=?_) (hp:=trivial);rw[aR (λe=>by subst e;omega)];rfl
 have hlen:xs.length=ys.length:=by omega
 refine go ?_;refine aX (λk=>xs.length - k) (λk:Nat=>[(5,.int .i64 (k:Int))]) (λ_=>[]) (λ_=>[]) (λk=>k<=xs.length/\xs.take k=ys.take k) 0 ⟨by omega,by simp⟩ (body:=?_);rintro k ⟨hk,hsame⟩;refine go ?_;refine az rfl (λh2=>?_) (λh2=>?_)
 ·refine go ?_;refine aY aN (xs:=xs) (next:=λ_ _ x (_:Unit) hx=>?_);refine go ?_;refine aY aN (xs:=ys) (next:=λ_ _ y (_:Unit) hy=>?_);refine go ?_;refine ed (p:=x=y) (by show Value.bool _=_;rw[dQ]) (λh3=>?_) (λh3=>?_)
  ·refine go ?_;refine aa () (hv:=?_) (hp:=trivial);rw[aR (λe=>by subst e;rw[hx]at hy;exact h3 (Option.some.inj hy))];rfl
  refine go ?_;refine aO (k+1) (by omega) ⟨by omega,?_⟩;rw[bV hx,bV hy,hsame,h3]
 have:k=xs.length:=by omega
 subst this;refine go ?_;refine aa () (hv:=?_) (hp:=trivial);rw[bK,hlen,bK]at hsame;rw[eB hsame];rfl
theorem Tm{va vb:Value}{xs ys:List ByteArray}(hl:xs.length<9223372036854775808):bY Tryz.prog 240 [va,vb] [ah aN va xs,ah aN vb ys] (.bool (decide (xs=ys))):=by
 refine aG _ (aM 240) λB w0=>?_;refine aT (E:=aN) (v:=va) (xs:=xs) (by simp) λa1 c1 e1=>?_;subst e1;refine aT (E:=aN) (v:=vb) (xs:=ys) (by simp) λa2 c2 e2=>?_;subst e2;refine go ?_;refine az rfl (λh1=>?_) (λh1=>?_)
 ·refine go ?_;refine aa () (hv:=?_) (hp:=trivial);rw[aR (λe=>by subst e;omega)];rfl
 have hlen:xs.length=ys.length:=by omega
 refine go ?_;refine aX (λk=>xs.length - k) (λk:Nat=>[(5,.int .i64 (k:Int))]) (λ_=>[]) (λ_=>[]) (λk=>k<=xs.length/\xs.take k=ys.take k) 0 ⟨by omega,by simp⟩ (body:=?_);rintro k ⟨hk,hsame⟩;refine go ?_;refine az rfl (λh2=>?_) (λh2=>?_)
 ·refine go ?_;refine aY aN (xs:=xs) (next:=λ_ _ x (_:Unit) hx=>?_);refine go ?_;refine aY aN (xs:=ys) (next:=λ_ _ y (_:Unit) hy=>?_);refine go ?_;refine ed (p:=x=y) (by show Value.bool _=_;rw[dQ]) (λh3=>?_) (λh3=>?_)
  ·refine go ?_;refine aa () (hv:=?_) (hp:=trivial);rw[aR (λe=>by subst e;rw[hx]at hy;exact h3 (Option.some.inj hy))];rfl
  refine go ?_;refine aO (k+1) (by omega) ⟨by omega,?_⟩;rw[bV hx,bV hy,hsame,h3]
 have:k=xs.length:=by omega
 subst this;refine go ?_;refine aa () (hv:=?_) (hp:=trivial);rw[bK,hlen,bK]at hsame;rw[eB hsame];rfl
theorem Tn{va vb:Value}{xs ys:List (List Int)}(hl:xs.length<9223372036854775808)(hll:∀l∈xs,l.length<9223372036854775808):bY Tryz.prog 95 [va,vb] [ah (aj ae) va xs,ah (aj ae) vb ys] (.bool (decide (xs=ys))):=by
 refine aG _ (aM 95) λB w0=>?_;refine aT (E:=aj ae) (v:=va) (xs:=xs) (by simp) λa1 c1 e1=>?_;subst e1;refine aT (E:=aj ae) (v:=vb) (xs:=ys) (by simp) λa2 c2 e2=>?_;subst e2;refine go ?_;refine az rfl (λh1=>?_) (λh1=>?_)
 ·refine go ?_;refine aa () (hv:=?_) (hp:=trivial);rw[aR (λe=>by subst e;omega)];rfl
 have hlen:xs.length=ys.length:=by omega
 refine go ?_;refine aX (λk=>xs.length - k) (λk:Nat=>[(5,.int .i64 (k:Int))]) (λ_=>[]) (λ_=>[]) (λk=>k<=xs.length/\xs.take k=ys.take k) 0 ⟨by omega,by simp⟩ (body:=?_);rintro k ⟨hk,hsame⟩;refine go ?_;refine az rfl (λh2=>?_) (λh2=>?_)
 ·refine go ?_;refine aY (aj ae) (xs:=xs) (next:=λ_ _ x (_:Value) hx=>?_);refine go ?_;refine aY (aj ae) (xs:=ys) (next:=λ_ _ y (_:Value) hy=>?_);refine go ?_;refine ak (Bc (xs:=x) (ys:=y) (hll x (bJ hx))) (next:=λ_ _=>?_);refine go ?_;refine ed rfl (λh3=>?_) (λh3=>?_)
  ·refine go ?_;refine aa () (hv:=?_) (hp:=trivial);rw[aR (λe=>by subst e;rw[hx]at hy;exact h3 (Option.some.inj hy))];rfl
  refine go ?_;refine aO (k+1) (by omega) ⟨by omega,?_⟩;rw[bV hx,bV hy,hsame,h3]
 have:k=xs.length:=by omega
 subst this;refine go ?_;refine aa () (hv:=?_) (hp:=trivial);rw[bK,hlen,bK]at hsame;rw[eB hsame];rfl
theorem aeu{va vb:Value}{xs ys:List (List Int)}(hl:xs.length<9223372036854775808)(hll:∀l∈xs,l.length<9223372036854775808):bY Tryz.prog 173 [va,vb] [ah (aj ae) va xs,ah (aj ae) vb ys] (.bool (decide (xs=ys))):=by
 refine aG _ (aM 173) λB w0=>?_;refine aT (E:=aj ae) (v:=va) (xs:=xs) (by simp) λa1 c1 e1=>?_;subst e1;refine aT (E:=aj ae) (v:=vb) (xs:=ys) (by simp) λa2 c2 e2=>?_;subst e2;refine go ?_;refine az rfl (λh1=>?_) (λh1=>?_)
 ·refine go ?_;refine aa () (hv:=?_) (hp:=trivial);rw[aR (λe=>by subst e;omega)];rfl
 have hlen:xs.length=ys.length:=by omega
 refine go ?_;refine aX (λk=>xs.length - k) (λk:Nat=>[(5,.int .i64 (k:Int))]) (λ_=>[]) (λ_=>[]) (λk=>k<=xs.length/\xs.take k=ys.take k) 0 ⟨by omega,by simp⟩ (body:=?_);rintro k ⟨hk,hsame⟩;refine go ?_;refine az rfl (λh2=>?_) (λh2=>?_)
 ·refine go ?_;refine aY (aj ae) (xs:=xs) (next:=λ_ _ x (_:Value) hx=>?_);refine go ?_;refine aY (aj ae) (xs:=ys) (next:=λ_ _ y (_:Value) hy=>?_);refine go ?_;refine ak (Tj (xs:=x) (ys:=y) (hll x (bJ hx))) (next:=λ_ _=>?_);refine go ?_;refine ed rfl (λh3=>?_) (λh3=>?_)
  ·refine go ?_;refine aa () (hv:=?_) (hp:=trivial);rw[aR (λe=>by subst e;rw[hx]at hy;exact h3 (Option.some.inj hy))];rfl
  refine go ?_;refine aO (k+1) (by omega) ⟨by omega,?_⟩;rw[bV hx,bV hy,hsame,h3]
 have:k=xs.length:=by omega
 subst this;refine go ?_;refine aa () (hv:=?_) (hp:=trivial);rw[bK,hlen,bK]at hsame;rw[eB hsame];rfl
theorem aev{x y:bM}{v1 v2 u1 u2:Value}(hl:x.names.length<9223372036854775808)(hll:x.others.length<9223372036854775808):bY Tryz.prog 140 [.agg ⟨kF x v1 v2⟩,.agg ⟨kF y u1 u2⟩] [ah aN v1 x.names,ah aN v2 x.others,ah aN u1 y.names,ah aN u2 y.others] (.bool (decide (x=y))):=by
 obtain⟨n1,o1,k1,f1,tQ,os1,s1,t1,p1,m1,y1,c1⟩:=x;obtain⟨n2,o2,k2,f2,AY,os2,s2,t2,p2,m2,y2,c2⟩:=y;dsimp only[kF]at hl hll⊢;refine aG _ (aM 140) λB w0=>?_;refine go ?_;intro b2 b3;refine go ?_;first|with_reducible refine aL (λh1=>?_) (λh1=>?_)|with_reducible refine aK (λh1=>?_) (λh1=>?_)|with_reducible refine aI (λh1=>?_) (λh1=>?_)
 ·rw[dQ]at h1;have h1:=lY h1;refine go ?_;refine aa () (hv:=?_) (hp:=trivial);rw[aR (λe=>h1 (by cases e;rfl))];rfl
 rw[dQ]at h1;have h1:=iB h1;refine go ?_;first|with_reducible refine aL (λh2=>?_) (λh2=>?_)|with_reducible refine aK (λh2=>?_) (λh2=>?_)|with_reducible refine aI (λh2=>?_) (λh2=>?_)
 ·rw[dQ]at h2;have h2:=lY h2;refine go ?_;refine aa () (hv:=?_) (hp:=trivial);rw[aR (λe=>h2 (by cases e;rfl))];rfl
 rw[dQ]at h2;have h2:=iB h2;refine go ?_;first|with_reducible refine aL (λh3=>?_) (λh3=>?_)|with_reducible refine aK (λh3=>?_) (λh3=>?_)|with_reducible refine aI (λh3=>?_) (λh3=>?_)
 ·refine go ?_;refine aa () (hv:=?_) (hp:=trivial);rw[aR (λe=>h3 (by cases e;rfl))];rfl
 refine go ?_;first|with_reducible refine aL (λh4=>?_) (λh4=>?_)|with_reducible refine aK (λh4=>?_) (λh4=>?_)|with_reducible refine aI (λh4=>?_) (λh4=>?_)
 ·refine go ?_;refine aa () (hv:=?_) (hp:=trivial);rw[aR (λe=>h4 (by cases e;rfl))];rfl
 refine go ?_;refine ak (Tk (xs:=tQ) (ys:=AY) hl) (next:=λ_ _=>?_);refine go ?_;first|with_reducible refine aL (λh5=>?_) (λh5=>?_)|with_reducible refine aK (λh5=>?_) (λh5=>?_)|with_reducible refine aI (λh5=>?_) (λh5=>?_)
 ·refine go ?_;refine aa () (hv:=?_) (hp:=trivial);rw[aR (λe=>h5 (by cases e;rfl))];rfl
 refine go ?_;refine ak (Tk (xs:=os1) (ys:=os2) hll) (next:=λ_ _=>?_);refine go ?_;first|with_reducible refine aL (λh6=>?_) (λh6=>?_)|with_reducible refine aK (λh6=>?_) (λh6=>?_)|with_reducible refine aI (λh6=>?_) (λh6=>?_)
 ·refine go ?_;refine aa () (hv:=?_) (hp:=trivial);rw[aR (λe=>h6 (by cases e;rfl))];rfl
 refine go ?_;first|with_reducible refine aL (λh7=>?_) (λh7=>?_)|with_reducible refine aK (λh7=>?_) (λh7=>?_)|with_reducible refine aI (λh7=>?_) (λh7=>?_)
 ·refine go ?_;refine aa () (hv:=?_) (hp:=trivial);rw[aR (λe=>h7 (by cases e;rfl))];rfl
 refine go ?_;first|with_reducible refine aL (λh8=>?_) (λh8=>?_)|with_reducible refine aK (λh8=>?_) (λh8=>?_)|with_reducible refine aI (λh8=>?_) (λh8=>?_)
 ·refine go ?_;refine aa () (hv:=?_) (hp:=trivial);rw[aR (λe=>h8 (by cases e;rfl))];rfl
 refine go ?_;first|with_reducible refine aL (λh9=>?_) (λh9=>?_)|with_reducible refine aK (λh9=>?_) (λh9=>?_)|with_reducible refine aI (λh9=>?_) (λh9=>?_)
 ·refine go ?_;refine aa () (hv:=?_) (hp:=trivial);rw[aR (λe=>h9 (by cases e;rfl))];rfl
 refine go ?_;first|with_reducible refine aL (λh10=>?_) (λh10=>?_)|with_reducible refine aK (λh10=>?_) (λh10=>?_)|with_reducible refine aI (λh10=>?_) (λh10=>?_)
 ·refine go ?_;refine aa () (hv:=?_) (hp:=trivial);rw[aR (λe=>h10 (by cases e;rfl))];rfl
 refine go ?_;first|with_reducible refine aL (λh11=>?_) (λh11=>?_)|with_reducible refine aK (λh11=>?_) (λh11=>?_)|with_reducible refine aI (λh11=>?_) (λh11=>?_)
 ·rw[dQ]at h11;have h11:=lY h11;refine go ?_;refine aa () (hv:=?_) (hp:=trivial);rw[aR (λe=>h11 (by cases e;rfl))];rfl
 rw[dQ]at h11;have h11:=iB h11;refine go ?_;refine aa () (hv:=?_) (hp:=trivial);subst h1 h2 h3 h4 h5 h6 h7 h8 h9 h10 h11;rw[show decide (bM.mk n1 o1 k1 f1 tQ os1 s1 t1 p1 m1 y1 c1=bM.mk n1 o1 k1 f1 tQ os1 s1 t1 p1 m1 y1 c2)=decide (c1=c2)from mG.2 ⟨λh=>by cases h;rfl,λh=>by rw[h]⟩];rfl
theorem aew{x y:bM}{v1 v2 u1 u2:Value}(hl:x.names.length<9223372036854775808)(hll:x.others.length<9223372036854775808):bY Tryz.prog 174 [.agg ⟨kF x v1 v2⟩,.agg ⟨kF y u1 u2⟩] [ah aN v1 x.names,ah aN v2 x.others,ah aN u1 y.names,ah aN u2 y.others] (.bool (decide (x=y))):=by
 obtain⟨n1,o1,k1,f1,tQ,os1,s1,t1,p1,m1,y1,c1⟩:=x;obtain⟨n2,o2,k2,f2,AY,os2,s2,t2,p2,m2,y2,c2⟩:=y;dsimp only[kF]at hl hll⊢;refine aG _ (aM 174) λB w0=>?_;refine go ?_;intro b2 b3;refine go ?_;first|with_reducible refine aL (λh1=>?_) (λh1=>?_)|with_reducible refine aK (λh1=>?_) (λh1=>?_)|with_reducible refine aI (λh1=>?_) (λh1=>?_)
 ·rw[dQ]at h1;have h1:=lY h1;refine go ?_;refine aa () (hv:=?_) (hp:=trivial);rw[aR (λe=>h1 (by cases e;rfl))];rfl
 rw[dQ]at h1;have h1:=iB h1;refine go ?_;first|with_reducible refine aL (λh2=>?_) (λh2=>?_)|with_reducible refine aK (λh2=>?_) (λh2=>?_)|with_reducible refine aI (λh2=>?_) (λh2=>?_)
 ·rw[dQ]at h2;have h2:=lY h2;refine go ?_;refine aa () (hv:=?_) (hp:=trivial);rw[aR (λe=>h2 (by cases e;rfl))];rfl
 rw[dQ]at h2;have h2:=iB h2;refine go ?_;first|with_reducible refine aL (λh3=>?_) (λh3=>?_)|with_reducible refine aK (λh3=>?_) (λh3=>?_)|with_reducible refine aI (λh3=>?_) (λh3=>?_)
 ·rw[dQ]at h3;have h3:=lY h3;refine go ?_;refine aa () (hv:=?_) (hp:=trivial);rw[aR (λe=>h3 (by cases e;rfl))];rfl
 rw[dQ]at h3;have h3:=iB h3;refine go ?_;refine ak (Tm (xs:=tQ) (ys:=AY) hl) (next:=λ_ _=>?_);refine go ?_;first|with_reducible refine aL (λh4=>?_) (λh4=>?_)|with_reducible refine aK (λh4=>?_) (λh4=>?_)|with_reducible refine aI (λh4=>?_) (λh4=>?_)
 ·refine go ?_;refine aa () (hv:=?_) (hp:=trivial);rw[aR (λe=>h4 (by cases e;rfl))];rfl
 refine go ?_;refine ak (Tm (xs:=os1) (ys:=os2) hll) (next:=λ_ _=>?_);refine go ?_;first|with_reducible refine aL (λh5=>?_) (λh5=>?_)|with_reducible refine aK (λh5=>?_) (λh5=>?_)|with_reducible refine aI (λh5=>?_) (λh5=>?_)
 ·refine go ?_;refine aa () (hv:=?_) (hp:=trivial);rw[aR (λe=>h5 (by cases e;rfl))];rfl
 refine go ?_;first|with_reducible refine aL (λh6=>?_) (λh6=>?_)|with_reducible refine aK (λh6=>?_) (λh6=>?_)|with_reducible refine aI (λh6=>?_) (λh6=>?_)
 ·refine go ?_;refine aa () (hv:=?_) (hp:=trivial);rw[aR (λe=>h6 (by cases e;rfl))];rfl
 refine go ?_;first|with_reducible refine aL (λh7=>?_) (λh7=>?_)|with_reducible refine aK (λh7=>?_) (λh7=>?_)|with_reducible refine aI (λh7=>?_) (λh7=>?_)
 ·refine go ?_;refine aa () (hv:=?_) (hp:=trivial);rw[aR (λe=>h7 (by cases e;rfl))];rfl
 refine go ?_;first|with_reducible refine aL (λh8=>?_) (λh8=>?_)|with_reducible refine aK (λh8=>?_) (λh8=>?_)|with_reducible refine aI (λh8=>?_) (λh8=>?_)
 ·refine go ?_;refine aa () (hv:=?_) (hp:=trivial);rw[aR (λe=>h8 (by cases e;rfl))];rfl
 refine go ?_;first|with_reducible refine aL (λh9=>?_) (λh9=>?_)|with_reducible refine aK (λh9=>?_) (λh9=>?_)|with_reducible refine aI (λh9=>?_) (λh9=>?_)
 ·refine go ?_;refine aa () (hv:=?_) (hp:=trivial);rw[aR (λe=>h9 (by cases e;rfl))];rfl
 refine go ?_;first|with_reducible refine aL (λh10=>?_) (λh10=>?_)|with_reducible refine aK (λh10=>?_) (λh10=>?_)|with_reducible refine aI (λh10=>?_) (λh10=>?_)
 ·refine go ?_;refine aa () (hv:=?_) (hp:=trivial);rw[aR (λe=>h10 (by cases e;rfl))];rfl
 refine go ?_;first|with_reducible refine aL (λh11=>?_) (λh11=>?_)|with_reducible refine aK (λh11=>?_) (λh11=>?_)|with_reducible refine aI (λh11=>?_) (λh11=>?_)
 ·refine go ?_;refine aa () (hv:=?_) (hp:=trivial);rw[aR (λe=>h11 (by cases e;rfl))];rfl
 refine go ?_;refine aa () (hv:=?_) (hp:=trivial);subst h1 h2 h3 h4 h5 h6 h7 h8 h9 h10 h11;rw[show decide (bM.mk n1 o1 k1 f1 tQ os1 s1 t1 p1 m1 y1 c1=bM.mk n1 o1 k1 f1 tQ os1 s1 t1 p1 m1 y1 c2)=decide (c1=c2)from mG.2 ⟨λh=>by cases h;rfl,λh=>by rw[h]⟩];rfl
theorem aex{x y:bz}{h1 c1 h2 c2:Value}(hS:oV x):bY Tryz.prog 97 [.agg ⟨iw x h1 c1⟩,.agg ⟨iw y h2 c2⟩] [ah ae h1 x.holes,ah ae c1 x.cells,ah ae h2 y.holes,ah ae c2 y.cells] (.bool (decide (x=y))):=by
 have e2:=hS.holes;have e3:=hS.cells;clear hS;obtain⟨xs,xw,xh,zh,zi⟩:=x;obtain⟨ys,yw,yh,LH,Eo⟩:=y;dsimp only[iw]at e2 e3⊢;refine aG _ (aM 97) λB w0=>?_;refine go ?_;intro b2 b3;refine go ?_;first|with_reducible refine aL (λk1=>?_) (λk1=>?_)|with_reducible refine aK (λk1=>?_) (λk1=>?_)|with_reducible refine aI (λk1=>?_) (λk1=>?_)
 ·refine go ?_;refine aa () (hv:=?_) (hp:=trivial);rw[aR (λe=>k1 (by cases e;rfl))];rfl
 refine go ?_;first|with_reducible refine aL (λk2=>?_) (λk2=>?_)|with_reducible refine aK (λk2=>?_) (λk2=>?_)|with_reducible refine aI (λk2=>?_) (λk2=>?_)
 ·refine go ?_;refine aa () (hv:=?_) (hp:=trivial);rw[aR (λe=>k2 (by cases e;rfl))];rfl
 refine go ?_;first|with_reducible refine aL (λk3=>?_) (λk3=>?_)|with_reducible refine aK (λk3=>?_) (λk3=>?_)|with_reducible refine aI (λk3=>?_) (λk3=>?_)
 ·refine go ?_;refine aa () (hv:=?_) (hp:=trivial);rw[aR (λe=>k3 (by cases e;rfl))];rfl
 refine go ?_;refine ak (Bc (xs:=zh) (ys:=LH) (by omega)) (next:=λ_ _=>?_);refine go ?_;first|with_reducible refine aL (λk4=>?_) (λk4=>?_)|with_reducible refine aK (λk4=>?_) (λk4=>?_)|with_reducible refine aI (λk4=>?_) (λk4=>?_)
 ·refine go ?_;refine aa () (hv:=?_) (hp:=trivial);rw[aR (λe=>k4 (by cases e;rfl))];rfl
 refine go ?_;refine ak (Bc (xs:=zi) (ys:=Eo) (by omega)) (next:=λ_ _=>?_);refine go ?_;refine aa () (hv:=?_) (hp:=trivial);subst k1 k2 k3 k4;rw[show decide (bz.mk xs xw xh zh zi=bz.mk xs xw xh zh Eo)=decide (zi=Eo)from mG.2 ⟨λh=>by cases h;rfl,λh=>by rw[h]⟩];rfl
theorem aey{x y:lc}{vx vy:Value}(hl:x.lists.length<9223372036854775808)(hll:∀l∈x.lists,l.length<9223372036854775808):bY Tryz.prog 139 [.agg ⟨[.string x.name,vx]⟩,.agg ⟨[.string y.name,vy]⟩] [ah (aj ae) vx x.lists,ah (aj ae) vy y.lists] (.bool (decide (x=y))):=by
 obtain⟨n1,xs⟩:=x;obtain⟨n2,ys⟩:=y;dsimp only at hl hll⊢;refine aG _ (aM 139) λB w0=>?_;refine aT (E:=aj ae) (v:=vx) (xs:=xs) (by simp) λa1 c1 e1=>?_;subst e1;refine aT (E:=aj ae) (v:=vy) (xs:=ys) (by simp) λa2 c2 e2=>?_;subst e2;refine go ?_;intro b2 b3;refine go ?_;refine aI (λk1=>?_) (λk1=>?_)
 rotate_left
 ·rw[dQ]at k1;have k1:¬n1=n2:=by simpa using k1
  refine go ?_;refine aa () (hv:=?_) (hp:=trivial);rw[aR (λe=>k1 (by cases e;rfl))];rfl
 rw[dQ]at k1;have k1:n1=n2:=by simpa using k1
 subst k1;have hdd:decide (lc.mk n1 xs=lc.mk n1 ys)=decide (xs=ys):=mG.2 ⟨λh=>by cases h;rfl,λh=>by rw[h]⟩;rw[hdd];refine go ?_;refine az rfl (λh1=>?_) (λh1=>?_)
 ·refine go ?_;refine aa () (hv:=?_) (hp:=trivial);rw[aR (λe=>by subst e;omega)];rfl
 have hlen:xs.length=ys.length:=by omega
 refine go ?_;refine aX (λk=>xs.length - k) (λk:Nat=>[(5,.int .i64 (k:Int))]) (λ_=>[]) (λ_=>[]) (λk=>k<=xs.length/\xs.take k=ys.take k) 0 ⟨by omega,by simp⟩ (body:=?_);rintro k ⟨hk,hsame⟩;refine go ?_;refine az rfl (λh2=>?_) (λh2=>?_)
 ·refine go ?_;refine aY (aj ae) (xs:=xs) (next:=λ_ _ x (_:Value) hx=>?_);refine go ?_;refine aY (aj ae) (xs:=ys) (next:=λ_ _ y (_:Value) hy=>?_);refine go ?_;refine ak (Ti (xs:=x) (ys:=y) (hll x (bJ hx))) (next:=λ_ _=>?_);refine go ?_;refine ed rfl (λh3=>?_) (λh3=>?_)
  ·refine go ?_;refine aa () (hv:=?_) (hp:=trivial);rw[aR (λe=>by subst e;rw[hx]at hy;exact h3 (Option.some.inj hy))];rfl
  refine go ?_;refine aO (k+1) (by omega) ⟨by omega,?_⟩;rw[bV hx,bV hy,hsame,h3]
 have:k=xs.length:=by omega
 subst this;refine go ?_;refine aa () (hv:=?_) (hp:=trivial);rw[bK,hlen,bK]at hsame;rw[eB hsame];rfl
theorem aez{x y:bq}{h1 s1 r1 c1 u1 h2 s2 r2 c2 u2:Value}(hS:lC x):bY Tryz.prog 96 [.agg ⟨fO x h1 s1 r1 c1 u1⟩,.agg ⟨fO y h2 s2 r2 c2 u2⟩] (j6 x h1 s1 r1 c1 u1++j6 y h2 s2 r2 c2 u2) (.bool (decide (x=y))):=by
 have e1:=hS.dU;have e2:=hS.regs;have e3:=hS.ja;have e4:=hS.ko;have e5:=hS.qc;have e6:=hS.holes;have e7:=hS.qd;clear hS;obtain⟨fs1,hu1,Mg⟩:=KY;obtain⟨fs2,hu2,hrow2⟩:=KZ;obtain⟨n1,v1,p1,w1,g1,ho1,lD,kP,lF,kQ⟩:=x;obtain⟨n2,v2,p2,w2,g2,ho2,oQ,nV,oU,nW⟩:=y;dsimp only at e1 e2 e3 e4 e5 e6 e7;dsimp only[fO,j6,List.cons_append,List.nil_append];refine aG _ (aM 96) λB w0=>?_;refine aT (E:=fu) (v:=s1) (xs:=lD) (by simp) λnY cs1 es=>?_;subst es;refine aT (E:=fu) (v:=s2) (xs:=oQ) (by simp) λas2 cs2 es=>?_;subst es;refine aT (E:=dW) (v:=r1) (xs:=kP) (by simp) λar1 cr1 es=>?_;subst es;refine aT (E:=dW) (v:=r2) (xs:=nV) (by simp) λar2 cr2 es=>?_;subst es;refine aT (E:=bC) (v:=c1) (xs:=lF) (by simp) λac1 cc1 es=>?_;subst es;refine aT (E:=bC) (v:=c2) (xs:=oU) (by simp) λac2 cc2 es=>?_;subst es;refine aT (E:=aW) (v:=u1) (xs:=kQ) (by simp) λau1 cu1 es=>?_;subst es;refine aT (E:=aW) (v:=u2) (xs:=nW) (by simp) λau2 cu2 es=>?_;subst es;refine go ?_;intro b2 b3;refine go ?_;refine aI (λk1=>?_) (λk1=>?_)
 rotate_left
 ·rw[dQ]at k1;have k1:¬n1=n2:=by simpa using k1
  refine go ?_;refine aa () (hv:=?_) (hp:=trivial);rw[aR (λe=>k1 (by cases e;rfl))];rfl
 rw[dQ]at k1;have k1:n1=n2:=by simpa using k1
 refine go ?_;first|with_reducible refine aL (λk2=>?_) (λk2=>?_)|with_reducible refine aK (λk2=>?_) (λk2=>?_)|with_reducible refine aI (λk2=>?_) (λk2=>?_)
 rotate_left
 ·refine go ?_;refine aa () (hv:=?_) (hp:=trivial);rw[aR (λe=>k2 (by cases e;rfl))];rfl
 refine go ?_;first|with_reducible refine aL (λk3=>?_) (λk3=>?_)|with_reducible refine aK (λk3=>?_) (λk3=>?_)|with_reducible refine aI (λk3=>?_) (λk3=>?_)
 rotate_left
 ·refine go ?_;refine aa () (hv:=?_) (hp:=trivial);rw[aR (λe=>k3 (by cases e;rfl))];rfl
 refine go ?_;first|with_reducible refine aL (λk4=>?_) (λk4=>?_)|with_reducible refine aK (λk4=>?_) (λk4=>?_)|with_reducible refine aI (λk4=>?_) (λk4=>?_)
 rotate_left
 ·refine go ?_;refine aa () (hv:=?_) (hp:=trivial);rw[aR (λe=>k4 (by cases e;rfl))];rfl
 refine go ?_;first|with_reducible refine aL (λk5=>?_) (λk5=>?_)|with_reducible refine aK (λk5=>?_) (λk5=>?_)|with_reducible refine aI (λk5=>?_) (λk5=>?_)
 rotate_left
 ·refine go ?_;refine aa () (hv:=?_) (hp:=trivial);rw[aR (λe=>k5 (by cases e;rfl))];rfl
 refine go ?_;refine ak (Ti (xs:=ho1) (ys:=ho2) e6) (next:=λ_ _=>?_);refine go ?_;refine aK (λk6=>?_) (λk6=>?_)
 rotate_left
 ·refine go ?_;refine aa () (hv:=?_) (hp:=trivial);rw[aR (λe=>k6 (by cases e;rfl))];rfl
 refine go ?_;first|with_reducible refine aL (λk7=>?_) (λk7=>?_)|with_reducible refine aK (λk7=>?_) (λk7=>?_)|with_reducible refine aI (λk7=>?_) (λk7=>?_)
 rotate_left
 ·refine go ?_;refine aa () (hv:=?_) (hp:=trivial);rw[aR (λe=>k7 (by cases e;rfl))];rfl
 refine go ?_;first|with_reducible refine aL (λk8=>?_) (λk8=>?_)|with_reducible refine aK (λk8=>?_) (λk8=>?_)|with_reducible refine aI (λk8=>?_) (λk8=>?_)
 rotate_left
 ·refine go ?_;refine aa () (hv:=?_) (hp:=trivial);rw[aR (λe=>k8 (by cases e;rfl))];rfl
 refine go ?_;first|with_reducible refine aL (λk9=>?_) (λk9=>?_)|with_reducible refine aK (λk9=>?_) (λk9=>?_)|with_reducible refine aI (λk9=>?_) (λk9=>?_)
 rotate_left
 ·refine go ?_;refine aa () (hv:=?_) (hp:=trivial);rw[aR (λe=>k9 (by cases e;rfl))];rfl
 refine go ?_;refine az rfl (λk10=>?_) (λk10=>?_)
 ·refine go ?_;refine aa () (hv:=?_) (hp:=trivial);rw[aR (λe=>k10 (by cases e;rfl))];rfl
 have l1:lD.length=oQ.length:=by omega
 have l2:kP.length=nV.length:=by omega
 have l3:lF.length=oU.length:=by omega
 have l4:kQ.length=nW.length:=by omega
 refine go ?_;refine aX (λk=>lD.length - k) (λk:Nat=>[(5,.int .i64 (k:Int))]) (λ_=>[]) (λ_=>[]) (λk=>k<=lD.length/\lD.take k=oQ.take k) 0 ⟨by omega,by simp⟩ (body:=?_);rintro k ⟨hk,hsame⟩;refine go ?_;refine az rfl (λh2=>?_) (λh2=>?_)
 ·refine go ?_;refine aY fu (xs:=lD) (next:=λ_ _ x (_:Unit) hx=>?_);refine go ?_;refine aY fu (xs:=oQ) (next:=λ_ _ y (_:Unit) hy=>?_);refine go ?_;refine(fq (v:=.bool (!decide (x=y))) rfl rfl (by rw[<- KW];exact Ay rfl rfl hu1 (by kernel_rfl) (by kernel_rfl) (row_of Mg rfl rfl (λj=>by rw[eH]) (λj=>by rw[eH])) (by simp[fw,bH,Ideal.cellV]) (by simp[fw,bH,Ideal.cellV]))).h ?_;refine go ?_;refine ed rfl (λh3=>?_) (λh3=>?_)
  ·refine go ?_;refine aa () (hv:=?_) (hp:=trivial);rw[aR (λe=>by cases e;rw[hx]at hy;exact h3 (Option.some.inj hy))];rfl
  refine go ?_;refine aO (k+1) (by omega) ⟨by omega,?_⟩;rw[bV hx,bV hy,hsame,h3]
 have hkl:k=lD.length:=by omega
 subst hkl;rw[bK,l1,bK]at hsame;have m1:=hsame;clear hsame hk h2;refine go ?_;refine aX (λk=>kP.length - k) (λk:Nat=>[(6,.int .i64 (k:Int))]) (λ_=>[]) (λ_=>[]) (λk=>k<=kP.length/\kP.take k=nV.take k) 0 ⟨by omega,by simp⟩ (body:=?_);rintro k ⟨hk,hsame⟩;refine go ?_;refine az rfl (λh2=>?_) (λh2=>?_)
 ·refine go ?_;refine aY dW (xs:=kP) (next:=λ_ _ x (vx:Value) hx=>?_);have hxl:=e7 x (bJ hx);refine go ?_;refine aY dW (xs:=nV) (next:=λ_ _ y (vy:Value) hy=>?_);refine go ?_;refine ak (aey (x:=x) (y:=y) (vx:=vx) (vy:=vy) hxl.1 hxl.2) (next:=λ_ _=>?_);refine go ?_;refine ed rfl (λh3=>?_) (λh3=>?_)
  ·refine go ?_;refine aa () (hv:=?_) (hp:=trivial);rw[aR (λe=>by cases e;rw[hx]at hy;exact h3 (Option.some.inj hy))];rfl
  refine go ?_;refine aO (k+1) (by omega) ⟨by omega,?_⟩;rw[bV hx,bV hy,hsame,h3]
 have hkl:k=kP.length:=by omega
 subst hkl;rw[bK,l2,bK]at hsame;have m2:=hsame;clear hsame hk h2;refine go ?_;refine aX (λk=>lF.length - k) (λk:Nat=>[(7,.int .i64 (k:Int))]) (λ_=>[]) (λ_=>[]) (λk=>k<=lF.length/\lF.take k=oU.take k) 0 ⟨by omega,by simp⟩ (body:=?_);rintro k ⟨hk,hsame⟩;refine go ?_;refine az rfl (λh2=>?_) (λh2=>?_)
 ·refine go ?_;refine aY bC (xs:=lF) (next:=λ_ _ x (_:Unit) hx=>?_);refine go ?_;refine aY bC (xs:=oU) (next:=λ_ _ y (_:Unit) hy=>?_);refine go ?_;refine(fq (v:=.bool (!decide (x=y))) rfl rfl (by rw[<- KX];exact Ay rfl rfl hu2 (by kernel_rfl) (by kernel_rfl) (row_of hrow2 rfl rfl (λj=>by rw[eH]) (λj=>by rw[eH])) (by simp[fw,bH,Ideal.cellV]) (by simp[fw,bH,Ideal.cellV]))).h ?_;refine go ?_;refine ed rfl (λh3=>?_) (λh3=>?_)
  ·refine go ?_;refine aa () (hv:=?_) (hp:=trivial);rw[aR (λe=>by cases e;rw[hx]at hy;exact h3 (Option.some.inj hy))];rfl
  refine go ?_;refine aO (k+1) (by omega) ⟨by omega,?_⟩;rw[bV hx,bV hy,hsame,h3]
 have hkl:k=lF.length:=by omega
 subst hkl;rw[bK,l3,bK]at hsame;have m3:=hsame;clear hsame hk h2;refine go ?_;refine aX (λk=>kQ.length - k) (λk:Nat=>[(8,.int .i64 (k:Int))]) (λ_=>[]) (λ_=>[]) (λk=>k<=kQ.length/\kQ.take k=nW.take k) 0 ⟨by omega,by simp⟩ (body:=?_);rintro k ⟨hk,hsame⟩;refine go ?_;refine az rfl (λh2=>?_) (λh2=>?_)
 ·refine go ?_;refine aY aW (xs:=kQ) (next:=λ_ _ x (vx:Value×Value) hx=>?_);have hxl:=e5 x (bJ hx);refine go ?_;refine aY aW (xs:=nW) (next:=λ_ _ y (vy:Value×Value) hy=>?_);refine go ?_;refine ak (aev (x:=x) (y:=y) (v1:=vx.1) (v2:=vx.2) (u1:=vy.1) (u2:=vy.2) hxl.1 hxl.2) (next:=λ_ _=>?_);refine go ?_;refine ed rfl (λh3=>?_) (λh3=>?_)
  ·refine go ?_;refine aa () (hv:=?_) (hp:=trivial);rw[aR (λe=>by cases e;rw[hx]at hy;exact h3 (Option.some.inj hy))];rfl
  refine go ?_;refine aO (k+1) (by omega) ⟨by omega,?_⟩;rw[bV hx,bV hy,hsame,h3]
 have hkl:k=kQ.length:=by omega
 subst hkl;rw[bK,l4,bK]at hsame;have m4:=hsame;clear hsame hk h2;refine go ?_;refine aa () (hv:=?_) (hp:=trivial);rw[eB (show bq.mk n1 v1 p1 w1 g1 ho1 lD kP lF kQ=bq.mk n2 v2 p2 w2 g2 ho2 oQ nV oU nW from by rw[k1,iF.1 k2,iF.1 k3,iF.1 k4,iF.1 k5,k6,m1,m2,m3,m4])];rfl
theorem aeP{x y:bq}{h1 s1 r1 c1 u1 h2 s2 r2 c2 u2:Value}(hS:lC x):bY Tryz.prog 127 [.agg ⟨fO x h1 s1 r1 c1 u1⟩,.agg ⟨fO y h2 s2 r2 c2 u2⟩] (j6 x h1 s1 r1 c1 u1++j6 y h2 s2 r2 c2 u2) (.bool (decide (x=y))):=by
 have e1:=hS.dU;have e2:=hS.regs;have e3:=hS.ja;have e4:=hS.ko;have e5:=hS.qc;have e6:=hS.holes;have e7:=hS.qd;clear hS;obtain⟨fs1,hu1,Mg⟩:=KY;obtain⟨fs2,hu2,hrow2⟩:=KZ;obtain⟨n1,v1,p1,w1,g1,ho1,lD,kP,lF,kQ⟩:=x;obtain⟨n2,v2,p2,w2,g2,ho2,oQ,nV,oU,nW⟩:=y;dsimp only at e1 e2 e3 e4 e5 e6 e7;dsimp only[fO,j6,List.cons_append,List.nil_append];refine aG _ (aM 127) λB w0=>?_;refine aT (E:=fu) (v:=s1) (xs:=lD) (by simp) λnY cs1 es=>?_;subst es;refine aT (E:=fu) (v:=s2) (xs:=oQ) (by simp) λas2 cs2 es=>?_;subst es;refine aT (E:=dW) (v:=r1) (xs:=kP) (by simp) λar1 cr1 es=>?_;subst es;refine aT (E:=dW) (v:=r2) (xs:=nV) (by simp) λar2 cr2 es=>?_;subst es;refine aT (E:=bC) (v:=c1) (xs:=lF) (by simp) λac1 cc1 es=>?_;subst es;refine aT (E:=bC) (v:=c2) (xs:=oU) (by simp) λac2 cc2 es=>?_;subst es;refine aT (E:=aW) (v:=u1) (xs:=kQ) (by simp) λau1 cu1 es=>?_;subst es;refine aT (E:=aW) (v:=u2) (xs:=nW) (by simp) λau2 cu2 es=>?_;subst es;refine go ?_;intro b2 b3;refine go ?_;refine aI (λk1=>?_) (λk1=>?_)
 rotate_left
 ·rw[dQ]at k1;have k1:¬n1=n2:=by simpa using k1
  refine go ?_;refine aa () (hv:=?_) (hp:=trivial);rw[aR (λe=>k1 (by cases e;rfl))];rfl
 rw[dQ]at k1;have k1:n1=n2:=by simpa using k1
 refine go ?_;first|with_reducible refine aL (λk2=>?_) (λk2=>?_)|with_reducible refine aK (λk2=>?_) (λk2=>?_)|with_reducible refine aI (λk2=>?_) (λk2=>?_)
 rotate_left
 ·refine go ?_;refine aa () (hv:=?_) (hp:=trivial);rw[aR (λe=>k2 (by cases e;rfl))];rfl
 refine go ?_;first|with_reducible refine aL (λk3=>?_) (λk3=>?_)|with_reducible refine aK (λk3=>?_) (λk3=>?_)|with_reducible refine aI (λk3=>?_) (λk3=>?_)
 rotate_left
 ·refine go ?_;refine aa () (hv:=?_) (hp:=trivial);rw[aR (λe=>k3 (by cases e;rfl))];rfl
 refine go ?_;first|with_reducible refine aL (λk4=>?_) (λk4=>?_)|with_reducible refine aK (λk4=>?_) (λk4=>?_)|with_reducible refine aI (λk4=>?_) (λk4=>?_)
 rotate_left
 ·refine go ?_;refine aa () (hv:=?_) (hp:=trivial);rw[aR (λe=>k4 (by cases e;rfl))];rfl
 refine go ?_;first|with_reducible refine aL (λk5=>?_) (λk5=>?_)|with_reducible refine aK (λk5=>?_) (λk5=>?_)|with_reducible refine aI (λk5=>?_) (λk5=>?_)
 rotate_left
 ·refine go ?_;refine aa () (hv:=?_) (hp:=trivial);rw[aR (λe=>k5 (by cases e;rfl))];rfl
 refine go ?_;refine ak (Tj (xs:=ho1) (ys:=ho2) e6) (next:=λ_ _=>?_);refine go ?_;refine ed rfl (λk6=>?_) (λk6=>?_)
 ·refine go ?_;refine aa () (hv:=?_) (hp:=trivial);rw[aR (λe=>k6 (by cases e;rfl))];rfl
 refine go ?_;first|with_reducible refine aL (λk7=>?_) (λk7=>?_)|with_reducible refine aK (λk7=>?_) (λk7=>?_)|with_reducible refine aI (λk7=>?_) (λk7=>?_)
 rotate_left
 ·refine go ?_;refine aa () (hv:=?_) (hp:=trivial);rw[aR (λe=>k7 (by cases e;rfl))];rfl
 refine go ?_;first|with_reducible refine aL (λk8=>?_) (λk8=>?_)|with_reducible refine aK (λk8=>?_) (λk8=>?_)|with_reducible refine aI (λk8=>?_) (λk8=>?_)
 rotate_left
 ·refine go ?_;refine aa () (hv:=?_) (hp:=trivial);rw[aR (λe=>k8 (by cases e;rfl))];rfl
 refine go ?_;first|with_reducible refine aL (λk9=>?_) (λk9=>?_)|with_reducible refine aK (λk9=>?_) (λk9=>?_)|with_reducible refine aI (λk9=>?_) (λk9=>?_)
 rotate_left
 ·refine go ?_;refine aa () (hv:=?_) (hp:=trivial);rw[aR (λe=>k9 (by cases e;rfl))];rfl
 refine go ?_;refine az rfl (λk10=>?_) (λk10=>?_)
 ·refine go ?_;refine aa () (hv:=?_) (hp:=trivial);rw[aR (λe=>k10 (by cases e;rfl))];rfl
 have l1:lD.length=oQ.length:=by omega
 have l2:kP.length=nV.length:=by omega
 have l3:lF.length=oU.length:=by omega
 have l4:kQ.length=nW.length:=by omega
 refine go ?_;refine aX (λk=>lD.length - k) (λk:Nat=>[(5,.int .i64 (k:Int))]) (λ_=>[]) (λ_=>[]) (λk=>k<=lD.length/\lD.take k=oQ.take k) 0 ⟨by omega,by simp⟩ (body:=?_);rintro k ⟨hk,hsame⟩;refine go ?_;refine az rfl (λh2=>?_) (λh2=>?_)
 ·refine go ?_;refine aY fu (xs:=lD) (next:=λ_ _ x (_:Unit) hx=>?_);refine go ?_;refine aY fu (xs:=oQ) (next:=λ_ _ y (_:Unit) hy=>?_);refine go ?_;refine(fq (v:=.bool (!decide (x=y))) rfl rfl (by rw[<- KW];exact Ay rfl rfl hu1 (by kernel_rfl) (by kernel_rfl) (row_of Mg rfl rfl (λj=>by rw[eH]) (λj=>by rw[eH])) (by simp[fw,bH,Ideal.cellV]) (by simp[fw,bH,Ideal.cellV]))).h ?_;refine go ?_;refine ed rfl (λh3=>?_) (λh3=>?_)
  ·refine go ?_;refine aa () (hv:=?_) (hp:=trivial);rw[aR (λe=>by cases e;rw[hx]at hy;exact h3 (Option.some.inj hy))];rfl
  refine go ?_;refine aO (k+1) (by omega) ⟨by omega,?_⟩;rw[bV hx,bV hy,hsame,h3]
 have hkl:k=lD.length:=by omega
 subst hkl;rw[bK,l1,bK]at hsame;have m1:=hsame;clear hsame hk h2;refine go ?_;refine aX (λk=>kP.length - k) (λk:Nat=>[(6,.int .i64 (k:Int))]) (λ_=>[]) (λ_=>[]) (λk=>k<=kP.length/\kP.take k=nV.take k) 0 ⟨by omega,by simp⟩ (body:=?_);rintro k ⟨hk,hsame⟩;refine go ?_;refine az rfl (λh2=>?_) (λh2=>?_)
 ·refine go ?_;refine aY dW (xs:=kP) (next:=λ_ _ x (vx:Value) hx=>?_);have hxl:=e7 x (bJ hx);refine go ?_;refine aY dW (xs:=nV) (next:=λ_ _ y (vy:Value) hy=>?_);refine go ?_;refine aI (λj1=>?_) (λj1=>?_)
  rotate_left
  ·rw[dQ]at j1;have j1:¬x.name=y.name:=by simpa using j1
   have h3:¬x=y:=λe=>j1 (by rw[e]);refine go ?_;refine aa () (hv:=?_) (hp:=trivial);rw[aR (λe=>by cases e;rw[hx]at hy;exact h3 (Option.some.inj hy))];rfl
  rw[dQ]at j1;have j1:x.name=y.name:=by simpa using j1
  refine go ?_;refine aY dW (xs:=kP) (next:=λ_ _ x' (vx:Value) hx'=>?_);cases hx.symm.trans hx';refine go ?_;refine aY dW (xs:=nV) (next:=λ_ _ y' (vy:Value) hy'=>?_);cases hy.symm.trans hy';refine go ?_;refine ak (aeu (xs:=x.lists) (ys:=y.lists) hxl.1 hxl.2) (next:=λ_ _=>?_);refine go ?_;refine ed rfl (λh3=>?_) (λh3=>?_)
  ·have h3:¬x=y:=λe=>h3 (by rw[e]);refine go ?_;refine aa () (hv:=?_) (hp:=trivial);rw[aR (λe=>by cases e;rw[hx]at hy;exact h3 (Option.some.inj hy))];rfl
  have h3:x=y:=by
   obtain⟨a,b⟩:=x;obtain⟨c,d⟩:=y;dsimp only at j1 h3;rw[j1,h3]
  refine go ?_;refine aO (k+1) (by omega) ⟨by omega,?_⟩;rw[bV hx,bV hy,hsame,h3]
 have hkl:k=kP.length:=by omega
 subst hkl;rw[bK,l2,bK]at hsame;have m2:=hsame;clear hsame hk h2;refine go ?_;refine aX (λk=>lF.length - k) (λk:Nat=>[(7,.int .i64 (k:Int))]) (λ_=>[]) (λ_=>[]) (λk=>k<=lF.length/\lF.take k=oU.take k) 0 ⟨by omega,by simp⟩ (body:=?_);rintro k ⟨hk,hsame⟩;refine go ?_;refine az rfl (λh2=>?_) (λh2=>?_)
 ·refine go ?_;refine aY bC (xs:=lF) (next:=λ_ _ x (_:Unit) hx=>?_);refine go ?_;refine aY bC (xs:=oU) (next:=λ_ _ y (_:Unit) hy=>?_);refine go ?_;refine(fq (v:=.bool (!decide (x=y))) rfl rfl (by rw[<- KX];exact Ay rfl rfl hu2 (by kernel_rfl) (by kernel_rfl) (row_of hrow2 rfl rfl (λj=>by rw[eH]) (λj=>by rw[eH])) (by simp[fw,bH,Ideal.cellV]) (by simp[fw,bH,Ideal.cellV]))).h ?_;refine go ?_;refine ed rfl (λh3=>?_) (λh3=>?_)
  ·refine go ?_;refine aa () (hv:=?_) (hp:=trivial);rw[aR (λe=>by cases e;rw[hx]at hy;exact h3 (Option.some.inj hy))];rfl
  refine go ?_;refine aO (k+1) (by omega) ⟨by omega,?_⟩;rw[bV hx,bV hy,hsame,h3]
 have hkl:k=lF.length:=by omega
 subst hkl;rw[bK,l3,bK]at hsame;have m3:=hsame;clear hsame hk h2;refine go ?_;refine aX (λk=>kQ.length - k) (λk:Nat=>[(8,.int .i64 (k:Int))]) (λ_=>[]) (λ_=>[]) (λk=>k<=kQ.length/\kQ.take k=nW.take k) 0 ⟨by omega,by simp⟩ (body:=?_);rintro k ⟨hk,hsame⟩;refine go ?_;refine az rfl (λh2=>?_) (λh2=>?_)
 ·refine go ?_;refine aY aW (xs:=kQ) (next:=λ_ _ x (vx:Value×Value) hx=>?_);have hxl:=e5 x (bJ hx);refine go ?_;refine aY aW (xs:=nW) (next:=λ_ _ y (vy:Value×Value) hy=>?_);refine go ?_;refine ak (aew (x:=x) (y:=y) (v1:=vx.1) (v2:=vx.2) (u1:=vy.1) (u2:=vy.2) hxl.1 hxl.2) (next:=λ_ _=>?_);refine go ?_;refine ed rfl (λh3=>?_) (λh3=>?_)
  ·refine go ?_;refine aa () (hv:=?_) (hp:=trivial);rw[aR (λe=>by cases e;rw[hx]at hy;exact h3 (Option.some.inj hy))];rfl
  refine go ?_;refine aO (k+1) (by omega) ⟨by omega,?_⟩;rw[bV hx,bV hy,hsame,h3]
 have hkl:k=kQ.length:=by omega
 subst hkl;rw[bK,l4,bK]at hsame;have m4:=hsame;clear hsame hk h2;refine go ?_;refine aa () (hv:=?_) (hp:=trivial);rw[eB (show bq.mk n1 v1 p1 w1 g1 ho1 lD kP lF kQ=bq.mk n2 v2 p2 w2 g2 ho2 oQ nV oU nW from by rw[k1,iF.1 k2,iF.1 k3,iF.1 k4,iF.1 k5,k6,m1,m2,m3,m4])];rfl
