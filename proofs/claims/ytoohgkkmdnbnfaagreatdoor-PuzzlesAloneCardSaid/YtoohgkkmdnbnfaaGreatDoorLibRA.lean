/-
  The reference's comparisons: lists, rules, regions, declarations, grids.
-/
import Derived.Test.YtoohgkkmdnbnfaaGreatDoorLibOA
set_option linter.all false
set_option maxRecDepth 10000
set_option maxHeartbeats 4000000
namespace Go.Proofs.YtoohgkkmdnbnfaaGreatDoor
open Go.Ideal Kd
theorem Vs{va vb:Value}{xs ys:List Int}(hl:xs.length<9223372036854775808):dz Tryz.prog 138 [va,vb] [ah aa va xs,ah aa vb ys] (.bool (decide (xs=ys))):=by
 refine aK _ (aP 138) λB w0=>?_;refine aS (E:=aa) (v:=va) (xs:=xs) (by simp) λa1 c1 e1=>?_;subst e1;refine aS (E:=aa) (v:=vb) (xs:=ys) (by simp) λa2 c2 e2=>?_;subst e2;refine go ?_;refine aA rfl (λh1=>?_) (λh1=>?_)
 ·refine go ?_;refine ae () (hv:=?_) (hp:=trivial);rw[aT (λe=>by subst e;omega)];rfl
 have hlen:xs.length=ys.length:=by omega
 refine go ?_;refine aZ (λk=>xs.length - k) (λk:Nat=>[(5,.int .i64 (k:Int))]) (λ_=>[]) (λ_=>[]) (λk=>k<=xs.length/\xs.take k=ys.take k) 0 ⟨by omega,by simp⟩ (body:=?_);rintro k ⟨hk,hsame⟩;refine go ?_;refine aA rfl (λh2=>?_) (λh2=>?_)
 ·refine go ?_;intro _ _ x hx _ _ y hy;refine go ?_;refine aA rfl (λh3=>?_) (λh3=>?_)
  rotate_left
  ·have h3:x=y:=iO.1 h3;refine go ?_;refine aQ (k+1) (by omega) ⟨by omega,?_⟩;rw[bY hx,bY hy,hsame,h3]
  ·refine go ?_;refine ae () (hv:=?_) (hp:=trivial);rw[aT (λe=>by subst e;rw[hx]at hy;exact h3 (Option.some.inj hy))];rfl
 have:k=xs.length:=by omega
 subst this;refine go ?_;refine ae () (hv:=?_) (hp:=trivial);rw[bK,hlen,bK]at hsame;rw[dZ hsame];rfl
theorem Vt{va vb:Value}{xs ys:List Int}(hl:xs.length<9223372036854775808):dz Tryz.prog 172 [va,vb] [ah aa va xs,ah aa vb ys] (.bool (decide (xs=ys))):=by
 refine aK _ (aP 172) λB w0=>?_;refine aS (E:=aa) (v:=va) (xs:=xs) (by simp) λa1 c1 e1=>?_;subst e1;refine aS (E:=aa) (v:=vb) (xs:=ys) (by simp) λa2 c2 e2=>?_;subst e2;refine go ?_;refine aA rfl (λh1=>?_) (λh1=>?_)
 ·refine go ?_;refine ae () (hv:=?_) (hp:=trivial);rw[aT (λe=>by subst e;omega)];rfl
 have hlen:xs.length=ys.length:=by omega
 refine go ?_;refine aZ (λk=>xs.length - k) (λk:Nat=>[(5,.int .i64 (k:Int))]) (λ_=>[]) (λ_=>[]) (λk=>k<=xs.length/\xs.take k=ys.take k) 0 ⟨by omega,by simp⟩ (body:=?_);rintro k ⟨hk,hsame⟩;refine go ?_;refine aA rfl (λh2=>?_) (λh2=>?_)
 ·refine go ?_;intro _ _ x hx _ _ y hy;refine go ?_;refine aA rfl (λh3=>?_) (λh3=>?_)
  rotate_left
  ·have h3:x=y:=iO.1 h3;refine go ?_;refine aQ (k+1) (by omega) ⟨by omega,?_⟩;rw[bY hx,bY hy,hsame,h3]
  ·refine go ?_;refine ae () (hv:=?_) (hp:=trivial);rw[aT (λe=>by subst e;rw[hx]at hy;exact h3 (Option.some.inj hy))];rfl
 have:k=xs.length:=by omega
 subst this;refine go ?_;refine ae () (hv:=?_) (hp:=trivial);rw[bK,hlen,bK]at hsame;rw[dZ hsame];rfl
theorem Vu{va vb:Value}{xs ys:List ByteArray}(hl:xs.length<9223372036854775808):dz Tryz.prog 183 [va,vb] [ah aR va xs,ah aR vb ys] (.bool (decide (xs=ys))):=by
 refine aK _ (aP 183) λB w0=>?_;refine aS (E:=aR) (v:=va) (xs:=xs) (by simp) λa1 c1 e1=>?_;subst e1;refine aS (E:=aR) (v:=vb) (xs:=ys) (by simp) λa2 c2 e2=>?_;subst e2;refine go ?_;refine aA rfl (λh1=>?_) (λh1=>?_)
 ·refine go ?_;refine ae () (hv:=?_) (hp:=trivial);rw[aT (λe=>by subst e;omega)];rfl
 have hlen:xs.length=ys.length:=by omega
 refine go ?_;refine aZ (λk=>xs.length - k) (λk:Nat=>[(5,.int .i64 (k:Int))]) (λ_=>[]) (λ_=>[]) (λk=>k<=xs.length/\xs.take k=ys.take k) 0 ⟨by omega,by simp⟩ (body:=?_);rintro k ⟨hk,hsame⟩;refine go ?_;refine aA rfl (λh2=>?_) (λh2=>?_)
 ·refine go ?_;refine bz aR (xs:=xs) (next:=λ_ _ x (_:Unit) hx=>?_);refine go ?_;refine bz aR (xs:=ys) (next:=λ_ _ y (_:Unit) hy=>?_);refine go ?_;refine eU (p:=x=y) (by show Value.bool _=_;rw[dY]) (λh3=>?_) (λh3=>?_)
  ·refine go ?_;refine ae () (hv:=?_) (hp:=trivial);rw[aT (λe=>by subst e;rw[hx]at hy;exact h3 (Option.some.inj hy))];rfl
  refine go ?_;refine aQ (k+1) (by omega) ⟨by omega,?_⟩;rw[bY hx,bY hy,hsame,h3]
 have:k=xs.length:=by omega
 subst this;refine go ?_;refine ae () (hv:=?_) (hp:=trivial);rw[bK,hlen,bK]at hsame;rw[dZ hsame];rfl
theorem Vv{va vb:Value}{xs ys:List ByteArray}(hl:xs.length<9223372036854775808):dz Tryz.prog 240 [va,vb] [ah aR va xs,ah aR vb ys] (.bool (decide (xs=ys))):=by
 refine aK _ (aP 240) λB w0=>?_;refine aS (E:=aR) (v:=va) (xs:=xs) (by simp) λa1 c1 e1=>?_;subst e1;refine aS (E:=aR) (v:=vb) (xs:=ys) (by simp) λa2 c2 e2=>?_;subst e2;refine go ?_;refine aA rfl (λh1=>?_) (λh1=>?_)
 ·refine go ?_;refine ae () (hv:=?_) (hp:=trivial);rw[aT (λe=>by subst e;omega)];rfl
 have hlen:xs.length=ys.length:=by omega
 refine go ?_;refine aZ (λk=>xs.length - k) (λk:Nat=>[(5,.int .i64 (k:Int))]) (λ_=>[]) (λ_=>[]) (λk=>k<=xs.length/\xs.take k=ys.take k) 0 ⟨by omega,by simp⟩ (body:=?_);rintro k ⟨hk,hsame⟩;refine go ?_;refine aA rfl (λh2=>?_) (λh2=>?_)
 ·refine go ?_;refine bz aR (xs:=xs) (next:=λ_ _ x (_:Unit) hx=>?_);refine go ?_;refine bz aR (xs:=ys) (next:=λ_ _ y (_:Unit) hy=>?_);refine go ?_;refine eU (p:=x=y) (by show Value.bool _=_;rw[dY]) (λh3=>?_) (λh3=>?_)
  ·refine go ?_;refine ae () (hv:=?_) (hp:=trivial);rw[aT (λe=>by subst e;rw[hx]at hy;exact h3 (Option.some.inj hy))];rfl
  refine go ?_;refine aQ (k+1) (by omega) ⟨by omega,?_⟩;rw[bY hx,bY hy,hsame,h3]
 have:k=xs.length:=by omega
 subst this;refine go ?_;refine ae () (hv:=?_) (hp:=trivial);rw[bK,hlen,bK]at hsame;rw[dZ hsame];rfl
theorem Vw{va vb:Value}{xs ys:List (List Int)}(hl:xs.length<9223372036854775808)(hll:∀l∈xs,l.length<9223372036854775808):dz Tryz.prog 95 [va,vb] [ah (aj aa) va xs,ah (aj aa) vb ys] (.bool (decide (xs=ys))):=by
 refine aK _ (aP 95) λB w0=>?_;refine aS (E:=aj aa) (v:=va) (xs:=xs) (by simp) λa1 c1 e1=>?_;subst e1;refine aS (E:=aj aa) (v:=vb) (xs:=ys) (by simp) λa2 c2 e2=>?_;subst e2;refine go ?_;refine aA rfl (λh1=>?_) (λh1=>?_)
 ·refine go ?_;refine ae () (hv:=?_) (hp:=trivial);rw[aT (λe=>by subst e;omega)];rfl
 have hlen:xs.length=ys.length:=by omega
 refine go ?_;refine aZ (λk=>xs.length - k) (λk:Nat=>[(5,.int .i64 (k:Int))]) (λ_=>[]) (λ_=>[]) (λk=>k<=xs.length/\xs.take k=ys.take k) 0 ⟨by omega,by simp⟩ (body:=?_);rintro k ⟨hk,hsame⟩;refine go ?_;refine aA rfl (λh2=>?_) (λh2=>?_)
 ·refine go ?_;refine bz (aj aa) (xs:=xs) (next:=λ_ _ x (_:Value) hx=>?_);refine go ?_;refine bz (aj aa) (xs:=ys) (next:=λ_ _ y (_:Value) hy=>?_);refine go ?_;refine ax (CB (xs:=x) (ys:=y) (hll x (bG hx))) (next:=λ_ _=>?_);refine go ?_;refine eU rfl (λh3=>?_) (λh3=>?_)
  ·refine go ?_;refine ae () (hv:=?_) (hp:=trivial);rw[aT (λe=>by subst e;rw[hx]at hy;exact h3 (Option.some.inj hy))];rfl
  refine go ?_;refine aQ (k+1) (by omega) ⟨by omega,?_⟩;rw[bY hx,bY hy,hsame,h3]
 have:k=xs.length:=by omega
 subst this;refine go ?_;refine ae () (hv:=?_) (hp:=trivial);rw[bK,hlen,bK]at hsame;rw[dZ hsame];rfl
theorem ag0{va vb:Value}{xs ys:List (List Int)}(hl:xs.length<9223372036854775808)(hll:∀l∈xs,l.length<9223372036854775808):dz Tryz.prog 173 [va,vb] [ah (aj aa) va xs,ah (aj aa) vb ys] (.bool (decide (xs=ys))):=by
 refine aK _ (aP 173) λB w0=>?_;refine aS (E:=aj aa) (v:=va) (xs:=xs) (by simp) λa1 c1 e1=>?_;subst e1;refine aS (E:=aj aa) (v:=vb) (xs:=ys) (by simp) λa2 c2 e2=>?_;subst e2;refine go ?_;refine aA rfl (λh1=>?_) (λh1=>?_)
 ·refine go ?_;refine ae () (hv:=?_) (hp:=trivial);rw[aT (λe=>by subst e;omega)];rfl
 have hlen:xs.length=ys.length:=by omega
 refine go ?_;refine aZ (λk=>xs.length - k) (λk:Nat=>[(5,.int .i64 (k:Int))]) (λ_=>[]) (λ_=>[]) (λk=>k<=xs.length/\xs.take k=ys.take k) 0 ⟨by omega,by simp⟩ (body:=?_);rintro k ⟨hk,hsame⟩;refine go ?_;refine aA rfl (λh2=>?_) (λh2=>?_)
 ·refine go ?_;refine bz (aj aa) (xs:=xs) (next:=λ_ _ x (_:Value) hx=>?_);refine go ?_;refine bz (aj aa) (xs:=ys) (next:=λ_ _ y (_:Value) hy=>?_);refine go ?_;refine ax (Vt (xs:=x) (ys:=y) (hll x (bG hx))) (next:=λ_ _=>?_);refine go ?_;refine eU rfl (λh3=>?_) (λh3=>?_)
  ·refine go ?_;refine ae () (hv:=?_) (hp:=trivial);rw[aT (λe=>by subst e;rw[hx]at hy;exact h3 (Option.some.inj hy))];rfl
  refine go ?_;refine aQ (k+1) (by omega) ⟨by omega,?_⟩;rw[bY hx,bY hy,hsame,h3]
 have:k=xs.length:=by omega
 subst this;refine go ?_;refine ae () (hv:=?_) (hp:=trivial);rw[bK,hlen,bK]at hsame;rw[dZ hsame];rfl
theorem ag1{x y:aU}{v1 v2 u1 u2:Value}(hl:x.names.length<9223372036854775808)(hll:x.others.length<9223372036854775808):dz Tryz.prog 140 [.agg ⟨iT x v1 v2⟩,.agg ⟨iT y u1 u2⟩] [ah aR v1 x.names,ah aR v2 x.others,ah aR u1 y.names,ah aR u2 y.others] (.bool (decide (x=y))):=by
 obtain⟨n1,o1,k1,f1,uR,os1,s1,t1,p1,m1,y1,c1⟩:=x;obtain⟨n2,o2,k2,f2,Cq,os2,s2,t2,p2,m2,y2,c2⟩:=y;dsimp only[iT]at hl hll⊢;refine aK _ (aP 140) λB w0=>?_;refine go ?_;intro b2 b3;refine go ?_;first|with_reducible refine aN (λh1=>?_) (λh1=>?_)|with_reducible refine aM (λh1=>?_) (λh1=>?_)|with_reducible refine aL (λh1=>?_) (λh1=>?_)
 ·rw[dY]at h1;have h1:=mY h1;refine go ?_;refine ae () (hv:=?_) (hp:=trivial);rw[aT (λe=>h1 (by cases e;rfl))];rfl
 rw[dY]at h1;have h1:=gY h1;refine go ?_;first|with_reducible refine aN (λh2=>?_) (λh2=>?_)|with_reducible refine aM (λh2=>?_) (λh2=>?_)|with_reducible refine aL (λh2=>?_) (λh2=>?_)
 ·rw[dY]at h2;have h2:=mY h2;refine go ?_;refine ae () (hv:=?_) (hp:=trivial);rw[aT (λe=>h2 (by cases e;rfl))];rfl
 rw[dY]at h2;have h2:=gY h2;refine go ?_;first|with_reducible refine aN (λh3=>?_) (λh3=>?_)|with_reducible refine aM (λh3=>?_) (λh3=>?_)|with_reducible refine aL (λh3=>?_) (λh3=>?_)
 ·refine go ?_;refine ae () (hv:=?_) (hp:=trivial);rw[aT (λe=>h3 (by cases e;rfl))];rfl
 refine go ?_;first|with_reducible refine aN (λh4=>?_) (λh4=>?_)|with_reducible refine aM (λh4=>?_) (λh4=>?_)|with_reducible refine aL (λh4=>?_) (λh4=>?_)
 ·refine go ?_;refine ae () (hv:=?_) (hp:=trivial);rw[aT (λe=>h4 (by cases e;rfl))];rfl
 refine go ?_;refine ax (Vu (xs:=uR) (ys:=Cq) hl) (next:=λ_ _=>?_);refine go ?_;first|with_reducible refine aN (λh5=>?_) (λh5=>?_)|with_reducible refine aM (λh5=>?_) (λh5=>?_)|with_reducible refine aL (λh5=>?_) (λh5=>?_)
 ·refine go ?_;refine ae () (hv:=?_) (hp:=trivial);rw[aT (λe=>h5 (by cases e;rfl))];rfl
 refine go ?_;refine ax (Vu (xs:=os1) (ys:=os2) hll) (next:=λ_ _=>?_);refine go ?_;first|with_reducible refine aN (λh6=>?_) (λh6=>?_)|with_reducible refine aM (λh6=>?_) (λh6=>?_)|with_reducible refine aL (λh6=>?_) (λh6=>?_)
 ·refine go ?_;refine ae () (hv:=?_) (hp:=trivial);rw[aT (λe=>h6 (by cases e;rfl))];rfl
 refine go ?_;first|with_reducible refine aN (λh7=>?_) (λh7=>?_)|with_reducible refine aM (λh7=>?_) (λh7=>?_)|with_reducible refine aL (λh7=>?_) (λh7=>?_)
 ·refine go ?_;refine ae () (hv:=?_) (hp:=trivial);rw[aT (λe=>h7 (by cases e;rfl))];rfl
 refine go ?_;first|with_reducible refine aN (λh8=>?_) (λh8=>?_)|with_reducible refine aM (λh8=>?_) (λh8=>?_)|with_reducible refine aL (λh8=>?_) (λh8=>?_)
 ·refine go ?_;refine ae () (hv:=?_) (hp:=trivial);rw[aT (λe=>h8 (by cases e;rfl))];rfl
 refine go ?_;first|with_reducible refine aN (λh9=>?_) (λh9=>?_)|with_reducible refine aM (λh9=>?_) (λh9=>?_)|with_reducible refine aL (λh9=>?_) (λh9=>?_)
 ·refine go ?_;refine ae () (hv:=?_) (hp:=trivial);rw[aT (λe=>h9 (by cases e;rfl))];rfl
 refine go ?_;first|with_reducible refine aN (λh10=>?_) (λh10=>?_)|with_reducible refine aM (λh10=>?_) (λh10=>?_)|with_reducible refine aL (λh10=>?_) (λh10=>?_)
 ·refine go ?_;refine ae () (hv:=?_) (hp:=trivial);rw[aT (λe=>h10 (by cases e;rfl))];rfl
 refine go ?_;first|with_reducible refine aN (λh11=>?_) (λh11=>?_)|with_reducible refine aM (λh11=>?_) (λh11=>?_)|with_reducible refine aL (λh11=>?_) (λh11=>?_)
 ·rw[dY]at h11;have h11:=mY h11;refine go ?_;refine ae () (hv:=?_) (hp:=trivial);rw[aT (λe=>h11 (by cases e;rfl))];rfl
 rw[dY]at h11;have h11:=gY h11;refine go ?_;refine ae () (hv:=?_) (hp:=trivial);subst h1 h2 h3 h4 h5 h6 h7 h8 h9 h10 h11;rw[show decide (aU.mk n1 o1 k1 f1 uR os1 s1 t1 p1 m1 y1 c1=aU.mk n1 o1 k1 f1 uR os1 s1 t1 p1 m1 y1 c2)=decide (c1=c2)from oJ.2 ⟨λh=>by cases h;rfl,λh=>by rw[h]⟩];rfl
theorem ag2{x y:aU}{v1 v2 u1 u2:Value}(hl:x.names.length<9223372036854775808)(hll:x.others.length<9223372036854775808):dz Tryz.prog 174 [.agg ⟨iT x v1 v2⟩,.agg ⟨iT y u1 u2⟩] [ah aR v1 x.names,ah aR v2 x.others,ah aR u1 y.names,ah aR u2 y.others] (.bool (decide (x=y))):=by
 obtain⟨n1,o1,k1,f1,uR,os1,s1,t1,p1,m1,y1,c1⟩:=x;obtain⟨n2,o2,k2,f2,Cq,os2,s2,t2,p2,m2,y2,c2⟩:=y;dsimp only[iT]at hl hll⊢;refine aK _ (aP 174) λB w0=>?_;refine go ?_;intro b2 b3;refine go ?_;first|with_reducible refine aN (λh1=>?_) (λh1=>?_)|with_reducible refine aM (λh1=>?_) (λh1=>?_)|with_reducible refine aL (λh1=>?_) (λh1=>?_)
 ·rw[dY]at h1;have h1:=mY h1;refine go ?_;refine ae () (hv:=?_) (hp:=trivial);rw[aT (λe=>h1 (by cases e;rfl))];rfl
 rw[dY]at h1;have h1:=gY h1;refine go ?_;first|with_reducible refine aN (λh2=>?_) (λh2=>?_)|with_reducible refine aM (λh2=>?_) (λh2=>?_)|with_reducible refine aL (λh2=>?_) (λh2=>?_)
 ·rw[dY]at h2;have h2:=mY h2;refine go ?_;refine ae () (hv:=?_) (hp:=trivial);rw[aT (λe=>h2 (by cases e;rfl))];rfl
 rw[dY]at h2;have h2:=gY h2;refine go ?_;first|with_reducible refine aN (λh3=>?_) (λh3=>?_)|with_reducible refine aM (λh3=>?_) (λh3=>?_)|with_reducible refine aL (λh3=>?_) (λh3=>?_)
 ·rw[dY]at h3;have h3:=mY h3;refine go ?_;refine ae () (hv:=?_) (hp:=trivial);rw[aT (λe=>h3 (by cases e;rfl))];rfl
 rw[dY]at h3;have h3:=gY h3;refine go ?_;refine ax (Vv (xs:=uR) (ys:=Cq) hl) (next:=λ_ _=>?_);refine go ?_;first|with_reducible refine aN (λh4=>?_) (λh4=>?_)|with_reducible refine aM (λh4=>?_) (λh4=>?_)|with_reducible refine aL (λh4=>?_) (λh4=>?_)
 ·refine go ?_;refine ae () (hv:=?_) (hp:=trivial);rw[aT (λe=>h4 (by cases e;rfl))];rfl
 refine go ?_;refine ax (Vv (xs:=os1) (ys:=os2) hll) (next:=λ_ _=>?_);refine go ?_;first|with_reducible refine aN (λh5=>?_) (λh5=>?_)|with_reducible refine aM (λh5=>?_) (λh5=>?_)|with_reducible refine aL (λh5=>?_) (λh5=>?_)
 ·refine go ?_;refine ae () (hv:=?_) (hp:=trivial);rw[aT (λe=>h5 (by cases e;rfl))];rfl
 refine go ?_;first|with_reducible refine aN (λh6=>?_) (λh6=>?_)|with_reducible refine aM (λh6=>?_) (λh6=>?_)|with_reducible refine aL (λh6=>?_) (λh6=>?_)
 ·refine go ?_;refine ae () (hv:=?_) (hp:=trivial);rw[aT (λe=>h6 (by cases e;rfl))];rfl
 refine go ?_;first|with_reducible refine aN (λh7=>?_) (λh7=>?_)|with_reducible refine aM (λh7=>?_) (λh7=>?_)|with_reducible refine aL (λh7=>?_) (λh7=>?_)
 ·refine go ?_;refine ae () (hv:=?_) (hp:=trivial);rw[aT (λe=>h7 (by cases e;rfl))];rfl
 refine go ?_;first|with_reducible refine aN (λh8=>?_) (λh8=>?_)|with_reducible refine aM (λh8=>?_) (λh8=>?_)|with_reducible refine aL (λh8=>?_) (λh8=>?_)
 ·refine go ?_;refine ae () (hv:=?_) (hp:=trivial);rw[aT (λe=>h8 (by cases e;rfl))];rfl
 refine go ?_;first|with_reducible refine aN (λh9=>?_) (λh9=>?_)|with_reducible refine aM (λh9=>?_) (λh9=>?_)|with_reducible refine aL (λh9=>?_) (λh9=>?_)
 ·refine go ?_;refine ae () (hv:=?_) (hp:=trivial);rw[aT (λe=>h9 (by cases e;rfl))];rfl
 refine go ?_;first|with_reducible refine aN (λh10=>?_) (λh10=>?_)|with_reducible refine aM (λh10=>?_) (λh10=>?_)|with_reducible refine aL (λh10=>?_) (λh10=>?_)
 ·refine go ?_;refine ae () (hv:=?_) (hp:=trivial);rw[aT (λe=>h10 (by cases e;rfl))];rfl
 refine go ?_;first|with_reducible refine aN (λh11=>?_) (λh11=>?_)|with_reducible refine aM (λh11=>?_) (λh11=>?_)|with_reducible refine aL (λh11=>?_) (λh11=>?_)
 ·refine go ?_;refine ae () (hv:=?_) (hp:=trivial);rw[aT (λe=>h11 (by cases e;rfl))];rfl
 refine go ?_;refine ae () (hv:=?_) (hp:=trivial);subst h1 h2 h3 h4 h5 h6 h7 h8 h9 h10 h11;rw[show decide (aU.mk n1 o1 k1 f1 uR os1 s1 t1 p1 m1 y1 c1=aU.mk n1 o1 k1 f1 uR os1 s1 t1 p1 m1 y1 c2)=decide (c1=c2)from oJ.2 ⟨λh=>by cases h;rfl,λh=>by rw[h]⟩];rfl
theorem ag3{x y:bA}{h1 c1 h2 c2:Value}(hS:qd x):dz Tryz.prog 97 [.agg ⟨iM x h1 c1⟩,.agg ⟨iM y h2 c2⟩] [ah aa h1 x.holes,ah aa c1 x.cells,ah aa h2 y.holes,ah aa c2 y.cells] (.bool (decide (x=y))):=by
 have e2:=hS.holes;have e3:=hS.cells;clear hS;obtain⟨xs,xw,xh,Ap,Aq⟩:=x;obtain⟨ys,yw,yh,NF,FZ⟩:=y;dsimp only[iM]at e2 e3⊢;refine aK _ (aP 97) λB w0=>?_;refine go ?_;intro b2 b3;refine go ?_;first|with_reducible refine aN (λk1=>?_) (λk1=>?_)|with_reducible refine aM (λk1=>?_) (λk1=>?_)|with_reducible refine aL (λk1=>?_) (λk1=>?_)
 ·refine go ?_;refine ae () (hv:=?_) (hp:=trivial);rw[aT (λe=>k1 (by cases e;rfl))];rfl
 refine go ?_;first|with_reducible refine aN (λk2=>?_) (λk2=>?_)|with_reducible refine aM (λk2=>?_) (λk2=>?_)|with_reducible refine aL (λk2=>?_) (λk2=>?_)
 ·refine go ?_;refine ae () (hv:=?_) (hp:=trivial);rw[aT (λe=>k2 (by cases e;rfl))];rfl
 refine go ?_;first|with_reducible refine aN (λk3=>?_) (λk3=>?_)|with_reducible refine aM (λk3=>?_) (λk3=>?_)|with_reducible refine aL (λk3=>?_) (λk3=>?_)
 ·refine go ?_;refine ae () (hv:=?_) (hp:=trivial);rw[aT (λe=>k3 (by cases e;rfl))];rfl
 refine go ?_;refine ax (CB (xs:=Ap) (ys:=NF) (by omega)) (next:=λ_ _=>?_);refine go ?_;first|with_reducible refine aN (λk4=>?_) (λk4=>?_)|with_reducible refine aM (λk4=>?_) (λk4=>?_)|with_reducible refine aL (λk4=>?_) (λk4=>?_)
 ·refine go ?_;refine ae () (hv:=?_) (hp:=trivial);rw[aT (λe=>k4 (by cases e;rfl))];rfl
 refine go ?_;refine ax (CB (xs:=Aq) (ys:=FZ) (by omega)) (next:=λ_ _=>?_);refine go ?_;refine ae () (hv:=?_) (hp:=trivial);subst k1 k2 k3 k4;rw[show decide (bA.mk xs xw xh Ap Aq=bA.mk xs xw xh Ap FZ)=decide (Aq=FZ)from oJ.2 ⟨λh=>by cases h;rfl,λh=>by rw[h]⟩];rfl
theorem ag4{x y:mg}{vx vy:Value}(hl:x.lists.length<9223372036854775808)(hll:∀l∈x.lists,l.length<9223372036854775808):dz Tryz.prog 139 [.agg ⟨[.string x.name,vx]⟩,.agg ⟨[.string y.name,vy]⟩] [ah (aj aa) vx x.lists,ah (aj aa) vy y.lists] (.bool (decide (x=y))):=by
 obtain⟨n1,xs⟩:=x;obtain⟨n2,ys⟩:=y;dsimp only at hl hll⊢;refine aK _ (aP 139) λB w0=>?_;refine aS (E:=aj aa) (v:=vx) (xs:=xs) (by simp) λa1 c1 e1=>?_;subst e1;refine aS (E:=aj aa) (v:=vy) (xs:=ys) (by simp) λa2 c2 e2=>?_;subst e2;refine go ?_;intro b2 b3;refine go ?_;refine aL (λk1=>?_) (λk1=>?_)
 rotate_left
 ·rw[dY]at k1;have k1:¬n1=n2:=by simpa using k1
  refine go ?_;refine ae () (hv:=?_) (hp:=trivial);rw[aT (λe=>k1 (by cases e;rfl))];rfl
 rw[dY]at k1;have k1:n1=n2:=by simpa using k1
 subst k1;have hdd:decide (mg.mk n1 xs=mg.mk n1 ys)=decide (xs=ys):=oJ.2 ⟨λh=>by cases h;rfl,λh=>by rw[h]⟩;rw[hdd];refine go ?_;refine aA rfl (λh1=>?_) (λh1=>?_)
 ·refine go ?_;refine ae () (hv:=?_) (hp:=trivial);rw[aT (λe=>by subst e;omega)];rfl
 have hlen:xs.length=ys.length:=by omega
 refine go ?_;refine aZ (λk=>xs.length - k) (λk:Nat=>[(5,.int .i64 (k:Int))]) (λ_=>[]) (λ_=>[]) (λk=>k<=xs.length/\xs.take k=ys.take k) 0 ⟨by omega,by simp⟩ (body:=?_);rintro k ⟨hk,hsame⟩;refine go ?_;refine aA rfl (λh2=>?_) (λh2=>?_)
 ·refine go ?_;refine bz (aj aa) (xs:=xs) (next:=λ_ _ x (_:Value) hx=>?_);refine go ?_;refine bz (aj aa) (xs:=ys) (next:=λ_ _ y (_:Value) hy=>?_);refine go ?_;refine ax (Vs (xs:=x) (ys:=y) (hll x (bG hx))) (next:=λ_ _=>?_);refine go ?_;refine eU rfl (λh3=>?_) (λh3=>?_)
  ·refine go ?_;refine ae () (hv:=?_) (hp:=trivial);rw[aT (λe=>by subst e;rw[hx]at hy;exact h3 (Option.some.inj hy))];rfl
  refine go ?_;refine aQ (k+1) (by omega) ⟨by omega,?_⟩;rw[bY hx,bY hy,hsame,h3]
 have:k=xs.length:=by omega
 subst this;refine go ?_;refine ae () (hv:=?_) (hp:=trivial);rw[bK,hlen,bK]at hsame;rw[dZ hsame];rfl
theorem ag5{x y:bE}{h1 s1 r1 c1 u1 h2 s2 r2 c2 u2:Value}(hS:mq x):dz Tryz.prog 96 [.agg ⟨gF x h1 s1 r1 c1 u1⟩,.agg ⟨gF y h2 s2 r2 c2 u2⟩] (kT x h1 s1 r1 c1 u1++kT y h2 s2 r2 c2 u2) (.bool (decide (x=y))):=by
 have e1:=hS.dP;have e2:=hS.regs;have e3:=hS.jv;have e4:=hS.kG;have e5:=hS.qM;have e6:=hS.holes;have e7:=hS.qN;clear hS;obtain⟨fs1,hu1,N9⟩:=M0;obtain⟨Jp,hu2,hrow2⟩:=M3;obtain⟨n1,v1,p1,w1,g1,ho1,mD,lS,mE,lT⟩:=x;obtain⟨n2,v2,p2,w2,g2,ho2,qb,oZ,qc,o8⟩:=y;dsimp only at e1 e2 e3 e4 e5 e6 e7;dsimp only[gF,kT,List.cons_append,List.nil_append];refine aK _ (aP 96) λB w0=>?_;refine aS (E:=fF) (v:=s1) (xs:=mD) (by simp) λlV cs1 es=>?_;subst es;refine aS (E:=fF) (v:=s2) (xs:=qb) (by simp) λas2 cs2 es=>?_;subst es;refine aS (E:=eH) (v:=r1) (xs:=lS) (by simp) λar1 cr1 es=>?_;subst es;refine aS (E:=eH) (v:=r2) (xs:=oZ) (by simp) λar2 cr2 es=>?_;subst es;refine aS (E:=bM) (v:=c1) (xs:=mE) (by simp) λac1 cc1 es=>?_;subst es;refine aS (E:=bM) (v:=c2) (xs:=qc) (by simp) λac2 cc2 es=>?_;subst es;refine aS (E:=aY) (v:=u1) (xs:=lT) (by simp) λau1 cu1 es=>?_;subst es;refine aS (E:=aY) (v:=u2) (xs:=o8) (by simp) λau2 cu2 es=>?_;subst es;refine go ?_;intro b2 b3;refine go ?_;refine aL (λk1=>?_) (λk1=>?_)
 rotate_left
 ·rw[dY]at k1;have k1:¬n1=n2:=by simpa using k1
  refine go ?_;refine ae () (hv:=?_) (hp:=trivial);rw[aT (λe=>k1 (by cases e;rfl))];rfl
 rw[dY]at k1;have k1:n1=n2:=by simpa using k1
 refine go ?_;first|with_reducible refine aN (λk2=>?_) (λk2=>?_)|with_reducible refine aM (λk2=>?_) (λk2=>?_)|with_reducible refine aL (λk2=>?_) (λk2=>?_)
 rotate_left
 ·refine go ?_;refine ae () (hv:=?_) (hp:=trivial);rw[aT (λe=>k2 (by cases e;rfl))];rfl
 refine go ?_;first|with_reducible refine aN (λk3=>?_) (λk3=>?_)|with_reducible refine aM (λk3=>?_) (λk3=>?_)|with_reducible refine aL (λk3=>?_) (λk3=>?_)
 rotate_left
 ·refine go ?_;refine ae () (hv:=?_) (hp:=trivial);rw[aT (λe=>k3 (by cases e;rfl))];rfl
 refine go ?_;first|with_reducible refine aN (λk4=>?_) (λk4=>?_)|with_reducible refine aM (λk4=>?_) (λk4=>?_)|with_reducible refine aL (λk4=>?_) (λk4=>?_)
 rotate_left
 ·refine go ?_;refine ae () (hv:=?_) (hp:=trivial);rw[aT (λe=>k4 (by cases e;rfl))];rfl
 refine go ?_;first|with_reducible refine aN (λk5=>?_) (λk5=>?_)|with_reducible refine aM (λk5=>?_) (λk5=>?_)|with_reducible refine aL (λk5=>?_) (λk5=>?_)
 rotate_left
 ·refine go ?_;refine ae () (hv:=?_) (hp:=trivial);rw[aT (λe=>k5 (by cases e;rfl))];rfl
 refine go ?_;refine ax (Vs (xs:=ho1) (ys:=ho2) e6) (next:=λ_ _=>?_);refine go ?_;refine aM (λk6=>?_) (λk6=>?_)
 rotate_left
 ·refine go ?_;refine ae () (hv:=?_) (hp:=trivial);rw[aT (λe=>k6 (by cases e;rfl))];rfl
 refine go ?_;first|with_reducible refine aN (λk7=>?_) (λk7=>?_)|with_reducible refine aM (λk7=>?_) (λk7=>?_)|with_reducible refine aL (λk7=>?_) (λk7=>?_)
 rotate_left
 ·refine go ?_;refine ae () (hv:=?_) (hp:=trivial);rw[aT (λe=>k7 (by cases e;rfl))];rfl
 refine go ?_;first|with_reducible refine aN (λk8=>?_) (λk8=>?_)|with_reducible refine aM (λk8=>?_) (λk8=>?_)|with_reducible refine aL (λk8=>?_) (λk8=>?_)
 rotate_left
 ·refine go ?_;refine ae () (hv:=?_) (hp:=trivial);rw[aT (λe=>k8 (by cases e;rfl))];rfl
 refine go ?_;first|with_reducible refine aN (λk9=>?_) (λk9=>?_)|with_reducible refine aM (λk9=>?_) (λk9=>?_)|with_reducible refine aL (λk9=>?_) (λk9=>?_)
 rotate_left
 ·refine go ?_;refine ae () (hv:=?_) (hp:=trivial);rw[aT (λe=>k9 (by cases e;rfl))];rfl
 refine go ?_;refine aA rfl (λk10=>?_) (λk10=>?_)
 ·refine go ?_;refine ae () (hv:=?_) (hp:=trivial);rw[aT (λe=>k10 (by cases e;rfl))];rfl
 have l1:mD.length=qb.length:=by omega
 have l2:lS.length=oZ.length:=by omega
 have l3:mE.length=qc.length:=by omega
 have l4:lT.length=o8.length:=by omega
 refine go ?_;refine aZ (λk=>mD.length - k) (λk:Nat=>[(5,.int .i64 (k:Int))]) (λ_=>[]) (λ_=>[]) (λk=>k<=mD.length/\mD.take k=qb.take k) 0 ⟨by omega,by simp⟩ (body:=?_);rintro k ⟨hk,hsame⟩;refine go ?_;refine aA rfl (λh2=>?_) (λh2=>?_)
 ·refine go ?_;refine bz fF (xs:=mD) (next:=λ_ _ x (_:Unit) hx=>?_);refine go ?_;refine bz fF (xs:=qb) (next:=λ_ _ y (_:Unit) hy=>?_);refine go ?_;refine(eD (v:=.bool (!decide (x=y))) rfl rfl (by rw[<- MX];exact Ca rfl rfl hu1 (by kernel_rfl) (by kernel_rfl) (row_of N9 rfl rfl (λj=>by rw[eT]) (λj=>by rw[eT])) (by simp[fJ,bQ,Ideal.cellV]) (by simp[fJ,bQ,Ideal.cellV]))).h ?_;refine go ?_;refine eU rfl (λh3=>?_) (λh3=>?_)
  ·refine go ?_;refine ae () (hv:=?_) (hp:=trivial);rw[aT (λe=>by cases e;rw[hx]at hy;exact h3 (Option.some.inj hy))];rfl
  refine go ?_;refine aQ (k+1) (by omega) ⟨by omega,?_⟩;rw[bY hx,bY hy,hsame,h3]
 have hkl:k=mD.length:=by omega
 subst hkl;rw[bK,l1,bK]at hsame;have m1:=hsame;clear hsame hk h2;refine go ?_;refine aZ (λk=>lS.length - k) (λk:Nat=>[(6,.int .i64 (k:Int))]) (λ_=>[]) (λ_=>[]) (λk=>k<=lS.length/\lS.take k=oZ.take k) 0 ⟨by omega,by simp⟩ (body:=?_);rintro k ⟨hk,hsame⟩;refine go ?_;refine aA rfl (λh2=>?_) (λh2=>?_)
 ·refine go ?_;refine bz eH (xs:=lS) (next:=λ_ _ x (vx:Value) hx=>?_);have hxl:=e7 x (bG hx);refine go ?_;refine bz eH (xs:=oZ) (next:=λ_ _ y (vy:Value) hy=>?_);refine go ?_;refine ax (ag4 (x:=x) (y:=y) (vx:=vx) (vy:=vy) hxl.1 hxl.2) (next:=λ_ _=>?_);refine go ?_;refine eU rfl (λh3=>?_) (λh3=>?_)
  ·refine go ?_;refine ae () (hv:=?_) (hp:=trivial);rw[aT (λe=>by cases e;rw[hx]at hy;exact h3 (Option.some.inj hy))];rfl
  refine go ?_;refine aQ (k+1) (by omega) ⟨by omega,?_⟩;rw[bY hx,bY hy,hsame,h3]
 have hkl:k=lS.length:=by omega
 subst hkl;rw[bK,l2,bK]at hsame;have m2:=hsame;clear hsame hk h2;refine go ?_;refine aZ (λk=>mE.length - k) (λk:Nat=>[(7,.int .i64 (k:Int))]) (λ_=>[]) (λ_=>[]) (λk=>k<=mE.length/\mE.take k=qc.take k) 0 ⟨by omega,by simp⟩ (body:=?_);rintro k ⟨hk,hsame⟩;refine go ?_;refine aA rfl (λh2=>?_) (λh2=>?_)
 ·refine go ?_;refine bz bM (xs:=mE) (next:=λ_ _ x (_:Unit) hx=>?_);refine go ?_;refine bz bM (xs:=qc) (next:=λ_ _ y (_:Unit) hy=>?_);refine go ?_;refine(eD (v:=.bool (!decide (x=y))) rfl rfl (by rw[<- MZ];exact Ca rfl rfl hu2 (by kernel_rfl) (by kernel_rfl) (row_of hrow2 rfl rfl (λj=>by rw[eT]) (λj=>by rw[eT])) (by simp[fJ,bQ,Ideal.cellV]) (by simp[fJ,bQ,Ideal.cellV]))).h ?_;refine go ?_;refine eU rfl (λh3=>?_) (λh3=>?_)
  ·refine go ?_;refine ae () (hv:=?_) (hp:=trivial);rw[aT (λe=>by cases e;rw[hx]at hy;exact h3 (Option.some.inj hy))];rfl
  refine go ?_;refine aQ (k+1) (by omega) ⟨by omega,?_⟩;rw[bY hx,bY hy,hsame,h3]
 have hkl:k=mE.length:=by omega
 subst hkl;rw[bK,l3,bK]at hsame;have m3:=hsame;clear hsame hk h2;refine go ?_;refine aZ (λk=>lT.length - k) (λk:Nat=>[(8,.int .i64 (k:Int))]) (λ_=>[]) (λ_=>[]) (λk=>k<=lT.length/\lT.take k=o8.take k) 0 ⟨by omega,by simp⟩ (body:=?_);rintro k ⟨hk,hsame⟩;refine go ?_;refine aA rfl (λh2=>?_) (λh2=>?_)
 ·refine go ?_;refine bz aY (xs:=lT) (next:=λ_ _ x (vx:Value×Value) hx=>?_);have hxl:=e5 x (bG hx);refine go ?_;refine bz aY (xs:=o8) (next:=λ_ _ y (vy:Value×Value) hy=>?_);refine go ?_;refine ax (ag1 (x:=x) (y:=y) (v1:=vx.1) (v2:=vx.2) (u1:=vy.1) (u2:=vy.2) hxl.1 hxl.2) (next:=λ_ _=>?_);refine go ?_;refine eU rfl (λh3=>?_) (λh3=>?_)
  ·refine go ?_;refine ae () (hv:=?_) (hp:=trivial);rw[aT (λe=>by cases e;rw[hx]at hy;exact h3 (Option.some.inj hy))];rfl
  refine go ?_;refine aQ (k+1) (by omega) ⟨by omega,?_⟩;rw[bY hx,bY hy,hsame,h3]
 have hkl:k=lT.length:=by omega
 subst hkl;rw[bK,l4,bK]at hsame;have m4:=hsame;clear hsame hk h2;refine go ?_;refine ae () (hv:=?_) (hp:=trivial);rw[dZ (show bE.mk n1 v1 p1 w1 g1 ho1 mD lS mE lT=bE.mk n2 v2 p2 w2 g2 ho2 qb oZ qc o8 from by rw[k1,iO.1 k2,iO.1 k3,iO.1 k4,iO.1 k5,k6,m1,m2,m3,m4])];rfl
theorem ahk{x y:bE}{h1 s1 r1 c1 u1 h2 s2 r2 c2 u2:Value}(hS:mq x):dz Tryz.prog 127 [.agg ⟨gF x h1 s1 r1 c1 u1⟩,.agg ⟨gF y h2 s2 r2 c2 u2⟩] (kT x h1 s1 r1 c1 u1++kT y h2 s2 r2 c2 u2) (.bool (decide (x=y))):=by
 have e1:=hS.dP;have e2:=hS.regs;have e3:=hS.jv;have e4:=hS.kG;have e5:=hS.qM;have e6:=hS.holes;have e7:=hS.qN;clear hS;obtain⟨fs1,hu1,N9⟩:=M0;obtain⟨Jp,hu2,hrow2⟩:=M3;obtain⟨n1,v1,p1,w1,g1,ho1,mD,lS,mE,lT⟩:=x;obtain⟨n2,v2,p2,w2,g2,ho2,qb,oZ,qc,o8⟩:=y;dsimp only at e1 e2 e3 e4 e5 e6 e7;dsimp only[gF,kT,List.cons_append,List.nil_append];refine aK _ (aP 127) λB w0=>?_;refine aS (E:=fF) (v:=s1) (xs:=mD) (by simp) λlV cs1 es=>?_;subst es;refine aS (E:=fF) (v:=s2) (xs:=qb) (by simp) λas2 cs2 es=>?_;subst es;refine aS (E:=eH) (v:=r1) (xs:=lS) (by simp) λar1 cr1 es=>?_;subst es;refine aS (E:=eH) (v:=r2) (xs:=oZ) (by simp) λar2 cr2 es=>?_;subst es;refine aS (E:=bM) (v:=c1) (xs:=mE) (by simp) λac1 cc1 es=>?_;subst es;refine aS (E:=bM) (v:=c2) (xs:=qc) (by simp) λac2 cc2 es=>?_;subst es;refine aS (E:=aY) (v:=u1) (xs:=lT) (by simp) λau1 cu1 es=>?_;subst es;refine aS (E:=aY) (v:=u2) (xs:=o8) (by simp) λau2 cu2 es=>?_;subst es;refine go ?_;intro b2 b3;refine go ?_;refine aL (λk1=>?_) (λk1=>?_)
 rotate_left
 ·rw[dY]at k1;have k1:¬n1=n2:=by simpa using k1
  refine go ?_;refine ae () (hv:=?_) (hp:=trivial);rw[aT (λe=>k1 (by cases e;rfl))];rfl
 rw[dY]at k1;have k1:n1=n2:=by simpa using k1
 refine go ?_;first|with_reducible refine aN (λk2=>?_) (λk2=>?_)|with_reducible refine aM (λk2=>?_) (λk2=>?_)|with_reducible refine aL (λk2=>?_) (λk2=>?_)
 rotate_left
 ·refine go ?_;refine ae () (hv:=?_) (hp:=trivial);rw[aT (λe=>k2 (by cases e;rfl))];rfl
 refine go ?_;first|with_reducible refine aN (λk3=>?_) (λk3=>?_)|with_reducible refine aM (λk3=>?_) (λk3=>?_)|with_reducible refine aL (λk3=>?_) (λk3=>?_)
 rotate_left
 ·refine go ?_;refine ae () (hv:=?_) (hp:=trivial);rw[aT (λe=>k3 (by cases e;rfl))];rfl
 refine go ?_;first|with_reducible refine aN (λk4=>?_) (λk4=>?_)|with_reducible refine aM (λk4=>?_) (λk4=>?_)|with_reducible refine aL (λk4=>?_) (λk4=>?_)
 rotate_left
 ·refine go ?_;refine ae () (hv:=?_) (hp:=trivial);rw[aT (λe=>k4 (by cases e;rfl))];rfl
 refine go ?_;first|with_reducible refine aN (λk5=>?_) (λk5=>?_)|with_reducible refine aM (λk5=>?_) (λk5=>?_)|with_reducible refine aL (λk5=>?_) (λk5=>?_)
 rotate_left
 ·refine go ?_;refine ae () (hv:=?_) (hp:=trivial);rw[aT (λe=>k5 (by cases e;rfl))];rfl
 refine go ?_;refine ax (Vt (xs:=ho1) (ys:=ho2) e6) (next:=λ_ _=>?_);refine go ?_;refine eU rfl (λk6=>?_) (λk6=>?_)
 ·refine go ?_;refine ae () (hv:=?_) (hp:=trivial);rw[aT (λe=>k6 (by cases e;rfl))];rfl
 refine go ?_;first|with_reducible refine aN (λk7=>?_) (λk7=>?_)|with_reducible refine aM (λk7=>?_) (λk7=>?_)|with_reducible refine aL (λk7=>?_) (λk7=>?_)
 rotate_left
 ·refine go ?_;refine ae () (hv:=?_) (hp:=trivial);rw[aT (λe=>k7 (by cases e;rfl))];rfl
 refine go ?_;first|with_reducible refine aN (λk8=>?_) (λk8=>?_)|with_reducible refine aM (λk8=>?_) (λk8=>?_)|with_reducible refine aL (λk8=>?_) (λk8=>?_)
 rotate_left
 ·refine go ?_;refine ae () (hv:=?_) (hp:=trivial);rw[aT (λe=>k8 (by cases e;rfl))];rfl
 refine go ?_;first|with_reducible refine aN (λk9=>?_) (λk9=>?_)|with_reducible refine aM (λk9=>?_) (λk9=>?_)|with_reducible refine aL (λk9=>?_) (λk9=>?_)
 rotate_left
 ·refine go ?_;refine ae () (hv:=?_) (hp:=trivial);rw[aT (λe=>k9 (by cases e;rfl))];rfl
 refine go ?_;refine aA rfl (λk10=>?_) (λk10=>?_)
 ·refine go ?_;refine ae () (hv:=?_) (hp:=trivial);rw[aT (λe=>k10 (by cases e;rfl))];rfl
 have l1:mD.length=qb.length:=by omega
 have l2:lS.length=oZ.length:=by omega
 have l3:mE.length=qc.length:=by omega
 have l4:lT.length=o8.length:=by omega
 refine go ?_;refine aZ (λk=>mD.length - k) (λk:Nat=>[(5,.int .i64 (k:Int))]) (λ_=>[]) (λ_=>[]) (λk=>k<=mD.length/\mD.take k=qb.take k) 0 ⟨by omega,by simp⟩ (body:=?_);rintro k ⟨hk,hsame⟩;refine go ?_;refine aA rfl (λh2=>?_) (λh2=>?_)
 ·refine go ?_;refine bz fF (xs:=mD) (next:=λ_ _ x (_:Unit) hx=>?_);refine go ?_;refine bz fF (xs:=qb) (next:=λ_ _ y (_:Unit) hy=>?_);refine go ?_;refine(eD (v:=.bool (!decide (x=y))) rfl rfl (by rw[<- MX];exact Ca rfl rfl hu1 (by kernel_rfl) (by kernel_rfl) (row_of N9 rfl rfl (λj=>by rw[eT]) (λj=>by rw[eT])) (by simp[fJ,bQ,Ideal.cellV]) (by simp[fJ,bQ,Ideal.cellV]))).h ?_;refine go ?_;refine eU rfl (λh3=>?_) (λh3=>?_)
  ·refine go ?_;refine ae () (hv:=?_) (hp:=trivial);rw[aT (λe=>by cases e;rw[hx]at hy;exact h3 (Option.some.inj hy))];rfl
  refine go ?_;refine aQ (k+1) (by omega) ⟨by omega,?_⟩;rw[bY hx,bY hy,hsame,h3]
 have hkl:k=mD.length:=by omega
 subst hkl;rw[bK,l1,bK]at hsame;have m1:=hsame;clear hsame hk h2;refine go ?_;refine aZ (λk=>lS.length - k) (λk:Nat=>[(6,.int .i64 (k:Int))]) (λ_=>[]) (λ_=>[]) (λk=>k<=lS.length/\lS.take k=oZ.take k) 0 ⟨by omega,by simp⟩ (body:=?_);rintro k ⟨hk,hsame⟩;refine go ?_;refine aA rfl (λh2=>?_) (λh2=>?_)
 ·refine go ?_;refine bz eH (xs:=lS) (next:=λ_ _ x (vx:Value) hx=>?_);have hxl:=e7 x (bG hx);refine go ?_;refine bz eH (xs:=oZ) (next:=λ_ _ y (vy:Value) hy=>?_);refine go ?_;refine aL (λj1=>?_) (λj1=>?_)
  rotate_left
  ·rw[dY]at j1;have j1:¬x.name=y.name:=by simpa using j1
   have h3:¬x=y:=λe=>j1 (by rw[e]);refine go ?_;refine ae () (hv:=?_) (hp:=trivial);rw[aT (λe=>by cases e;rw[hx]at hy;exact h3 (Option.some.inj hy))];rfl
  rw[dY]at j1;have j1:x.name=y.name:=by simpa using j1
  refine go ?_;refine bz eH (xs:=lS) (next:=λ_ _ x' (vx:Value) hx'=>?_);cases hx.symm.trans hx';refine go ?_;refine bz eH (xs:=oZ) (next:=λ_ _ y' (vy:Value) hy'=>?_);cases hy.symm.trans hy';refine go ?_;refine ax (ag0 (xs:=x.lists) (ys:=y.lists) hxl.1 hxl.2) (next:=λ_ _=>?_);refine go ?_;refine eU rfl (λh3=>?_) (λh3=>?_)
  ·have h3:¬x=y:=λe=>h3 (by rw[e]);refine go ?_;refine ae () (hv:=?_) (hp:=trivial);rw[aT (λe=>by cases e;rw[hx]at hy;exact h3 (Option.some.inj hy))];rfl
  have h3:x=y:=by
   obtain⟨a,b⟩:=x;obtain⟨c,d⟩:=y;dsimp only at j1 h3;rw[j1,h3]
  refine go ?_;refine aQ (k+1) (by omega) ⟨by omega,?_⟩;rw[bY hx,bY hy,hsame,h3]
 have hkl:k=lS.length:=by omega
 subst hkl;rw[bK,l2,bK]at hsame;have m2:=hsame;clear hsame hk h2;refine go ?_;refine aZ (λk=>mE.length - k) (λk:Nat=>[(7,.int .i64 (k:Int))]) (λ_=>[]) (λ_=>[]) (λk=>k<=mE.length/\mE.take k=qc.take k) 0 ⟨by omega,by simp⟩ (body:=?_);rintro k ⟨hk,hsame⟩;refine go ?_;refine aA rfl (λh2=>?_) (λh2=>?_)
 ·refine go ?_;refine bz bM (xs:=mE) (next:=λ_ _ x (_:Unit) hx=>?_);refine go ?_;refine bz bM (xs:=qc) (next:=λ_ _ y (_:Unit) hy=>?_);refine go ?_;refine(eD (v:=.bool (!decide (x=y))) rfl rfl (by rw[<- MZ];exact Ca rfl rfl hu2 (by kernel_rfl) (by kernel_rfl) (row_of hrow2 rfl rfl (λj=>by rw[eT]) (λj=>by rw[eT])) (by simp[fJ,bQ,Ideal.cellV]) (by simp[fJ,bQ,Ideal.cellV]))).h ?_;refine go ?_;refine eU rfl (λh3=>?_) (λh3=>?_)
  ·refine go ?_;refine ae () (hv:=?_) (hp:=trivial);rw[aT (λe=>by cases e;rw[hx]at hy;exact h3 (Option.some.inj hy))];rfl
  refine go ?_;refine aQ (k+1) (by omega) ⟨by omega,?_⟩;rw[bY hx,bY hy,hsame,h3]
 have hkl:k=mE.length:=by omega
 subst hkl;rw[bK,l3,bK]at hsame;have m3:=hsame;clear hsame hk h2;refine go ?_;refine aZ (λk=>lT.length - k) (λk:Nat=>[(8,.int .i64 (k:Int))]) (λ_=>[]) (λ_=>[]) (λk=>k<=lT.length/\lT.take k=o8.take k) 0 ⟨by omega,by simp⟩ (body:=?_);rintro k ⟨hk,hsame⟩;refine go ?_;refine aA rfl (λh2=>?_) (λh2=>?_)
 ·refine go ?_;refine bz aY (xs:=lT) (next:=λ_ _ x (vx:Value×Value) hx=>?_);have hxl:=e5 x (bG hx);refine go ?_;refine bz aY (xs:=o8) (next:=λ_ _ y (vy:Value×Value) hy=>?_);refine go ?_;refine ax (ag2 (x:=x) (y:=y) (v1:=vx.1) (v2:=vx.2) (u1:=vy.1) (u2:=vy.2) hxl.1 hxl.2) (next:=λ_ _=>?_);refine go ?_;refine eU rfl (λh3=>?_) (λh3=>?_)
  ·refine go ?_;refine ae () (hv:=?_) (hp:=trivial);rw[aT (λe=>by cases e;rw[hx]at hy;exact h3 (Option.some.inj hy))];rfl
  refine go ?_;refine aQ (k+1) (by omega) ⟨by omega,?_⟩;rw[bY hx,bY hy,hsame,h3]
 have hkl:k=lT.length:=by omega
 subst hkl;rw[bK,l4,bK]at hsame;have m4:=hsame;clear hsame hk h2;refine go ?_;refine ae () (hv:=?_) (hp:=trivial);rw[dZ (show bE.mk n1 v1 p1 w1 g1 ho1 mD lS mE lT=bE.mk n2 v2 p2 w2 g2 ho2 qb oZ qc o8 from by rw[k1,iO.1 k2,iO.1 k3,iO.1 k4,iO.1 k5,k6,m1,m2,m3,m4])];rfl
