/-
  The reference's comparisons: lists, rules, regions, declarations, grids.
-/
import Derived.Test.YtoohgkkmdnbnfaaGreatDoorLibOF
set_option linter.all false
set_option maxRecDepth 10000
set_option maxHeartbeats 4000000
namespace Go.Proofs.YtoohgkkmdnbnfaaGreatDoor
open Go.Ideal Kd
theorem UE{va vb:Value}{xs ys:List Int}(hl:xs.length<9223372036854775808):dG Tryz.prog 138 [va,vb] [ah aa va xs,ah aa vb ys] (.bool (decide (xs=ys))):=by
 refine aK _ (aP 138) λB w0=>?_;refine aV (E:=aa) (v:=va) (xs:=xs) (by simp) λa1 c1 e1=>?_;subst e1;refine aV (E:=aa) (v:=vb) (xs:=ys) (by simp) λa2 c2 e2=>?_;subst e2;refine go ?_;refine az rfl (λh1=>?_) (λh1=>?_)
 ·refine go ?_;refine ae () (hv:=?_) (hp:=trivial);rw[aT (λe=>by subst e;omega)];rfl
 have hlen:xs.length=ys.length:=by omega
 refine go ?_;refine bi (λk=>xs.length - k) (λk:Nat=>[(5,.int .i64 (k:Int))]) (λ_=>[]) (λ_=>[]) (λk=>k<=xs.length/\xs.take k=ys.take k) 0 ⟨by omega,by simp⟩ (body:=?_);rintro k ⟨hk,hsame⟩;refine go ?_;refine az rfl (λh2=>?_) (λh2=>?_)
 ·refine go ?_;intro _ _ x hx _ _ y hy;refine go ?_;refine az rfl (λh3=>?_) (λh3=>?_)
  rotate_left
  ·have h3:x=y:=iK.1 h3;refine go ?_;refine aQ (k+1) (by omega) ⟨by omega,?_⟩;rw[bX hx,bX hy,hsame,h3]
  ·refine go ?_;refine ae () (hv:=?_) (hp:=trivial);rw[aT (λe=>by subst e;rw[hx]at hy;exact h3 (Option.some.inj hy))];rfl
 have:k=xs.length:=by omega
 subst this;refine go ?_;refine ae () (hv:=?_) (hp:=trivial);rw[bK,hlen,bK]at hsame;rw[dZ hsame];rfl
theorem UF{va vb:Value}{xs ys:List Int}(hl:xs.length<9223372036854775808):dG Tryz.prog 172 [va,vb] [ah aa va xs,ah aa vb ys] (.bool (decide (xs=ys))):=by
 refine aK _ (aP 172) λB w0=>?_;refine aV (E:=aa) (v:=va) (xs:=xs) (by simp) λa1 c1 e1=>?_;subst e1;refine aV (E:=aa) (v:=vb) (xs:=ys) (by simp) λa2 c2 e2=>?_;subst e2;refine go ?_;refine az rfl (λh1=>?_) (λh1=>?_)
 ·refine go ?_;refine ae () (hv:=?_) (hp:=trivial);rw[aT (λe=>by subst e;omega)];rfl
 have hlen:xs.length=ys.length:=by omega
 refine go ?_;refine bi (λk=>xs.length - k) (λk:Nat=>[(5,.int .i64 (k:Int))]) (λ_=>[]) (λ_=>[]) (λk=>k<=xs.length/\xs.take k=ys.take k) 0 ⟨by omega,by simp⟩ (body:=?_);rintro k ⟨hk,hsame⟩;refine go ?_;refine az rfl (λh2=>?_) (λh2=>?_)
 ·refine go ?_;intro _ _ x hx _ _ y hy;refine go ?_;refine az rfl (λh3=>?_) (λh3=>?_)
  rotate_left
  ·have h3:x=y:=iK.1 h3;refine go ?_;refine aQ (k+1) (by omega) ⟨by omega,?_⟩;rw[bX hx,bX hy,hsame,h3]
  ·refine go ?_;refine ae () (hv:=?_) (hp:=trivial);rw[aT (λe=>by subst e;rw[hx]at hy;exact h3 (Option.some.inj hy))];rfl
 have:k=xs.length:=by omega
 subst this;refine go ?_;refine ae () (hv:=?_) (hp:=trivial);rw[bK,hlen,bK]at hsame;rw[dZ hsame];rfl
theorem UG{va vb:Value}{xs ys:List ByteArray}(hl:xs.length<9223372036854775808):dG Tryz.prog 183 [va,vb] [ah aR va xs,ah aR vb ys] (.bool (decide (xs=ys))):=by
 refine aK _ (aP 183) λB w0=>?_;refine aV (E:=aR) (v:=va) (xs:=xs) (by simp) λa1 c1 e1=>?_;subst e1;refine aV (E:=aR) (v:=vb) (xs:=ys) (by simp) λa2 c2 e2=>?_;subst e2;refine go ?_;refine az rfl (λh1=>?_) (λh1=>?_)
 ·refine go ?_;refine ae () (hv:=?_) (hp:=trivial);rw[aT (λe=>by subst e;omega)];rfl
 have hlen:xs.length=ys.length:=by omega
 refine go ?_;refine bi (λk=>xs.length - k) (λk:Nat=>[(5,.int .i64 (k:Int))]) (λ_=>[]) (λ_=>[]) (λk=>k<=xs.length/\xs.take k=ys.take k) 0 ⟨by omega,by simp⟩ (body:=?_);rintro k ⟨hk,hsame⟩;refine go ?_;refine az rfl (λh2=>?_) (λh2=>?_)
 ·refine go ?_;refine aZ aR (xs:=xs) (next:=λ_ _ x (_:Unit) hx=>?_);refine go ?_;refine aZ aR (xs:=ys) (next:=λ_ _ y (_:Unit) hy=>?_);refine go ?_;refine eO (p:=x=y) (by show Value.bool _=_;rw[dU]) (λh3=>?_) (λh3=>?_)
  ·refine go ?_;refine ae () (hv:=?_) (hp:=trivial);rw[aT (λe=>by subst e;rw[hx]at hy;exact h3 (Option.some.inj hy))];rfl
  refine go ?_;refine aQ (k+1) (by omega) ⟨by omega,?_⟩;rw[bX hx,bX hy,hsame,h3]
 have:k=xs.length:=by omega
 subst this;refine go ?_;refine ae () (hv:=?_) (hp:=trivial);rw[bK,hlen,bK]at hsame;rw[dZ hsame];rfl
theorem UH{va vb:Value}{xs ys:List ByteArray}(hl:xs.length<9223372036854775808):dG Tryz.prog 240 [va,vb] [ah aR va xs,ah aR vb ys] (.bool (decide (xs=ys))):=by
 refine aK _ (aP 240) λB w0=>?_;refine aV (E:=aR) (v:=va) (xs:=xs) (by simp) λa1 c1 e1=>?_;subst e1;refine aV (E:=aR) (v:=vb) (xs:=ys) (by simp) λa2 c2 e2=>?_;subst e2;refine go ?_;refine az rfl (λh1=>?_) (λh1=>?_)
 ·refine go ?_;refine ae () (hv:=?_) (hp:=trivial);rw[aT (λe=>by subst e;omega)];rfl
 have hlen:xs.length=ys.length:=by omega
 refine go ?_;refine bi (λk=>xs.length - k) (λk:Nat=>[(5,.int .i64 (k:Int))]) (λ_=>[]) (λ_=>[]) (λk=>k<=xs.length/\xs.take k=ys.take k) 0 ⟨by omega,by simp⟩ (body:=?_);rintro k ⟨hk,hsame⟩;refine go ?_;refine az rfl (λh2=>?_) (λh2=>?_)
 ·refine go ?_;refine aZ aR (xs:=xs) (next:=λ_ _ x (_:Unit) hx=>?_);refine go ?_;refine aZ aR (xs:=ys) (next:=λ_ _ y (_:Unit) hy=>?_);refine go ?_;refine eO (p:=x=y) (by show Value.bool _=_;rw[dU]) (λh3=>?_) (λh3=>?_)
  ·refine go ?_;refine ae () (hv:=?_) (hp:=trivial);rw[aT (λe=>by subst e;rw[hx]at hy;exact h3 (Option.some.inj hy))];rfl
  refine go ?_;refine aQ (k+1) (by omega) ⟨by omega,?_⟩;rw[bX hx,bX hy,hsame,h3]
 have:k=xs.length:=by omega
 subst this;refine go ?_;refine ae () (hv:=?_) (hp:=trivial);rw[bK,hlen,bK]at hsame;rw[dZ hsame];rfl
theorem UI{va vb:Value}{xs ys:List (List Int)}(hl:xs.length<9223372036854775808)(hll:∀l∈xs,l.length<9223372036854775808):dG Tryz.prog 95 [va,vb] [ah (aj aa) va xs,ah (aj aa) vb ys] (.bool (decide (xs=ys))):=by
 refine aK _ (aP 95) λB w0=>?_;refine aV (E:=aj aa) (v:=va) (xs:=xs) (by simp) λa1 c1 e1=>?_;subst e1;refine aV (E:=aj aa) (v:=vb) (xs:=ys) (by simp) λa2 c2 e2=>?_;subst e2;refine go ?_;refine az rfl (λh1=>?_) (λh1=>?_)
 ·refine go ?_;refine ae () (hv:=?_) (hp:=trivial);rw[aT (λe=>by subst e;omega)];rfl
 have hlen:xs.length=ys.length:=by omega
 refine go ?_;refine bi (λk=>xs.length - k) (λk:Nat=>[(5,.int .i64 (k:Int))]) (λ_=>[]) (λ_=>[]) (λk=>k<=xs.length/\xs.take k=ys.take k) 0 ⟨by omega,by simp⟩ (body:=?_);rintro k ⟨hk,hsame⟩;refine go ?_;refine az rfl (λh2=>?_) (λh2=>?_)
 ·refine go ?_;refine aZ (aj aa) (xs:=xs) (next:=λ_ _ x (_:Value) hx=>?_);refine go ?_;refine aZ (aj aa) (xs:=ys) (next:=λ_ _ y (_:Value) hy=>?_);refine go ?_;refine ax (BX (xs:=x) (ys:=y) (hll x (bI hx))) (next:=λ_ _=>?_);refine go ?_;refine eO rfl (λh3=>?_) (λh3=>?_)
  ·refine go ?_;refine ae () (hv:=?_) (hp:=trivial);rw[aT (λe=>by subst e;rw[hx]at hy;exact h3 (Option.some.inj hy))];rfl
  refine go ?_;refine aQ (k+1) (by omega) ⟨by omega,?_⟩;rw[bX hx,bX hy,hsame,h3]
 have:k=xs.length:=by omega
 subst this;refine go ?_;refine ae () (hv:=?_) (hp:=trivial);rw[bK,hlen,bK]at hsame;rw[dZ hsame];rfl
theorem afY{va vb:Value}{xs ys:List (List Int)}(hl:xs.length<9223372036854775808)(hll:∀l∈xs,l.length<9223372036854775808):dG Tryz.prog 173 [va,vb] [ah (aj aa) va xs,ah (aj aa) vb ys] (.bool (decide (xs=ys))):=by
 refine aK _ (aP 173) λB w0=>?_;refine aV (E:=aj aa) (v:=va) (xs:=xs) (by simp) λa1 c1 e1=>?_;subst e1;refine aV (E:=aj aa) (v:=vb) (xs:=ys) (by simp) λa2 c2 e2=>?_;subst e2;refine go ?_;refine az rfl (λh1=>?_) (λh1=>?_)
 ·refine go ?_;refine ae () (hv:=?_) (hp:=trivial);rw[aT (λe=>by subst e;omega)];rfl
 have hlen:xs.length=ys.length:=by omega
 refine go ?_;refine bi (λk=>xs.length - k) (λk:Nat=>[(5,.int .i64 (k:Int))]) (λ_=>[]) (λ_=>[]) (λk=>k<=xs.length/\xs.take k=ys.take k) 0 ⟨by omega,by simp⟩ (body:=?_);rintro k ⟨hk,hsame⟩;refine go ?_;refine az rfl (λh2=>?_) (λh2=>?_)
 ·refine go ?_;refine aZ (aj aa) (xs:=xs) (next:=λ_ _ x (_:Value) hx=>?_);refine go ?_;refine aZ (aj aa) (xs:=ys) (next:=λ_ _ y (_:Value) hy=>?_);refine go ?_;refine ax (UF (xs:=x) (ys:=y) (hll x (bI hx))) (next:=λ_ _=>?_);refine go ?_;refine eO rfl (λh3=>?_) (λh3=>?_)
  ·refine go ?_;refine ae () (hv:=?_) (hp:=trivial);rw[aT (λe=>by subst e;rw[hx]at hy;exact h3 (Option.some.inj hy))];rfl
  refine go ?_;refine aQ (k+1) (by omega) ⟨by omega,?_⟩;rw[bX hx,bX hy,hsame,h3]
 have:k=xs.length:=by omega
 subst this;refine go ?_;refine ae () (hv:=?_) (hp:=trivial);rw[bK,hlen,bK]at hsame;rw[dZ hsame];rfl
theorem afZ{x y:aS}{v1 v2 u1 u2:Value}(hl:x.names.length<9223372036854775808)(hll:x.others.length<9223372036854775808):dG Tryz.prog 140 [.agg ⟨iM x v1 v2⟩,.agg ⟨iM y u1 u2⟩] [ah aR v1 x.names,ah aR v2 x.others,ah aR u1 y.names,ah aR u2 y.others] (.bool (decide (x=y))):=by
 obtain⟨n1,o1,k1,f1,uF,os1,s1,t1,p1,m1,y1,c1⟩:=x;obtain⟨n2,o2,k2,f2,BJ,os2,s2,t2,p2,m2,y2,c2⟩:=y;dsimp only[iM]at hl hll⊢;refine aK _ (aP 140) λB w0=>?_;refine go ?_;intro b2 b3;refine go ?_;first|with_reducible refine aL (λh1=>?_) (λh1=>?_)|with_reducible refine aO (λh1=>?_) (λh1=>?_)|with_reducible refine aM (λh1=>?_) (λh1=>?_)
 ·rw[dU]at h1;have h1:=mI h1;refine go ?_;refine ae () (hv:=?_) (hp:=trivial);rw[aT (λe=>h1 (by cases e;rfl))];rfl
 rw[dU]at h1;have h1:=gQ h1;refine go ?_;first|with_reducible refine aL (λh2=>?_) (λh2=>?_)|with_reducible refine aO (λh2=>?_) (λh2=>?_)|with_reducible refine aM (λh2=>?_) (λh2=>?_)
 ·rw[dU]at h2;have h2:=mI h2;refine go ?_;refine ae () (hv:=?_) (hp:=trivial);rw[aT (λe=>h2 (by cases e;rfl))];rfl
 rw[dU]at h2;have h2:=gQ h2;refine go ?_;first|with_reducible refine aL (λh3=>?_) (λh3=>?_)|with_reducible refine aO (λh3=>?_) (λh3=>?_)|with_reducible refine aM (λh3=>?_) (λh3=>?_)
 ·refine go ?_;refine ae () (hv:=?_) (hp:=trivial);rw[aT (λe=>h3 (by cases e;rfl))];rfl
 refine go ?_;first|with_reducible refine aL (λh4=>?_) (λh4=>?_)|with_reducible refine aO (λh4=>?_) (λh4=>?_)|with_reducible refine aM (λh4=>?_) (λh4=>?_)
 ·refine go ?_;refine ae () (hv:=?_) (hp:=trivial);rw[aT (λe=>h4 (by cases e;rfl))];rfl
 refine go ?_;refine ax (UG (xs:=uF) (ys:=BJ) hl) (next:=λ_ _=>?_);refine go ?_;first|with_reducible refine aL (λh5=>?_) (λh5=>?_)|with_reducible refine aO (λh5=>?_) (λh5=>?_)|with_reducible refine aM (λh5=>?_) (λh5=>?_)
 ·refine go ?_;refine ae () (hv:=?_) (hp:=trivial);rw[aT (λe=>h5 (by cases e;rfl))];rfl
 refine go ?_;refine ax (UG (xs:=os1) (ys:=os2) hll) (next:=λ_ _=>?_);refine go ?_;first|with_reducible refine aL (λh6=>?_) (λh6=>?_)|with_reducible refine aO (λh6=>?_) (λh6=>?_)|with_reducible refine aM (λh6=>?_) (λh6=>?_)
 ·refine go ?_;refine ae () (hv:=?_) (hp:=trivial);rw[aT (λe=>h6 (by cases e;rfl))];rfl
 refine go ?_;first|with_reducible refine aL (λh7=>?_) (λh7=>?_)|with_reducible refine aO (λh7=>?_) (λh7=>?_)|with_reducible refine aM (λh7=>?_) (λh7=>?_)
 ·refine go ?_;refine ae () (hv:=?_) (hp:=trivial);rw[aT (λe=>h7 (by cases e;rfl))];rfl
 refine go ?_;first|with_reducible refine aL (λh8=>?_) (λh8=>?_)|with_reducible refine aO (λh8=>?_) (λh8=>?_)|with_reducible refine aM (λh8=>?_) (λh8=>?_)
 ·refine go ?_;refine ae () (hv:=?_) (hp:=trivial);rw[aT (λe=>h8 (by cases e;rfl))];rfl
 refine go ?_;first|with_reducible refine aL (λh9=>?_) (λh9=>?_)|with_reducible refine aO (λh9=>?_) (λh9=>?_)|with_reducible refine aM (λh9=>?_) (λh9=>?_)
 ·refine go ?_;refine ae () (hv:=?_) (hp:=trivial);rw[aT (λe=>h9 (by cases e;rfl))];rfl
 refine go ?_;first|with_reducible refine aL (λh10=>?_) (λh10=>?_)|with_reducible refine aO (λh10=>?_) (λh10=>?_)|with_reducible refine aM (λh10=>?_) (λh10=>?_)
 ·refine go ?_;refine ae () (hv:=?_) (hp:=trivial);rw[aT (λe=>h10 (by cases e;rfl))];rfl
 refine go ?_;first|with_reducible refine aL (λh11=>?_) (λh11=>?_)|with_reducible refine aO (λh11=>?_) (λh11=>?_)|with_reducible refine aM (λh11=>?_) (λh11=>?_)
 ·rw[dU]at h11;have h11:=mI h11;refine go ?_;refine ae () (hv:=?_) (hp:=trivial);rw[aT (λe=>h11 (by cases e;rfl))];rfl
 rw[dU]at h11;have h11:=gQ h11;refine go ?_;refine ae () (hv:=?_) (hp:=trivial);subst h1 h2 h3 h4 h5 h6 h7 h8 h9 h10 h11;rw[show decide (aS.mk n1 o1 k1 f1 uF os1 s1 t1 p1 m1 y1 c1=aS.mk n1 o1 k1 f1 uF os1 s1 t1 p1 m1 y1 c2)=decide (c1=c2)from og.2 ⟨λh=>by cases h;rfl,λh=>by rw[h]⟩];rfl
theorem af0{x y:aS}{v1 v2 u1 u2:Value}(hl:x.names.length<9223372036854775808)(hll:x.others.length<9223372036854775808):dG Tryz.prog 174 [.agg ⟨iM x v1 v2⟩,.agg ⟨iM y u1 u2⟩] [ah aR v1 x.names,ah aR v2 x.others,ah aR u1 y.names,ah aR u2 y.others] (.bool (decide (x=y))):=by
 obtain⟨n1,o1,k1,f1,uF,os1,s1,t1,p1,m1,y1,c1⟩:=x;obtain⟨n2,o2,k2,f2,BJ,os2,s2,t2,p2,m2,y2,c2⟩:=y;dsimp only[iM]at hl hll⊢;refine aK _ (aP 174) λB w0=>?_;refine go ?_;intro b2 b3;refine go ?_;first|with_reducible refine aL (λh1=>?_) (λh1=>?_)|with_reducible refine aO (λh1=>?_) (λh1=>?_)|with_reducible refine aM (λh1=>?_) (λh1=>?_)
 ·rw[dU]at h1;have h1:=mI h1;refine go ?_;refine ae () (hv:=?_) (hp:=trivial);rw[aT (λe=>h1 (by cases e;rfl))];rfl
 rw[dU]at h1;have h1:=gQ h1;refine go ?_;first|with_reducible refine aL (λh2=>?_) (λh2=>?_)|with_reducible refine aO (λh2=>?_) (λh2=>?_)|with_reducible refine aM (λh2=>?_) (λh2=>?_)
 ·rw[dU]at h2;have h2:=mI h2;refine go ?_;refine ae () (hv:=?_) (hp:=trivial);rw[aT (λe=>h2 (by cases e;rfl))];rfl
 rw[dU]at h2;have h2:=gQ h2;refine go ?_;first|with_reducible refine aL (λh3=>?_) (λh3=>?_)|with_reducible refine aO (λh3=>?_) (λh3=>?_)|with_reducible refine aM (λh3=>?_) (λh3=>?_)
 ·rw[dU]at h3;have h3:=mI h3;refine go ?_;refine ae () (hv:=?_) (hp:=trivial);rw[aT (λe=>h3 (by cases e;rfl))];rfl
 rw[dU]at h3;have h3:=gQ h3;refine go ?_;refine ax (UH (xs:=uF) (ys:=BJ) hl) (next:=λ_ _=>?_);refine go ?_;first|with_reducible refine aL (λh4=>?_) (λh4=>?_)|with_reducible refine aO (λh4=>?_) (λh4=>?_)|with_reducible refine aM (λh4=>?_) (λh4=>?_)
 ·refine go ?_;refine ae () (hv:=?_) (hp:=trivial);rw[aT (λe=>h4 (by cases e;rfl))];rfl
 refine go ?_;refine ax (UH (xs:=os1) (ys:=os2) hll) (next:=λ_ _=>?_);refine go ?_;first|with_reducible refine aL (λh5=>?_) (λh5=>?_)|with_reducible refine aO (λh5=>?_) (λh5=>?_)|with_reducible refine aM (λh5=>?_) (λh5=>?_)
 ·refine go ?_;refine ae () (hv:=?_) (hp:=trivial);rw[aT (λe=>h5 (by cases e;rfl))];rfl
 refine go ?_;first|with_reducible refine aL (λh6=>?_) (λh6=>?_)|with_reducible refine aO (λh6=>?_) (λh6=>?_)|with_reducible refine aM (λh6=>?_) (λh6=>?_)
 ·refine go ?_;refine ae () (hv:=?_) (hp:=trivial);rw[aT (λe=>h6 (by cases e;rfl))];rfl
 refine go ?_;first|with_reducible refine aL (λh7=>?_) (λh7=>?_)|with_reducible refine aO (λh7=>?_) (λh7=>?_)|with_reducible refine aM (λh7=>?_) (λh7=>?_)
 ·refine go ?_;refine ae () (hv:=?_) (hp:=trivial);rw[aT (λe=>h7 (by cases e;rfl))];rfl
 refine go ?_;first|with_reducible refine aL (λh8=>?_) (λh8=>?_)|with_reducible refine aO (λh8=>?_) (λh8=>?_)|with_reducible refine aM (λh8=>?_) (λh8=>?_)
 ·refine go ?_;refine ae () (hv:=?_) (hp:=trivial);rw[aT (λe=>h8 (by cases e;rfl))];rfl
 refine go ?_;first|with_reducible refine aL (λh9=>?_) (λh9=>?_)|with_reducible refine aO (λh9=>?_) (λh9=>?_)|with_reducible refine aM (λh9=>?_) (λh9=>?_)
 ·refine go ?_;refine ae () (hv:=?_) (hp:=trivial);rw[aT (λe=>h9 (by cases e;rfl))];rfl
 refine go ?_;first|with_reducible refine aL (λh10=>?_) (λh10=>?_)|with_reducible refine aO (λh10=>?_) (λh10=>?_)|with_reducible refine aM (λh10=>?_) (λh10=>?_)
 ·refine go ?_;refine ae () (hv:=?_) (hp:=trivial);rw[aT (λe=>h10 (by cases e;rfl))];rfl
 refine go ?_;first|with_reducible refine aL (λh11=>?_) (λh11=>?_)|with_reducible refine aO (λh11=>?_) (λh11=>?_)|with_reducible refine aM (λh11=>?_) (λh11=>?_)
 ·refine go ?_;refine ae () (hv:=?_) (hp:=trivial);rw[aT (λe=>h11 (by cases e;rfl))];rfl
 refine go ?_;refine ae () (hv:=?_) (hp:=trivial);subst h1 h2 h3 h4 h5 h6 h7 h8 h9 h10 h11;rw[show decide (aS.mk n1 o1 k1 f1 uF os1 s1 t1 p1 m1 y1 c1=aS.mk n1 o1 k1 f1 uF os1 s1 t1 p1 m1 y1 c2)=decide (c1=c2)from og.2 ⟨λh=>by cases h;rfl,λh=>by rw[h]⟩];rfl
theorem af1{x y:bq}{h1 c1 h2 c2:Value}(hS:pK x):dG Tryz.prog 97 [.agg ⟨iI x h1 c1⟩,.agg ⟨iI y h2 c2⟩] [ah aa h1 x.holes,ah aa c1 x.cells,ah aa h2 y.holes,ah aa c2 y.cells] (.bool (decide (x=y))):=by
 have e2:=hS.holes;have e3:=hS.cells;clear hS;obtain⟨xs,xw,xh,zR,zS⟩:=x;obtain⟨ys,yw,yh,M5,EE⟩:=y;dsimp only[iI]at e2 e3⊢;refine aK _ (aP 97) λB w0=>?_;refine go ?_;intro b2 b3;refine go ?_;first|with_reducible refine aL (λk1=>?_) (λk1=>?_)|with_reducible refine aO (λk1=>?_) (λk1=>?_)|with_reducible refine aM (λk1=>?_) (λk1=>?_)
 ·refine go ?_;refine ae () (hv:=?_) (hp:=trivial);rw[aT (λe=>k1 (by cases e;rfl))];rfl
 refine go ?_;first|with_reducible refine aL (λk2=>?_) (λk2=>?_)|with_reducible refine aO (λk2=>?_) (λk2=>?_)|with_reducible refine aM (λk2=>?_) (λk2=>?_)
 ·refine go ?_;refine ae () (hv:=?_) (hp:=trivial);rw[aT (λe=>k2 (by cases e;rfl))];rfl
 refine go ?_;first|with_reducible refine aL (λk3=>?_) (λk3=>?_)|with_reducible refine aO (λk3=>?_) (λk3=>?_)|with_reducible refine aM (λk3=>?_) (λk3=>?_)
 ·refine go ?_;refine ae () (hv:=?_) (hp:=trivial);rw[aT (λe=>k3 (by cases e;rfl))];rfl
 refine go ?_;refine ax (BX (xs:=zR) (ys:=M5) (by omega)) (next:=λ_ _=>?_);refine go ?_;first|with_reducible refine aL (λk4=>?_) (λk4=>?_)|with_reducible refine aO (λk4=>?_) (λk4=>?_)|with_reducible refine aM (λk4=>?_) (λk4=>?_)
 ·refine go ?_;refine ae () (hv:=?_) (hp:=trivial);rw[aT (λe=>k4 (by cases e;rfl))];rfl
 refine go ?_;refine ax (BX (xs:=zS) (ys:=EE) (by omega)) (next:=λ_ _=>?_);refine go ?_;refine ae () (hv:=?_) (hp:=trivial);subst k1 k2 k3 k4;rw[show decide (bq.mk xs xw xh zR zS=bq.mk xs xw xh zR EE)=decide (zS=EE)from og.2 ⟨λh=>by cases h;rfl,λh=>by rw[h]⟩];rfl
theorem af2{x y:lS}{vx vy:Value}(hl:x.lists.length<9223372036854775808)(hll:∀l∈x.lists,l.length<9223372036854775808):dG Tryz.prog 139 [.agg ⟨[.string x.name,vx]⟩,.agg ⟨[.string y.name,vy]⟩] [ah (aj aa) vx x.lists,ah (aj aa) vy y.lists] (.bool (decide (x=y))):=by
 obtain⟨n1,xs⟩:=x;obtain⟨n2,ys⟩:=y;dsimp only at hl hll⊢;refine aK _ (aP 139) λB w0=>?_;refine aV (E:=aj aa) (v:=vx) (xs:=xs) (by simp) λa1 c1 e1=>?_;subst e1;refine aV (E:=aj aa) (v:=vy) (xs:=ys) (by simp) λa2 c2 e2=>?_;subst e2;refine go ?_;intro b2 b3;refine go ?_;refine aM (λk1=>?_) (λk1=>?_)
 rotate_left
 ·rw[dU]at k1;have k1:¬n1=n2:=by simpa using k1
  refine go ?_;refine ae () (hv:=?_) (hp:=trivial);rw[aT (λe=>k1 (by cases e;rfl))];rfl
 rw[dU]at k1;have k1:n1=n2:=by simpa using k1
 subst k1;have hdd:decide (lS.mk n1 xs=lS.mk n1 ys)=decide (xs=ys):=og.2 ⟨λh=>by cases h;rfl,λh=>by rw[h]⟩;rw[hdd];refine go ?_;refine az rfl (λh1=>?_) (λh1=>?_)
 ·refine go ?_;refine ae () (hv:=?_) (hp:=trivial);rw[aT (λe=>by subst e;omega)];rfl
 have hlen:xs.length=ys.length:=by omega
 refine go ?_;refine bi (λk=>xs.length - k) (λk:Nat=>[(5,.int .i64 (k:Int))]) (λ_=>[]) (λ_=>[]) (λk=>k<=xs.length/\xs.take k=ys.take k) 0 ⟨by omega,by simp⟩ (body:=?_);rintro k ⟨hk,hsame⟩;refine go ?_;refine az rfl (λh2=>?_) (λh2=>?_)
 ·refine go ?_;refine aZ (aj aa) (xs:=xs) (next:=λ_ _ x (_:Value) hx=>?_);refine go ?_;refine aZ (aj aa) (xs:=ys) (next:=λ_ _ y (_:Value) hy=>?_);refine go ?_;refine ax (UE (xs:=x) (ys:=y) (hll x (bI hx))) (next:=λ_ _=>?_);refine go ?_;refine eO rfl (λh3=>?_) (λh3=>?_)
  ·refine go ?_;refine ae () (hv:=?_) (hp:=trivial);rw[aT (λe=>by subst e;rw[hx]at hy;exact h3 (Option.some.inj hy))];rfl
  refine go ?_;refine aQ (k+1) (by omega) ⟨by omega,?_⟩;rw[bX hx,bX hy,hsame,h3]
 have:k=xs.length:=by omega
 subst this;refine go ?_;refine ae () (hv:=?_) (hp:=trivial);rw[bK,hlen,bK]at hsame;rw[dZ hsame];rfl
theorem af3{x y:bD}{h1 s1 r1 c1 u1 h2 s2 r2 c2 u2:Value}(hS:lX x):dG Tryz.prog 96 [.agg ⟨gq x h1 s1 r1 c1 u1⟩,.agg ⟨gq y h2 s2 r2 c2 u2⟩] (kG x h1 s1 r1 c1 u1++kG y h2 s2 r2 c2 u2) (.bool (decide (x=y))):=by
 have e1:=hS.dO;have e2:=hS.regs;have e3:=hS.jk;have e4:=hS.kg;have e5:=hS.qx;have e6:=hS.holes;have e7:=hS.qy;clear hS;obtain⟨fs1,hu1,Nr⟩:=Ml;obtain⟨IR,hu2,hrow2⟩:=Mm;obtain⟨n1,v1,p1,w1,g1,ho1,lY,lu,lZ,lC⟩:=x;obtain⟨n2,v2,p2,w2,g2,ho2,pI,oJ,pJ,oK⟩:=y;dsimp only at e1 e2 e3 e4 e5 e6 e7;dsimp only[gq,kG,List.cons_append,List.nil_append];refine aK _ (aP 96) λB w0=>?_;refine aV (E:=fA) (v:=s1) (xs:=lY) (by simp) λlF cs1 es=>?_;subst es;refine aV (E:=fA) (v:=s2) (xs:=pI) (by simp) λas2 cs2 es=>?_;subst es;refine aV (E:=ed) (v:=r1) (xs:=lu) (by simp) λar1 cr1 es=>?_;subst es;refine aV (E:=ed) (v:=r2) (xs:=oJ) (by simp) λar2 cr2 es=>?_;subst es;refine aV (E:=bJ) (v:=c1) (xs:=lZ) (by simp) λac1 cc1 es=>?_;subst es;refine aV (E:=bJ) (v:=c2) (xs:=pJ) (by simp) λac2 cc2 es=>?_;subst es;refine aV (E:=aY) (v:=u1) (xs:=lC) (by simp) λau1 cu1 es=>?_;subst es;refine aV (E:=aY) (v:=u2) (xs:=oK) (by simp) λau2 cu2 es=>?_;subst es;refine go ?_;intro b2 b3;refine go ?_;refine aM (λk1=>?_) (λk1=>?_)
 rotate_left
 ·rw[dU]at k1;have k1:¬n1=n2:=by simpa using k1
  refine go ?_;refine ae () (hv:=?_) (hp:=trivial);rw[aT (λe=>k1 (by cases e;rfl))];rfl
 rw[dU]at k1;have k1:n1=n2:=by simpa using k1
 refine go ?_;first|with_reducible refine aL (λk2=>?_) (λk2=>?_)|with_reducible refine aO (λk2=>?_) (λk2=>?_)|with_reducible refine aM (λk2=>?_) (λk2=>?_)
 rotate_left
 ·refine go ?_;refine ae () (hv:=?_) (hp:=trivial);rw[aT (λe=>k2 (by cases e;rfl))];rfl
 refine go ?_;first|with_reducible refine aL (λk3=>?_) (λk3=>?_)|with_reducible refine aO (λk3=>?_) (λk3=>?_)|with_reducible refine aM (λk3=>?_) (λk3=>?_)
 rotate_left
 ·refine go ?_;refine ae () (hv:=?_) (hp:=trivial);rw[aT (λe=>k3 (by cases e;rfl))];rfl
 refine go ?_;first|with_reducible refine aL (λk4=>?_) (λk4=>?_)|with_reducible refine aO (λk4=>?_) (λk4=>?_)|with_reducible refine aM (λk4=>?_) (λk4=>?_)
 rotate_left
 ·refine go ?_;refine ae () (hv:=?_) (hp:=trivial);rw[aT (λe=>k4 (by cases e;rfl))];rfl
 refine go ?_;first|with_reducible refine aL (λk5=>?_) (λk5=>?_)|with_reducible refine aO (λk5=>?_) (λk5=>?_)|with_reducible refine aM (λk5=>?_) (λk5=>?_)
 rotate_left
 ·refine go ?_;refine ae () (hv:=?_) (hp:=trivial);rw[aT (λe=>k5 (by cases e;rfl))];rfl
 refine go ?_;refine ax (UE (xs:=ho1) (ys:=ho2) e6) (next:=λ_ _=>?_);refine go ?_;refine aO (λk6=>?_) (λk6=>?_)
 rotate_left
 ·refine go ?_;refine ae () (hv:=?_) (hp:=trivial);rw[aT (λe=>k6 (by cases e;rfl))];rfl
 refine go ?_;first|with_reducible refine aL (λk7=>?_) (λk7=>?_)|with_reducible refine aO (λk7=>?_) (λk7=>?_)|with_reducible refine aM (λk7=>?_) (λk7=>?_)
 rotate_left
 ·refine go ?_;refine ae () (hv:=?_) (hp:=trivial);rw[aT (λe=>k7 (by cases e;rfl))];rfl
 refine go ?_;first|with_reducible refine aL (λk8=>?_) (λk8=>?_)|with_reducible refine aO (λk8=>?_) (λk8=>?_)|with_reducible refine aM (λk8=>?_) (λk8=>?_)
 rotate_left
 ·refine go ?_;refine ae () (hv:=?_) (hp:=trivial);rw[aT (λe=>k8 (by cases e;rfl))];rfl
 refine go ?_;first|with_reducible refine aL (λk9=>?_) (λk9=>?_)|with_reducible refine aO (λk9=>?_) (λk9=>?_)|with_reducible refine aM (λk9=>?_) (λk9=>?_)
 rotate_left
 ·refine go ?_;refine ae () (hv:=?_) (hp:=trivial);rw[aT (λe=>k9 (by cases e;rfl))];rfl
 refine go ?_;refine az rfl (λk10=>?_) (λk10=>?_)
 ·refine go ?_;refine ae () (hv:=?_) (hp:=trivial);rw[aT (λe=>k10 (by cases e;rfl))];rfl
 have l1:lY.length=pI.length:=by omega
 have l2:lu.length=oJ.length:=by omega
 have l3:lZ.length=pJ.length:=by omega
 have l4:lC.length=oK.length:=by omega
 refine go ?_;refine bi (λk=>lY.length - k) (λk:Nat=>[(5,.int .i64 (k:Int))]) (λ_=>[]) (λ_=>[]) (λk=>k<=lY.length/\lY.take k=pI.take k) 0 ⟨by omega,by simp⟩ (body:=?_);rintro k ⟨hk,hsame⟩;refine go ?_;refine az rfl (λh2=>?_) (λh2=>?_)
 ·refine go ?_;refine aZ fA (xs:=lY) (next:=λ_ _ x (_:Unit) hx=>?_);refine go ?_;refine aZ fA (xs:=pI) (next:=λ_ _ y (_:Unit) hy=>?_);refine go ?_;refine(fJ (v:=.bool (!decide (x=y))) rfl rfl (by rw[<- Mj];exact Bt rfl rfl hu1 (by kernel_rfl) (by kernel_rfl) (row_of Nr rfl rfl (λj=>by rw[fw]) (λj=>by rw[fw])) (by simp[fE,bQ,Ideal.cellV]) (by simp[fE,bQ,Ideal.cellV]))).h ?_;refine go ?_;refine eO rfl (λh3=>?_) (λh3=>?_)
  ·refine go ?_;refine ae () (hv:=?_) (hp:=trivial);rw[aT (λe=>by cases e;rw[hx]at hy;exact h3 (Option.some.inj hy))];rfl
  refine go ?_;refine aQ (k+1) (by omega) ⟨by omega,?_⟩;rw[bX hx,bX hy,hsame,h3]
 have hkl:k=lY.length:=by omega
 subst hkl;rw[bK,l1,bK]at hsame;have m1:=hsame;clear hsame hk h2;refine go ?_;refine bi (λk=>lu.length - k) (λk:Nat=>[(6,.int .i64 (k:Int))]) (λ_=>[]) (λ_=>[]) (λk=>k<=lu.length/\lu.take k=oJ.take k) 0 ⟨by omega,by simp⟩ (body:=?_);rintro k ⟨hk,hsame⟩;refine go ?_;refine az rfl (λh2=>?_) (λh2=>?_)
 ·refine go ?_;refine aZ ed (xs:=lu) (next:=λ_ _ x (vx:Value) hx=>?_);have hxl:=e7 x (bI hx);refine go ?_;refine aZ ed (xs:=oJ) (next:=λ_ _ y (vy:Value) hy=>?_);refine go ?_;refine ax (af2 (x:=x) (y:=y) (vx:=vx) (vy:=vy) hxl.1 hxl.2) (next:=λ_ _=>?_);refine go ?_;refine eO rfl (λh3=>?_) (λh3=>?_)
  ·refine go ?_;refine ae () (hv:=?_) (hp:=trivial);rw[aT (λe=>by cases e;rw[hx]at hy;exact h3 (Option.some.inj hy))];rfl
  refine go ?_;refine aQ (k+1) (by omega) ⟨by omega,?_⟩;rw[bX hx,bX hy,hsame,h3]
 have hkl:k=lu.length:=by omega
 subst hkl;rw[bK,l2,bK]at hsame;have m2:=hsame;clear hsame hk h2;refine go ?_;refine bi (λk=>lZ.length - k) (λk:Nat=>[(7,.int .i64 (k:Int))]) (λ_=>[]) (λ_=>[]) (λk=>k<=lZ.length/\lZ.take k=pJ.take k) 0 ⟨by omega,by simp⟩ (body:=?_);rintro k ⟨hk,hsame⟩;refine go ?_;refine az rfl (λh2=>?_) (λh2=>?_)
 ·refine go ?_;refine aZ bJ (xs:=lZ) (next:=λ_ _ x (_:Unit) hx=>?_);refine go ?_;refine aZ bJ (xs:=pJ) (next:=λ_ _ y (_:Unit) hy=>?_);refine go ?_;refine(fJ (v:=.bool (!decide (x=y))) rfl rfl (by rw[<- Mk];exact Bt rfl rfl hu2 (by kernel_rfl) (by kernel_rfl) (row_of hrow2 rfl rfl (λj=>by rw[fw]) (λj=>by rw[fw])) (by simp[fE,bQ,Ideal.cellV]) (by simp[fE,bQ,Ideal.cellV]))).h ?_;refine go ?_;refine eO rfl (λh3=>?_) (λh3=>?_)
  ·refine go ?_;refine ae () (hv:=?_) (hp:=trivial);rw[aT (λe=>by cases e;rw[hx]at hy;exact h3 (Option.some.inj hy))];rfl
  refine go ?_;refine aQ (k+1) (by omega) ⟨by omega,?_⟩;rw[bX hx,bX hy,hsame,h3]
 have hkl:k=lZ.length:=by omega
 subst hkl;rw[bK,l3,bK]at hsame;have m3:=hsame;clear hsame hk h2;refine go ?_;refine bi (λk=>lC.length - k) (λk:Nat=>[(8,.int .i64 (k:Int))]) (λ_=>[]) (λ_=>[]) (λk=>k<=lC.length/\lC.take k=oK.take k) 0 ⟨by omega,by simp⟩ (body:=?_);rintro k ⟨hk,hsame⟩;refine go ?_;refine az rfl (λh2=>?_) (λh2=>?_)
 ·refine go ?_;refine aZ aY (xs:=lC) (next:=λ_ _ x (vx:Value×Value) hx=>?_);have hxl:=e5 x (bI hx);refine go ?_;refine aZ aY (xs:=oK) (next:=λ_ _ y (vy:Value×Value) hy=>?_);refine go ?_;refine ax (afZ (x:=x) (y:=y) (v1:=vx.1) (v2:=vx.2) (u1:=vy.1) (u2:=vy.2) hxl.1 hxl.2) (next:=λ_ _=>?_);refine go ?_;refine eO rfl (λh3=>?_) (λh3=>?_)
  ·refine go ?_;refine ae () (hv:=?_) (hp:=trivial);rw[aT (λe=>by cases e;rw[hx]at hy;exact h3 (Option.some.inj hy))];rfl
  refine go ?_;refine aQ (k+1) (by omega) ⟨by omega,?_⟩;rw[bX hx,bX hy,hsame,h3]
 have hkl:k=lC.length:=by omega
 subst hkl;rw[bK,l4,bK]at hsame;have m4:=hsame;clear hsame hk h2;refine go ?_;refine ae () (hv:=?_) (hp:=trivial);rw[dZ (show bD.mk n1 v1 p1 w1 g1 ho1 lY lu lZ lC=bD.mk n2 v2 p2 w2 g2 ho2 pI oJ pJ oK from by rw[k1,iK.1 k2,iK.1 k3,iK.1 k4,iK.1 k5,k6,m1,m2,m3,m4])];rfl
theorem agj{x y:bD}{h1 s1 r1 c1 u1 h2 s2 r2 c2 u2:Value}(hS:lX x):dG Tryz.prog 127 [.agg ⟨gq x h1 s1 r1 c1 u1⟩,.agg ⟨gq y h2 s2 r2 c2 u2⟩] (kG x h1 s1 r1 c1 u1++kG y h2 s2 r2 c2 u2) (.bool (decide (x=y))):=by
 have e1:=hS.dO;have e2:=hS.regs;have e3:=hS.jk;have e4:=hS.kg;have e5:=hS.qx;have e6:=hS.holes;have e7:=hS.qy;clear hS;obtain⟨fs1,hu1,Nr⟩:=Ml;obtain⟨IR,hu2,hrow2⟩:=Mm;obtain⟨n1,v1,p1,w1,g1,ho1,lY,lu,lZ,lC⟩:=x;obtain⟨n2,v2,p2,w2,g2,ho2,pI,oJ,pJ,oK⟩:=y;dsimp only at e1 e2 e3 e4 e5 e6 e7;dsimp only[gq,kG,List.cons_append,List.nil_append];refine aK _ (aP 127) λB w0=>?_;refine aV (E:=fA) (v:=s1) (xs:=lY) (by simp) λlF cs1 es=>?_;subst es;refine aV (E:=fA) (v:=s2) (xs:=pI) (by simp) λas2 cs2 es=>?_;subst es;refine aV (E:=ed) (v:=r1) (xs:=lu) (by simp) λar1 cr1 es=>?_;subst es;refine aV (E:=ed) (v:=r2) (xs:=oJ) (by simp) λar2 cr2 es=>?_;subst es;refine aV (E:=bJ) (v:=c1) (xs:=lZ) (by simp) λac1 cc1 es=>?_;subst es;refine aV (E:=bJ) (v:=c2) (xs:=pJ) (by simp) λac2 cc2 es=>?_;subst es;refine aV (E:=aY) (v:=u1) (xs:=lC) (by simp) λau1 cu1 es=>?_;subst es;refine aV (E:=aY) (v:=u2) (xs:=oK) (by simp) λau2 cu2 es=>?_;subst es;refine go ?_;intro b2 b3;refine go ?_;refine aM (λk1=>?_) (λk1=>?_)
 rotate_left
 ·rw[dU]at k1;have k1:¬n1=n2:=by simpa using k1
  refine go ?_;refine ae () (hv:=?_) (hp:=trivial);rw[aT (λe=>k1 (by cases e;rfl))];rfl
 rw[dU]at k1;have k1:n1=n2:=by simpa using k1
 refine go ?_;first|with_reducible refine aL (λk2=>?_) (λk2=>?_)|with_reducible refine aO (λk2=>?_) (λk2=>?_)|with_reducible refine aM (λk2=>?_) (λk2=>?_)
 rotate_left
 ·refine go ?_;refine ae () (hv:=?_) (hp:=trivial);rw[aT (λe=>k2 (by cases e;rfl))];rfl
 refine go ?_;first|with_reducible refine aL (λk3=>?_) (λk3=>?_)|with_reducible refine aO (λk3=>?_) (λk3=>?_)|with_reducible refine aM (λk3=>?_) (λk3=>?_)
 rotate_left
 ·refine go ?_;refine ae () (hv:=?_) (hp:=trivial);rw[aT (λe=>k3 (by cases e;rfl))];rfl
 refine go ?_;first|with_reducible refine aL (λk4=>?_) (λk4=>?_)|with_reducible refine aO (λk4=>?_) (λk4=>?_)|with_reducible refine aM (λk4=>?_) (λk4=>?_)
 rotate_left
 ·refine go ?_;refine ae () (hv:=?_) (hp:=trivial);rw[aT (λe=>k4 (by cases e;rfl))];rfl
 refine go ?_;first|with_reducible refine aL (λk5=>?_) (λk5=>?_)|with_reducible refine aO (λk5=>?_) (λk5=>?_)|with_reducible refine aM (λk5=>?_) (λk5=>?_)
 rotate_left
 ·refine go ?_;refine ae () (hv:=?_) (hp:=trivial);rw[aT (λe=>k5 (by cases e;rfl))];rfl
 refine go ?_;refine ax (UF (xs:=ho1) (ys:=ho2) e6) (next:=λ_ _=>?_);refine go ?_;refine eO rfl (λk6=>?_) (λk6=>?_)
 ·refine go ?_;refine ae () (hv:=?_) (hp:=trivial);rw[aT (λe=>k6 (by cases e;rfl))];rfl
 refine go ?_;first|with_reducible refine aL (λk7=>?_) (λk7=>?_)|with_reducible refine aO (λk7=>?_) (λk7=>?_)|with_reducible refine aM (λk7=>?_) (λk7=>?_)
 rotate_left
 ·refine go ?_;refine ae () (hv:=?_) (hp:=trivial);rw[aT (λe=>k7 (by cases e;rfl))];rfl
 refine go ?_;first|with_reducible refine aL (λk8=>?_) (λk8=>?_)|with_reducible refine aO (λk8=>?_) (λk8=>?_)|with_reducible refine aM (λk8=>?_) (λk8=>?_)
 rotate_left
 ·refine go ?_;refine ae () (hv:=?_) (hp:=trivial);rw[aT (λe=>k8 (by cases e;rfl))];rfl
 refine go ?_;first|with_reducible refine aL (λk9=>?_) (λk9=>?_)|with_reducible refine aO (λk9=>?_) (λk9=>?_)|with_reducible refine aM (λk9=>?_) (λk9=>?_)
 rotate_left
 ·refine go ?_;refine ae () (hv:=?_) (hp:=trivial);rw[aT (λe=>k9 (by cases e;rfl))];rfl
 refine go ?_;refine az rfl (λk10=>?_) (λk10=>?_)
 ·refine go ?_;refine ae () (hv:=?_) (hp:=trivial);rw[aT (λe=>k10 (by cases e;rfl))];rfl
 have l1:lY.length=pI.length:=by omega
 have l2:lu.length=oJ.length:=by omega
 have l3:lZ.length=pJ.length:=by omega
 have l4:lC.length=oK.length:=by omega
 refine go ?_;refine bi (λk=>lY.length - k) (λk:Nat=>[(5,.int .i64 (k:Int))]) (λ_=>[]) (λ_=>[]) (λk=>k<=lY.length/\lY.take k=pI.take k) 0 ⟨by omega,by simp⟩ (body:=?_);rintro k ⟨hk,hsame⟩;refine go ?_;refine az rfl (λh2=>?_) (λh2=>?_)
 ·refine go ?_;refine aZ fA (xs:=lY) (next:=λ_ _ x (_:Unit) hx=>?_);refine go ?_;refine aZ fA (xs:=pI) (next:=λ_ _ y (_:Unit) hy=>?_);refine go ?_;refine(fJ (v:=.bool (!decide (x=y))) rfl rfl (by rw[<- Mj];exact Bt rfl rfl hu1 (by kernel_rfl) (by kernel_rfl) (row_of Nr rfl rfl (λj=>by rw[fw]) (λj=>by rw[fw])) (by simp[fE,bQ,Ideal.cellV]) (by simp[fE,bQ,Ideal.cellV]))).h ?_;refine go ?_;refine eO rfl (λh3=>?_) (λh3=>?_)
  ·refine go ?_;refine ae () (hv:=?_) (hp:=trivial);rw[aT (λe=>by cases e;rw[hx]at hy;exact h3 (Option.some.inj hy))];rfl
  refine go ?_;refine aQ (k+1) (by omega) ⟨by omega,?_⟩;rw[bX hx,bX hy,hsame,h3]
 have hkl:k=lY.length:=by omega
 subst hkl;rw[bK,l1,bK]at hsame;have m1:=hsame;clear hsame hk h2;refine go ?_;refine bi (λk=>lu.length - k) (λk:Nat=>[(6,.int .i64 (k:Int))]) (λ_=>[]) (λ_=>[]) (λk=>k<=lu.length/\lu.take k=oJ.take k) 0 ⟨by omega,by simp⟩ (body:=?_);rintro k ⟨hk,hsame⟩;refine go ?_;refine az rfl (λh2=>?_) (λh2=>?_)
 ·refine go ?_;refine aZ ed (xs:=lu) (next:=λ_ _ x (vx:Value) hx=>?_);have hxl:=e7 x (bI hx);refine go ?_;refine aZ ed (xs:=oJ) (next:=λ_ _ y (vy:Value) hy=>?_);refine go ?_;refine aM (λj1=>?_) (λj1=>?_)
  rotate_left
  ·rw[dU]at j1;have j1:¬x.name=y.name:=by simpa using j1
   have h3:¬x=y:=λe=>j1 (by rw[e]);refine go ?_;refine ae () (hv:=?_) (hp:=trivial);rw[aT (λe=>by cases e;rw[hx]at hy;exact h3 (Option.some.inj hy))];rfl
  rw[dU]at j1;have j1:x.name=y.name:=by simpa using j1
  refine go ?_;refine aZ ed (xs:=lu) (next:=λ_ _ x' (vx:Value) hx'=>?_);cases hx.symm.trans hx';refine go ?_;refine aZ ed (xs:=oJ) (next:=λ_ _ y' (vy:Value) hy'=>?_);cases hy.symm.trans hy';refine go ?_;refine ax (afY (xs:=x.lists) (ys:=y.lists) hxl.1 hxl.2) (next:=λ_ _=>?_);refine go ?_;refine eO rfl (λh3=>?_) (λh3=>?_)
  ·have h3:¬x=y:=λe=>h3 (by rw[e]);refine go ?_;refine ae () (hv:=?_) (hp:=trivial);rw[aT (λe=>by cases e;rw[hx]at hy;exact h3 (Option.some.inj hy))];rfl
  have h3:x=y:=by
   obtain⟨a,b⟩:=x;obtain⟨c,d⟩:=y;dsimp only at j1 h3;rw[j1,h3]
  refine go ?_;refine aQ (k+1) (by omega) ⟨by omega,?_⟩;rw[bX hx,bX hy,hsame,h3]
 have hkl:k=lu.length:=by omega
 subst hkl;rw[bK,l2,bK]at hsame;have m2:=hsame;clear hsame hk h2;refine go ?_;refine bi (λk=>lZ.length - k) (λk:Nat=>[(7,.int .i64 (k:Int))]) (λ_=>[]) (λ_=>[]) (λk=>k<=lZ.length/\lZ.take k=pJ.take k) 0 ⟨by omega,by simp⟩ (body:=?_);rintro k ⟨hk,hsame⟩;refine go ?_;refine az rfl (λh2=>?_) (λh2=>?_)
 ·refine go ?_;refine aZ bJ (xs:=lZ) (next:=λ_ _ x (_:Unit) hx=>?_);refine go ?_;refine aZ bJ (xs:=pJ) (next:=λ_ _ y (_:Unit) hy=>?_);refine go ?_;refine(fJ (v:=.bool (!decide (x=y))) rfl rfl (by rw[<- Mk];exact Bt rfl rfl hu2 (by kernel_rfl) (by kernel_rfl) (row_of hrow2 rfl rfl (λj=>by rw[fw]) (λj=>by rw[fw])) (by simp[fE,bQ,Ideal.cellV]) (by simp[fE,bQ,Ideal.cellV]))).h ?_;refine go ?_;refine eO rfl (λh3=>?_) (λh3=>?_)
  ·refine go ?_;refine ae () (hv:=?_) (hp:=trivial);rw[aT (λe=>by cases e;rw[hx]at hy;exact h3 (Option.some.inj hy))];rfl
  refine go ?_;refine aQ (k+1) (by omega) ⟨by omega,?_⟩;rw[bX hx,bX hy,hsame,h3]
 have hkl:k=lZ.length:=by omega
 subst hkl;rw[bK,l3,bK]at hsame;have m3:=hsame;clear hsame hk h2;refine go ?_;refine bi (λk=>lC.length - k) (λk:Nat=>[(8,.int .i64 (k:Int))]) (λ_=>[]) (λ_=>[]) (λk=>k<=lC.length/\lC.take k=oK.take k) 0 ⟨by omega,by simp⟩ (body:=?_);rintro k ⟨hk,hsame⟩;refine go ?_;refine az rfl (λh2=>?_) (λh2=>?_)
 ·refine go ?_;refine aZ aY (xs:=lC) (next:=λ_ _ x (vx:Value×Value) hx=>?_);have hxl:=e5 x (bI hx);refine go ?_;refine aZ aY (xs:=oK) (next:=λ_ _ y (vy:Value×Value) hy=>?_);refine go ?_;refine ax (af0 (x:=x) (y:=y) (v1:=vx.1) (v2:=vx.2) (u1:=vy.1) (u2:=vy.2) hxl.1 hxl.2) (next:=λ_ _=>?_);refine go ?_;refine eO rfl (λh3=>?_) (λh3=>?_)
  ·refine go ?_;refine ae () (hv:=?_) (hp:=trivial);rw[aT (λe=>by cases e;rw[hx]at hy;exact h3 (Option.some.inj hy))];rfl
  refine go ?_;refine aQ (k+1) (by omega) ⟨by omega,?_⟩;rw[bX hx,bX hy,hsame,h3]
 have hkl:k=lC.length:=by omega
 subst hkl;rw[bK,l4,bK]at hsame;have m4:=hsame;clear hsame hk h2;refine go ?_;refine ae () (hv:=?_) (hp:=trivial);rw[dZ (show bD.mk n1 v1 p1 w1 g1 ho1 lY lu lZ lC=bD.mk n2 v2 p2 w2 g2 ho2 pI oJ pJ oK from by rw[k1,iK.1 k2,iK.1 k3,iK.1 k4,iK.1 k5,k6,m1,m2,m3,m4])];rfl
