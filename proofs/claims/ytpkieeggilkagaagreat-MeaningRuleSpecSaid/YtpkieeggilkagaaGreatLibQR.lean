/-
  Part LibQR.
-/
import Derived.Test.YtpkieeggilkagaaGreatLibNR
set_option linter.all false
set_option maxRecDepth 10000
set_option maxHeartbeats 4000000
namespace Go.Proofs.YtpkieeggilkagaaGreat
open Go.Ideal Kd
theorem Wq{va vb:Value}{xs ys:List Int}(hl:xs.length<9223372036854775808):bV Tryz.prog 197 [va,vb] [ah aa va xs,ah aa vb ys] (.bool (decide (xs=ys))):=by
 refine aC _ (aF 197) λB w0=>?_;refine aT (E:=aa) (v:=va) (xs:=xs) (by simp) λa1 c1 e1=>?_;subst e1;refine aT (E:=aa) (v:=vb) (xs:=ys) (by simp) λa2 c2 e2=>?_;subst e2;refine go ?_;refine ay rfl (λh1=>?_) (λh1=>?_)
 ·refine go ?_;refine ae () (hv:=?_) (hp:=trivial);rw[aS (λe=>by subst e;omega)];rfl
 have hlen:xs.length=ys.length:=by omega
 refine go ?_;refine aR (λk=>xs.length - k) (λk:Nat=>[(5,.int .i64 (k:Int))]) (λ_=>[]) (λ_=>[]) (λk=>k<=xs.length/\xs.take k=ys.take k) 0 ⟨by omega,by simp⟩ (body:=?_);rintro k ⟨hk,hsame⟩;refine go ?_;refine ay rfl (λh2=>?_) (λh2=>?_)
 ·refine go ?_;intro _ _ x hx _ _ y hy;refine go ?_;refine ay rfl (λh3=>?_) (λh3=>?_)
  rotate_left
  ·have h3:x=y:=gM.1 h3;refine go ?_;refine aD (k+1) (by omega) ⟨by omega,?_⟩;rw[bS hx,bS hy,hsame,h3]
  ·refine go ?_;refine ae () (hv:=?_) (hp:=trivial);rw[aS (λe=>by subst e;rw[hx]at hy;exact h3 (Option.some.inj hy))];rfl
 have:k=xs.length:=by omega
 subst this;refine go ?_;refine ae () (hv:=?_) (hp:=trivial);rw[bC,hlen,bC]at hsame;rw[dQ hsame];rfl
theorem Ws{va vb:Value}{xs ys:List Int}(hl:xs.length<9223372036854775808):bV Tryz.prog 207 [va,vb] [ah aa va xs,ah aa vb ys] (.bool (decide (xs=ys))):=by
 refine aC _ (aF 207) λB w0=>?_;refine aT (E:=aa) (v:=va) (xs:=xs) (by simp) λa1 c1 e1=>?_;subst e1;refine aT (E:=aa) (v:=vb) (xs:=ys) (by simp) λa2 c2 e2=>?_;subst e2;refine go ?_;refine ay rfl (λh1=>?_) (λh1=>?_)
 ·refine go ?_;refine ae () (hv:=?_) (hp:=trivial);rw[aS (λe=>by subst e;omega)];rfl
 have hlen:xs.length=ys.length:=by omega
 refine go ?_;refine aR (λk=>xs.length - k) (λk:Nat=>[(5,.int .i64 (k:Int))]) (λ_=>[]) (λ_=>[]) (λk=>k<=xs.length/\xs.take k=ys.take k) 0 ⟨by omega,by simp⟩ (body:=?_);rintro k ⟨hk,hsame⟩;refine go ?_;refine ay rfl (λh2=>?_) (λh2=>?_)
 ·refine go ?_;intro _ _ x hx _ _ y hy;refine go ?_;refine ay rfl (λh3=>?_) (λh3=>?_)
  rotate_left
  ·have h3:x=y:=gM.1 h3;refine go ?_;refine aD (k+1) (by omega) ⟨by omega,?_⟩;rw[bS hx,bS hy,hsame,h3]
  ·refine go ?_;refine ae () (hv:=?_) (hp:=trivial);rw[aS (λe=>by subst e;rw[hx]at hy;exact h3 (Option.some.inj hy))];rfl
 have:k=xs.length:=by omega
 subst this;refine go ?_;refine ae () (hv:=?_) (hp:=trivial);rw[bC,hlen,bC]at hsame;rw[dQ hsame];rfl
theorem Wt{va vb:Value}{xs ys:List ByteArray}(hl:xs.length<9223372036854775808):bV Tryz.prog 254 [va,vb] [ah bF va xs,ah bF vb ys] (.bool (decide (xs=ys))):=by
 refine aC _ (aF 254) λB w0=>?_;refine aT (E:=bF) (v:=va) (xs:=xs) (by simp) λa1 c1 e1=>?_;subst e1;refine aT (E:=bF) (v:=vb) (xs:=ys) (by simp) λa2 c2 e2=>?_;subst e2;refine go ?_;refine ay rfl (λh1=>?_) (λh1=>?_)
 ·refine go ?_;refine ae () (hv:=?_) (hp:=trivial);rw[aS (λe=>by subst e;omega)];rfl
 have hlen:xs.length=ys.length:=by omega
 refine go ?_;refine aR (λk=>xs.length - k) (λk:Nat=>[(5,.int .i64 (k:Int))]) (λ_=>[]) (λ_=>[]) (λk=>k<=xs.length/\xs.take k=ys.take k) 0 ⟨by omega,by simp⟩ (body:=?_);rintro k ⟨hk,hsame⟩;refine go ?_;refine ay rfl (λh2=>?_) (λh2=>?_)
 ·refine go ?_;refine aU bF (xs:=xs) (next:=λ_ _ x (_:Unit) hx=>?_);refine go ?_;refine aU bF (xs:=ys) (next:=λ_ _ y (_:Unit) hy=>?_);refine go ?_;refine eX (p:=x=y) (by show Value.bool _=_;rw[eO]) (λh3=>?_) (λh3=>?_)
  ·refine go ?_;refine ae () (hv:=?_) (hp:=trivial);rw[aS (λe=>by subst e;rw[hx]at hy;exact h3 (Option.some.inj hy))];rfl
  refine go ?_;refine aD (k+1) (by omega) ⟨by omega,?_⟩;rw[bS hx,bS hy,hsame,h3]
 have:k=xs.length:=by omega
 subst this;refine go ?_;refine ae () (hv:=?_) (hp:=trivial);rw[bC,hlen,bC]at hsame;rw[dQ hsame];rfl
theorem Wu{va vb:Value}{xs ys:List ByteArray}(hl:xs.length<9223372036854775808):bV Tryz.prog 257 [va,vb] [ah bF va xs,ah bF vb ys] (.bool (decide (xs=ys))):=by
 refine aC _ (aF 257) λB w0=>?_;refine aT (E:=bF) (v:=va) (xs:=xs) (by simp) λa1 c1 e1=>?_;subst e1;refine aT (E:=bF) (v:=vb) (xs:=ys) (by simp) λa2 c2 e2=>?_;subst e2;refine go ?_;refine ay rfl (λh1=>?_) (λh1=>?_)
 ·refine go ?_;refine ae () (hv:=?_) (hp:=trivial);rw[aS (λe=>by subst e;omega)];rfl
 have hlen:xs.length=ys.length:=by omega
 refine go ?_;refine aR (λk=>xs.length - k) (λk:Nat=>[(5,.int .i64 (k:Int))]) (λ_=>[]) (λ_=>[]) (λk=>k<=xs.length/\xs.take k=ys.take k) 0 ⟨by omega,by simp⟩ (body:=?_);rintro k ⟨hk,hsame⟩;refine go ?_;refine ay rfl (λh2=>?_) (λh2=>?_)
 ·refine go ?_;refine aU bF (xs:=xs) (next:=λ_ _ x (_:Unit) hx=>?_);refine go ?_;refine aU bF (xs:=ys) (next:=λ_ _ y (_:Unit) hy=>?_);refine go ?_;refine eX (p:=x=y) (by show Value.bool _=_;rw[eO]) (λh3=>?_) (λh3=>?_)
  ·refine go ?_;refine ae () (hv:=?_) (hp:=trivial);rw[aS (λe=>by subst e;rw[hx]at hy;exact h3 (Option.some.inj hy))];rfl
  refine go ?_;refine aD (k+1) (by omega) ⟨by omega,?_⟩;rw[bS hx,bS hy,hsame,h3]
 have:k=xs.length:=by omega
 subst this;refine go ?_;refine ae () (hv:=?_) (hp:=trivial);rw[bC,hlen,bC]at hsame;rw[dQ hsame];rfl
theorem Wv{va vb:Value}{xs ys:List (List Int)}(hl:xs.length<9223372036854775808)(hll:∀l∈xs,l.length<9223372036854775808):bV Tryz.prog 148 [va,vb] [ah (ax aa) va xs,ah (ax aa) vb ys] (.bool (decide (xs=ys))):=by
 refine aC _ (aF 148) λB w0=>?_;refine aT (E:=ax aa) (v:=va) (xs:=xs) (by simp) λa1 c1 e1=>?_;subst e1;refine aT (E:=ax aa) (v:=vb) (xs:=ys) (by simp) λa2 c2 e2=>?_;subst e2;refine go ?_;refine ay rfl (λh1=>?_) (λh1=>?_)
 ·refine go ?_;refine ae () (hv:=?_) (hp:=trivial);rw[aS (λe=>by subst e;omega)];rfl
 have hlen:xs.length=ys.length:=by omega
 refine go ?_;refine aR (λk=>xs.length - k) (λk:Nat=>[(5,.int .i64 (k:Int))]) (λ_=>[]) (λ_=>[]) (λk=>k<=xs.length/\xs.take k=ys.take k) 0 ⟨by omega,by simp⟩ (body:=?_);rintro k ⟨hk,hsame⟩;refine go ?_;refine ay rfl (λh2=>?_) (λh2=>?_)
 ·refine go ?_;refine aU (ax aa) (xs:=xs) (next:=λ_ _ x (_:Value) hx=>?_);refine go ?_;refine aU (ax aa) (xs:=ys) (next:=λ_ _ y (_:Value) hy=>?_);refine go ?_;refine aj (Dp (xs:=x) (ys:=y) (hll x (aP hx))) (next:=λ_ _=>?_);refine go ?_;refine eX rfl (λh3=>?_) (λh3=>?_)
  ·refine go ?_;refine ae () (hv:=?_) (hp:=trivial);rw[aS (λe=>by subst e;rw[hx]at hy;exact h3 (Option.some.inj hy))];rfl
  refine go ?_;refine aD (k+1) (by omega) ⟨by omega,?_⟩;rw[bS hx,bS hy,hsame,h3]
 have:k=xs.length:=by omega
 subst this;refine go ?_;refine ae () (hv:=?_) (hp:=trivial);rw[bC,hlen,bC]at hsame;rw[dQ hsame];rfl
theorem ahR{va vb:Value}{xs ys:List (List Int)}(hl:xs.length<9223372036854775808)(hll:∀l∈xs,l.length<9223372036854775808):bV Tryz.prog 208 [va,vb] [ah (ax aa) va xs,ah (ax aa) vb ys] (.bool (decide (xs=ys))):=by
 refine aC _ (aF 208) λB w0=>?_;refine aT (E:=ax aa) (v:=va) (xs:=xs) (by simp) λa1 c1 e1=>?_;subst e1;refine aT (E:=ax aa) (v:=vb) (xs:=ys) (by simp) λa2 c2 e2=>?_;subst e2;refine go ?_;refine ay rfl (λh1=>?_) (λh1=>?_)
 ·refine go ?_;refine ae () (hv:=?_) (hp:=trivial);rw[aS (λe=>by subst e;omega)];rfl
 have hlen:xs.length=ys.length:=by omega
 refine go ?_;refine aR (λk=>xs.length - k) (λk:Nat=>[(5,.int .i64 (k:Int))]) (λ_=>[]) (λ_=>[]) (λk=>k<=xs.length/\xs.take k=ys.take k) 0 ⟨by omega,by simp⟩ (body:=?_);rintro k ⟨hk,hsame⟩;refine go ?_;refine ay rfl (λh2=>?_) (λh2=>?_)
 ·refine go ?_;refine aU (ax aa) (xs:=xs) (next:=λ_ _ x (_:Value) hx=>?_);refine go ?_;refine aU (ax aa) (xs:=ys) (next:=λ_ _ y (_:Value) hy=>?_);refine go ?_;refine aj (Ws (xs:=x) (ys:=y) (hll x (aP hx))) (next:=λ_ _=>?_);refine go ?_;refine eX rfl (λh3=>?_) (λh3=>?_)
  ·refine go ?_;refine ae () (hv:=?_) (hp:=trivial);rw[aS (λe=>by subst e;rw[hx]at hy;exact h3 (Option.some.inj hy))];rfl
  refine go ?_;refine aD (k+1) (by omega) ⟨by omega,?_⟩;rw[bS hx,bS hy,hsame,h3]
 have:k=xs.length:=by omega
 subst this;refine go ?_;refine ae () (hv:=?_) (hp:=trivial);rw[bC,hlen,bC]at hsame;rw[dQ hsame];rfl
theorem ahS{x y:bB}{v1 v2 u1 u2:Value}(hl:x.names.length<9223372036854775808)(hll:x.others.length<9223372036854775808):bV Tryz.prog 199 [.agg ⟨gY x v1 v2⟩,.agg ⟨gY y u1 u2⟩] [ah bF v1 x.names,ah bF v2 x.others,ah bF u1 y.names,ah bF u2 y.others] (.bool (decide (x=y))):=by
 obtain⟨n1,o1,k1,f1,wh,os1,s1,t1,p1,m1,y1,c1⟩:=x;obtain⟨n2,o2,k2,f2,De,os2,s2,t2,p2,m2,y2,c2⟩:=y;dsimp only[gY]at hl hll⊢;refine aC _ (aF 199) λB w0=>?_;refine go ?_;intro b2 b3;refine go ?_;refine gG (λh1=>?_) (λh1=>?_)
 ·rw[eO]at h1;have h1:=mK h1;refine go ?_;refine ae () (hv:=?_) (hp:=trivial);rw[aS (λe=>h1 (by cases e;rfl))];rfl
 rw[eO]at h1;have h1:=iw h1;refine go ?_;refine gG (λh2=>?_) (λh2=>?_)
 ·rw[eO]at h2;have h2:=mK h2;refine go ?_;refine ae () (hv:=?_) (hp:=trivial);rw[aS (λe=>h2 (by cases e;rfl))];rfl
 rw[eO]at h2;have h2:=iw h2;refine go ?_;refine gG (λh3=>?_) (λh3=>?_)
 ·refine go ?_;refine ae () (hv:=?_) (hp:=trivial);rw[aS (λe=>h3 (by cases e;rfl))];rfl
 refine go ?_;refine gG (λh4=>?_) (λh4=>?_)
 ·refine go ?_;refine ae () (hv:=?_) (hp:=trivial);rw[aS (λe=>h4 (by cases e;rfl))];rfl
 refine go ?_;refine aj (Wt (xs:=wh) (ys:=De) hl) (next:=λ_ _=>?_);refine go ?_;refine gG (λh5=>?_) (λh5=>?_)
 ·refine go ?_;refine ae () (hv:=?_) (hp:=trivial);rw[aS (λe=>h5 (by cases e;rfl))];rfl
 refine go ?_;refine aj (Wt (xs:=os1) (ys:=os2) hll) (next:=λ_ _=>?_);refine go ?_;refine gG (λh6=>?_) (λh6=>?_)
 ·refine go ?_;refine ae () (hv:=?_) (hp:=trivial);rw[aS (λe=>h6 (by cases e;rfl))];rfl
 refine go ?_;refine gG (λh7=>?_) (λh7=>?_)
 ·refine go ?_;refine ae () (hv:=?_) (hp:=trivial);rw[aS (λe=>h7 (by cases e;rfl))];rfl
 refine go ?_;refine gG (λh8=>?_) (λh8=>?_)
 ·refine go ?_;refine ae () (hv:=?_) (hp:=trivial);rw[aS (λe=>h8 (by cases e;rfl))];rfl
 refine go ?_;refine gG (λh9=>?_) (λh9=>?_)
 ·refine go ?_;refine ae () (hv:=?_) (hp:=trivial);rw[aS (λe=>h9 (by cases e;rfl))];rfl
 refine go ?_;refine gG (λh10=>?_) (λh10=>?_)
 ·refine go ?_;refine ae () (hv:=?_) (hp:=trivial);rw[aS (λe=>h10 (by cases e;rfl))];rfl
 refine go ?_;refine gG (λh11=>?_) (λh11=>?_)
 ·rw[eO]at h11;have h11:=mK h11;refine go ?_;refine ae () (hv:=?_) (hp:=trivial);rw[aS (λe=>h11 (by cases e;rfl))];rfl
 rw[eO]at h11;have h11:=iw h11;refine go ?_;refine ae () (hv:=?_) (hp:=trivial);subst h1 h2 h3 h4 h5 h6 h7 h8 h9 h10 h11;rw[show decide (bB.mk n1 o1 k1 f1 wh os1 s1 t1 p1 m1 y1 c1=bB.mk n1 o1 k1 f1 wh os1 s1 t1 p1 m1 y1 c2)=decide (c1=c2)from l6.2 ⟨λh=>by cases h;rfl,λh=>by rw[h]⟩];rfl
theorem ahT{x y:bB}{v1 v2 u1 u2:Value}(hl:x.names.length<9223372036854775808)(hll:x.others.length<9223372036854775808):bV Tryz.prog 209 [.agg ⟨gY x v1 v2⟩,.agg ⟨gY y u1 u2⟩] [ah bF v1 x.names,ah bF v2 x.others,ah bF u1 y.names,ah bF u2 y.others] (.bool (decide (x=y))):=by
 obtain⟨n1,o1,k1,f1,wh,os1,s1,t1,p1,m1,y1,c1⟩:=x;obtain⟨n2,o2,k2,f2,De,os2,s2,t2,p2,m2,y2,c2⟩:=y;dsimp only[gY]at hl hll⊢;refine aC _ (aF 209) λB w0=>?_;refine go ?_;intro b2 b3;refine go ?_;refine gG (λh1=>?_) (λh1=>?_)
 ·rw[eO]at h1;have h1:=mK h1;refine go ?_;refine ae () (hv:=?_) (hp:=trivial);rw[aS (λe=>h1 (by cases e;rfl))];rfl
 rw[eO]at h1;have h1:=iw h1;refine go ?_;refine gG (λh2=>?_) (λh2=>?_)
 ·rw[eO]at h2;have h2:=mK h2;refine go ?_;refine ae () (hv:=?_) (hp:=trivial);rw[aS (λe=>h2 (by cases e;rfl))];rfl
 rw[eO]at h2;have h2:=iw h2;refine go ?_;refine gG (λh3=>?_) (λh3=>?_)
 ·rw[eO]at h3;have h3:=mK h3;refine go ?_;refine ae () (hv:=?_) (hp:=trivial);rw[aS (λe=>h3 (by cases e;rfl))];rfl
 rw[eO]at h3;have h3:=iw h3;refine go ?_;refine aj (Wu (xs:=wh) (ys:=De) hl) (next:=λ_ _=>?_);refine go ?_;refine gG (λh4=>?_) (λh4=>?_)
 ·refine go ?_;refine ae () (hv:=?_) (hp:=trivial);rw[aS (λe=>h4 (by cases e;rfl))];rfl
 refine go ?_;refine aj (Wu (xs:=os1) (ys:=os2) hll) (next:=λ_ _=>?_);refine go ?_;refine gG (λh5=>?_) (λh5=>?_)
 ·refine go ?_;refine ae () (hv:=?_) (hp:=trivial);rw[aS (λe=>h5 (by cases e;rfl))];rfl
 refine go ?_;refine gG (λh6=>?_) (λh6=>?_)
 ·refine go ?_;refine ae () (hv:=?_) (hp:=trivial);rw[aS (λe=>h6 (by cases e;rfl))];rfl
 refine go ?_;refine gG (λh7=>?_) (λh7=>?_)
 ·refine go ?_;refine ae () (hv:=?_) (hp:=trivial);rw[aS (λe=>h7 (by cases e;rfl))];rfl
 refine go ?_;refine gG (λh8=>?_) (λh8=>?_)
 ·refine go ?_;refine ae () (hv:=?_) (hp:=trivial);rw[aS (λe=>h8 (by cases e;rfl))];rfl
 refine go ?_;refine gG (λh9=>?_) (λh9=>?_)
 ·refine go ?_;refine ae () (hv:=?_) (hp:=trivial);rw[aS (λe=>h9 (by cases e;rfl))];rfl
 refine go ?_;refine gG (λh10=>?_) (λh10=>?_)
 ·refine go ?_;refine ae () (hv:=?_) (hp:=trivial);rw[aS (λe=>h10 (by cases e;rfl))];rfl
 refine go ?_;refine gG (λh11=>?_) (λh11=>?_)
 ·refine go ?_;refine ae () (hv:=?_) (hp:=trivial);rw[aS (λe=>h11 (by cases e;rfl))];rfl
 refine go ?_;refine ae () (hv:=?_) (hp:=trivial);subst h1 h2 h3 h4 h5 h6 h7 h8 h9 h10 h11;rw[show decide (bB.mk n1 o1 k1 f1 wh os1 s1 t1 p1 m1 y1 c1=bB.mk n1 o1 k1 f1 wh os1 s1 t1 p1 m1 y1 c2)=decide (c1=c2)from l6.2 ⟨λh=>by cases h;rfl,λh=>by rw[h]⟩];rfl
theorem ahU{x y:bD}{h1 c1 h2 c2:Value}(hS:qM x):bV Tryz.prog 150 [.agg ⟨iW x h1 c1⟩,.agg ⟨iW y h2 c2⟩] [ah aa h1 x.holes,ah aa c1 x.cells,ah aa h2 y.holes,ah aa c2 y.cells] (.bool (decide (x=y))):=by
 have e2:=hS.holes;have e3:=hS.cells;clear hS;obtain⟨xs,xw,xh,Be,Bf⟩:=x;obtain⟨ys,yw,yh,OI,F3⟩:=y;dsimp only[iW]at e2 e3⊢;refine aC _ (aF 150) λB w0=>?_;refine go ?_;intro b2 b3;refine go ?_;refine gG (λk1=>?_) (λk1=>?_)
 ·refine go ?_;refine ae () (hv:=?_) (hp:=trivial);rw[aS (λe=>k1 (by cases e;rfl))];rfl
 refine go ?_;refine gG (λk2=>?_) (λk2=>?_)
 ·refine go ?_;refine ae () (hv:=?_) (hp:=trivial);rw[aS (λe=>k2 (by cases e;rfl))];rfl
 refine go ?_;refine gG (λk3=>?_) (λk3=>?_)
 ·refine go ?_;refine ae () (hv:=?_) (hp:=trivial);rw[aS (λe=>k3 (by cases e;rfl))];rfl
 refine go ?_;refine aj (Dp (xs:=Be) (ys:=OI) (by omega)) (next:=λ_ _=>?_);refine go ?_;refine gG (λk4=>?_) (λk4=>?_)
 ·refine go ?_;refine ae () (hv:=?_) (hp:=trivial);rw[aS (λe=>k4 (by cases e;rfl))];rfl
 refine go ?_;refine aj (Dp (xs:=Bf) (ys:=F3) (by omega)) (next:=λ_ _=>?_);refine go ?_;refine ae () (hv:=?_) (hp:=trivial);subst k1 k2 k3 k4;rw[show decide (bD.mk xs xw xh Be Bf=bD.mk xs xw xh Be F3)=decide (Bf=F3)from l6.2 ⟨λh=>by cases h;rfl,λh=>by rw[h]⟩];rfl
theorem ahV{x y:mQ}{vx vy:Value}(hl:x.lists.length<9223372036854775808)(hll:∀l∈x.lists,l.length<9223372036854775808):bV Tryz.prog 198 [.agg ⟨[.string x.name,vx]⟩,.agg ⟨[.string y.name,vy]⟩] [ah (ax aa) vx x.lists,ah (ax aa) vy y.lists] (.bool (decide (x=y))):=by
 obtain⟨n1,xs⟩:=x;obtain⟨n2,ys⟩:=y;dsimp only at hl hll⊢;refine aC _ (aF 198) λB w0=>?_;refine aT (E:=ax aa) (v:=vx) (xs:=xs) (by simp) λa1 c1 e1=>?_;subst e1;refine aT (E:=ax aa) (v:=vy) (xs:=ys) (by simp) λa2 c2 e2=>?_;subst e2;refine go ?_;intro b2 b3;refine go ?_;refine lD (λk1=>?_) (λk1=>?_)
 rotate_left
 ·rw[eO]at k1;have k1:¬n1=n2:=by simpa using k1
  refine go ?_;refine ae () (hv:=?_) (hp:=trivial);rw[aS (λe=>k1 (by cases e;rfl))];rfl
 rw[eO]at k1;have k1:n1=n2:=by simpa using k1
 subst k1;have hdd:decide (mQ.mk n1 xs=mQ.mk n1 ys)=decide (xs=ys):=l6.2 ⟨λh=>by cases h;rfl,λh=>by rw[h]⟩;rw[hdd];refine go ?_;refine ay rfl (λh1=>?_) (λh1=>?_)
 ·refine go ?_;refine ae () (hv:=?_) (hp:=trivial);rw[aS (λe=>by subst e;omega)];rfl
 have hlen:xs.length=ys.length:=by omega
 refine go ?_;refine aR (λk=>xs.length - k) (λk:Nat=>[(5,.int .i64 (k:Int))]) (λ_=>[]) (λ_=>[]) (λk=>k<=xs.length/\xs.take k=ys.take k) 0 ⟨by omega,by simp⟩ (body:=?_);rintro k ⟨hk,hsame⟩;refine go ?_;refine ay rfl (λh2=>?_) (λh2=>?_)
 ·refine go ?_;refine aU (ax aa) (xs:=xs) (next:=λ_ _ x (_:Value) hx=>?_);refine go ?_;refine aU (ax aa) (xs:=ys) (next:=λ_ _ y (_:Value) hy=>?_);refine go ?_;refine aj (Wq (xs:=x) (ys:=y) (hll x (aP hx))) (next:=λ_ _=>?_);refine go ?_;refine eX rfl (λh3=>?_) (λh3=>?_)
  ·refine go ?_;refine ae () (hv:=?_) (hp:=trivial);rw[aS (λe=>by subst e;rw[hx]at hy;exact h3 (Option.some.inj hy))];rfl
  refine go ?_;refine aD (k+1) (by omega) ⟨by omega,?_⟩;rw[bS hx,bS hy,hsame,h3]
 have:k=xs.length:=by omega
 subst this;refine go ?_;refine ae () (hv:=?_) (hp:=trivial);rw[bC,hlen,bC]at hsame;rw[dQ hsame];rfl
theorem ahW{x y:bG}{h1 s1 r1 c1 u1 h2 s2 r2 c2 u2:Value}(hS:mZ x):bV Tryz.prog 149 [.agg ⟨gI x h1 s1 r1 c1 u1⟩,.agg ⟨gI y h2 s2 r2 c2 u2⟩] (mi x h1 s1 r1 c1 u1++mi y h2 s2 r2 c2 u2) (.bool (decide (x=y))):=by
 have e1:=hS.cZ;have e2:=hS.regs;have e3:=hS.jB;have e4:=hS.jP;have e5:=hS.vY;have e6:=hS.holes;have e7:=hS.vZ;clear hS;obtain⟨fs1,hu1,O8⟩:=Od;obtain⟨fs2,hu2,hrow2⟩:=Oe;obtain⟨n1,v1,p1,w1,g1,ho1,ng,mD,ni,mE⟩:=x;obtain⟨n2,v2,p2,w2,g2,ho2,qK,qg,qL,qh⟩:=y;dsimp only at e1 e2 e3 e4 e5 e6 e7;dsimp only[gI,mi,List.cons_append,List.nil_append];refine aC _ (aF 149) λB w0=>?_;refine aT (E:=fo) (v:=s1) (xs:=ng) (by simp) λoz cs1 es=>?_;subst es;refine aT (E:=fo) (v:=s2) (xs:=qK) (by simp) λas2 cs2 es=>?_;subst es;refine aT (E:=fA) (v:=r1) (xs:=mD) (by simp) λar1 cr1 es=>?_;subst es;refine aT (E:=fA) (v:=r2) (xs:=qg) (by simp) λar2 cr2 es=>?_;subst es;refine aT (E:=bI) (v:=c1) (xs:=ni) (by simp) λac1 cc1 es=>?_;subst es;refine aT (E:=bI) (v:=c2) (xs:=qL) (by simp) λac2 cc2 es=>?_;subst es;refine aT (E:=aZ) (v:=u1) (xs:=mE) (by simp) λau1 cu1 es=>?_;subst es;refine aT (E:=aZ) (v:=u2) (xs:=qh) (by simp) λau2 cu2 es=>?_;subst es;refine go ?_;intro b2 b3;refine go ?_;refine lD (λk1=>?_) (λk1=>?_)
 rotate_left
 ·rw[eO]at k1;have k1:¬n1=n2:=by simpa using k1
  refine go ?_;refine ae () (hv:=?_) (hp:=trivial);rw[aS (λe=>k1 (by cases e;rfl))];rfl
 rw[eO]at k1;have k1:n1=n2:=by simpa using k1
 refine go ?_;refine gG (λk2=>?_) (λk2=>?_)
 rotate_left
 ·refine go ?_;refine ae () (hv:=?_) (hp:=trivial);rw[aS (λe=>k2 (by cases e;rfl))];rfl
 refine go ?_;refine gG (λk3=>?_) (λk3=>?_)
 rotate_left
 ·refine go ?_;refine ae () (hv:=?_) (hp:=trivial);rw[aS (λe=>k3 (by cases e;rfl))];rfl
 refine go ?_;refine gG (λk4=>?_) (λk4=>?_)
 rotate_left
 ·refine go ?_;refine ae () (hv:=?_) (hp:=trivial);rw[aS (λe=>k4 (by cases e;rfl))];rfl
 refine go ?_;refine gG (λk5=>?_) (λk5=>?_)
 rotate_left
 ·refine go ?_;refine ae () (hv:=?_) (hp:=trivial);rw[aS (λe=>k5 (by cases e;rfl))];rfl
 refine go ?_;refine aj (Wq (xs:=ho1) (ys:=ho2) e6) (next:=λ_ _=>?_);refine go ?_;refine kV (λk6=>?_) (λk6=>?_)
 rotate_left
 ·refine go ?_;refine ae () (hv:=?_) (hp:=trivial);rw[aS (λe=>k6 (by cases e;rfl))];rfl
 refine go ?_;refine gG (λk7=>?_) (λk7=>?_)
 rotate_left
 ·refine go ?_;refine ae () (hv:=?_) (hp:=trivial);rw[aS (λe=>k7 (by cases e;rfl))];rfl
 refine go ?_;refine gG (λk8=>?_) (λk8=>?_)
 rotate_left
 ·refine go ?_;refine ae () (hv:=?_) (hp:=trivial);rw[aS (λe=>k8 (by cases e;rfl))];rfl
 refine go ?_;refine gG (λk9=>?_) (λk9=>?_)
 rotate_left
 ·refine go ?_;refine ae () (hv:=?_) (hp:=trivial);rw[aS (λe=>k9 (by cases e;rfl))];rfl
 refine go ?_;refine ay rfl (λk10=>?_) (λk10=>?_)
 ·refine go ?_;refine ae () (hv:=?_) (hp:=trivial);rw[aS (λe=>k10 (by cases e;rfl))];rfl
 have l1:ng.length=qK.length:=by omega
 have l2:mD.length=qg.length:=by omega
 have l3:ni.length=qL.length:=by omega
 have l4:mE.length=qh.length:=by omega
 refine go ?_;refine aR (λk=>ng.length - k) (λk:Nat=>[(5,.int .i64 (k:Int))]) (λ_=>[]) (λ_=>[]) (λk=>k<=ng.length/\ng.take k=qK.take k) 0 ⟨by omega,by simp⟩ (body:=?_);rintro k ⟨hk,hsame⟩;refine go ?_;refine ay rfl (λh2=>?_) (λh2=>?_)
 ·refine go ?_;refine aU fo (xs:=ng) (next:=λ_ _ x (_:Unit) hx=>?_);refine go ?_;refine aU fo (xs:=qK) (next:=λ_ _ y (_:Unit) hy=>?_);refine go ?_;refine(gH (v:=.bool (!decide (x=y))) rfl rfl (by rw[<- Ob];exact CO rfl rfl hu1 (by kernel_rfl) (by kernel_rfl) (row_of O8 rfl rfl (λj=>by rw[fC]) (λj=>by rw[fC])) (by simp[fU,cz,Ideal.cellV]) (by simp[fU,cz,Ideal.cellV]))).h ?_;refine go ?_;refine eX rfl (λh3=>?_) (λh3=>?_)
  ·refine go ?_;refine ae () (hv:=?_) (hp:=trivial);rw[aS (λe=>by cases e;rw[hx]at hy;exact h3 (Option.some.inj hy))];rfl
  refine go ?_;refine aD (k+1) (by omega) ⟨by omega,?_⟩;rw[bS hx,bS hy,hsame,h3]
 have hkl:k=ng.length:=by omega
 subst hkl;rw[bC,l1,bC]at hsame;have m1:=hsame;clear hsame hk h2;refine go ?_;refine aR (λk=>mD.length - k) (λk:Nat=>[(6,.int .i64 (k:Int))]) (λ_=>[]) (λ_=>[]) (λk=>k<=mD.length/\mD.take k=qg.take k) 0 ⟨by omega,by simp⟩ (body:=?_);rintro k ⟨hk,hsame⟩;refine go ?_;refine ay rfl (λh2=>?_) (λh2=>?_)
 ·refine go ?_;refine aU fA (xs:=mD) (next:=λ_ _ x (vx:Value) hx=>?_);have hxl:=e7 x (aP hx);refine go ?_;refine aU fA (xs:=qg) (next:=λ_ _ y (vy:Value) hy=>?_);refine go ?_;refine aj (ahV (x:=x) (y:=y) (vx:=vx) (vy:=vy) hxl.1 hxl.2) (next:=λ_ _=>?_);refine go ?_;refine eX rfl (λh3=>?_) (λh3=>?_)
  ·refine go ?_;refine ae () (hv:=?_) (hp:=trivial);rw[aS (λe=>by cases e;rw[hx]at hy;exact h3 (Option.some.inj hy))];rfl
  refine go ?_;refine aD (k+1) (by omega) ⟨by omega,?_⟩;rw[bS hx,bS hy,hsame,h3]
 have hkl:k=mD.length:=by omega
 subst hkl;rw[bC,l2,bC]at hsame;have m2:=hsame;clear hsame hk h2;refine go ?_;refine aR (λk=>ni.length - k) (λk:Nat=>[(7,.int .i64 (k:Int))]) (λ_=>[]) (λ_=>[]) (λk=>k<=ni.length/\ni.take k=qL.take k) 0 ⟨by omega,by simp⟩ (body:=?_);rintro k ⟨hk,hsame⟩;refine go ?_;refine ay rfl (λh2=>?_) (λh2=>?_)
 ·refine go ?_;refine aU bI (xs:=ni) (next:=λ_ _ x (_:Unit) hx=>?_);refine go ?_;refine aU bI (xs:=qL) (next:=λ_ _ y (_:Unit) hy=>?_);refine go ?_;refine(gH (v:=.bool (!decide (x=y))) rfl rfl (by rw[<- Oc];exact CO rfl rfl hu2 (by kernel_rfl) (by kernel_rfl) (row_of hrow2 rfl rfl (λj=>by rw[fC]) (λj=>by rw[fC])) (by simp[fU,cz,Ideal.cellV]) (by simp[fU,cz,Ideal.cellV]))).h ?_;refine go ?_;refine eX rfl (λh3=>?_) (λh3=>?_)
  ·refine go ?_;refine ae () (hv:=?_) (hp:=trivial);rw[aS (λe=>by cases e;rw[hx]at hy;exact h3 (Option.some.inj hy))];rfl
  refine go ?_;refine aD (k+1) (by omega) ⟨by omega,?_⟩;rw[bS hx,bS hy,hsame,h3]
 have hkl:k=ni.length:=by omega
 subst hkl;rw[bC,l3,bC]at hsame;have m3:=hsame;clear hsame hk h2;refine go ?_;refine aR (λk=>mE.length - k) (λk:Nat=>[(8,.int .i64 (k:Int))]) (λ_=>[]) (λ_=>[]) (λk=>k<=mE.length/\mE.take k=qh.take k) 0 ⟨by omega,by simp⟩ (body:=?_);rintro k ⟨hk,hsame⟩;refine go ?_;refine ay rfl (λh2=>?_) (λh2=>?_)
 ·refine go ?_;refine aU aZ (xs:=mE) (next:=λ_ _ x (vx:Value×Value) hx=>?_);have hxl:=e5 x (aP hx);refine go ?_;refine aU aZ (xs:=qh) (next:=λ_ _ y (vy:Value×Value) hy=>?_);refine go ?_;refine aj (ahS (x:=x) (y:=y) (v1:=vx.1) (v2:=vx.2) (u1:=vy.1) (u2:=vy.2) hxl.1 hxl.2) (next:=λ_ _=>?_);refine go ?_;refine eX rfl (λh3=>?_) (λh3=>?_)
  ·refine go ?_;refine ae () (hv:=?_) (hp:=trivial);rw[aS (λe=>by cases e;rw[hx]at hy;exact h3 (Option.some.inj hy))];rfl
  refine go ?_;refine aD (k+1) (by omega) ⟨by omega,?_⟩;rw[bS hx,bS hy,hsame,h3]
 have hkl:k=mE.length:=by omega
 subst hkl;rw[bC,l4,bC]at hsame;have m4:=hsame;clear hsame hk h2;refine go ?_;refine ae () (hv:=?_) (hp:=trivial);rw[dQ (show bG.mk n1 v1 p1 w1 g1 ho1 ng mD ni mE=bG.mk n2 v2 p2 w2 g2 ho2 qK qg qL qh from by rw[k1,gM.1 k2,gM.1 k3,gM.1 k4,gM.1 k5,k6,m1,m2,m3,m4])];rfl
theorem aic{x y:bG}{h1 s1 r1 c1 u1 h2 s2 r2 c2 u2:Value}(hS:mZ x):bV Tryz.prog 167 [.agg ⟨gI x h1 s1 r1 c1 u1⟩,.agg ⟨gI y h2 s2 r2 c2 u2⟩] (mi x h1 s1 r1 c1 u1++mi y h2 s2 r2 c2 u2) (.bool (decide (x=y))):=by
 have e1:=hS.cZ;have e2:=hS.regs;have e3:=hS.jB;have e4:=hS.jP;have e5:=hS.vY;have e6:=hS.holes;have e7:=hS.vZ;clear hS;obtain⟨fs1,hu1,O8⟩:=Od;obtain⟨fs2,hu2,hrow2⟩:=Oe;obtain⟨n1,v1,p1,w1,g1,ho1,ng,mD,ni,mE⟩:=x;obtain⟨n2,v2,p2,w2,g2,ho2,qK,qg,qL,qh⟩:=y;dsimp only at e1 e2 e3 e4 e5 e6 e7;dsimp only[gI,mi,List.cons_append,List.nil_append];refine aC _ (aF 167) λB w0=>?_;refine aT (E:=fo) (v:=s1) (xs:=ng) (by simp) λoz cs1 es=>?_;subst es;refine aT (E:=fo) (v:=s2) (xs:=qK) (by simp) λas2 cs2 es=>?_;subst es;refine aT (E:=fA) (v:=r1) (xs:=mD) (by simp) λar1 cr1 es=>?_;subst es;refine aT (E:=fA) (v:=r2) (xs:=qg) (by simp) λar2 cr2 es=>?_;subst es;refine aT (E:=bI) (v:=c1) (xs:=ni) (by simp) λac1 cc1 es=>?_;subst es;refine aT (E:=bI) (v:=c2) (xs:=qL) (by simp) λac2 cc2 es=>?_;subst es;refine aT (E:=aZ) (v:=u1) (xs:=mE) (by simp) λau1 cu1 es=>?_;subst es;refine aT (E:=aZ) (v:=u2) (xs:=qh) (by simp) λau2 cu2 es=>?_;subst es;refine go ?_;intro b2 b3;refine go ?_;refine lD (λk1=>?_) (λk1=>?_)
 rotate_left
 ·rw[eO]at k1;have k1:¬n1=n2:=by simpa using k1
  refine go ?_;refine ae () (hv:=?_) (hp:=trivial);rw[aS (λe=>k1 (by cases e;rfl))];rfl
 rw[eO]at k1;have k1:n1=n2:=by simpa using k1
 refine go ?_;refine gG (λk2=>?_) (λk2=>?_)
 rotate_left
 ·refine go ?_;refine ae () (hv:=?_) (hp:=trivial);rw[aS (λe=>k2 (by cases e;rfl))];rfl
 refine go ?_;refine gG (λk3=>?_) (λk3=>?_)
 rotate_left
 ·refine go ?_;refine ae () (hv:=?_) (hp:=trivial);rw[aS (λe=>k3 (by cases e;rfl))];rfl
 refine go ?_;refine gG (λk4=>?_) (λk4=>?_)
 rotate_left
 ·refine go ?_;refine ae () (hv:=?_) (hp:=trivial);rw[aS (λe=>k4 (by cases e;rfl))];rfl
 refine go ?_;refine gG (λk5=>?_) (λk5=>?_)
 rotate_left
 ·refine go ?_;refine ae () (hv:=?_) (hp:=trivial);rw[aS (λe=>k5 (by cases e;rfl))];rfl
 refine go ?_;refine aj (Ws (xs:=ho1) (ys:=ho2) e6) (next:=λ_ _=>?_);refine go ?_;refine eX rfl (λk6=>?_) (λk6=>?_)
 ·refine go ?_;refine ae () (hv:=?_) (hp:=trivial);rw[aS (λe=>k6 (by cases e;rfl))];rfl
 refine go ?_;refine gG (λk7=>?_) (λk7=>?_)
 rotate_left
 ·refine go ?_;refine ae () (hv:=?_) (hp:=trivial);rw[aS (λe=>k7 (by cases e;rfl))];rfl
 refine go ?_;refine gG (λk8=>?_) (λk8=>?_)
 rotate_left
 ·refine go ?_;refine ae () (hv:=?_) (hp:=trivial);rw[aS (λe=>k8 (by cases e;rfl))];rfl
 refine go ?_;refine gG (λk9=>?_) (λk9=>?_)
 rotate_left
 ·refine go ?_;refine ae () (hv:=?_) (hp:=trivial);rw[aS (λe=>k9 (by cases e;rfl))];rfl
 refine go ?_;refine ay rfl (λk10=>?_) (λk10=>?_)
 ·refine go ?_;refine ae () (hv:=?_) (hp:=trivial);rw[aS (λe=>k10 (by cases e;rfl))];rfl
 have l1:ng.length=qK.length:=by omega
 have l2:mD.length=qg.length:=by omega
 have l3:ni.length=qL.length:=by omega
 have l4:mE.length=qh.length:=by omega
 refine go ?_;refine aR (λk=>ng.length - k) (λk:Nat=>[(5,.int .i64 (k:Int))]) (λ_=>[]) (λ_=>[]) (λk=>k<=ng.length/\ng.take k=qK.take k) 0 ⟨by omega,by simp⟩ (body:=?_);rintro k ⟨hk,hsame⟩;refine go ?_;refine ay rfl (λh2=>?_) (λh2=>?_)
 ·refine go ?_;refine aU fo (xs:=ng) (next:=λ_ _ x (_:Unit) hx=>?_);refine go ?_;refine aU fo (xs:=qK) (next:=λ_ _ y (_:Unit) hy=>?_);refine go ?_;refine(gH (v:=.bool (!decide (x=y))) rfl rfl (by rw[<- Ob];exact CO rfl rfl hu1 (by kernel_rfl) (by kernel_rfl) (row_of O8 rfl rfl (λj=>by rw[fC]) (λj=>by rw[fC])) (by simp[fU,cz,Ideal.cellV]) (by simp[fU,cz,Ideal.cellV]))).h ?_;refine go ?_;refine eX rfl (λh3=>?_) (λh3=>?_)
  ·refine go ?_;refine ae () (hv:=?_) (hp:=trivial);rw[aS (λe=>by cases e;rw[hx]at hy;exact h3 (Option.some.inj hy))];rfl
  refine go ?_;refine aD (k+1) (by omega) ⟨by omega,?_⟩;rw[bS hx,bS hy,hsame,h3]
 have hkl:k=ng.length:=by omega
 subst hkl;rw[bC,l1,bC]at hsame;have m1:=hsame;clear hsame hk h2;refine go ?_;refine aR (λk=>mD.length - k) (λk:Nat=>[(6,.int .i64 (k:Int))]) (λ_=>[]) (λ_=>[]) (λk=>k<=mD.length/\mD.take k=qg.take k) 0 ⟨by omega,by simp⟩ (body:=?_);rintro k ⟨hk,hsame⟩;refine go ?_;refine ay rfl (λh2=>?_) (λh2=>?_)
 ·refine go ?_;refine aU fA (xs:=mD) (next:=λ_ _ x (vx:Value) hx=>?_);have hxl:=e7 x (aP hx);refine go ?_;refine aU fA (xs:=qg) (next:=λ_ _ y (vy:Value) hy=>?_);refine go ?_;refine lD (λj1=>?_) (λj1=>?_)
  rotate_left
  ·rw[eO]at j1;have j1:¬x.name=y.name:=by simpa using j1
   have h3:¬x=y:=λe=>j1 (by rw[e]);refine go ?_;refine ae () (hv:=?_) (hp:=trivial);rw[aS (λe=>by cases e;rw[hx]at hy;exact h3 (Option.some.inj hy))];rfl
  rw[eO]at j1;have j1:x.name=y.name:=by simpa using j1
  refine go ?_;refine aU fA (xs:=mD) (next:=λ_ _ x' (vx:Value) hx'=>?_);cases hx.symm.trans hx';refine go ?_;refine aU fA (xs:=qg) (next:=λ_ _ y' (vy:Value) hy'=>?_);cases hy.symm.trans hy';refine go ?_;refine aj (ahR (xs:=x.lists) (ys:=y.lists) hxl.1 hxl.2) (next:=λ_ _=>?_);refine go ?_;refine eX rfl (λh3=>?_) (λh3=>?_)
  ·have h3:¬x=y:=λe=>h3 (by rw[e]);refine go ?_;refine ae () (hv:=?_) (hp:=trivial);rw[aS (λe=>by cases e;rw[hx]at hy;exact h3 (Option.some.inj hy))];rfl
  have h3:x=y:=by
   obtain⟨a,b⟩:=x;obtain⟨c,d⟩:=y;dsimp only at j1 h3;rw[j1,h3]
  refine go ?_;refine aD (k+1) (by omega) ⟨by omega,?_⟩;rw[bS hx,bS hy,hsame,h3]
 have hkl:k=mD.length:=by omega
 subst hkl;rw[bC,l2,bC]at hsame;have m2:=hsame;clear hsame hk h2;refine go ?_;refine aR (λk=>ni.length - k) (λk:Nat=>[(7,.int .i64 (k:Int))]) (λ_=>[]) (λ_=>[]) (λk=>k<=ni.length/\ni.take k=qL.take k) 0 ⟨by omega,by simp⟩ (body:=?_);rintro k ⟨hk,hsame⟩;refine go ?_;refine ay rfl (λh2=>?_) (λh2=>?_)
 ·refine go ?_;refine aU bI (xs:=ni) (next:=λ_ _ x (_:Unit) hx=>?_);refine go ?_;refine aU bI (xs:=qL) (next:=λ_ _ y (_:Unit) hy=>?_);refine go ?_;refine(gH (v:=.bool (!decide (x=y))) rfl rfl (by rw[<- Oc];exact CO rfl rfl hu2 (by kernel_rfl) (by kernel_rfl) (row_of hrow2 rfl rfl (λj=>by rw[fC]) (λj=>by rw[fC])) (by simp[fU,cz,Ideal.cellV]) (by simp[fU,cz,Ideal.cellV]))).h ?_;refine go ?_;refine eX rfl (λh3=>?_) (λh3=>?_)
  ·refine go ?_;refine ae () (hv:=?_) (hp:=trivial);rw[aS (λe=>by cases e;rw[hx]at hy;exact h3 (Option.some.inj hy))];rfl
  refine go ?_;refine aD (k+1) (by omega) ⟨by omega,?_⟩;rw[bS hx,bS hy,hsame,h3]
 have hkl:k=ni.length:=by omega
 subst hkl;rw[bC,l3,bC]at hsame;have m3:=hsame;clear hsame hk h2;refine go ?_;refine aR (λk=>mE.length - k) (λk:Nat=>[(8,.int .i64 (k:Int))]) (λ_=>[]) (λ_=>[]) (λk=>k<=mE.length/\mE.take k=qh.take k) 0 ⟨by omega,by simp⟩ (body:=?_);rintro k ⟨hk,hsame⟩;refine go ?_;refine ay rfl (λh2=>?_) (λh2=>?_)
 ·refine go ?_;refine aU aZ (xs:=mE) (next:=λ_ _ x (vx:Value×Value) hx=>?_);have hxl:=e5 x (aP hx);refine go ?_;refine aU aZ (xs:=qh) (next:=λ_ _ y (vy:Value×Value) hy=>?_);refine go ?_;refine aj (ahT (x:=x) (y:=y) (v1:=vx.1) (v2:=vx.2) (u1:=vy.1) (u2:=vy.2) hxl.1 hxl.2) (next:=λ_ _=>?_);refine go ?_;refine eX rfl (λh3=>?_) (λh3=>?_)
  ·refine go ?_;refine ae () (hv:=?_) (hp:=trivial);rw[aS (λe=>by cases e;rw[hx]at hy;exact h3 (Option.some.inj hy))];rfl
  refine go ?_;refine aD (k+1) (by omega) ⟨by omega,?_⟩;rw[bS hx,bS hy,hsame,h3]
 have hkl:k=mE.length:=by omega
 subst hkl;rw[bC,l4,bC]at hsame;have m4:=hsame;clear hsame hk h2;refine go ?_;refine ae () (hv:=?_) (hp:=trivial);rw[dQ (show bG.mk n1 v1 p1 w1 g1 ho1 ng mD ni mE=bG.mk n2 v2 p2 w2 g2 ho2 qK qg qL qh from by rw[k1,gM.1 k2,gM.1 k3,gM.1 k4,gM.1 k5,k6,m1,m2,m3,m4])];rfl
