/-
  Part LibVX.
-/
import Derived.Test.YtoilpafpgndilaaGreatLibSX
set_option linter.all false
set_option maxRecDepth 10000
set_option maxHeartbeats 4000000
namespace Go.Proofs.YtoilpafpgndilaaGreat
open Go.Ideal Kd
theorem WI{va vb:Value}{xs ys:List Int}(hl:xs.length<9223372036854775808):dD Tryz.prog 221 [va,vb] [ai ae va xs,ai ae vb ys] (.bool (decide (xs=ys))):=by
 refine aM _ (aP 221) λB w0=>?_;refine aS (E:=ae) (v:=va) (xs:=xs) (by simp) λa1 c1 e1=>?_;subst e1;refine aS (E:=ae) (v:=vb) (xs:=ys) (by simp) λa2 c2 e2=>?_;subst e2;refine go ?_;refine aA rfl (λh1=>?_) (λh1=>?_)
 ·refine go ?_;refine ah () (hv:=?_) (hp:=trivial);rw[aR (λe=>by subst e;omega)];rfl
 have hlen:xs.length=ys.length:=by omega
 refine go ?_;refine aU (λk=>xs.length - k) (λk:Nat=>[(5,.int .i64 (k:Int))]) (λ_=>[]) (λ_=>[]) (λk=>k<=xs.length/\xs.take k=ys.take k) 0 ⟨by omega,by simp⟩ (body:=?_);rintro k ⟨hk,hsame⟩;refine go ?_;refine aA rfl (λh2=>?_) (λh2=>?_)
 ·refine go ?_;intro _ _ x hx _ _ y hy;refine go ?_;refine aA rfl (λh3=>?_) (λh3=>?_)
  rotate_left
  ·have h3:x=y:=ic.1 h3;refine go ?_;refine aN (k+1) (by omega) ⟨by omega,?_⟩;rw[bZ hx,bZ hy,hsame,h3]
  ·refine go ?_;refine ah () (hv:=?_) (hp:=trivial);rw[aR (λe=>by subst e;rw[hx]at hy;exact h3 (Option.some.inj hy))];rfl
 have:k=xs.length:=by omega
 subst this;refine go ?_;refine ah () (hv:=?_) (hp:=trivial);rw[bU,hlen,bU]at hsame;rw[dK hsame];rfl
theorem WJ{va vb:Value}{xs ys:List Int}(hl:xs.length<9223372036854775808):dD Tryz.prog 269 [va,vb] [ai ae va xs,ai ae vb ys] (.bool (decide (xs=ys))):=by
 refine aM _ (aP 269) λB w0=>?_;refine aS (E:=ae) (v:=va) (xs:=xs) (by simp) λa1 c1 e1=>?_;subst e1;refine aS (E:=ae) (v:=vb) (xs:=ys) (by simp) λa2 c2 e2=>?_;subst e2;refine go ?_;refine aA rfl (λh1=>?_) (λh1=>?_)
 ·refine go ?_;refine ah () (hv:=?_) (hp:=trivial);rw[aR (λe=>by subst e;omega)];rfl
 have hlen:xs.length=ys.length:=by omega
 refine go ?_;refine aU (λk=>xs.length - k) (λk:Nat=>[(5,.int .i64 (k:Int))]) (λ_=>[]) (λ_=>[]) (λk=>k<=xs.length/\xs.take k=ys.take k) 0 ⟨by omega,by simp⟩ (body:=?_);rintro k ⟨hk,hsame⟩;refine go ?_;refine aA rfl (λh2=>?_) (λh2=>?_)
 ·refine go ?_;intro _ _ x hx _ _ y hy;refine go ?_;refine aA rfl (λh3=>?_) (λh3=>?_)
  rotate_left
  ·have h3:x=y:=ic.1 h3;refine go ?_;refine aN (k+1) (by omega) ⟨by omega,?_⟩;rw[bZ hx,bZ hy,hsame,h3]
  ·refine go ?_;refine ah () (hv:=?_) (hp:=trivial);rw[aR (λe=>by subst e;rw[hx]at hy;exact h3 (Option.some.inj hy))];rfl
 have:k=xs.length:=by omega
 subst this;refine go ?_;refine ah () (hv:=?_) (hp:=trivial);rw[bU,hlen,bU]at hsame;rw[dK hsame];rfl
theorem WK{va vb:Value}{xs ys:List ByteArray}(hl:xs.length<9223372036854775808):dD Tryz.prog 313 [va,vb] [ai bC va xs,ai bC vb ys] (.bool (decide (xs=ys))):=by
 refine aM _ (aP 313) λB w0=>?_;refine aS (E:=bC) (v:=va) (xs:=xs) (by simp) λa1 c1 e1=>?_;subst e1;refine aS (E:=bC) (v:=vb) (xs:=ys) (by simp) λa2 c2 e2=>?_;subst e2;refine go ?_;refine aA rfl (λh1=>?_) (λh1=>?_)
 ·refine go ?_;refine ah () (hv:=?_) (hp:=trivial);rw[aR (λe=>by subst e;omega)];rfl
 have hlen:xs.length=ys.length:=by omega
 refine go ?_;refine aU (λk=>xs.length - k) (λk:Nat=>[(5,.int .i64 (k:Int))]) (λ_=>[]) (λ_=>[]) (λk=>k<=xs.length/\xs.take k=ys.take k) 0 ⟨by omega,by simp⟩ (body:=?_);rintro k ⟨hk,hsame⟩;refine go ?_;refine aA rfl (λh2=>?_) (λh2=>?_)
 ·refine go ?_;refine bi bC (xs:=xs) (next:=λ_ _ x (_:Unit) hx=>?_);refine go ?_;refine bi bC (xs:=ys) (next:=λ_ _ y (_:Unit) hy=>?_);refine go ?_;refine fq (p:=x=y) (by show Value.bool _=_;rw[eB]) (λh3=>?_) (λh3=>?_)
  ·refine go ?_;refine ah () (hv:=?_) (hp:=trivial);rw[aR (λe=>by subst e;rw[hx]at hy;exact h3 (Option.some.inj hy))];rfl
  refine go ?_;refine aN (k+1) (by omega) ⟨by omega,?_⟩;rw[bZ hx,bZ hy,hsame,h3]
 have:k=xs.length:=by omega
 subst this;refine go ?_;refine ah () (hv:=?_) (hp:=trivial);rw[bU,hlen,bU]at hsame;rw[dK hsame];rfl
theorem WL{va vb:Value}{xs ys:List ByteArray}(hl:xs.length<9223372036854775808):dD Tryz.prog 339 [va,vb] [ai bC va xs,ai bC vb ys] (.bool (decide (xs=ys))):=by
 refine aM _ (aP 339) λB w0=>?_;refine aS (E:=bC) (v:=va) (xs:=xs) (by simp) λa1 c1 e1=>?_;subst e1;refine aS (E:=bC) (v:=vb) (xs:=ys) (by simp) λa2 c2 e2=>?_;subst e2;refine go ?_;refine aA rfl (λh1=>?_) (λh1=>?_)
 ·refine go ?_;refine ah () (hv:=?_) (hp:=trivial);rw[aR (λe=>by subst e;omega)];rfl
 have hlen:xs.length=ys.length:=by omega
 refine go ?_;refine aU (λk=>xs.length - k) (λk:Nat=>[(5,.int .i64 (k:Int))]) (λ_=>[]) (λ_=>[]) (λk=>k<=xs.length/\xs.take k=ys.take k) 0 ⟨by omega,by simp⟩ (body:=?_);rintro k ⟨hk,hsame⟩;refine go ?_;refine aA rfl (λh2=>?_) (λh2=>?_)
 ·refine go ?_;refine bi bC (xs:=xs) (next:=λ_ _ x (_:Unit) hx=>?_);refine go ?_;refine bi bC (xs:=ys) (next:=λ_ _ y (_:Unit) hy=>?_);refine go ?_;refine fq (p:=x=y) (by show Value.bool _=_;rw[eB]) (λh3=>?_) (λh3=>?_)
  ·refine go ?_;refine ah () (hv:=?_) (hp:=trivial);rw[aR (λe=>by subst e;rw[hx]at hy;exact h3 (Option.some.inj hy))];rfl
  refine go ?_;refine aN (k+1) (by omega) ⟨by omega,?_⟩;rw[bZ hx,bZ hy,hsame,h3]
 have:k=xs.length:=by omega
 subst this;refine go ?_;refine ah () (hv:=?_) (hp:=trivial);rw[bU,hlen,bU]at hsame;rw[dK hsame];rfl
theorem WM{va vb:Value}{xs ys:List (List Int)}(hl:xs.length<9223372036854775808)(hll:∀l∈xs,l.length<9223372036854775808):dD Tryz.prog 147 [va,vb] [ai (ak ae) va xs,ai (ak ae) vb ys] (.bool (decide (xs=ys))):=by
 refine aM _ (aP 147) λB w0=>?_;refine aS (E:=ak ae) (v:=va) (xs:=xs) (by simp) λa1 c1 e1=>?_;subst e1;refine aS (E:=ak ae) (v:=vb) (xs:=ys) (by simp) λa2 c2 e2=>?_;subst e2;refine go ?_;refine aA rfl (λh1=>?_) (λh1=>?_)
 ·refine go ?_;refine ah () (hv:=?_) (hp:=trivial);rw[aR (λe=>by subst e;omega)];rfl
 have hlen:xs.length=ys.length:=by omega
 refine go ?_;refine aU (λk=>xs.length - k) (λk:Nat=>[(5,.int .i64 (k:Int))]) (λ_=>[]) (λ_=>[]) (λk=>k<=xs.length/\xs.take k=ys.take k) 0 ⟨by omega,by simp⟩ (body:=?_);rintro k ⟨hk,hsame⟩;refine go ?_;refine aA rfl (λh2=>?_) (λh2=>?_)
 ·refine go ?_;refine bi (ak ae) (xs:=xs) (next:=λ_ _ x (_:Value) hx=>?_);refine go ?_;refine bi (ak ae) (xs:=ys) (next:=λ_ _ y (_:Value) hy=>?_);refine go ?_;refine ay (zF (xs:=x) (ys:=y) (hll x (aZ hx))) (next:=λ_ _=>?_);refine go ?_;refine fq rfl (λh3=>?_) (λh3=>?_)
  ·refine go ?_;refine ah () (hv:=?_) (hp:=trivial);rw[aR (λe=>by subst e;rw[hx]at hy;exact h3 (Option.some.inj hy))];rfl
  refine go ?_;refine aN (k+1) (by omega) ⟨by omega,?_⟩;rw[bZ hx,bZ hy,hsame,h3]
 have:k=xs.length:=by omega
 subst this;refine go ?_;refine ah () (hv:=?_) (hp:=trivial);rw[bU,hlen,bU]at hsame;rw[dK hsame];rfl
theorem ah6{va vb:Value}{xs ys:List (List Int)}(hl:xs.length<9223372036854775808)(hll:∀l∈xs,l.length<9223372036854775808):dD Tryz.prog 270 [va,vb] [ai (ak ae) va xs,ai (ak ae) vb ys] (.bool (decide (xs=ys))):=by
 refine aM _ (aP 270) λB w0=>?_;refine aS (E:=ak ae) (v:=va) (xs:=xs) (by simp) λa1 c1 e1=>?_;subst e1;refine aS (E:=ak ae) (v:=vb) (xs:=ys) (by simp) λa2 c2 e2=>?_;subst e2;refine go ?_;refine aA rfl (λh1=>?_) (λh1=>?_)
 ·refine go ?_;refine ah () (hv:=?_) (hp:=trivial);rw[aR (λe=>by subst e;omega)];rfl
 have hlen:xs.length=ys.length:=by omega
 refine go ?_;refine aU (λk=>xs.length - k) (λk:Nat=>[(5,.int .i64 (k:Int))]) (λ_=>[]) (λ_=>[]) (λk=>k<=xs.length/\xs.take k=ys.take k) 0 ⟨by omega,by simp⟩ (body:=?_);rintro k ⟨hk,hsame⟩;refine go ?_;refine aA rfl (λh2=>?_) (λh2=>?_)
 ·refine go ?_;refine bi (ak ae) (xs:=xs) (next:=λ_ _ x (_:Value) hx=>?_);refine go ?_;refine bi (ak ae) (xs:=ys) (next:=λ_ _ y (_:Value) hy=>?_);refine go ?_;refine ay (WJ (xs:=x) (ys:=y) (hll x (aZ hx))) (next:=λ_ _=>?_);refine go ?_;refine fq rfl (λh3=>?_) (λh3=>?_)
  ·refine go ?_;refine ah () (hv:=?_) (hp:=trivial);rw[aR (λe=>by subst e;rw[hx]at hy;exact h3 (Option.some.inj hy))];rfl
  refine go ?_;refine aN (k+1) (by omega) ⟨by omega,?_⟩;rw[bZ hx,bZ hy,hsame,h3]
 have:k=xs.length:=by omega
 subst this;refine go ?_;refine ah () (hv:=?_) (hp:=trivial);rw[bU,hlen,bU]at hsame;rw[dK hsame];rfl
theorem ah7{x y:bN}{v1 v2 u1 u2:Value}(hl:x.names.length<9223372036854775808)(hll:x.others.length<9223372036854775808):dD Tryz.prog 223 [.agg ⟨lV x v1 v2⟩,.agg ⟨lV y u1 u2⟩] [ai bC v1 x.names,ai bC v2 x.others,ai bC u1 y.names,ai bC u2 y.others] (.bool (decide (x=y))):=by
 obtain⟨n1,o1,k1,f1,wG,os1,s1,t1,p1,m1,y1,c1⟩:=x;obtain⟨n2,o2,k2,f2,Di,os2,s2,t2,p2,m2,y2,c2⟩:=y;dsimp only[lV]at hl hll⊢;refine aM _ (aP 223) λB w0=>?_;refine go ?_;intro b2 b3;refine go ?_;refine gG (λh1=>?_) (λh1=>?_)
 ·rw[eB]at h1;have h1:=nC h1;refine go ?_;refine ah () (hv:=?_) (hp:=trivial);rw[aR (λe=>h1 (by cases e;rfl))];rfl
 rw[eB]at h1;have h1:=iI h1;refine go ?_;refine gG (λh2=>?_) (λh2=>?_)
 ·rw[eB]at h2;have h2:=nC h2;refine go ?_;refine ah () (hv:=?_) (hp:=trivial);rw[aR (λe=>h2 (by cases e;rfl))];rfl
 rw[eB]at h2;have h2:=iI h2;refine go ?_;refine gG (λh3=>?_) (λh3=>?_)
 ·refine go ?_;refine ah () (hv:=?_) (hp:=trivial);rw[aR (λe=>h3 (by cases e;rfl))];rfl
 refine go ?_;refine gG (λh4=>?_) (λh4=>?_)
 ·refine go ?_;refine ah () (hv:=?_) (hp:=trivial);rw[aR (λe=>h4 (by cases e;rfl))];rfl
 refine go ?_;refine ay (WK (xs:=wG) (ys:=Di) hl) (next:=λ_ _=>?_);refine go ?_;refine gG (λh5=>?_) (λh5=>?_)
 ·refine go ?_;refine ah () (hv:=?_) (hp:=trivial);rw[aR (λe=>h5 (by cases e;rfl))];rfl
 refine go ?_;refine ay (WK (xs:=os1) (ys:=os2) hll) (next:=λ_ _=>?_);refine go ?_;refine gG (λh6=>?_) (λh6=>?_)
 ·refine go ?_;refine ah () (hv:=?_) (hp:=trivial);rw[aR (λe=>h6 (by cases e;rfl))];rfl
 refine go ?_;refine gG (λh7=>?_) (λh7=>?_)
 ·refine go ?_;refine ah () (hv:=?_) (hp:=trivial);rw[aR (λe=>h7 (by cases e;rfl))];rfl
 refine go ?_;refine gG (λh8=>?_) (λh8=>?_)
 ·refine go ?_;refine ah () (hv:=?_) (hp:=trivial);rw[aR (λe=>h8 (by cases e;rfl))];rfl
 refine go ?_;refine gG (λh9=>?_) (λh9=>?_)
 ·refine go ?_;refine ah () (hv:=?_) (hp:=trivial);rw[aR (λe=>h9 (by cases e;rfl))];rfl
 refine go ?_;refine gG (λh10=>?_) (λh10=>?_)
 ·refine go ?_;refine ah () (hv:=?_) (hp:=trivial);rw[aR (λe=>h10 (by cases e;rfl))];rfl
 refine go ?_;refine gG (λh11=>?_) (λh11=>?_)
 ·rw[eB]at h11;have h11:=nC h11;refine go ?_;refine ah () (hv:=?_) (hp:=trivial);rw[aR (λe=>h11 (by cases e;rfl))];rfl
 rw[eB]at h11;have h11:=iI h11;refine go ?_;refine ah () (hv:=?_) (hp:=trivial);subst h1 h2 h3 h4 h5 h6 h7 h8 h9 h10 h11;rw[show decide (bN.mk n1 o1 k1 f1 wG os1 s1 t1 p1 m1 y1 c1=bN.mk n1 o1 k1 f1 wG os1 s1 t1 p1 m1 y1 c2)=decide (c1=c2)from nO.2 ⟨λh=>by cases h;rfl,λh=>by rw[h]⟩];rfl
theorem ah8{x y:bN}{v1 v2 u1 u2:Value}(hl:x.names.length<9223372036854775808)(hll:x.others.length<9223372036854775808):dD Tryz.prog 271 [.agg ⟨lV x v1 v2⟩,.agg ⟨lV y u1 u2⟩] [ai bC v1 x.names,ai bC v2 x.others,ai bC u1 y.names,ai bC u2 y.others] (.bool (decide (x=y))):=by
 obtain⟨n1,o1,k1,f1,wG,os1,s1,t1,p1,m1,y1,c1⟩:=x;obtain⟨n2,o2,k2,f2,Di,os2,s2,t2,p2,m2,y2,c2⟩:=y;dsimp only[lV]at hl hll⊢;refine aM _ (aP 271) λB w0=>?_;refine go ?_;intro b2 b3;refine go ?_;refine gG (λh1=>?_) (λh1=>?_)
 ·rw[eB]at h1;have h1:=nC h1;refine go ?_;refine ah () (hv:=?_) (hp:=trivial);rw[aR (λe=>h1 (by cases e;rfl))];rfl
 rw[eB]at h1;have h1:=iI h1;refine go ?_;refine gG (λh2=>?_) (λh2=>?_)
 ·rw[eB]at h2;have h2:=nC h2;refine go ?_;refine ah () (hv:=?_) (hp:=trivial);rw[aR (λe=>h2 (by cases e;rfl))];rfl
 rw[eB]at h2;have h2:=iI h2;refine go ?_;refine gG (λh3=>?_) (λh3=>?_)
 ·rw[eB]at h3;have h3:=nC h3;refine go ?_;refine ah () (hv:=?_) (hp:=trivial);rw[aR (λe=>h3 (by cases e;rfl))];rfl
 rw[eB]at h3;have h3:=iI h3;refine go ?_;refine ay (WL (xs:=wG) (ys:=Di) hl) (next:=λ_ _=>?_);refine go ?_;refine gG (λh4=>?_) (λh4=>?_)
 ·refine go ?_;refine ah () (hv:=?_) (hp:=trivial);rw[aR (λe=>h4 (by cases e;rfl))];rfl
 refine go ?_;refine ay (WL (xs:=os1) (ys:=os2) hll) (next:=λ_ _=>?_);refine go ?_;refine gG (λh5=>?_) (λh5=>?_)
 ·refine go ?_;refine ah () (hv:=?_) (hp:=trivial);rw[aR (λe=>h5 (by cases e;rfl))];rfl
 refine go ?_;refine gG (λh6=>?_) (λh6=>?_)
 ·refine go ?_;refine ah () (hv:=?_) (hp:=trivial);rw[aR (λe=>h6 (by cases e;rfl))];rfl
 refine go ?_;refine gG (λh7=>?_) (λh7=>?_)
 ·refine go ?_;refine ah () (hv:=?_) (hp:=trivial);rw[aR (λe=>h7 (by cases e;rfl))];rfl
 refine go ?_;refine gG (λh8=>?_) (λh8=>?_)
 ·refine go ?_;refine ah () (hv:=?_) (hp:=trivial);rw[aR (λe=>h8 (by cases e;rfl))];rfl
 refine go ?_;refine gG (λh9=>?_) (λh9=>?_)
 ·refine go ?_;refine ah () (hv:=?_) (hp:=trivial);rw[aR (λe=>h9 (by cases e;rfl))];rfl
 refine go ?_;refine gG (λh10=>?_) (λh10=>?_)
 ·refine go ?_;refine ah () (hv:=?_) (hp:=trivial);rw[aR (λe=>h10 (by cases e;rfl))];rfl
 refine go ?_;refine gG (λh11=>?_) (λh11=>?_)
 ·refine go ?_;refine ah () (hv:=?_) (hp:=trivial);rw[aR (λe=>h11 (by cases e;rfl))];rfl
 refine go ?_;refine ah () (hv:=?_) (hp:=trivial);subst h1 h2 h3 h4 h5 h6 h7 h8 h9 h10 h11;rw[show decide (bN.mk n1 o1 k1 f1 wG os1 s1 t1 p1 m1 y1 c1=bN.mk n1 o1 k1 f1 wG os1 s1 t1 p1 m1 y1 c2)=decide (c1=c2)from nO.2 ⟨λh=>by cases h;rfl,λh=>by rw[h]⟩];rfl
theorem ah9{x y:bz}{h1 c1 h2 c2:Value}(hS:qP x):dD Tryz.prog 149 [.agg ⟨iO x h1 c1⟩,.agg ⟨iO y h2 c2⟩] [ai ae h1 x.holes,ai ae c1 x.cells,ai ae h2 y.holes,ai ae c2 y.cells] (.bool (decide (x=y))):=by
 have e2:=hS.holes;have e3:=hS.cells;clear hS;obtain⟨xs,xw,xh,Br,Bt⟩:=x;obtain⟨ys,yw,yh,OJ,FT⟩:=y;dsimp only[iO]at e2 e3⊢;refine aM _ (aP 149) λB w0=>?_;refine go ?_;intro b2 b3;refine go ?_;refine gG (λk1=>?_) (λk1=>?_)
 ·refine go ?_;refine ah () (hv:=?_) (hp:=trivial);rw[aR (λe=>k1 (by cases e;rfl))];rfl
 refine go ?_;refine gG (λk2=>?_) (λk2=>?_)
 ·refine go ?_;refine ah () (hv:=?_) (hp:=trivial);rw[aR (λe=>k2 (by cases e;rfl))];rfl
 refine go ?_;refine gG (λk3=>?_) (λk3=>?_)
 ·refine go ?_;refine ah () (hv:=?_) (hp:=trivial);rw[aR (λe=>k3 (by cases e;rfl))];rfl
 refine go ?_;refine ay (zF (xs:=Br) (ys:=OJ) (by omega)) (next:=λ_ _=>?_);refine go ?_;refine gG (λk4=>?_) (λk4=>?_)
 ·refine go ?_;refine ah () (hv:=?_) (hp:=trivial);rw[aR (λe=>k4 (by cases e;rfl))];rfl
 refine go ?_;refine ay (zF (xs:=Bt) (ys:=FT) (by omega)) (next:=λ_ _=>?_);refine go ?_;refine ah () (hv:=?_) (hp:=trivial);subst k1 k2 k3 k4;rw[show decide (bz.mk xs xw xh Br Bt=bz.mk xs xw xh Br FT)=decide (Bt=FT)from nO.2 ⟨λh=>by cases h;rfl,λh=>by rw[h]⟩];rfl
theorem aia{x y:mV}{vx vy:Value}(hl:x.lists.length<9223372036854775808)(hll:∀l∈x.lists,l.length<9223372036854775808):dD Tryz.prog 222 [.agg ⟨[.string x.name,vx]⟩,.agg ⟨[.string y.name,vy]⟩] [ai (ak ae) vx x.lists,ai (ak ae) vy y.lists] (.bool (decide (x=y))):=by
 obtain⟨n1,xs⟩:=x;obtain⟨n2,ys⟩:=y;dsimp only at hl hll⊢;refine aM _ (aP 222) λB w0=>?_;refine aS (E:=ak ae) (v:=vx) (xs:=xs) (by simp) λa1 c1 e1=>?_;subst e1;refine aS (E:=ak ae) (v:=vy) (xs:=ys) (by simp) λa2 c2 e2=>?_;subst e2;refine go ?_;intro b2 b3;refine go ?_;refine lU (λk1=>?_) (λk1=>?_)
 rotate_left
 ·rw[eB]at k1;have k1:¬n1=n2:=by simpa using k1
  refine go ?_;refine ah () (hv:=?_) (hp:=trivial);rw[aR (λe=>k1 (by cases e;rfl))];rfl
 rw[eB]at k1;have k1:n1=n2:=by simpa using k1
 subst k1;have hdd:decide (mV.mk n1 xs=mV.mk n1 ys)=decide (xs=ys):=nO.2 ⟨λh=>by cases h;rfl,λh=>by rw[h]⟩;rw[hdd];refine go ?_;refine aA rfl (λh1=>?_) (λh1=>?_)
 ·refine go ?_;refine ah () (hv:=?_) (hp:=trivial);rw[aR (λe=>by subst e;omega)];rfl
 have hlen:xs.length=ys.length:=by omega
 refine go ?_;refine aU (λk=>xs.length - k) (λk:Nat=>[(5,.int .i64 (k:Int))]) (λ_=>[]) (λ_=>[]) (λk=>k<=xs.length/\xs.take k=ys.take k) 0 ⟨by omega,by simp⟩ (body:=?_);rintro k ⟨hk,hsame⟩;refine go ?_;refine aA rfl (λh2=>?_) (λh2=>?_)
 ·refine go ?_;refine bi (ak ae) (xs:=xs) (next:=λ_ _ x (_:Value) hx=>?_);refine go ?_;refine bi (ak ae) (xs:=ys) (next:=λ_ _ y (_:Value) hy=>?_);refine go ?_;refine ay (WI (xs:=x) (ys:=y) (hll x (aZ hx))) (next:=λ_ _=>?_);refine go ?_;refine fq rfl (λh3=>?_) (λh3=>?_)
  ·refine go ?_;refine ah () (hv:=?_) (hp:=trivial);rw[aR (λe=>by subst e;rw[hx]at hy;exact h3 (Option.some.inj hy))];rfl
  refine go ?_;refine aN (k+1) (by omega) ⟨by omega,?_⟩;rw[bZ hx,bZ hy,hsame,h3]
 have:k=xs.length:=by omega
 subst this;refine go ?_;refine ah () (hv:=?_) (hp:=trivial);rw[bU,hlen,bU]at hsame;rw[dK hsame];rfl
theorem aib{x y:bF}{h1 s1 r1 c1 u1 h2 s2 r2 c2 u2:Value}(hS:ng x):dD Tryz.prog 148 [.agg ⟨gB x h1 s1 r1 c1 u1⟩,.agg ⟨gB y h2 s2 r2 c2 u2⟩] (lG x h1 s1 r1 c1 u1++lG y h2 s2 r2 c2 u2) (.bool (decide (x=y))):=by
 have e1:=hS.eH;have e2:=hS.regs;have e3:=hS.jg;have e4:=hS.kX;have e5:=hS.rY;have e6:=hS.holes;have e7:=hS.rZ;clear hS;obtain⟨fs1,hu1,Ph⟩:=Od;obtain⟨fs2,hu2,hrow2⟩:=Oe;obtain⟨n1,v1,p1,w1,g1,ho1,ni,mF,nu,mG⟩:=x;obtain⟨n2,v2,p2,w2,g2,ho2,qN,qj,qO,ql⟩:=y;dsimp only at e1 e2 e3 e4 e5 e6 e7;dsimp only[gB,lG,List.cons_append,List.nil_append];refine aM _ (aP 148) λB w0=>?_;refine aS (E:=fF) (v:=s1) (xs:=ni) (by simp) λkY cs1 es=>?_;subst es;refine aS (E:=fF) (v:=s2) (xs:=qN) (by simp) λas2 cs2 es=>?_;subst es;refine aS (E:=eY) (v:=r1) (xs:=mF) (by simp) λar1 cr1 es=>?_;subst es;refine aS (E:=eY) (v:=r2) (xs:=qj) (by simp) λar2 cr2 es=>?_;subst es;refine aS (E:=bI) (v:=c1) (xs:=nu) (by simp) λac1 cc1 es=>?_;subst es;refine aS (E:=bI) (v:=c2) (xs:=qO) (by simp) λac2 cc2 es=>?_;subst es;refine aS (E:=aY) (v:=u1) (xs:=mG) (by simp) λau1 cu1 es=>?_;subst es;refine aS (E:=aY) (v:=u2) (xs:=ql) (by simp) λau2 cu2 es=>?_;subst es;refine go ?_;intro b2 b3;refine go ?_;refine lU (λk1=>?_) (λk1=>?_)
 rotate_left
 ·rw[eB]at k1;have k1:¬n1=n2:=by simpa using k1
  refine go ?_;refine ah () (hv:=?_) (hp:=trivial);rw[aR (λe=>k1 (by cases e;rfl))];rfl
 rw[eB]at k1;have k1:n1=n2:=by simpa using k1
 refine go ?_;refine gG (λk2=>?_) (λk2=>?_)
 rotate_left
 ·refine go ?_;refine ah () (hv:=?_) (hp:=trivial);rw[aR (λe=>k2 (by cases e;rfl))];rfl
 refine go ?_;refine gG (λk3=>?_) (λk3=>?_)
 rotate_left
 ·refine go ?_;refine ah () (hv:=?_) (hp:=trivial);rw[aR (λe=>k3 (by cases e;rfl))];rfl
 refine go ?_;refine gG (λk4=>?_) (λk4=>?_)
 rotate_left
 ·refine go ?_;refine ah () (hv:=?_) (hp:=trivial);rw[aR (λe=>k4 (by cases e;rfl))];rfl
 refine go ?_;refine gG (λk5=>?_) (λk5=>?_)
 rotate_left
 ·refine go ?_;refine ah () (hv:=?_) (hp:=trivial);rw[aR (λe=>k5 (by cases e;rfl))];rfl
 refine go ?_;refine ay (WI (xs:=ho1) (ys:=ho2) e6) (next:=λ_ _=>?_);refine go ?_;refine nK (λk6=>?_) (λk6=>?_)
 rotate_left
 ·refine go ?_;refine ah () (hv:=?_) (hp:=trivial);rw[aR (λe=>k6 (by cases e;rfl))];rfl
 refine go ?_;refine gG (λk7=>?_) (λk7=>?_)
 rotate_left
 ·refine go ?_;refine ah () (hv:=?_) (hp:=trivial);rw[aR (λe=>k7 (by cases e;rfl))];rfl
 refine go ?_;refine gG (λk8=>?_) (λk8=>?_)
 rotate_left
 ·refine go ?_;refine ah () (hv:=?_) (hp:=trivial);rw[aR (λe=>k8 (by cases e;rfl))];rfl
 refine go ?_;refine gG (λk9=>?_) (λk9=>?_)
 rotate_left
 ·refine go ?_;refine ah () (hv:=?_) (hp:=trivial);rw[aR (λe=>k9 (by cases e;rfl))];rfl
 refine go ?_;refine aA rfl (λk10=>?_) (λk10=>?_)
 ·refine go ?_;refine ah () (hv:=?_) (hp:=trivial);rw[aR (λe=>k10 (by cases e;rfl))];rfl
 have l1:ni.length=qN.length:=by omega
 have l2:mF.length=qj.length:=by omega
 have l3:nu.length=qO.length:=by omega
 have l4:mG.length=ql.length:=by omega
 refine go ?_;refine aU (λk=>ni.length - k) (λk:Nat=>[(5,.int .i64 (k:Int))]) (λ_=>[]) (λ_=>[]) (λk=>k<=ni.length/\ni.take k=qN.take k) 0 ⟨by omega,by simp⟩ (body:=?_);rintro k ⟨hk,hsame⟩;refine go ?_;refine aA rfl (λh2=>?_) (λh2=>?_)
 ·refine go ?_;refine bi fF (xs:=ni) (next:=λ_ _ x (_:Unit) hx=>?_);refine go ?_;refine bi fF (xs:=qN) (next:=λ_ _ y (_:Unit) hy=>?_);refine go ?_;refine(fA (v:=.bool (!decide (x=y))) rfl rfl (by rw[<- Ob];exact CQ rfl rfl hu1 (by kernel_rfl) (by kernel_rfl) (row_of Ph rfl rfl (λj=>by rw[fo]) (λj=>by rw[fo])) (by simp[fZ,cK,Ideal.cellV]) (by simp[fZ,cK,Ideal.cellV]))).h ?_;refine go ?_;refine fq rfl (λh3=>?_) (λh3=>?_)
  ·refine go ?_;refine ah () (hv:=?_) (hp:=trivial);rw[aR (λe=>by cases e;rw[hx]at hy;exact h3 (Option.some.inj hy))];rfl
  refine go ?_;refine aN (k+1) (by omega) ⟨by omega,?_⟩;rw[bZ hx,bZ hy,hsame,h3]
 have hkl:k=ni.length:=by omega
 subst hkl;rw[bU,l1,bU]at hsame;have m1:=hsame;clear hsame hk h2;refine go ?_;refine aU (λk=>mF.length - k) (λk:Nat=>[(6,.int .i64 (k:Int))]) (λ_=>[]) (λ_=>[]) (λk=>k<=mF.length/\mF.take k=qj.take k) 0 ⟨by omega,by simp⟩ (body:=?_);rintro k ⟨hk,hsame⟩;refine go ?_;refine aA rfl (λh2=>?_) (λh2=>?_)
 ·refine go ?_;refine bi eY (xs:=mF) (next:=λ_ _ x (vx:Value) hx=>?_);have hxl:=e7 x (aZ hx);refine go ?_;refine bi eY (xs:=qj) (next:=λ_ _ y (vy:Value) hy=>?_);refine go ?_;refine ay (aia (x:=x) (y:=y) (vx:=vx) (vy:=vy) hxl.1 hxl.2) (next:=λ_ _=>?_);refine go ?_;refine fq rfl (λh3=>?_) (λh3=>?_)
  ·refine go ?_;refine ah () (hv:=?_) (hp:=trivial);rw[aR (λe=>by cases e;rw[hx]at hy;exact h3 (Option.some.inj hy))];rfl
  refine go ?_;refine aN (k+1) (by omega) ⟨by omega,?_⟩;rw[bZ hx,bZ hy,hsame,h3]
 have hkl:k=mF.length:=by omega
 subst hkl;rw[bU,l2,bU]at hsame;have m2:=hsame;clear hsame hk h2;refine go ?_;refine aU (λk=>nu.length - k) (λk:Nat=>[(7,.int .i64 (k:Int))]) (λ_=>[]) (λ_=>[]) (λk=>k<=nu.length/\nu.take k=qO.take k) 0 ⟨by omega,by simp⟩ (body:=?_);rintro k ⟨hk,hsame⟩;refine go ?_;refine aA rfl (λh2=>?_) (λh2=>?_)
 ·refine go ?_;refine bi bI (xs:=nu) (next:=λ_ _ x (_:Unit) hx=>?_);refine go ?_;refine bi bI (xs:=qO) (next:=λ_ _ y (_:Unit) hy=>?_);refine go ?_;refine(fA (v:=.bool (!decide (x=y))) rfl rfl (by rw[<- Oc];exact CQ rfl rfl hu2 (by kernel_rfl) (by kernel_rfl) (row_of hrow2 rfl rfl (λj=>by rw[fo]) (λj=>by rw[fo])) (by simp[fZ,cK,Ideal.cellV]) (by simp[fZ,cK,Ideal.cellV]))).h ?_;refine go ?_;refine fq rfl (λh3=>?_) (λh3=>?_)
  ·refine go ?_;refine ah () (hv:=?_) (hp:=trivial);rw[aR (λe=>by cases e;rw[hx]at hy;exact h3 (Option.some.inj hy))];rfl
  refine go ?_;refine aN (k+1) (by omega) ⟨by omega,?_⟩;rw[bZ hx,bZ hy,hsame,h3]
 have hkl:k=nu.length:=by omega
 subst hkl;rw[bU,l3,bU]at hsame;have m3:=hsame;clear hsame hk h2;refine go ?_;refine aU (λk=>mG.length - k) (λk:Nat=>[(8,.int .i64 (k:Int))]) (λ_=>[]) (λ_=>[]) (λk=>k<=mG.length/\mG.take k=ql.take k) 0 ⟨by omega,by simp⟩ (body:=?_);rintro k ⟨hk,hsame⟩;refine go ?_;refine aA rfl (λh2=>?_) (λh2=>?_)
 ·refine go ?_;refine bi aY (xs:=mG) (next:=λ_ _ x (vx:Value×Value) hx=>?_);have hxl:=e5 x (aZ hx);refine go ?_;refine bi aY (xs:=ql) (next:=λ_ _ y (vy:Value×Value) hy=>?_);refine go ?_;refine ay (ah7 (x:=x) (y:=y) (v1:=vx.1) (v2:=vx.2) (u1:=vy.1) (u2:=vy.2) hxl.1 hxl.2) (next:=λ_ _=>?_);refine go ?_;refine fq rfl (λh3=>?_) (λh3=>?_)
  ·refine go ?_;refine ah () (hv:=?_) (hp:=trivial);rw[aR (λe=>by cases e;rw[hx]at hy;exact h3 (Option.some.inj hy))];rfl
  refine go ?_;refine aN (k+1) (by omega) ⟨by omega,?_⟩;rw[bZ hx,bZ hy,hsame,h3]
 have hkl:k=mG.length:=by omega
 subst hkl;rw[bU,l4,bU]at hsame;have m4:=hsame;clear hsame hk h2;refine go ?_;refine ah () (hv:=?_) (hp:=trivial);rw[dK (show bF.mk n1 v1 p1 w1 g1 ho1 ni mF nu mG=bF.mk n2 v2 p2 w2 g2 ho2 qN qj qO ql from by rw[k1,ic.1 k2,ic.1 k3,ic.1 k4,ic.1 k5,k6,m1,m2,m3,m4])];rfl
theorem ais{x y:bF}{h1 s1 r1 c1 u1 h2 s2 r2 c2 u2:Value}(hS:ng x):dD Tryz.prog 196 [.agg ⟨gB x h1 s1 r1 c1 u1⟩,.agg ⟨gB y h2 s2 r2 c2 u2⟩] (lG x h1 s1 r1 c1 u1++lG y h2 s2 r2 c2 u2) (.bool (decide (x=y))):=by
 have e1:=hS.eH;have e2:=hS.regs;have e3:=hS.jg;have e4:=hS.kX;have e5:=hS.rY;have e6:=hS.holes;have e7:=hS.rZ;clear hS;obtain⟨fs1,hu1,Ph⟩:=Od;obtain⟨fs2,hu2,hrow2⟩:=Oe;obtain⟨n1,v1,p1,w1,g1,ho1,ni,mF,nu,mG⟩:=x;obtain⟨n2,v2,p2,w2,g2,ho2,qN,qj,qO,ql⟩:=y;dsimp only at e1 e2 e3 e4 e5 e6 e7;dsimp only[gB,lG,List.cons_append,List.nil_append];refine aM _ (aP 196) λB w0=>?_;refine aS (E:=fF) (v:=s1) (xs:=ni) (by simp) λkY cs1 es=>?_;subst es;refine aS (E:=fF) (v:=s2) (xs:=qN) (by simp) λas2 cs2 es=>?_;subst es;refine aS (E:=eY) (v:=r1) (xs:=mF) (by simp) λar1 cr1 es=>?_;subst es;refine aS (E:=eY) (v:=r2) (xs:=qj) (by simp) λar2 cr2 es=>?_;subst es;refine aS (E:=bI) (v:=c1) (xs:=nu) (by simp) λac1 cc1 es=>?_;subst es;refine aS (E:=bI) (v:=c2) (xs:=qO) (by simp) λac2 cc2 es=>?_;subst es;refine aS (E:=aY) (v:=u1) (xs:=mG) (by simp) λau1 cu1 es=>?_;subst es;refine aS (E:=aY) (v:=u2) (xs:=ql) (by simp) λau2 cu2 es=>?_;subst es;refine go ?_;intro b2 b3;refine go ?_;refine lU (λk1=>?_) (λk1=>?_)
 rotate_left
 ·rw[eB]at k1;have k1:¬n1=n2:=by simpa using k1
  refine go ?_;refine ah () (hv:=?_) (hp:=trivial);rw[aR (λe=>k1 (by cases e;rfl))];rfl
 rw[eB]at k1;have k1:n1=n2:=by simpa using k1
 refine go ?_;refine gG (λk2=>?_) (λk2=>?_)
 rotate_left
 ·refine go ?_;refine ah () (hv:=?_) (hp:=trivial);rw[aR (λe=>k2 (by cases e;rfl))];rfl
 refine go ?_;refine gG (λk3=>?_) (λk3=>?_)
 rotate_left
 ·refine go ?_;refine ah () (hv:=?_) (hp:=trivial);rw[aR (λe=>k3 (by cases e;rfl))];rfl
 refine go ?_;refine gG (λk4=>?_) (λk4=>?_)
 rotate_left
 ·refine go ?_;refine ah () (hv:=?_) (hp:=trivial);rw[aR (λe=>k4 (by cases e;rfl))];rfl
 refine go ?_;refine gG (λk5=>?_) (λk5=>?_)
 rotate_left
 ·refine go ?_;refine ah () (hv:=?_) (hp:=trivial);rw[aR (λe=>k5 (by cases e;rfl))];rfl
 refine go ?_;refine ay (WJ (xs:=ho1) (ys:=ho2) e6) (next:=λ_ _=>?_);refine go ?_;refine fq rfl (λk6=>?_) (λk6=>?_)
 ·refine go ?_;refine ah () (hv:=?_) (hp:=trivial);rw[aR (λe=>k6 (by cases e;rfl))];rfl
 refine go ?_;refine gG (λk7=>?_) (λk7=>?_)
 rotate_left
 ·refine go ?_;refine ah () (hv:=?_) (hp:=trivial);rw[aR (λe=>k7 (by cases e;rfl))];rfl
 refine go ?_;refine gG (λk8=>?_) (λk8=>?_)
 rotate_left
 ·refine go ?_;refine ah () (hv:=?_) (hp:=trivial);rw[aR (λe=>k8 (by cases e;rfl))];rfl
 refine go ?_;refine gG (λk9=>?_) (λk9=>?_)
 rotate_left
 ·refine go ?_;refine ah () (hv:=?_) (hp:=trivial);rw[aR (λe=>k9 (by cases e;rfl))];rfl
 refine go ?_;refine aA rfl (λk10=>?_) (λk10=>?_)
 ·refine go ?_;refine ah () (hv:=?_) (hp:=trivial);rw[aR (λe=>k10 (by cases e;rfl))];rfl
 have l1:ni.length=qN.length:=by omega
 have l2:mF.length=qj.length:=by omega
 have l3:nu.length=qO.length:=by omega
 have l4:mG.length=ql.length:=by omega
 refine go ?_;refine aU (λk=>ni.length - k) (λk:Nat=>[(5,.int .i64 (k:Int))]) (λ_=>[]) (λ_=>[]) (λk=>k<=ni.length/\ni.take k=qN.take k) 0 ⟨by omega,by simp⟩ (body:=?_);rintro k ⟨hk,hsame⟩;refine go ?_;refine aA rfl (λh2=>?_) (λh2=>?_)
 ·refine go ?_;refine bi fF (xs:=ni) (next:=λ_ _ x (_:Unit) hx=>?_);refine go ?_;refine bi fF (xs:=qN) (next:=λ_ _ y (_:Unit) hy=>?_);refine go ?_;refine(fA (v:=.bool (!decide (x=y))) rfl rfl (by rw[<- Ob];exact CQ rfl rfl hu1 (by kernel_rfl) (by kernel_rfl) (row_of Ph rfl rfl (λj=>by rw[fo]) (λj=>by rw[fo])) (by simp[fZ,cK,Ideal.cellV]) (by simp[fZ,cK,Ideal.cellV]))).h ?_;refine go ?_;refine fq rfl (λh3=>?_) (λh3=>?_)
  ·refine go ?_;refine ah () (hv:=?_) (hp:=trivial);rw[aR (λe=>by cases e;rw[hx]at hy;exact h3 (Option.some.inj hy))];rfl
  refine go ?_;refine aN (k+1) (by omega) ⟨by omega,?_⟩;rw[bZ hx,bZ hy,hsame,h3]
 have hkl:k=ni.length:=by omega
 subst hkl;rw[bU,l1,bU]at hsame;have m1:=hsame;clear hsame hk h2;refine go ?_;refine aU (λk=>mF.length - k) (λk:Nat=>[(6,.int .i64 (k:Int))]) (λ_=>[]) (λ_=>[]) (λk=>k<=mF.length/\mF.take k=qj.take k) 0 ⟨by omega,by simp⟩ (body:=?_);rintro k ⟨hk,hsame⟩;refine go ?_;refine aA rfl (λh2=>?_) (λh2=>?_)
 ·refine go ?_;refine bi eY (xs:=mF) (next:=λ_ _ x (vx:Value) hx=>?_);have hxl:=e7 x (aZ hx);refine go ?_;refine bi eY (xs:=qj) (next:=λ_ _ y (vy:Value) hy=>?_);refine go ?_;refine lU (λj1=>?_) (λj1=>?_)
  rotate_left
  ·rw[eB]at j1;have j1:¬x.name=y.name:=by simpa using j1
   have h3:¬x=y:=λe=>j1 (by rw[e]);refine go ?_;refine ah () (hv:=?_) (hp:=trivial);rw[aR (λe=>by cases e;rw[hx]at hy;exact h3 (Option.some.inj hy))];rfl
  rw[eB]at j1;have j1:x.name=y.name:=by simpa using j1
  refine go ?_;refine bi eY (xs:=mF) (next:=λ_ _ x' (vx:Value) hx'=>?_);cases hx.symm.trans hx';refine go ?_;refine bi eY (xs:=qj) (next:=λ_ _ y' (vy:Value) hy'=>?_);cases hy.symm.trans hy';refine go ?_;refine ay (ah6 (xs:=x.lists) (ys:=y.lists) hxl.1 hxl.2) (next:=λ_ _=>?_);refine go ?_;refine fq rfl (λh3=>?_) (λh3=>?_)
  ·have h3:¬x=y:=λe=>h3 (by rw[e]);refine go ?_;refine ah () (hv:=?_) (hp:=trivial);rw[aR (λe=>by cases e;rw[hx]at hy;exact h3 (Option.some.inj hy))];rfl
  have h3:x=y:=by
   obtain⟨a,b⟩:=x;obtain⟨c,d⟩:=y;dsimp only at j1 h3;rw[j1,h3]
  refine go ?_;refine aN (k+1) (by omega) ⟨by omega,?_⟩;rw[bZ hx,bZ hy,hsame,h3]
 have hkl:k=mF.length:=by omega
 subst hkl;rw[bU,l2,bU]at hsame;have m2:=hsame;clear hsame hk h2;refine go ?_;refine aU (λk=>nu.length - k) (λk:Nat=>[(7,.int .i64 (k:Int))]) (λ_=>[]) (λ_=>[]) (λk=>k<=nu.length/\nu.take k=qO.take k) 0 ⟨by omega,by simp⟩ (body:=?_);rintro k ⟨hk,hsame⟩;refine go ?_;refine aA rfl (λh2=>?_) (λh2=>?_)
 ·refine go ?_;refine bi bI (xs:=nu) (next:=λ_ _ x (_:Unit) hx=>?_);refine go ?_;refine bi bI (xs:=qO) (next:=λ_ _ y (_:Unit) hy=>?_);refine go ?_;refine(fA (v:=.bool (!decide (x=y))) rfl rfl (by rw[<- Oc];exact CQ rfl rfl hu2 (by kernel_rfl) (by kernel_rfl) (row_of hrow2 rfl rfl (λj=>by rw[fo]) (λj=>by rw[fo])) (by simp[fZ,cK,Ideal.cellV]) (by simp[fZ,cK,Ideal.cellV]))).h ?_;refine go ?_;refine fq rfl (λh3=>?_) (λh3=>?_)
  ·refine go ?_;refine ah () (hv:=?_) (hp:=trivial);rw[aR (λe=>by cases e;rw[hx]at hy;exact h3 (Option.some.inj hy))];rfl
  refine go ?_;refine aN (k+1) (by omega) ⟨by omega,?_⟩;rw[bZ hx,bZ hy,hsame,h3]
 have hkl:k=nu.length:=by omega
 subst hkl;rw[bU,l3,bU]at hsame;have m3:=hsame;clear hsame hk h2;refine go ?_;refine aU (λk=>mG.length - k) (λk:Nat=>[(8,.int .i64 (k:Int))]) (λ_=>[]) (λ_=>[]) (λk=>k<=mG.length/\mG.take k=ql.take k) 0 ⟨by omega,by simp⟩ (body:=?_);rintro k ⟨hk,hsame⟩;refine go ?_;refine aA rfl (λh2=>?_) (λh2=>?_)
 ·refine go ?_;refine bi aY (xs:=mG) (next:=λ_ _ x (vx:Value×Value) hx=>?_);have hxl:=e5 x (aZ hx);refine go ?_;refine bi aY (xs:=ql) (next:=λ_ _ y (vy:Value×Value) hy=>?_);refine go ?_;refine ay (ah8 (x:=x) (y:=y) (v1:=vx.1) (v2:=vx.2) (u1:=vy.1) (u2:=vy.2) hxl.1 hxl.2) (next:=λ_ _=>?_);refine go ?_;refine fq rfl (λh3=>?_) (λh3=>?_)
  ·refine go ?_;refine ah () (hv:=?_) (hp:=trivial);rw[aR (λe=>by cases e;rw[hx]at hy;exact h3 (Option.some.inj hy))];rfl
  refine go ?_;refine aN (k+1) (by omega) ⟨by omega,?_⟩;rw[bZ hx,bZ hy,hsame,h3]
 have hkl:k=mG.length:=by omega
 subst hkl;rw[bU,l4,bU]at hsame;have m4:=hsame;clear hsame hk h2;refine go ?_;refine ah () (hv:=?_) (hp:=trivial);rw[dK (show bF.mk n1 v1 p1 w1 g1 ho1 ni mF nu mG=bF.mk n2 v2 p2 w2 g2 ho2 qN qj qO ql from by rw[k1,ic.1 k2,ic.1 k3,ic.1 k4,ic.1 k5,k6,m1,m2,m3,m4])];rfl
