/-
  ref53: between, sheet, result, Check.
-/
import Derived.Test.YtbdaaopebgcnaaaGreatDoorLibHM
import Derived.Test.YtbdaaopebgcnaaaGreatDoorLibFM
set_option linter.all false
set_option maxRecDepth 10000
set_option maxHeartbeats 4000000
namespace Go.Proofs.YtbdaaopebgcnaaaGreatDoor
open Go.Ideal Rk
theorem RH{xs:List Int}{lo hi:Int}{k:Nat}{x:Int}(hx:xs[k]? =some x)(h:x<lo\/hi<x):tY xs lo hi=false:=by
 cases e:tY xs lo hi with
 |false=>rfl
 |true=>have:=kU.1 e x (dA hx);omega
theorem KF{lo hi:Int}{va:Value}{xs:List Int}(hl:xs.length<9223372036854775808):ik Tryz.prog 106 [va,.int .i64 lo,.int .i64 hi] [ae az va xs] (.bool (tY xs lo hi)):=by
 refine aV _ (bB 106) λB w0=>?_;refine go ?_;refine dQ (λy:Nat=>xs.length - y) (λy=>[(7,.int .i64 (y:Int))]) (λ_=>[]) (λ_=>[]) (λy=>y<=xs.length/\∀x∈xs.take y,lo<=x/\x<=hi) 0 ⟨dY _,by simp⟩ (body:=?_);rintro k ⟨hk,hok⟩;dsimp only at hk⊢;refine go ?_;refine aM rfl (λh2=>?_) (λh2=>?_)
 ·refine go ?_;intro _ _ x hx;refine go ?_;refine gG (λh3=>?_) (λh3=>?_)
  rotate_left
  ·refine go ?_;exact aj () (hv:=by rw[RH hx (.inl h3)];rfl) (hp:=trivial)
  refine go ?_;intro _ _ x2 hx2;cases hx.symm.trans hx2;refine go ?_;refine aM rfl (λh4=>?_) (λh4=>?_)
  ·refine go ?_;exact aj () (hv:=by rw[RH hx (.inr h4)];rfl) (hp:=trivial)
  refine go ?_;refine aY (k+1) (by show xs.length - (k+1)<xs.length - k;omega) ⟨by show k+1<=_;omega,λy hy=>?_⟩;rw[fG hx]at hy;rcases fI.1 hy with hy|hy
  ·exact hok y hy
  ·rw[cB.1 hy];omega
 have hkl:k=xs.length:=by omega
 subst hkl;rw[iB]at hok;refine go ?_;exact aj () (hv:=by rw[kU.2 hok];rfl) (hp:=trivial)
theorem adw{s:aJ}{v1 v2 v3 v4:Value}(hb1:s.lv.length<9223372036854775808)(hb2:s.cl.length<9223372036854775808)(hb3:s.pz.length<9223372036854775808)(hx1:cellsOf v1=some [v1])(hx2:cellsOf v2=some [v2])(hx3:cellsOf v3=some [v3])(hx4:cellsOf v4=some [v4]):
 aT Tryz.prog (.func 74) [.agg ⟨kY s v1 v2 v3 v4⟩] [] [] [ae az v1 s.lv,ae az v2 s.cl,ae az v4 s.pz] (λy:Bool=>.bool y) (λ_=>[]) (λ_=>[]) (λy=>y=true↔pX s):=by
 refine aV _ (bB 74) λB w0=>?_;refine go ?_;intro b1;refine go ?_;refine gG (λh1=>?_) (λh1=>?_)
 rotate_left
 ·refine go ?_;exact aj false (hv:=rfl) (hp:=⟨λh=>(by cases h),λh=>absurd h (by intro h;have:=h.c1;omega)⟩)
 refine go ?_;refine gG (λh2=>?_) (λh2=>?_)
 rotate_left
 ·refine go ?_;exact aj false (hv:=rfl) (hp:=⟨λh=>(by cases h),λh=>absurd h (by intro h;have:=h.c8;omega)⟩)
 refine go ?_;refine gG (λh3=>?_) (λh3=>?_)
 rotate_left
 ·refine go ?_;exact aj false (hv:=rfl) (hp:=⟨λh=>(by cases h),λh=>absurd h (by intro h;have:=h.p1;omega)⟩)
 refine go ?_;refine gG (λh4=>?_) (λh4=>?_)
 rotate_left
 ·refine go ?_;exact aj false (hv:=rfl) (hp:=⟨λh=>(by cases h),λh=>absurd h (by intro h;have:=h.p8;omega)⟩)
 refine go ?_;refine gG (λh5=>?_) (λh5=>?_)
 rotate_left
 ·refine go ?_;exact aj false (hv:=rfl) (hp:=⟨λh=>(by cases h),λh=>absurd h (by intro h;exact h5 h.lv)⟩)
 refine go ?_;refine gG (λh6=>?_) (λh6=>?_)
 rotate_left
 ·refine go ?_;exact aj false (hv:=rfl) (hp:=⟨λh=>(by cases h),λh=>absurd h (by intro h;exact h6 h.cl)⟩)
 refine go ?_;refine aM rfl (λh7=>?_) (λh7=>?_)
 ·refine go ?_;exact aj false (hv:=rfl) (hp:=⟨λh=>(by cases h),λh=>absurd h (by intro h;have:=h.pz;omega)⟩)
 refine go ?_;refine aG (KF (xs:=s.lv) (lo:=0) (hi:=9) hb1) (next:=λ_ _=>?_);refine go ?_;refine gG (λg1=>?_) (λg1=>?_)
 ·refine go ?_;exact aj false (hv:=rfl) (hp:=⟨λh=>(by cases h),λh=>absurd h (by intro h;rw[kU.2 h.JD]at g1;cases g1)⟩)
 refine go ?_;refine aG (KF (xs:=s.cl) (lo:=0) (hi:=512) hb2) (next:=λ_ _=>?_);refine go ?_;refine gG (λg2=>?_) (λg2=>?_)
 ·refine go ?_;exact aj false (hv:=rfl) (hp:=⟨λh=>(by cases h),λh=>absurd h (by intro h;rw[kU.2 h.JE]at g2;cases g2)⟩)
 refine go ?_;refine aG (KF (xs:=s.pz) (lo:=0) (hi:=1048576) hb3) (next:=λ_ _=>?_);refine go ?_;exact aj (tY s.pz 0 1048576) (hv:=rfl) (hp:=⟨λh=>⟨by omega,by omega,by omega,by omega,by omega,by omega,by omega,kU.1 g1,kU.1 g2,kU.1 h⟩,λh=>kU.2 h.JF⟩)
theorem adx{s:aJ}{v1 v2 v3 v4:Value}{x:aA}(hx1:cellsOf v1=some [v1])(hx2:cellsOf v2=some [v2])(hx3:cellsOf v3=some [v3])(hx4:cellsOf v4=some [v4]):
 aT Tryz.prog (.func 75) [.agg ⟨kY s v1 v2 v3 v4⟩,.agg ⟨[.int .i64 x.c,.int .i64 x.p,.int .i64 x.t,.int .i64 x.lo,.int .i64 x.hi,.bool x.r]⟩] [] [] [] (λy:Bool=>.bool y) (λ_=>[]) (λ_=>[]) (λy=>y=true↔iq s x):=by
 refine aV _ (bB 75) λB w0=>?_;refine go ?_;intro b2;refine go ?_;intro b3;refine go ?_;refine gG (λh1=>?_) (λh1=>?_)
 rotate_left
 ·refine go ?_;exact aj false (hv:=rfl) (hp:=⟨λh=>(by cases h),λh=>absurd h (by intro h;have:=h.c0;omega)⟩)
 refine go ?_;refine gG (λh2=>?_) (λh2=>?_)
 rotate_left
 ·refine go ?_;exact aj false (hv:=rfl) (hp:=⟨λh=>(by cases h),λh=>absurd h (by intro h;have:=h.c1;omega)⟩)
 refine go ?_;refine gG (λh3=>?_) (λh3=>?_)
 rotate_left
 ·refine go ?_;exact aj false (hv:=rfl) (hp:=⟨λh=>(by cases h),λh=>absurd h (by intro h;have:=h.p0;omega)⟩)
 refine go ?_;refine gG (λh4=>?_) (λh4=>?_)
 rotate_left
 ·refine go ?_;exact aj false (hv:=rfl) (hp:=⟨λh=>(by cases h),λh=>absurd h (by intro h;have:=h.p1;omega)⟩)
 refine go ?_;refine gG (λh5=>?_) (λh5=>?_)
 rotate_left
 ·refine go ?_;exact aj false (hv:=rfl) (hp:=⟨λh=>(by cases h),λh=>absurd h (by intro h;have:=h.t0;omega)⟩)
 refine go ?_;refine aM rfl (λh6=>?_) (λh6=>?_)
 ·refine go ?_;exact aj false (hv:=rfl) (hp:=⟨λh=>(by cases h),λh=>absurd h (by intro h;have:=h.t1;omega)⟩)
 refine go ?_;refine gG (λh7=>?_) (λh7=>?_)
 ·refine go ?_;exact aj false (hv:=rfl) (hp:=⟨λh=>(by cases h),λh=>absurd h (by intro h;have:=h.lo;omega)⟩)
 refine go ?_;refine gG (λh8=>?_) (λh8=>?_)
 ·refine go ?_;exact aj false (hv:=rfl) (hp:=⟨λh=>(by cases h),λh=>absurd h (by intro h;have:=h.le;omega)⟩)
 refine go ?_;exact aj (decide (x.hi<=1048576)) (hv:=rfl) (hp:=⟨λh=>⟨by omega,by omega,by omega,by omega,by omega,by omega,by omega,by omega,by have:=sN h;omega⟩,λh=>fK h.hi⟩)
theorem ady{s:aJ}{v1 v2 v3 v4 vl:Value}{l:List aA}(hW:vZ s.pg)(hb1:s.lv.length<9223372036854775808)(hb2:s.cl.length<9223372036854775808)(hb3:s.pz.length<9223372036854775808)(hb4:s.pg.length<9223372036854775808)(hx1:cellsOf v1=some [v1])(hx2:cellsOf v2=some [v2])(hx3:cellsOf v3=some [v3])(hx4:cellsOf v4=some [v4]):
 aT Tryz.prog (.func 54) [.agg ⟨kY s v1 v2 v3 v4⟩,vl] [] [] [ae az v1 s.lv,ae az v2 s.cl,ae iw v3 s.pg,ae az v4 s.pz,ae bR vl l] (λy:Int=>.int .i64 y) (λ_=>[]) (λ_=>[]) (λy=>y=eZ s l):=by
 refine aV _ (bB 54) λB w0=>?_;refine go ?_;intro b2;refine go ?_;refine aM rfl (λh1=>?_) (λh1=>?_)
 ·refine go ?_;exact aj 2 (hv:=rfl) (hp:=(P6 (by omega)).symm)
 refine go ?_;refine aG (adv (ws:=s.pg) hW hb4) (next:=λy hy=>?_);refine go ?_;refine aM rfl (λh2=>?_) (λh2=>?_)
 ·refine go ?_;refine aj y (hv:=rfl) (hp:=?_);have hno:¬fw s.pg:=λh=>h2 (hy.1 h);rw[P7 (by omega) hno];exact hy.2 hno
 have hp:fw s.pg:=Classical.byContradiction λh=>by have:=hy.2 h;omega
 refine go ?_;refine aG (adw (s:=s) (v1:=v1) (v2:=v2) (v3:=v3) (v4:=v4) hb1 hb2 hb3 hx1 hx2 hx3 hx4) (next:=λz hz=>?_);refine go ?_;refine jO rfl (λh3=>?_) (λh3=>?_)
 ·refine go ?_;refine aj 530 (hv:=rfl) (hp:=(mZ (by omega) hp λhs hr=>?_).symm);rw[hz.2 hs]at h3;cases h3
 have hsh:=hz.1 (by simpa using h3);refine go ?_;refine dQ (λk=>l.length - k) (λk:Nat=>[(6,.int .i64 (k:Int))]) (λ_=>[]) (λ_=>[]) (λk=>k<=l.length/\∀x∈l.take k,iq s x) 0 ⟨dY _,by simp⟩ (body:=?_);rintro k ⟨hk,hok⟩;refine go ?_;refine aM rfl (λh4=>?_) (λh4=>?_)
 ·refine go ?_;refine eX bR (k:=k) (next:=λbx ox x _ hx=>?_);have hxm:=dA hx;refine go ?_;refine aG (adx (s:=s) (v1:=v1) (v2:=v2) (v3:=v3) (v4:=v4) (x:=x) hx1 hx2 hx3 hx4) (next:=λu hu=>?_);refine go ?_;refine jO rfl (λh5=>?_) (λh5=>?_)
  ·refine go ?_;refine aj 530 (hv:=rfl) (hp:=(mZ (by omega) hp λhs hr=>?_).symm);rw[hu.2 (hr x hxm)]at h5;cases h5
  refine go ?_;refine aY (k+1) (by omega) ⟨by omega,λy hy=>?_⟩;rw[fG hx]at hy;rcases fI.1 hy with hy|hy
  ·exact hok y hy
  ·rw[cB.1 hy];exact hu.1 (by simpa using h5)
 have hkl:k=l.length:=by omega
 subst hkl;rw[iB]at hok;refine go ?_;exact aj 0 (hv:=rfl) (hp:=(JG ⟨by omega,hp,hsh,hok⟩).symm)
end Go.Proofs.YtbdaaopebgcnaaaGreatDoor
namespace Go.Proofs.YtbdaaopebgcnaaaGreatDoor
open Go.Ideal Rk
section
variable {P:Program} {B:List Nat} {w0:Wd} {kl kl':List OA} {F:List aB} {K:KO} {ds:List Tmp} {rest:List aP} {n:Nat} {l:List (Nat×Value)} {D:List Deferred} {pm:Option FrameMode} {ro:Option Nat} {d:Nat} {g:Option (Tmp×Bool)}
end
