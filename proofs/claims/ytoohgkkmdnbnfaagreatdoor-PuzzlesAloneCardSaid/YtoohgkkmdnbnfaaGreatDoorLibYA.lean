/-
  The reference's constraints of a puzzle.
-/
import Derived.Test.YtoohgkkmdnbnfaaGreatDoorLibUA
import Derived.Test.YtoohgkkmdnbnfaaGreatDoorLibXA
set_option linter.all false
set_option maxRecDepth 10000
set_option maxHeartbeats 4000000
namespace Go.Proofs.YtoohgkkmdnbnfaaGreatDoor
open Go.Ideal Kd Canon Gph
theorem aic{va vb:Value}{xs ys:List Int}(hl:xs.length<9223372036854775808):dz Tryz.prog 82 [va,vb] [ah aa va xs,ah aa vb ys] (.bool (decide (xs=ys))):=by
 refine aK _ (aP 82) λB w0=>?_;refine aS (E:=aa) (v:=va) (xs:=xs) (by simp) λa1 c1 e1=>?_;subst e1;refine aS (E:=aa) (v:=vb) (xs:=ys) (by simp) λa2 c2 e2=>?_;subst e2;refine go ?_;refine aA rfl (λh1=>?_) (λh1=>?_)
 ·refine go ?_;refine ae () (hv:=?_) (hp:=trivial);rw[aT (λe=>by subst e;omega)];rfl
 have hlen:xs.length=ys.length:=by omega
 refine go ?_;refine aZ (λk=>xs.length - k) (λk:Nat=>[(5,.int .i64 (k:Int))]) (λ_=>[]) (λ_=>[]) (λk=>k<=xs.length/\xs.take k=ys.take k) 0 ⟨by omega,by simp⟩ (body:=?_);rintro k ⟨hk,hsame⟩;refine go ?_;refine aA rfl (λh2=>?_) (λh2=>?_)
 ·refine go ?_;intro _ _ x hx _ _ y hy;refine go ?_;refine aA rfl (λh3=>?_) (λh3=>?_)
  rotate_left
  ·have h3:x=y:=iO.1 h3;refine go ?_;refine aQ (k+1) (by omega) ⟨by omega,?_⟩;rw[bY hx,bY hy,hsame,h3]
  ·refine go ?_;refine ae () (hv:=?_) (hp:=trivial);rw[aT (λe=>by subst e;rw[hx]at hy;exact h3 (Option.some.inj hy))];rfl
 have:k=xs.length:=by omega
 subst this;refine go ?_;refine ae () (hv:=?_) (hp:=trivial);rw[bK,hlen,bK]at hsame;rw[dZ hsame];rfl
theorem aid{va vb:Value}{xs ys:List (List Int)}(hl:xs.length<9223372036854775808)(hll:∀l∈xs,l.length<9223372036854775808):dz Tryz.prog 51 [va,vb] [ah (aj aa) va xs,ah (aj aa) vb ys] (.bool (decide (xs=ys))):=by
 refine aK _ (aP 51) λB w0=>?_;refine aS (E:=aj aa) (v:=va) (xs:=xs) (by simp) λa1 c1 e1=>?_;subst e1;refine aS (E:=aj aa) (v:=vb) (xs:=ys) (by simp) λa2 c2 e2=>?_;subst e2;refine go ?_;refine aA rfl (λh1=>?_) (λh1=>?_)
 ·refine go ?_;refine ae () (hv:=?_) (hp:=trivial);rw[aT (λe=>by subst e;omega)];rfl
 have hlen:xs.length=ys.length:=by omega
 refine go ?_;refine aZ (λk=>xs.length - k) (λk:Nat=>[(5,.int .i64 (k:Int))]) (λ_=>[]) (λ_=>[]) (λk=>k<=xs.length/\xs.take k=ys.take k) 0 ⟨by omega,by simp⟩ (body:=?_);rintro k ⟨hk,hsame⟩;refine go ?_;refine aA rfl (λh2=>?_) (λh2=>?_)
 ·refine go ?_;refine bz (aj aa) (xs:=xs) (next:=λ_ _ x (_:Value) hx=>?_);refine go ?_;refine bz (aj aa) (xs:=ys) (next:=λ_ _ y (_:Value) hy=>?_);refine go ?_;refine ax (aic (xs:=x) (ys:=y) (hll x (bG hx))) (next:=λ_ _=>?_);refine go ?_;refine eU rfl (λh3=>?_) (λh3=>?_)
  ·refine go ?_;refine ae () (hv:=?_) (hp:=trivial);rw[aT (λe=>by subst e;rw[hx]at hy;exact h3 (Option.some.inj hy))];rfl
  refine go ?_;refine aQ (k+1) (by omega) ⟨by omega,?_⟩;rw[bY hx,bY hy,hsame,h3]
 have:k=xs.length:=by omega
 subst this;refine go ?_;refine ae () (hv:=?_) (hp:=trivial);rw[bK,hlen,bK]at hsame;rw[dZ hsame];rfl
def Ga(c:iG):Prop:=c.cells.length<=1000000/\c.runs.length<=1000000
theorem VO{a b:iG}{v1 v2 u1 u2:Value}(ha:Ga a)(hb:Ga b):bi Tryz.prog (.func 31) [.agg ⟨NG a v1 v2⟩,.agg ⟨NG b u1 u2⟩] [] [] [ah aa v1 a.cells,ah aa v2 a.runs,ah aa u1 b.cells,ah aa u2 b.runs] (λb:Bool=>.bool b) (λ_=>[]) (λ_=>[]) (λr=>r=true↔a=b):=by
 obtain⟨a1,a2,a3,a4,a5,a6,a7,a8,a9⟩:=a;obtain⟨b1,b2,b3,b4,b5,b6,b7,b8,b9⟩:=b;obtain⟨ha1,ha2⟩:=ha;obtain⟨hb1,hb2⟩:=hb;dsimp only at ha1 ha2 hb1 hb2;have z1:=(xR uC).zero a2 b2;have z2:=(xR uC).zero a7 b7;dsimp only[NG];refine aK _ (aP 31) λB w0=>?_;refine go ?_;intro p2 p3;refine go ?_;refine ax (NJ (xs:=a2) (ys:=b2) ha1 hb1) (next:=λ_ _=>?_);refine go ?_;first|with_reducible refine aN (λh1=>?_) (λh1=>?_)|with_reducible refine aM (λh1=>?_) (λh1=>?_)|with_reducible refine aL (λh1=>?_) (λh1=>?_)
 ·refine go ?_;exact ae false (hv:=rfl) (hp:=⟨(λh=>by cases h),λh=>by exfalso;simp only[iG.mk.injEq]at h;exact h1 (z1.2 h.2.1)⟩)
 refine go ?_;refine ax (NJ (xs:=a7) (ys:=b7) ha2 hb2) (next:=λ_ _=>?_);refine go ?_;first|with_reducible refine aN (λh2=>?_) (λh2=>?_)|with_reducible refine aM (λh2=>?_) (λh2=>?_)|with_reducible refine aL (λh2=>?_) (λh2=>?_)
 ·refine go ?_;exact ae false (hv:=rfl) (hp:=⟨(λh=>by cases h),λh=>by exfalso;simp only[iG.mk.injEq]at h;exact h2 (z2.2 h.2.2.2.2.2.2.1)⟩)
 have y1:=z1.1 h1;have y2:=z2.1 h2;clear z1 z2 h1 h2;subst y1 y2;refine go ?_;first|with_reducible refine aN (λh1=>?_) (λh1=>?_)|with_reducible refine aM (λh1=>?_) (λh1=>?_)|with_reducible refine aL (λh1=>?_) (λh1=>?_)
 ·refine go ?_;exact ae false (hv:=rfl) (hp:=⟨(λh=>by cases h),λh=>by exfalso;simp only[iG.mk.injEq]at h;omega⟩)
 refine go ?_;first|with_reducible refine aN (λh2=>?_) (λh2=>?_)|with_reducible refine aM (λh2=>?_) (λh2=>?_)|with_reducible refine aL (λh2=>?_) (λh2=>?_)
 ·refine go ?_;exact ae false (hv:=rfl) (hp:=⟨(λh=>by cases h),λh=>by exfalso;simp only[iG.mk.injEq]at h;omega⟩)
 refine go ?_;first|with_reducible refine aN (λh3=>?_) (λh3=>?_)|with_reducible refine aM (λh3=>?_) (λh3=>?_)|with_reducible refine aL (λh3=>?_) (λh3=>?_)
 ·refine go ?_;exact ae false (hv:=rfl) (hp:=⟨(λh=>by cases h),λh=>by exfalso;simp only[iG.mk.injEq]at h;omega⟩)
 refine go ?_;first|with_reducible refine aN (λh4=>?_) (λh4=>?_)|with_reducible refine aM (λh4=>?_) (λh4=>?_)|with_reducible refine aL (λh4=>?_) (λh4=>?_)
 ·refine go ?_;exact ae false (hv:=rfl) (hp:=⟨(λh=>by cases h),λh=>by exfalso;simp only[iG.mk.injEq]at h;omega⟩)
 refine go ?_;first|with_reducible refine aN (λh5=>?_) (λh5=>?_)|with_reducible refine aM (λh5=>?_) (λh5=>?_)|with_reducible refine aL (λh5=>?_) (λh5=>?_)
 ·refine go ?_;exact ae false (hv:=rfl) (hp:=⟨(λh=>by cases h),λh=>by exfalso;simp only[iG.mk.injEq]at h;omega⟩)
 refine go ?_;first|with_reducible refine aN (λh6=>?_) (λh6=>?_)|with_reducible refine aM (λh6=>?_) (λh6=>?_)|with_reducible refine aL (λh6=>?_) (λh6=>?_)
 ·refine go ?_;exact ae false (hv:=rfl) (hp:=⟨(λh=>by cases h),λh=>by exfalso;simp only[iG.mk.injEq]at h;omega⟩)
 refine go ?_;refine ae (decide (a9=b9)) (hv:=rfl) (hp:=?_);rw[y8];subst h1 h2 h3 h4 h5 h6;exact⟨λh=>by rw[h],λh=>by simp only[iG.mk.injEq]at h;omega⟩
theorem VP{q:zW}{vv vn vc wv wn wc:Value}(h1:q.values.length<=1000000)(h2:q.bn.length<9223372036854775808)(h3:∀l∈q.bn,l.length<9223372036854775808)(h4:q.cons.length<9223372036854775808)(h5:∀c∈q.cons,Ga c):
 dz Tryz.prog 23 [.agg ⟨qU q vv vn vc⟩,.agg ⟨qU q wv wn wc⟩] [ah aa vv q.values,ah (aj aa) vn q.bn,ah gX vc q.cons,ah aa wv q.values,ah (aj aa) wn q.bn,ah gX wc q.cons] (.bool true):=by
 refine aK _ (aP 23) λB w0=>?_;refine aS (E:=gX) (v:=vc) (xs:=q.cons) (by simp) λac cc ec=>?_;subst ec;refine aS (E:=gX) (v:=wc) (xs:=q.cons) (by simp) λad cd ed=>?_;subst ed;refine go ?_;intro b2 b3;refine bD (eO (b:=b2)) (h:=?_);refine bD (eO (b:=b3)) (h:=?_);refine go ?_;first|with_reducible refine aN (λk1=>?_) (λk1=>?_)|with_reducible refine aM (λk1=>?_) (λk1=>?_)|with_reducible refine aL (λk1=>?_) (λk1=>?_)
 rotate_left
 ·exact absurd rfl k1
 refine go ?_;first|with_reducible refine aN (λk2=>?_) (λk2=>?_)|with_reducible refine aM (λk2=>?_) (λk2=>?_)|with_reducible refine aL (λk2=>?_) (λk2=>?_)
 rotate_left
 ·exact absurd rfl k2
 refine go ?_;refine ax (NJ (xs:=q.values) (ys:=q.values) h1 h1) (next:=λ_ _=>?_);rw[((xR uC).zero q.values q.values).2 rfl];refine go ?_;refine ax (aid (xs:=q.bn) (ys:=q.bn) h2 h3) (next:=λ_ _=>?_);rw[dZ rfl];refine go ?_;refine aA rfl (λh=>absurd rfl h) (λh=>?_);refine go ?_;refine aZ (λk=>q.cons.length - k) (λk:Nat=>[(5,.int .i64 (k:Int))]) (λ_=>[]) (λ_=>[]) (λk=>k<=q.cons.length) 0 (cz _) (body:=?_);intro k hk;refine go ?_;refine aA rfl (λa1=>?_) (λa1=>?_)
 ·refine go ?_;refine bz gX (xs:=q.cons) (next:=λ_ _ x (vx:Value×Value) hx=>?_);refine go ?_;refine bz gX (xs:=q.cons) (next:=λ_ _ y (vy:Value×Value) hy=>?_);cases hx.symm.trans hy;have hs:=h5 x (bG hx);refine go ?_;refine ax (VO (a:=x) (b:=x) (v1:=vx.1) (v2:=vx.2) (u1:=vy.1) (u2:=vy.2) hs hs) (next:=λr hr=>?_);have hr:=hr.2 rfl;subst hr;refine go ?_;exact aQ (k+1) (by show q.cons.length - (k+1)<q.cons.length - k;omega) (by show k+1<=_;omega)
 refine go ?_;exact ae () (hv:=rfl) (hp:=trivial)
structure ajS(r:aU)(cells vals:List Int):Prop where
 kd:1<=r.kind/\r.kind<=11
 one:r.kind=2\/r.kind=3->r.bZ≠kH->vals.length=1
 giv:r.kind=11->vals.length=1/\∀x∈vals,0<=x/\x<16
 two:r.kind=6->cells.length=2
 z1:r.kind=1\/r.kind=4\/r.kind=6->r.set=0/\r.other=0/\r.n=0
 z7:r.kind=7->r.set=0/\r.other=0
 z8:r.kind=8->r.n=0
 z9:r.kind=9\/r.kind=10->r.other=0/\r.n=0
 len:cells.length<=1000000
theorem qP.n0{x:yJ}{cs:List iY}{r:aU}(h:qP x cs r)(e:x.free=false)(e2:x.op=false):r.n=0:=by
 rcases h.cnt with h|h|h
 ·rw[e]at h;cases h
 ·rw[e2]at h;cases h.1
 ·exact h
