/-
  The law RankingCovers.
-/
import Derived.Test.YtjmgkllpcidhjaaGreatDoorLibQN
set_option linter.all false
set_option maxRecDepth 10000
set_option maxHeartbeats 4000000
namespace Go.Proofs.YtjmgkllpcidhjaaGreatDoor
open Go.Ideal Rk
theorem ahk{X:List (List Int)}{a b:Nat}(h:jI X a b=false){t u:List Int}(ht:t∈X)(hu:u∈X):fG (t.getD a 0) (t.getD b 0)=fG (u.getD a 0) (u.getD b 0):=by
 apply Classical.byContradiction;intro hne;rw[AL.2 ⟨t,ht,u,hu,hne⟩]at h;cases h
theorem ahl{s:aT}{v1 v2 v3 v4 vl vu vw:Value}{l:List aG}{us ws:List Int}(hW:nP s.pg)(hb1:s.lv.length<9223372036854775808)(hb2:s.cl.length<9223372036854775808)(hb3:s.pz.length<9223372036854775808)(hb4:s.pg.length<9223372036854775808)(hx1:cellsOf v1=some [v1])(hx2:cellsOf v2=some [v2])(hx3:cellsOf v3=some [v3])(hx4:cellsOf v4=some [v4])
 (VN:l.length<9223372036854775808) (hu:tq (λn=>0<=n/\n<65536) us) (hw:tq (λn=>0<=n/\n<65536) ws):
 eY Tryz.prog 6 [.agg ⟨kz s v1 v2 v3 v4⟩,vl,vu,vw] [uR 4,lG 0 mh,ah ae v1 s.lv,ah ae v2 s.cl,ah fw v3 s.pg,ah ae v4 s.pz,ah cO vl l,ah vL vu us,ah vL vw ws] (.bool true):=by
 refine aX _ (bN 6) λB w0=>?_;refine go ?_;intro b2;refine bG (eP (b:=b2)) (h:=?_);refine go ?_;refine aD AO (next:=λ_ _=>?_);refine go ?_;refine aD (Ib (s:=s) (v1:=v1) (v2:=v2) (v3:=v3) (v4:=v4) (vl:=vl) (l:=l) hW hb1 hb2 hb3 hb4 hx1 hx2 hx3 hx4) (next:=λb hb=>?_);refine go ?_;refine iy rfl (λh1=>?_) (λh1=>?_)
 ·refine go ?_;exact aj () (hv:=rfl) (hp:=trivial)
 obtain⟨h4,hck⟩:=hb (by simpa using h1);have h:=mX hck;have hll:=h.len;have hc1:=h.sh.c1;refine go ?_;refine aD (yX (s:=s) (v1:=v1) (v2:=v2) (v3:=v3) (v4:=v4) (l:=l) h4 hb1 hb2 hb3 hx1 hx2 hx3 hx4) (next:=λy hy=>?_);obtain⟨vy,ey,Y⟩:=y;obtain⟨rfl,rfl⟩:=hy;dsimp only;refine go ?_;refine aD (AZ (s:=s) (v1:=v1) (v2:=v2) (v3:=v3) (v4:=v4) (l:=l) h4 hb1 hb2 hb3 hx1 hx2 hx3 hx4) (next:=λy hy=>?_);obtain⟨H9,Ia,Ej,ey,yb,yw,yu⟩:=y;obtain⟨he,hy0,hy1⟩:=hy;dsimp only at he hy0 hy1⊢;subst he;refine go ?_;intro b11;refine go ?_;refine aC rfl (λh2=>absurd rfl h2) (λh2=>?_);refine go ?_;refine aC rfl (λh3=>?_) (λh3=>?_)
 ·have h5:gJ s l=2:=(Nz hck).resolve_left h3;refine go ?_;exact aj () (hv:=by rw[eH h5];rfl) (hp:=trivial)
 have h3:gJ s l=0:=sG.1 h3;obtain⟨_,hL⟩:=yY h3;obtain⟨rfl,rfl,rfl⟩:=hy1 h3;have hne:=yK hck hL;have fA:∀x∈dV s l,x.length=s.c.toNat:=λx hx=>uW hx;have hbl:=yL hne fA;have hwl:=yM hne fA;have htu:=Eo (s:=s) (us:=us) h.rs hu.2;have Bg:=Eo (s:=s) (us:=ws) h.rs hw.2;obtain⟨eu,xu⟩:=Az hck htu;obtain⟨ew,xw⟩:=Az hck Bg;have hmu:=Sy hck hL htu;have hmw:=Sy hck hL Bg;have hlu:=fA _ hmu;have hlw:=fA _ hmw;have VO:=Ei s l;refine bG (eP (b:=b11)) (h:=?_);refine go ?_;refine aD (Ep (s:=s) (vl:=vl) (vu:=vu) (l:=l) (us:=us) h.rs (by omega) hu.1 hu.2) (next:=λvt _=>?_);refine go ?_;refine aD (Hy (s:=s) (v1:=v1) (v2:=v2) (v3:=v3) (v4:=v4) (l:=l) (ts:=nR l us) hb1 hb2 hb3 hx1 hx2 hx3 hx4) (next:=λy hy=>?_);obtain⟨vx,ey,xs⟩:=y;obtain⟨rfl,rfl⟩:=hy;dsimp only;rw[eu,xu];refine go ?_;refine aD (Ep (s:=s) (vl:=vl) (vu:=vw) (l:=l) (us:=ws) h.rs (by omega) hw.1 hw.2) (next:=λvt' _=>?_);refine go ?_;refine aD (Hy (s:=s) (v1:=v1) (v2:=v2) (v3:=v3) (v4:=v4) (l:=l) (ts:=nR l ws) hb1 hb2 hb3 hx1 hx2 hx3 hx4) (next:=λy hy=>?_);obtain⟨vz,ey,zs⟩:=y;obtain⟨rfl,rfl⟩:=hy;dsimp only;rw[ew,xw];generalize mF s l (nR l us)=xs at hmu hlu⊢;generalize mF s l (nR l ws)=zs at hmw hlw⊢;generalize hX:dV s l=X at *;refine go ?_;refine aD (Ny (L:=X) (x:=xs) (by omega) (by omega)) (next:=λ_ _=>?_);rw[eH hmu];refine go ?_;refine aD (Ny (L:=X) (x:=zs) (by omega) (by omega)) (next:=λ_ _=>?_);rw[eH hmw];refine go ?_;refine gG (λe3=>?_) (λe3=>?_)
 rotate_left
 ·exfalso;omega
 refine go ?_;refine gG (λe4=>?_) (λe4=>?_)
 rotate_left
 ·exfalso;omega
 refine go ?_;refine gG (λe5=>?_) (λe5=>?_)
 rotate_left
 ·exfalso;omega
 refine go ?_;refine aC rfl (λh6=>?_) (λh6=>?_)
 ·exfalso;omega
 refine go ?_;refine aD (MW (xs:=xs) (by omega)) (next:=λvr _=>?_);have hrl:=oQ xs;refine go ?_;refine aC rfl (λh7=>?_) (λh7=>?_)
 ·exfalso;omega
 refine go ?_;refine Ah qM (λbm=>?_);have ug:(und X s.c.toNat).length<=16:=by
  have h5:s.c.toNat*s.c.toNat<=4*4:=xC (by omega) (by omega);exact dz (wP X s.c.toNat s.c.toNat) h5
 refine go ?_;refine bE (λy:Nat×List (Int×Int)=>(und X s.c.toNat).length - y.1) (λy=>[(125,.int .i64 (y.1:Int))]) (λy=>[jV qM bm (lQ y.2)]) (λ_=>[]) (λy=>y.1<=(und X s.c.toNat).length/\∀q,q∈y.2↔q∈(und X s.c.toNat).take y.1) (0,[]) ⟨bF _,λq=>by simp⟩ (hk:=by
  show aM [jV qM bm []] _ _;repeat (first|exact aM.nil|(apply aM.cons;(focus (repeat (first|exact ai.here|apply ai.there)))))) (body:=?_)
 rintro⟨k,ks⟩ ⟨hk,hks⟩;dsimp only at hk hks⊢;refine go ?_;refine aC rfl (λh8=>?_) (λh8=>?_)
 ·refine go ?_;refine bJ iK (k:=k) (next:=λbx ox q _ hq=>?_);refine go ?_;intro b20;refine go ?_;refine Ai (aS:=qM) (b:=bm) (v:=.bool true) (aN:=lQ ks) Ic q ?_;rw[Ie];refine go ?_;refine aO (k+1,jM ks q) (by show(und X s.c.toNat).length - (k+1)<(und X s.c.toNat).length - k;omega) ⟨by show k+1<=_;omega,λz=>?_⟩;show z∈jM ks q↔_;rw[AX,hks,dx hq,gy,di]
 have hkl:k=(und X s.c.toNat).length:=by omega
 subst hkl;rw[fK]at hks;refine go ?_;refine bE (λa=>xs.length - a) (λa:Nat=>[(134,.int .i64 (a:Int))]) (λ_=>[]) (λ_=>[]) (λa=>a<=xs.length) 0 (bF _) (body:=?_);intro a ha;refine go ?_;refine aC rfl (λh9=>?_) (λh9=>?_)
 ·have hbs:=(GI (k:=a) hne fA (by omega)).1 xs hmu;have hws:=(GJ (k:=a) hne fA (by omega)).1 xs hmu;refine go ?_;intro _ _ r hr _ _ rb hrb;rw[ic hr,ic hrb]at hbs;rw[ic hr]at hws;refine go ?_;refine gG (λe6=>?_) (λe6=>?_)
  rotate_left
  ·exfalso;omega
  refine go ?_;intro _ _ r' hr' _ _ rw' hrw;cases hr.symm.trans hr';rw[ic hrw]at hws;refine go ?_;refine aC rfl (λe7=>?_) (λe7=>?_)
  ·exfalso;omega
  refine go ?_;rw[show(a:Int)+1=((a+1:Nat):Int)from rfl];refine bE (λb=>xs.length - b) (λb:Nat=>[(22,.int .i64 (b:Int))]) (λ_=>[]) (λ_=>[]) (λb=>a<b/\b<=xs.length) (a+1) ⟨by omega,by omega⟩ (body:=?_);rintro b ⟨hab,Fg⟩;refine go ?_;refine aC rfl (λe8=>?_) (λe8=>?_)
  ·refine go ?_;refine K3 (aS:=qM) (b:=bm) (aN:=lQ ks) Ic ((a:Int),(b:Int)) ?_;obtain⟨op,NA,hop⟩:=VE ((a:Int),(b:Int)) ks;rw[NA];cases op with
   |true=>
    refine go ?_;exact aO (b+1) (by omega) ⟨by omega,by omega⟩
   |false=>
    have hop:¬((a:Int),(b:Int))∈ks:=λe=>by have:=hop.2 e;cases this
    refine go ?_;have hd:jI X a b=false:=by
     apply Bool.eq_false_iff.2;intro hd;exact hop ((hks _).2 (GH.2 ⟨a,b,hab,by omega,hd,rfl⟩))
    have hsg:=ahk hd hmu hmw;refine go ?_;intro _ _ x1 q1 _ _ x2 q2 _ _ z1 q3 _ _ z2 q4;rw[ic q1,ic q2,ic q3,ic q4]at hsg;refine go ?_;refine aD (Nw (x:=x1) (y:=x2)) (next:=λ_ _=>?_);refine go ?_;refine aD (Nw (x:=z1) (y:=z2)) (next:=λ_ _=>?_);refine go ?_;refine aC rfl (λe9=>absurd hsg e9) (λe9=>?_);refine go ?_;exact aO (b+1) (by omega) ⟨by omega,by omega⟩
  have hbe:b=xs.length:=by omega
  subst hbe;refine go ?_;exact aO (a+1) (by omega) (by omega)
 refine go ?_;exact aj () (hv:=rfl) (hp:=trivial)
