/-
  The law RankingLess.
-/
import Derived.Test.YtjmgkllpcidhjaaGreatDoorLibQN
set_option linter.all false
set_option maxRecDepth 10000
set_option maxHeartbeats 4000000
namespace Go.Proofs.YtjmgkllpcidhjaaGreatDoor
open Go.Ideal Rk
def oV(ts us:List Int):List (Int×Int):=List.zipWith (λa b=>(min a b,max a b)) ts us
theorem VQ{ts us:List Int}{k:Nat}{a b:Int}(h1:ts[k]? =some a)(h2:us[k]? =some b):(oV ts us)[k]? =some (min a b,max a b):=by unfold oV;rw[List.getElem?_zipWith,h1,h2]
theorem ahx{l:List aG}{ts us:List Int}(h1:lH l ts)(h2:lH l us):Less l (oV ts us):=by
 refine⟨by unfold oV;rw[List.length_zipWith,h1.1,h2.1,Nat.min_self],λi x r hx hr=>?_⟩;have hi:=(dX.1 hx).1;have e1:ts[i]? =some (ts[i]'(by rw[h1.1];exact hi)):=bf _;have e2:us[i]? =some (us[i]'(by rw[h2.1];exact hi)):=bf _;have a1:=h1.2 i x _ hx e1;have a2:=h2.2 i x _ hx e2;rw[VQ e1 e2]at hr;cases hr;dsimp only;omega
theorem ahy{s:aT}{v1 v2 v3 v4 vl vu vw:Value}{l:List aG}{us ws:List Int}(hW:nP s.pg)(hb1:s.lv.length<9223372036854775808)(hb2:s.cl.length<9223372036854775808)(hb3:s.pz.length<9223372036854775808)(hb4:s.pg.length<9223372036854775808)(hx1:cellsOf v1=some [v1])(hx2:cellsOf v2=some [v2])(hx3:cellsOf v3=some [v3])(hx4:cellsOf v4=some [v4])
 (VN:l.length<9223372036854775808) (hu:tq (λn=>0<=n/\n<65536) us) (hw:tq (λn=>0<=n/\n<65536) ws):
 eY Tryz.prog 9 [.agg ⟨kz s v1 v2 v3 v4⟩,vl,vu,vw] [uR 4,lG 0 mh,ah ae v1 s.lv,ah ae v2 s.cl,ah fw v3 s.pg,ah ae v4 s.pz,ah cO vl l,ah vL vu us,ah vL vw ws] (.bool true):=by
 refine aX _ (bN 9) λB w0=>?_;refine go ?_;intro b2;refine bG (eP (b:=b2)) (h:=?_);refine go ?_;refine aD AO (next:=λ_ _=>?_);refine go ?_;refine aD (Ib (s:=s) (v1:=v1) (v2:=v2) (v3:=v3) (v4:=v4) (vl:=vl) (l:=l) hW hb1 hb2 hb3 hb4 hx1 hx2 hx3 hx4) (next:=λb hb=>?_);refine go ?_;refine iy rfl (λh1=>?_) (λh1=>?_)
 ·refine go ?_;exact aj () (hv:=rfl) (hp:=trivial)
 obtain⟨h4,hck⟩:=hb (by simpa using h1);have h:=mX hck;have hll:=h.len;have hc1:=h.sh.c1;have htu:=Eo (s:=s) (us:=us) h.rs hu.2;have Bg:=Eo (s:=s) (us:=ws) h.rs hw.2;refine go ?_;refine aD (Ep (s:=s) (vl:=vl) (vu:=vu) (l:=l) (us:=us) h.rs (by omega) hu.1 hu.2) (next:=λvt _=>?_);refine go ?_;refine aD (Ep (s:=s) (vl:=vl) (vu:=vw) (l:=l) (us:=ws) h.rs (by omega) hw.1 hw.2) (next:=λvt' _=>?_);generalize nR l us=ts at htu⊢;generalize nR l ws=zs at Bg⊢;have htl:=htu.1;have hzl:=Bg.1;have hR:=ahx htu Bg;have hRl:=hR.len;refine go ?_;intro yS;refine go ?_;refine VK (b:=yS) (v:=vl) (l:=l) (by omega) (λbs fs hfs=>?_) (by simp) .here;refine go ?_;refine bE (λk=>l.length - k) (λk:Nat=>[(47,.int .i64 (k:Int))]) (λk=>[pt bs (.cells (nS (nT l (oV ts zs) k)))]) (λ_=>[]) (λk=>k<=l.length) 0 (bF _) (hk:=by
  rw[VG];repeat (first|exact aM.nil|(apply aM.cons;(focus (repeat (first|exact ai.here|apply ai.there)))))) (body:=?_)
 intro k hk;refine go ?_;refine aC rfl (λh2=>?_) (λh2=>?_)
 ·have hx:l[k]? =some (l[k]'(by omega)):=bf _;generalize l[k]'(by omega)=x at hx;have NC:=(VI hRl (k:=k) (by omega)).trans hx;refine go ?_;intro _ _ a ha _ _ b hb;have hms:=VJ hRl hx (VQ ha hb);dsimp only at hms;refine go ?_;refine(bO rfl rfl (rR rfl rfl)).h ?_;refine go ?_;intro _ _ a' ha' _ _ b' hb';cases ha.symm.trans ha';cases hb.symm.trans hb';refine go ?_;refine(bO rfl rfl (nG rfl rfl)).h ?_;refine go ?_;refine(FI (b:=bs) (o:=0+k*6+3) (cs:=nS (nT l (oV ts zs) k)) (vs:=[.int .i64 (min a b),.int .i64 (max a b)]) (c:=nS (nT l (oV ts zs) (k+1))) rfl rfl rfl rfl .here (by rw[dD,VF NC,hms])).h ?_;refine go ?_;exact aO (k+1) (by omega) (by omega)
 have hkl:k=l.length:=by omega
 subst hkl;rw[VH hRl];have hl2:=tV hRl;refine VM (l:=dP l (oV ts zs)) (b:=bs) (f:=fs) hfs (hk:=.here) (h:=?_);rw[hl2];have Ig:=hR.tF hck;refine go ?_;refine aD (yX (s:=s) (v1:=v1) (v2:=v2) (v3:=v3) (v4:=v4) (l:=l) h4 hb1 hb2 hb3 hx1 hx2 hx3 hx4) (next:=λy hy=>?_);obtain⟨vy,ey,Y⟩:=y;obtain⟨rfl,rfl⟩:=hy;dsimp only;refine go ?_;refine aD (yX (s:=s) (v1:=v1) (v2:=v2) (v3:=v3) (v4:=v4) (l:=dP l (oV ts zs)) h4 hb1 hb2 hb3 hx1 hx2 hx3 hx4) (next:=λy hy=>?_);obtain⟨vz,ez,Z⟩:=y;obtain⟨rfl,rfl⟩:=hy;dsimp only;refine go ?_;refine aD (AZ (s:=s) (v1:=v1) (v2:=v2) (v3:=v3) (v4:=v4) (l:=l) h4 hb1 hb2 hb3 hx1 hx2 hx3 hx4) (next:=λy hy=>?_);obtain⟨H9,Ia,Ej,ey,yb,yw,yu⟩:=y;obtain⟨he,hy0,hy1⟩:=hy;dsimp only at he hy0 hy1⊢;subst he;refine go ?_;intro b17;refine go ?_;refine aD (AZ (s:=s) (v1:=v1) (v2:=v2) (v3:=v3) (v4:=v4) (l:=dP l (oV ts zs)) h4 hb1 hb2 hb3 hx1 hx2 hx3 hx4) (next:=λy hy=>?_);obtain⟨vzb,vzw,VA,ez,zb,zw,zu⟩:=y;obtain⟨he,hz0,hz1⟩:=hy;dsimp only at he hz0 hz1⊢;subst he;rcases Nz hck with h3|h3
 rotate_left
 ·rw[h3];refine go ?_;intro b19;refine go ?_;exact aj () (hv:=rfl) (hp:=trivial)
 obtain⟨_,hL⟩:=yY h3;have hL2:=hR.lim h.rs hL;have h5:=(qQ Ig hL2).1;obtain⟨rfl,rfl,rfl⟩:=hy1 h3;obtain⟨rfl,rfl,rfl⟩:=hz1 h5;have hne:=yK hck hL;have hne2:=yK Ig hL2;have fA:∀x∈dV s l,x.length=s.c.toNat:=λx hx=>uW hx;have Er:∀x∈dV s (dP l (oV ts zs)),x.length=s.c.toNat:=λx hx=>uW hx;have hsub:∀x∈dV s (dP l (oV ts zs)),x∈dV s l:=λx hx=>hR.dV hck hL hx;have VO:=Ei s l;have ajJ:=Ei s (dP l (oV ts zs));rw[h3,h5];generalize dV s l=X at *;generalize dV s (dP l (oV ts zs))=X2 at *;have hbl:=yL hne fA;have hwl:=yM hne fA;have ajK:=yL hne2 Er;have ajL:=yM hne2 Er;have ajM:0<X2.length:=o9.2 hne2;have ug:∀Y:List (List Int),(und Y s.c.toNat).length<=16:=λY=>by
  have h5:s.c.toNat*s.c.toNat<=4*4:=xC (by omega) (by omega);exact dz (wP Y s.c.toNat s.c.toNat) h5
 have ajN:=ug X;have ahr:=ug X2;refine go ?_;intro b19;refine bG (eP (b:=b17)) (h:=?_);refine bG (eP (b:=b19)) (h:=?_);refine go ?_;refine gG (λe1=>?_) (λe1=>?_)
 rotate_left
 ·exfalso;omega
 refine go ?_;refine gG (λe2=>?_) (λe2=>?_)
 rotate_left
 ·exfalso;omega
 refine go ?_;refine aC rfl (λe3=>?_) (λe3=>?_)
 ·exfalso;omega
 refine go ?_;refine bE (λi=>X2.length - i) (λi:Nat=>[(142,.int .i64 (i:Int))]) (λ_=>[]) (λ_=>[]) (λi=>i<=X2.length) 0 (bF _) (body:=?_);intro i hi;refine go ?_;refine aC rfl (λh6=>?_) (λh6=>?_)
 ·refine go ?_;refine bJ (aI ae) (k:=i) (v:=vz) (xs:=X2) (next:=λ_ _ x (vx:Value) hx=>?_);have hxm:=cZ hx;have hxl:=Er x hxm;refine go ?_;refine aD (Ny (L:=X) (x:=x) (by omega) (by omega)) (next:=λ_ _=>?_);rw[eH (hsub x hxm)];refine go ?_;exact aO (i+1) (by omega) (by omega)
 refine go ?_;refine bE (λa=>(eF X).length - a) (λa:Nat=>[(154,.int .i64 (a:Int))]) (λ_=>[]) (λ_=>[]) (λa=>a<=(eF X).length) 0 (bF _) (body:=?_);intro a ha;refine go ?_;refine aC rfl (λh7=>?_) (λh7=>?_)
 ·have hle:(eF X).getD a 0<=(eF X2).getD a 0:=by
   obtain⟨t,ht,e⟩:=(GI (k:=a) hne2 Er (by omega)).2;rw[e];exact(GI (k:=a) hne fA (by omega)).1 t (hsub t ht)
  refine go ?_;intro _ _ r1 hr1 _ _ r2 hr2;rw[ic hr1,ic hr2]at hle;refine go ?_;refine aC rfl (λe4=>?_) (λe4=>?_)
  ·exfalso;omega
  refine go ?_;exact aO (a+1) (by omega) (by omega)
 refine go ?_;refine bE (λa=>(iJ X).length - a) (λa:Nat=>[(172,.int .i64 (a:Int))]) (λ_=>[]) (λ_=>[]) (λa=>a<=(iJ X).length) 0 (bF _) (body:=?_);intro a2 ha2;refine go ?_;refine aC rfl (λh8=>?_) (λh8=>?_)
 ·have hle:(iJ X2).getD a2 0<=(iJ X).getD a2 0:=by
   obtain⟨t,ht,e⟩:=(GJ (k:=a2) hne2 Er (by omega)).2;rw[e];exact(GJ (k:=a2) hne fA (by omega)).1 t (hsub t ht)
  refine go ?_;intro _ _ r1 hr1 _ _ r2 hr2;rw[ic hr1,ic hr2]at hle;refine go ?_;refine aC rfl (λe4=>?_) (λe4=>?_)
  ·exfalso;omega
  refine go ?_;exact aO (a2+1) (by omega) (by omega)
 refine go ?_;refine Ah qM (λbm=>?_);refine go ?_;refine bE (λy:Nat×List (Int×Int)=>(und X s.c.toNat).length - y.1) (λy=>[(191,.int .i64 (y.1:Int))]) (λy=>[jV qM bm (lQ y.2)]) (λ_=>[]) (λy=>y.1<=(und X s.c.toNat).length/\∀q,q∈y.2↔q∈(und X s.c.toNat).take y.1) (0,[]) ⟨bF _,λq=>by simp⟩ (hk:=by
  show aM [jV qM bm []] _ _;repeat (first|exact aM.nil|(apply aM.cons;(focus (repeat (first|exact ai.here|apply ai.there)))))) (body:=?_)
 rintro⟨k,ks⟩ ⟨hk,hks⟩;dsimp only at hk hks⊢;refine go ?_;refine aC rfl (λh9=>?_) (λh9=>?_)
 ·refine go ?_;refine bJ iK (k:=k) (v:=Ej) (xs:=und X s.c.toNat) (next:=λbx ox q _ hq=>?_);refine go ?_;intro b20;refine go ?_;refine Ai (aS:=qM) (b:=bm) (v:=.bool true) (aN:=lQ ks) Ic q ?_;rw[Ie];refine go ?_;refine aO (k+1,jM ks q) (by show(und X s.c.toNat).length - (k+1)<(und X s.c.toNat).length - k;omega) ⟨by show k+1<=_;omega,λz=>?_⟩;show z∈jM ks q↔_;rw[AX,hks,dx hq,gy,di]
 have hkl:k=(und X s.c.toNat).length:=by omega
 subst hkl;rw[fK]at hks;refine go ?_;refine bE (λk=>(und X2 s.c.toNat).length - k) (λk:Nat=>[(201,.int .i64 (k:Int))]) (λ_=>[]) (λ_=>[]) (λk=>k<=(und X2 s.c.toNat).length) 0 (bF _) (body:=?_);intro k2 hk2;refine go ?_;refine aC rfl (λh10=>?_) (λh10=>?_)
 ·refine go ?_;refine bJ iK (k:=k2) (v:=VA) (xs:=und X2 s.c.toNat) (next:=λbx ox q _ hq=>?_);refine go ?_;intro b29;refine go ?_;refine K3 (aS:=qM) (b:=bm) (aN:=lQ ks) Ic q ?_;obtain⟨op,NA,hop⟩:=VE q ks;rw[NA];obtain rfl:op=true:=hop.2 ((hks q).2 (adA hsub (cZ hq)));refine go ?_;exact aO (k2+1) (by omega) (by omega)
 refine go ?_;exact aj () (hv:=rfl) (hp:=trivial)
