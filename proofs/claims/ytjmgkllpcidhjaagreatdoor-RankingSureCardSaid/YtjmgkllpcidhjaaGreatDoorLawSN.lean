/-
  The law RankingSure.
-/
import Derived.Test.YtjmgkllpcidhjaaGreatDoorLibQN
set_option linter.all false
set_option maxRecDepth 10000
set_option maxHeartbeats 4000000
namespace Go.Proofs.YtjmgkllpcidhjaaGreatDoor
open Go.Ideal Rk
theorem ahu{s:aT}{l:List aG}{R:List (Int×Int)}(h:R.length=l.length)(ts:List Int):mF s (dP l R) ts=mF s l ts:=Mq h _
theorem ahv{ts:List Int}{k:Nat}{t:Int}(h:ts[k]? =some t):(jK ts)[k]? =some (t,t):=by unfold jK;rw[bX,h];rfl
theorem ahw{s:aT}{v1 v2 v3 v4 vl vu:Value}{l:List aG}{us:List Int}(hW:nP s.pg)(hb1:s.lv.length<9223372036854775808)(hb2:s.cl.length<9223372036854775808)(hb3:s.pz.length<9223372036854775808)(hb4:s.pg.length<9223372036854775808)(hx1:cellsOf v1=some [v1])(hx2:cellsOf v2=some [v2])(hx3:cellsOf v3=some [v3])(hx4:cellsOf v4=some [v4])
 (VN:l.length<9223372036854775808) (hu:tq (λn=>0<=n/\n<65536) us):
 eY Tryz.prog 8 [.agg ⟨kz s v1 v2 v3 v4⟩,vl,vu] [uR 4,lG 0 mh,ah ae v1 s.lv,ah ae v2 s.cl,ah fw v3 s.pg,ah ae v4 s.pz,ah cO vl l,ah vL vu us] (.bool true):=by
 refine aX _ (bN 8) λB w0=>?_;refine go ?_;intro b2;refine bG (eP (b:=b2)) (h:=?_);refine go ?_;refine aD AO (next:=λ_ _=>?_);refine go ?_;refine aD (Ib (s:=s) (v1:=v1) (v2:=v2) (v3:=v3) (v4:=v4) (vl:=vl) (l:=l) hW hb1 hb2 hb3 hb4 hx1 hx2 hx3 hx4) (next:=λb hb=>?_);refine go ?_;refine iy rfl (λh1=>?_) (λh1=>?_)
 ·refine go ?_;exact aj () (hv:=rfl) (hp:=trivial)
 obtain⟨h4,hck⟩:=hb (by simpa using h1);have h:=mX hck;have hll:=h.len;have hc1:=h.sh.c1;have vG:=Eo (s:=s) (us:=us) h.rs hu.2;refine go ?_;refine aD (Ep (s:=s) (vl:=vl) (vu:=vu) (l:=l) (us:=us) h.rs (by omega) hu.1 hu.2) (next:=λvt _=>?_);generalize nR l us=ts at vG⊢;have htl:=vG.1;have hR:=GM vG;have hRl:=hR.len;refine go ?_;intro yS;refine go ?_;refine VK (b:=yS) (v:=vl) (l:=l) (by omega) (λbs fs hfs=>?_) (by simp) .here;refine go ?_;refine bE (λk=>l.length - k) (λk:Nat=>[(33,.int .i64 (k:Int))]) (λk=>[pt bs (.cells (nS (nT l (jK ts) k)))]) (λ_=>[]) (λk=>k<=l.length) 0 (bF _) (hk:=by
  rw[VG];repeat (first|exact aM.nil|(apply aM.cons;(focus (repeat (first|exact ai.here|apply ai.there)))))) (body:=?_)
 intro k hk;refine go ?_;refine aC rfl (λh2=>?_) (λh2=>?_)
 ·have hx:l[k]? =some (l[k]'(by omega)):=bf _;generalize l[k]'(by omega)=x at hx;have NC:=(VI hRl (k:=k) (by omega)).trans hx;refine go ?_;intro _ _ t ht _ _ t' ht';cases ht.symm.trans ht';have hms:=VJ hRl hx (ahv ht);dsimp only at hms;refine go ?_;refine(FI (b:=bs) (o:=0+k*6+3) (cs:=nS (nT l (jK ts) k)) (vs:=[.int .i64 t,.int .i64 t]) (c:=nS (nT l (jK ts) (k+1))) rfl rfl rfl rfl .here (by rw[dD,VF NC,hms])).h ?_;refine go ?_;exact aO (k+1) (by omega) (by omega)
 have hkl:k=l.length:=by omega
 subst hkl;rw[VH hRl];have hl2:=tV hRl;refine VM (l:=dP l (jK ts)) (b:=bs) (f:=fs) hfs (hk:=.here) (h:=?_);rw[hl2];have Ig:=hR.tF hck;obtain⟨eu,xu⟩:=Az Ig (SC vG);obtain⟨ew,xw⟩:=Az hck vG;obtain⟨oe,ox⟩:=adI vG hck;rw[ahu hRl]at xu;have hxl:(mF s l ts).length<=4:=by
  unfold mF;rw[yG,qo];omega
 refine go ?_;refine aD (Hy (s:=s) (v1:=v1) (v2:=v2) (v3:=v3) (v4:=v4) (l:=dP l (jK ts)) (ts:=ts) hb1 hb2 hb3 hx1 hx2 hx3 hx4) (next:=λy hy=>?_);obtain⟨vx,ey,xs⟩:=y;obtain⟨rfl,rfl⟩:=hy;dsimp only;rw[eu,xu];refine gH (E:=ae) (v:=vx) (xs:=mF s l ts) (by simp) λax cx ex=>?_;subst ex;refine go ?_;refine aD (Hy (s:=s) (v1:=v1) (v2:=v2) (v3:=v3) (v4:=v4) (l:=l) (ts:=ts) hb1 hb2 hb3 hx1 hx2 hx3 hx4) (next:=λy hy=>?_);obtain⟨vz,ey,zs⟩:=y;obtain⟨rfl,rfl⟩:=hy;dsimp only;rw[ew,xw];refine go ?_;refine aD (yX (s:=s) (v1:=v1) (v2:=v2) (v3:=v3) (v4:=v4) (l:=dP l (jK ts)) h4 hb1 hb2 hb3 hx1 hx2 hx3 hx4) (next:=λy hy=>?_);obtain⟨vy,ey,Y⟩:=y;obtain⟨rfl,rfl⟩:=hy;dsimp only;rw[oe,ox];refine go ?_;refine aD (AZ (s:=s) (v1:=v1) (v2:=v2) (v3:=v3) (v4:=v4) (l:=dP l (jK ts)) h4 hb1 hb2 hb3 hx1 hx2 hx3 hx4) (next:=λy hy=>?_);obtain⟨H9,Ia,Ej,ey,yb,yw,yu⟩:=y;obtain⟨he,hy0,hy1⟩:=hy;dsimp only at he hy0 hy1⊢;obtain⟨y1,y2,y3⟩:=hy1 oe;rw[ox,adB]at y1;rw[ox,adC]at y2;rw[ox,adD]at y3;rw[oe]at he;subst he y1 y2 y3;generalize mF s l ts=xs at hxl⊢;have hrl:=oQ xs;refine go ?_;intro b16;refine go ?_;refine aD (MW (xs:=xs) (by omega)) (next:=λvr _=>?_);refine gH (E:=ae) (v:=vr) (xs:=aQ xs) (by simp) λar cr er=>?_;subst er;refine go ?_;refine aD (A7 (xs:=xs) (ys:=xs) (by omega)) (next:=λ_ _=>?_);rw[eH (rfl:xs=xs)];refine go ?_;intro VP;refine bG (eP (b:=VP)) (h:=?_);refine cK (ah (aI ae) (.slice (some ⟨VP,0,some 0⟩) 1 1) [xs]) (λw hw=>Eh (hw _ (bz ..)) (hw (ah ae (.slice ax xs.length cx) xs) (by simp))) ?_;refine go ?_;refine aD (Vt (xs:=[xs]) (ys:=[xs]) (by simp) (λt ht=>by rw[di.1 ht];omega)) (next:=λ_ _=>?_);rw[eH (rfl:[xs]=[xs])];refine go ?_;refine cK (ah iK (.slice none 0 0) ([]:List (Int×Int))) (λw _=>uf w) ?_;refine aD (Vz (xs:=aQ xs) (ys:=aQ xs) (us:=[]) (by omega) (by omega) (by simp)) (next:=λ_ _=>?_);refine go ?_;exact aj () (hv:=rfl) (hp:=trivial)
