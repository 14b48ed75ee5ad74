/-
  The law RankingTight.
-/
import Derived.Test.YtjmgkllpcidhjaaGreatDoorLibQN
set_option linter.all false
set_option maxRecDepth 10000
set_option maxHeartbeats 4000000
namespace Go.Proofs.YtjmgkllpcidhjaaGreatDoor
open Go.Ideal Rk
theorem ahp{s:aT}{l:List aG}(h:gJ s l≠0):dV s l=[]:=by unfold dV;rw[if_neg h]
theorem ahq{s:aT}{v1 v2 v3 v4 vl:Value}{l:List aG}(hW:nP s.pg)(hb1:s.lv.length<9223372036854775808)(hb2:s.cl.length<9223372036854775808)(hb3:s.pz.length<9223372036854775808)(hb4:s.pg.length<9223372036854775808)(hx1:cellsOf v1=some [v1])(hx2:cellsOf v2=some [v2])(hx3:cellsOf v3=some [v3])(hx4:cellsOf v4=some [v4]):
 eY Tryz.prog 7 [.agg ⟨kz s v1 v2 v3 v4⟩,vl] [uR 4,lG 0 mh,ah ae v1 s.lv,ah ae v2 s.cl,ah fw v3 s.pg,ah ae v4 s.pz,ah cO vl l] (.bool true):=by
 refine aX _ (bN 7) λB w0=>?_;refine go ?_;intro b2;refine bG (eP (b:=b2)) (h:=?_);refine go ?_;refine aD AO (next:=λ_ _=>?_);refine go ?_;refine aD (Ib (s:=s) (v1:=v1) (v2:=v2) (v3:=v3) (v4:=v4) (vl:=vl) (l:=l) hW hb1 hb2 hb3 hb4 hx1 hx2 hx3 hx4) (next:=λb hb=>?_);refine go ?_;refine iy rfl (λh1=>?_) (λh1=>?_)
 ·refine go ?_;exact aj () (hv:=rfl) (hp:=trivial)
 obtain⟨h4,hck⟩:=hb (by simpa using h1);have h:=mX hck;have hc1:=h.sh.c1;refine go ?_;refine aD (yX (s:=s) (v1:=v1) (v2:=v2) (v3:=v3) (v4:=v4) (l:=l) h4 hb1 hb2 hb3 hx1 hx2 hx3 hx4) (next:=λy hy=>?_);obtain⟨vy,ey,Y⟩:=y;obtain⟨rfl,rfl⟩:=hy;dsimp only;refine go ?_;refine aD (AZ (s:=s) (v1:=v1) (v2:=v2) (v3:=v3) (v4:=v4) (l:=l) h4 hb1 hb2 hb3 hx1 hx2 hx3 hx4) (next:=λy hy=>?_);obtain⟨H9,Ia,Ej,ey,yb,yw,yu⟩:=y;obtain⟨he,hy0,hy1⟩:=hy;dsimp only at he hy0 hy1⊢;subst he;rcases Nz hck with h3|h3
 rotate_left
 ·have H7:=ahp (s:=s) (l:=l) (by omega);rw[h3,H7];refine go ?_;intro b7;refine go ?_;exact aj () (hv:=rfl) (hp:=trivial)
 obtain⟨_,hL⟩:=yY h3;obtain⟨rfl,rfl,rfl⟩:=hy1 h3;have hne:=yK hck hL;have fA:∀x∈dV s l,x.length=s.c.toNat:=λx hx=>uW hx;have Nt:=ady s l;have hbl:=yL hne fA;have hwl:=yM hne fA;have VO:=Ei s l;rw[h3];generalize hX:dV s l=X at *;have hpos:0<X.length:=o9.2 hne;have ug:(und X s.c.toNat).length<=16:=by
  have h5:s.c.toNat*s.c.toNat<=4*4:=xC (by omega) (by omega);exact dz (wP X s.c.toNat s.c.toNat) h5
 refine go ?_;intro b7;refine bG (eP (b:=b7)) (h:=?_);refine go ?_;refine gG (λe1=>?_) (λe1=>?_)
 rotate_left
 ·exfalso;omega
 refine go ?_;refine gG (λe2=>?_) (λe2=>?_)
 rotate_left
 ·exfalso;omega
 refine go ?_;refine aC rfl (λe3=>?_) (λe3=>?_)
 ·exfalso;omega
 refine go ?_;refine bE (λi=>X.length - i) (λi:Nat=>[(78,.int .i64 (i:Int))]) (λ_=>[]) (λ_=>[]) (λi=>i<=X.length) 0 (bF _) (body:=?_);intro i hi;refine go ?_;refine aC rfl (λh5=>?_) (λh5=>?_)
 ·refine go ?_;refine bJ (aI ae) (k:=i) (next:=λ_ _ x (vx:Value) hx=>?_);have hxl:=fA x (cZ hx);refine go ?_;refine aC rfl (λe4=>?_) (λe4=>?_)
  ·exfalso;omega
  refine go ?_;refine aC rfl (λe5=>?_) (λe5=>?_)
  ·refine go ?_;exact aO (i+1) (by omega) (by omega)
  obtain⟨j,rfl⟩:∃j,i=j+1:=⟨i - 1,by omega⟩
  have hp:X[j]? =some (X[j]'(by omega)):=bf _;generalize X[j]'(by omega)=p at hp;have hpl:=fA p (cZ hp);have NB:gZ p x=true:=by
   obtain⟨q1,q2⟩:=dX.1 hp;obtain⟨q3,q4⟩:=dX.1 hx;have:=List.pairwise_iff_getElem.1 Nt j (j+1) q1 q3 (by omega)
   rwa [q2,q4]at this
  refine go ?_;refine bE (λk=>x.length - k) (λk:Nat=>[(11,.int .i64 (k:Int))]) (λ_=>[]) (λ_=>[]) (λk=>k<=x.length/\p.take k=x.take k) 0 ⟨bF _,rfl⟩ (body:=?_);rintro k ⟨hk,heq⟩;refine go ?_;refine gG (λe6=>?_) (λe6=>?_)
  ·exfalso
   have hkl:k=x.length:=by omega
   subst hkl;rw[fK,mM (by omega)]at heq;rw[heq,Dt]at NB;cases NB
  refine go ?_;intro _ _ z hz;refine go ?_;rw[show((j+1:Nat):Int) - 1=(j:Int)by omega];refine go ?_;refine bJ (aI ae) (k:=j) (next:=λ_ _ p' (vp:Value) hp'=>?_);cases hp.symm.trans hp';refine go ?_;intro _ _ w hw;refine go ?_;refine aC rfl (λe7=>?_) (λe7=>?_)
  ·subst e7;refine go ?_;exact aO (k+1) (by omega) ⟨by omega,by rw[dx hz,dx hw,heq]⟩
  have hlt:=L9 k heq hw hz (Ne.symm e7);rw[NB]at hlt;have hlt:=nX hlt.symm;refine go ?_;refine gG (λe8=>?_) (λe8=>?_)
  rotate_left
  ·exfalso;omega
  refine go ?_;intro _ _ z' hz';cases hz.symm.trans hz';refine go ?_;rw[show((j+1:Nat):Int) - 1=(j:Int)by omega];refine go ?_;refine bJ (aI ae) (k:=j) (next:=λ_ _ p' (vp:Value) hp'=>?_);cases hp.symm.trans hp';refine go ?_;intro _ _ w' hw';cases hw.symm.trans hw';refine go ?_;refine aC rfl (λe9=>?_) (λe9=>?_)
  ·exfalso;omega
  refine go ?_;exact aO (j+1+1) (by omega) (by omega)
 refine go ?_;refine bE (λy:Nat×Nat=>s.c.toNat - y.1) (λy=>[(133,.int .i64 (y.1:Int)),(12,.int .i64 (y.2:Int))]) (λ_=>[]) (λ_=>[]) (λy=>y.1<=s.c.toNat/\y.2=(jJ X s.c.toNat y.1).length) (0,0) ⟨bF _,rfl⟩ (body:=?_);rintro⟨a,nx⟩ ⟨ha,hnx⟩;dsimp only at ha hnx⊢;have ahr:=wP X s.c.toNat a;have hac:a*s.c.toNat<=4*4:=xC (by omega) (by omega);refine go ?_;refine aC rfl (λh6=>?_) (λh6=>?_)
 ·have ahs:=adW (a:=a) hne fA (by omega) (by omega);have aht:=adX (a:=a) hne fA (by omega);refine go ?_;refine bE (λn=>X.length - n) (λn:Nat=>[(138,.int .i64 (n:Int)),(14,.int .i64 (uX X a n)),(15,.int .i64 (uY X a n))]) (λ_=>[]) (λ_=>[]) (λn=>n<=X.length) 0 (bF _) (body:=?_);intro n hn;refine go ?_;refine aC rfl (λh7=>?_) (λh7=>?_)
  ·refine go ?_;refine bJ (aI ae) (k:=n) (next:=λ_ _ t (vt:Value) ht=>?_);have htl:=fA t (cZ ht);have hx:t[a]? =some (t[a]'(by omega)):=bf _;generalize t[a]'(by omega)=x at hx;have hls:=S9 (a:=a) ht;have hms:=Ta (a:=a) ht;rw[Te hx]at hls hms;refine go ?_;refine bE (λj=>t.length - j) (λj:Nat=>[(144,.int .i64 (j:Int)),(18,.int .i64 (1+((t.take j).countP λm=>decide (x<m):Nat):Int))]) (λ_=>[]) (λ_=>[]) (λj=>j<=t.length) 0 (bF _) (body:=?_);intro j hj;have hcl:((t.take j).countP λm=>decide (x<m))<=(t.take j).length:=Bq;rw[dw]at hcl;refine go ?_;refine aC rfl (λh8=>?_) (λh8=>?_)
   ·refine go ?_;intro _ _ z hz;refine go ?_;intro _ _ x' hx';cases hx.symm.trans hx';have hs:((t.take (j+1)).countP λm=>decide (x<m))=((t.take j).countP λm=>decide (x<m))+if x<z then 1 else 0:=by rw[dx hz,Br,Bt];simp
    refine go ?_;refine aC rfl (λh9=>?_) (λh9=>?_)
    ·rw[if_pos h9]at hs;refine go ?_;rw[show(1+(((t.take j).countP λm=>decide (x<m):Nat):Int))+1=1+(((t.take (j+1)).countP λm=>decide (x<m):Nat):Int)by rw[hs];omega];exact aO (j+1) (by omega) (by omega)
    ·have hs2:((t.take j).countP λm=>decide (x<m))=((t.take (j+1)).countP λm=>decide (x<m)):=by rw[hs,if_neg h9,nV]
     rw[hs2];refine go ?_;exact aO (j+1) (by omega) (by omega)
   have hjl:j=t.length:=by omega
   subst hjl;rw[fK];refine go ?_;refine(bO rfl rfl (rR rfl rfl)).h ?_;refine go ?_;refine(bO rfl rfl (nG rfl rfl)).h ?_;rw[<- hls,<- hms];refine go ?_;exact aO (n+1) (by omega) (by omega)
  have hnl:n=X.length:=by omega
  subst hnl;rw[ahs,aht];refine go ?_;intro _ _ r1 hr1;rw[ic hr1];refine go ?_;refine gG (λe1=>?_) (λe1=>?_)
  rotate_left
  ·exact absurd rfl e1
  refine go ?_;intro _ _ r2 hr2;rw[ic hr2];refine go ?_;refine aC rfl (λe2=>absurd rfl e2) (λe2=>?_);refine go ?_;rw[show(a:Int)+1=((a+1:Nat):Int)from rfl];refine bE (λy:Nat×Nat=>s.c.toNat - y.1) (λy=>[(21,.int .i64 (y.1:Int)),(12,.int .i64 (y.2:Int))]) (λ_=>[]) (λ_=>[]) (λy=>a<y.1/\y.1<=s.c.toNat/\y.2=(jJ X s.c.toNat a).length+(kX X a y.1).length) (a+1,nx) ⟨qg _,by show a+1<=_;omega,by show nx=_;rw[Mk];exact hnx⟩ (body:=?_);rintro⟨b,nx⟩ ⟨hab,hbc,hnx⟩;dsimp only at hab hbc hnx⊢;have hil:=GG X a b;refine go ?_;refine aC rfl (λh8=>?_) (λh8=>?_)
  ·have his:=DC (X:=X) (a:=a) (b:=b) hab;refine go ?_;refine Ah tY (λbm=>?_);refine go ?_;refine bE (λy:Nat×List Int=>X.length - y.1) (λy=>[(191,.int .i64 (y.1:Int))]) (λy=>[jV tY bm (lQ y.2)]) (λ_=>[]) (λy=>y.1<=X.length/\y.2.Nodup/\∀z,z∈y.2↔∃t∈X.take y.1,z=fG (t.getD a 0) (t.getD b 0)) (0,[]) ⟨bF _,Ez,λz=>by simp⟩ (hk:=by
    show aM [jV tY bm []] _ _;repeat (first|exact aM.nil|(apply aM.cons;(focus (repeat (first|exact ai.here|apply ai.there)))))) (body:=?_)
   rintro⟨n,ks⟩ ⟨hn,hkn,hks⟩;dsimp only at hn hkn hks⊢;refine go ?_;refine aC rfl (λh9=>?_) (λh9=>?_)
   ·refine go ?_;refine bJ (aI ae) (k:=n) (next:=λ_ _ t (vt:Value) ht=>?_);have htl:=fA t (cZ ht);refine go ?_;intro _ _ p1 hp1 _ _ p2 hp2;refine go ?_;refine aD (Nw (x:=p1) (y:=p2)) (next:=λ_ _=>?_);refine go ?_;refine Ai (aS:=tY) (b:=bm) (v:=.bool true) (aN:=lQ ks) MP (fG p1 p2) ?_;rw[Ie];refine go ?_;refine aO (n+1,jM ks (fG p1 p2)) (by show X.length - (n+1)<X.length - n;omega) ⟨by show n+1<=_;omega,Vb hkn,λz=>?_⟩;show z∈jM ks (fG p1 p2)↔_;rw[AX,hks,dx ht];constructor
    ·rintro(⟨u,hu,e⟩|e)
     ·exact⟨u,mK _ hu,e⟩
     ·exact⟨t,by simp,by rw[e,ic hp1,ic hp2]⟩
    ·rintro⟨u,hu,e⟩;rcases gy.1 hu with hu|hu
     ·exact .inl ⟨u,hu,e⟩
     ·rw[di.1 hu,ic hp1,ic hp2]at e;exact .inr e
   have hnl:n=X.length:=by omega
   subst hnl;rw[fK]at hks;have hone:=adZ (a:=a) (b:=b) hne hkn hks;refine go ?_;refine QH (b:=bm) (aS:=tY) ?_;rw[ahg];refine go ?_;refine aC rfl (λe3=>?_) (λe3=>?_)
   ·have hd:=hone.1 (by omega);rw[if_neg (by rw[hd];simp)]at his;refine go ?_;exact aO (b+1,nx) (by show s.c.toNat - (b+1)<s.c.toNat - b;omega) ⟨by show a<b+1;omega,by show b+1<=_;omega,by show nx=_;rw[his];exact hnx⟩
   have hd:jI X a b=true:=by
    cases e:jI X a b with
    |true=>rfl
    |false=>exact absurd (hone.2 e) (by omega)
   have hat:=adY (c:=s.c.toNat) hab (by omega) hd;rw[<- hnx]at hat
   have hlt:=(dX.1 hat).1;rw[if_pos hd]at his;refine go ?_;refine gG (λe4=>?_) (λe4=>?_)
   rotate_left
   ·exfalso;omega
   refine go ?_;refine bJ iK (k:=nx) (next:=λbx ox q _ hq=>?_);cases hat.symm.trans hq;refine go ?_;refine(bO rfl rfl (Vy (n:=2) (e:=3) (xs:=[(a:Int),(b:Int)]) (ys:=[(a:Int),(b:Int)]) rfl rfl (by kernel_rfl) (by kernel_rfl) (by kernel_rfl) rfl rfl (by kernel_rfl))).h ?_;rw[eH (rfl:[(a:Int),(b:Int)]=[(a:Int),(b:Int)])];refine go ?_;exact aO (b+1,nx+1) (by show s.c.toNat - (b+1)<s.c.toNat - b;omega) ⟨by show a<b+1;omega,by show b+1<=_;omega,by show nx+1=_;rw[his,dW,qm,hnx];omega⟩
  have hbe:b=s.c.toNat:=by omega
  subst hbe;refine go ?_;exact aO (a+1,nx) (by show s.c.toNat - (a+1)<s.c.toNat - a;omega) ⟨by show a+1<=_;omega,by show nx=_;rw[AJ,dW];exact hnx⟩
 have hae:a=s.c.toNat:=by omega
 subst hae;rw[show jJ X s.c.toNat s.c.toNat=und X s.c.toNat from rfl]at hnx;subst hnx;refine go ?_;exact aj () (hv:=by rw[eH (rfl:(((und X s.c.toNat).length:Nat):Int)=_)];rfl) (hp:=trivial)
