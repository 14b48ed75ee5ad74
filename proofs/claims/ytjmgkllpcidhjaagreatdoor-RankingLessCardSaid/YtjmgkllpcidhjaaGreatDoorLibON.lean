/-
  ref53: Orders; lists of lists compared.
-/
import Derived.Test.YtjmgkllpcidhjaaGreatDoorLibNN
set_option linter.all false
set_option maxRecDepth 10000
set_option maxHeartbeats 4000000
namespace Go.Proofs.YtjmgkllpcidhjaaGreatDoor
open Go.Ideal Rk
theorem Vt{va vb:Value}{xs ys:List (List Int)}(hl:xs.length<9223372036854775808)(hx:∀t∈xs,t.length<9223372036854775808):eY Tryz.prog 21 [va,vb] [ah (aI ae) va xs,ah (aI ae) vb ys] (.bool (decide (xs=ys))):=by
 refine aX _ (bN 21) λB w0=>?_;refine go ?_;refine aC rfl (λh1=>?_) (λh1=>?_)
 ·refine go ?_;exact aj () (hv:=by rw[gz (λe=>h1 (by rw[e]))];rfl) (hp:=trivial)
 refine go ?_;refine bE (λk=>xs.length - k) (λk:Nat=>[(5,.int .i64 (k:Int))]) (λ_=>[]) (λ_=>[]) (λk=>k<=xs.length/\xs.take k=ys.take k) 0 ⟨bF _,rfl⟩ (body:=?_);rintro k ⟨hk,heq⟩;refine go ?_;refine aC rfl (λh2=>?_) (λh2=>?_)
 ·refine go ?_;refine bJ (aI ae) (k:=k) (v:=va) (xs:=xs) (next:=λ_ _ x (vx:Value) hxk=>?_);refine go ?_;refine bJ (aI ae) (k:=k) (v:=vb) (xs:=ys) (next:=λ_ _ y (vy:Value) hyk=>?_);refine go ?_;refine aD (A7 (xs:=x) (ys:=y) (hx x (cZ hxk))) (next:=λ_ _=>?_);refine go ?_;refine KG rfl (λh3=>?_) (λh3=>?_)
  ·refine go ?_;refine aj () (hv:=?_) (hp:=trivial);rw[gz (λe=>h3 (by subst e;cases hxk.symm.trans hyk;rfl))];rfl
  subst h3;refine go ?_;exact aO (k+1) (by omega) ⟨by omega,by rw[dx hxk,dx hyk,heq]⟩
 have hkl:k=xs.length:=by omega
 subst hkl;rw[fK,mM (by omega)]at heq;refine go ?_;exact aj () (hv:=by rw[eH heq];rfl) (hp:=trivial)
theorem Vu{s:aT}{v1 v2 v3 v4 vl:Value}{l:List aG}(h4:s.c<=4)(hW:nP s.pg)(hb1:s.lv.length<9223372036854775808)(hb2:s.cl.length<9223372036854775808)(hb3:s.pz.length<9223372036854775808)(hb4:s.pg.length<9223372036854775808)(hx1:cellsOf v1=some [v1])(hx2:cellsOf v2=some [v2])(hx3:cellsOf v3=some [v3])(hx4:cellsOf v4=some [v4]):
 bD Tryz.prog (.func 20) [.agg ⟨kz s v1 v2 v3 v4⟩,vl] [] [] [ah ae v1 s.lv,ah ae v2 s.cl,ah fw v3 s.pg,ah ae v4 s.pz,ah cO vl l] HZ (λ_=>[]) H6 (Ed s l):=by
 refine aX _ (bN 20) λB w0=>?_;refine go ?_;intro b2;refine bG (eP (b:=b2)) (h:=?_);refine go ?_;refine aD (UR (s:=s) (l:=l) hW hb1 hb2 hb3 hb4 hx1 hx2 hx3 hx4) (next:=λy hy=>?_);subst hy;refine go ?_;refine aC rfl (λh1=>?_) (λh1=>?_)
 ·refine go ?_;refine cK (ah (aI ae) (.slice none 0 0) ([]:List (List Int))) (λw _=>uf w) ?_;exact aj ⟨.slice none 0 0,eU s l,[]⟩ (hv:=rfl) (hp:=⟨(Dv h1).1.symm,(Dv h1).2.symm⟩)
 have h1:eU s l=0:=sG.1 h1;have h:=mX h1;have hll:=h.len;have hc1:=h.sh.c1;have hp1:=h.sh.p1;have MZ:=h.sh.p8;refine go ?_;refine FT s.c.toNat ⟨by omega,by omega,by omega⟩ (hx:=by show Value.int .i64 _=_;congr 1;omega) (hy:=by show Value.int .i64 _=_;congr 1;omega) (λvH=>?_)
 rw[MX];refine go ?_;intro Ns;refine bG (A:=pt vH (.cells ((List.replicate s.c.toNat (0:Int)).map (.int .i64)))) (fs:=[ah ae (.slice (some ⟨vH,0,some 0⟩) s.c.toNat s.c.toNat) (List.replicate s.c.toNat 0)]) (by have:=lC (b:=vH) (f:=0) (c:=s.c.toNat) (xs:=List.replicate s.c.toNat (0:Int)) (hc:=by rw[qo];exact aH _);rw[qo]at this;exact this) (h:=?_);refine bG (eP (b:=Ns)) (h:=?_);refine cK (ah (aI ae) (.slice (some ⟨Ns,0,some 0⟩) 1 1) (bW s l 0)) (λw hw=>Eh (hw _ (bz ..)) (hw _ (dh _ (bz ..)))) ?_;refine go ?_;refine bE (λy:Nat×Value=>s.p.toNat - y.1) (λy=>[(8,.int .i64 (y.1:Int)),(7,y.2)]) (λ_=>[]) (λy=>[ah (aI ae) y.2 (bW s l y.1)]) (λy=>(y.1:Int)<=s.p/\(bW s l y.1).length<=4096/\∀q,q<y.1->(bW s l (q+1)).length<=4096) (0,.slice (some ⟨Ns,0,some 0⟩) 1 1) ⟨by show(0:Int)<=_;omega,by show 1<=4096;omega,λq hq=>absurd hq (Nat.not_lt_zero _)⟩ (body:=?_);rintro⟨p,vo⟩ ⟨hp,hol,hlim⟩;dsimp only at hp hol hlim⊢;refine go ?_;refine aC rfl (λh2=>?_) (λh2=>?_)
 ·have jX:=mY l (p:Int);have htop:∀i,i<(wl l p).length->hi (wl l p) i<=kv:=λi hi=>(mZ h.rs hi).2.2;have hlo:∀i,i<(wl l p).length->0<=lo (wl l p) i:=λi hi=>(mZ h.rs hi).1;have agH:=SY h.rs (p:Int);have hpl:=adr htop (by omega);have hrg:∀{t:List Int},t∈bW s l p->∀x∈t,0<=x/\x<=(p:Int)*33554432:=Mh hll p;refine go ?_;refine aD (af2 (l:=l) (p:=(p:Int)) (by omega)) (next:=λvc _=>?_);refine go ?_;refine aD (agV (vl:=vl) (vo:=vc) (l:=l) (s:=s) (p:=(p:Int)) h.rs hll (by omega)) (next:=λvq _=>?_);refine go ?_;refine aC rfl (λh3=>?_) (λh3=>?_)
  ·exfalso;omega
  refine go ?_;refine cK (ah (aI ae) (.slice none 0 0) (gI (tT s l p (bW s l p) (jv (wl l p)) 0))) (λw _=>uf w) ?_;refine bE (λy:Nat×Value=>(bW s l p).length - y.1) (λy=>[(12,.int .i64 (y.1:Int)),(11,y.2)]) (λ_=>[]) (λy=>[ah (aI ae) y.2 (gI (tT s l p (bW s l p) (jv (wl l p)) y.1))]) (λy=>y.1<=(bW s l p).length/\(gI (tT s l p (bW s l p) (jv (wl l p)) y.1)).length<=4096) (0,.slice none 0 0) ⟨bF _,bF _⟩ (body:=?_);rintro⟨i,vn⟩ ⟨hi,hnl⟩;dsimp only at hi hnl⊢;refine go ?_;refine aC rfl (λh5=>?_) (λh5=>?_)
  ·have ht:(bW s l p)[i]? =some ((bW s l p)[i]'(by omega)):=bf _;generalize(bW s l p)[i]'(by omega)=t at ht;have xV:=cZ ht;have htl:=kW xV;have htr:∀x∈t,0<=x/\x<=1099511627776:=λx hx=>by have:=hrg xV x hx;omega
   rw[<- Sw (t:=t) (i:=i)]at hnl;refine go ?_;rw[<- Sw (t:=t) (i:=i)];refine bE (λy:Nat×Value=>(jv (wl l p)).length - y.1) (λy=>[(13,.int .i64 (y.1:Int)),(11,y.2)]) (λ_=>[]) (λy=>[ah (aI ae) y.2 (gI (nM s l p (bW s l p) (jv (wl l p)) t i y.1))]) (λy=>y.1<=(jv (wl l p)).length/\(gI (nM s l p (bW s l p) (jv (wl l p)) t i y.1)).length<=4096) (0,vn) ⟨bF _,hnl⟩ (body:=?_);rintro⟨k,vn⟩ ⟨hk,hnl⟩;dsimp only at hk hnl⊢;refine go ?_;refine aC rfl (λh6=>?_) (λh6=>?_)
   ·refine go ?_;refine bJ (aI ae) (k:=k) (v:=vq) (xs:=jv (wl l p)) (next:=λ_ _ aF (vp:Value) Ef=>?_);have AY:=AC.1 (cZ Ef);have Ng:aF.length=(aL l p).length:=by rw[Mf htop AY,jX]
    have Nh:∀x∈aF,0<=x/\x<=1048576:=λx hx=>by have:=Su htop hlo AY hx;omega
    have hal:=qP s l p aF t;have hsub:∀u∈gI (nM s l p (bW s l p) (jv (wl l p)) t i (k+1)),u∈bW s l (p+1):=λu hu=>Mj xV ((uV _).1 hu);have Nt:rY (gI (nM s l p (bW s l p) (jv (wl l p)) t i (k+1))):=AA (c:=s.c.toNat) _ λu hu=>kW (Mj xV hu);have hlen:∀u∈gI (nM s l p (bW s l p) (jv (wl l p)) t i k),u.length=(fO s l p aF t).length:=λu hu=>by
     rw[kW (Mj xV ((uV _).1 hu)),hal,htl]
    refine go ?_;refine bJ (aI ae) (k:=i) (v:=vo) (xs:=bW s l p) (next:=λ_ _ t' (vt:Value) ht'=>?_);cases ht.symm.trans ht';refine go ?_;refine aD (af9 (s:=s) (l:=l) (p:=p) (aF:=aF) (t:=t) hW h h2 Ng Nh (by omega) htr) (next:=λva _=>?_);refine go ?_;refine aD (Vq (l:=gI (nM s l p (bW s l p) (jv (wl l p)) t i k)) (x:=fO s l p aF t) (by omega) (by omega) hlen) (next:=λvn _=>?_);rw[<- Du,<- ads Ef];refine go ?_;refine aC rfl (λh7=>?_) (λh7=>?_)
    ·have hL:mG s l:=Mi (p:=p) (by omega) Nt.nodup hsub (by omega);refine go ?_;refine cK (ah (aI ae) (.slice none 0 0) ([]:List (List Int))) (λw _=>uf w) ?_;exact aj ⟨.slice none 0 0,2,[]⟩ (hv:=rfl) (hp:=⟨(Dw h1 hL).1.symm,(Dw h1 hL).2.symm⟩)
    refine go ?_;exact aO (k+1,vn) (by show(jv (wl l p)).length - (k+1)<(jv (wl l p)).length - k;omega) ⟨by show k+1<=_;omega,by show(gI (nM s l p (bW s l p) (jv (wl l p)) t i (k+1))).length<=4096;omega⟩
   have hkl:k=(jv (wl l p)).length:=by omega
   subst hkl;rw[adt ht]at hnl⊢;refine go ?_;exact aO (i+1,vn) (by show(bW s l p).length - (i+1)<(bW s l p).length - i;omega) ⟨by show i+1<=_;omega,hnl⟩
  have hil:i=(bW s l p).length:=by omega
  subst hil;rw[adu]at hnl⊢;refine go ?_;refine aO (p+1,vn) (by show s.p.toNat - (p+1)<s.p.toNat - p;omega) ⟨by show((p+1:Nat):Int)<=_;omega,hnl,λq hq=>?_⟩;by_cases e:q=p
  ·subst e;exact hnl
  ·exact hlim q (by have:q<p+1:=hq;omega)
 have hpe:p=s.p.toNat:=by omega
 subst hpe;have hL:¬mG s l:=by
  rintro⟨q,hq,hgt⟩;have:=hlim q hq;omega
 obtain⟨oe,ox⟩:=qQ h1 hL;refine go ?_;exact aj ⟨vo,0,bW s l s.p.toNat⟩ (hv:=rfl) (hp:=⟨oe.symm,ox.symm⟩)
