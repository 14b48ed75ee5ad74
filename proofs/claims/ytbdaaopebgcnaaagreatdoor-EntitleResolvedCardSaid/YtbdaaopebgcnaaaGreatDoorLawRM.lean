/-
  The law EntitleResolved.
-/
import Derived.Test.YtbdaaopebgcnaaaGreatDoorLibWM
set_option linter.all false
set_option maxRecDepth 10000
set_option maxHeartbeats 4000000
namespace Go.Proofs.YtbdaaopebgcnaaaGreatDoor
open Go.Ideal Rk En
theorem afi(n:Int):IntKind.u64.wrap n=((n%18446744073709551616).toNat:Int):=by
 show(let m:=n%(2^64:Int);if false&&m>=(2^63:Int)then m - (2^64:Int)else m)=_;simp only[Bool.false_and,qb,if_false];rw[show((2:Int)^64)=18446744073709551616 from rfl];have:=Int.emod_nonneg n (show(18446744073709551616:Int)≠0 by decide);omega
theorem Ta{s:aJ}{l:List aA}{o:List Bool}{fs:List aR}{day:Int}(hr:eD s l fs day=0)(ho:o.length=l.length):(jL s l o fs day=0/\¬uj s l o fs day)\/(jL s l o fs day=2/\uj s l o fs day):=by
 by_cases h:uj s l o fs day
 ·exact .inr ⟨QK hr ho h,h⟩
 ·exact .inl ⟨J8 hr ho h,h⟩
theorem afj{s:aJ}{v1 v2 v3 v4 vl vo vf:Value}{l:List aA}{o:List Bool}{fs:List aR}{day at_:Int}(hW:vZ s.pg)(hb1:s.lv.length<9223372036854775808)(hb2:s.cl.length<9223372036854775808)(hb3:s.pz.length<9223372036854775808)(hb4:s.pg.length<9223372036854775808)(hx1:cellsOf v1=some [v1])(hx2:cellsOf v2=some [v2])(hx3:cellsOf v3=some [v3])(hx4:cellsOf v4=some [v4])(hbf:fs.length<9223372036854775808):
 ik Tryz.prog 6 [.agg ⟨kY s v1 v2 v3 v4⟩,vl,vo,vf,.int .i64 day,.int .i64 at_] [EO 4,mX 0 nQ,ae az v1 s.lv,ae az v2 s.cl,ae iw v3 s.pg,ae az v4 s.pz,ae bR vl l,ae mO vo o,ae eF vf fs] (.bool true):=by
 refine aV _ (bB 6) λB w0=>?_;refine eU (E:=bR) (v:=vl) (xs:=l) (by simp) λal cl el=>?_;subst el;refine eU (E:=mO) (v:=vo) (xs:=o) (by simp) λao co eo=>?_;subst eo;refine eU (E:=eF) (v:=vf) (xs:=fs) (by simp) λaf cf ef=>?_;subst ef;refine go ?_;intro b6;refine cu (fT (b:=b6)) (h:=?_);refine go ?_;refine aG abR (next:=λ_ _=>?_);refine go ?_;refine aG (aeI (s:=s) (v1:=v1) (v2:=v2) (v3:=v3) (v4:=v4) (l:=l) (fs:=fs) (o:=o) (day:=day) hW hb1 hb2 hb3 hb4 hx1 hx2 hx3 hx4) (next:=λb hb=>?_);cases b with
 |false=>
  refine go ?_;exact aj () (hv:=rfl) (hp:=trivial)
 |true=>
 obtain⟨h4,hol,hr0⟩:=hb rfl;have hR:=xB hr0;have hfl:=hR.f16;have hck:=pY hR.ck;have hc1:=hck.sh.c1;refine go ?_;refine aM rfl (λh1=>?_) (λh1=>?_)
 ·refine go ?_;exact aj () (hv:=rfl) (hp:=trivial)
 have hx0:0<fs.length:=by omega
 generalize hn:(at_%18446744073709551616).toNat%fs.length=n;have hnl:n<fs.length:=by rw[<- hn];exact sM _ hx0
 refine go ?_;refine(bV rfl rfl (BA (k:=.u64) (m:=((at_%18446744073709551616).toNat:Int)) (by kernel_rfl:Tryz.prog.underlying 3=some (.int .i64)) (by kernel_rfl) rfl (afi at_))).h ?_;refine go ?_;refine(bV rfl rfl (BA (k:=.u64) (m:=(fs.length:Int)) (by kernel_rfl:Tryz.prog.underlying 3=some (.int .i64)) (by kernel_rfl) rfl (Zm (by omega)))).h ?_;refine go ?_;refine(bV rfl rfl (aap rfl rfl hx0)).h ?_;rw[hn];refine go ?_;refine(bV rfl rfl (BA (k:=.i64) (m:=(n:Int)) (by kernel_rfl:Tryz.prog.underlying 53=some (.int .u64)) (by kernel_rfl) rfl (wrapN (by omega)))).h ?_;refine go ?_;refine eX eF (k:=n) (next:=λ_ _ f (vg:Value) hf=>?_);refine go ?_;refine aM rfl (λh2=>?_) (λh2=>?_)
 ·refine go ?_;exact aj () (hv:=rfl) (hp:=trivial)
 have hk3:f.k=3:=rJ.1 h2;refine go ?_;intro BX;refine go ?_;refine zf eF (xs:=fs) n (by omega) (next:=λa1 c1=>?_);refine go ?_;refine YR eF (xs:=fs) (n+1) (by omega) (next:=λa2 c2=>?_) (hlo:=rfl);refine go ?_;refine pR eF (.slice a1 n c1) (xs:=fs.take n) λy1 e1=>?_;refine OU (E:=eF) (v:=.slice a1 n c1) (aa:=y1) ?_;refine pR eF (.slice a2 (fs.length - (n+1)) c2) (xs:=fs.drop (n+1)) λy2 e2=>?_;refine OU (E:=eF) (v:=.slice a2 (fs.length - (n+1)) c2) (aa:=y2) ?_;have l1:y1.length=n:=by rw[<- bI (f:=λp:aR×eF.Y=>p.1),e1,fB];omega
 have l2:y2.length=fs.length - (n+1):=by rw[<- iY,<- e2,bI]
 refine Pq (b:=BX) (f:=0) (m:=0) (v:=.slice a1 n c1) eF [] y1 rfl (.inl rfl) ⟨by omega,by omega,by omega⟩ (λb1 f1 m1 hm1 hf1=>?_) (hk:=ah.here);rw[dw]at hm1⊢;refine go ?_;refine Pq (b:=b1) (f:=f1) (m:=m1) (v:=.slice a2 (fs.length - (n+1)) c2) eF y1 y2 hm1 hf1 ⟨by omega,by omega,by omega⟩ (λb3 f3 m3 hm3 hf3=>?_) (hk:=ah.here);have hmap:(y1++y2).map (·.1)=fs.take n++fs.drop (n+1):=by rw[dM,e1,e2]
 have hml:(y1++y2).length=(fs.take n++fs.drop (n+1)).length:=by rw[<- hmap,bI]
 subst hm3;rw[show aK eF (y1++y2)=aK eF (y1++y2)++[]from(fJ _).symm];refine Ps eF (aa:=y1++y2) hf3 (aC _) ?_ (λw hw=>?_)
 rotate_left
 ·intro p hp f hf;rcases fI.1 hp with hp|hp
  ·exact hw (mW eF y1) (by simp) p hp f hf
  ·exact hw (mW eF y2) (by simp) p hp f hf
 rw[hmap,hml];have Tc:=abH hf hk3 day;have hmem:∀g∈fs.take n++fs.drop (n+1),g∈fs:=λg hg=>(fI.1 hg).elim xO List.mem_of_mem_drop;have hgl:(fs.take n++fs.drop (n+1)).length<=fs.length:=by rw[dK,fB,iY];omega
 generalize fs.take n++fs.drop (n+1)=gs at Tc hmem hgl⊢;have hr2:=abF hgl hmem hr0;obtain⟨hlim,hsub⟩:=abG (s:=s) (l:=l) (o:=o) Tc hmem;refine go ?_;refine aG (SV (s:=s) (v1:=v1) (v2:=v2) (v3:=v3) (v4:=v4) (l:=l) (o:=o) (fs:=fs) (day:=day) h4 hb1 hb2 hb3 hbf hx1 hx2 hx3 hx4 rfl rfl rfl) (next:=λy hy=>?_);obtain⟨vx,ex,X⟩:=y;obtain⟨rfl,hX⟩:=hy;refine go ?_;refine aG (SV (s:=s) (v1:=v1) (v2:=v2) (v3:=v3) (v4:=v4) (l:=l) (o:=o) (fs:=gs) (day:=day) h4 hb1 hb2 hb3 (by omega) hx1 hx2 hx3 hx4 rfl rfl rfl) (next:=λy hy=>?_);obtain⟨vy,ey,Y⟩:=y;obtain⟨rfl,hY⟩:=hy;refine go ?_;refine aG (S9 (s:=s) (v1:=v1) (v2:=v2) (v3:=v3) (v4:=v4) (l:=l) (o:=o) (fs:=fs) (day:=day) h4 hb1 hb2 hb3 hbf hx1 hx2 hx3 hx4 rfl rfl rfl) (next:=λy hy=>?_);obtain⟨e1',lo,hi⟩:=y;obtain⟨rfl,hT⟩:=hy;refine go ?_;intro b19;refine go ?_;refine aG (S9 (s:=s) (v1:=v1) (v2:=v2) (v3:=v3) (v4:=v4) (l:=l) (o:=o) (fs:=gs) (day:=day) h4 hb1 hb2 hb3 (by omega) hx1 hx2 hx3 hx4 rfl rfl rfl) (next:=λy hy=>?_);obtain⟨e2',lo2,hi2⟩:=y;obtain⟨rfl,Td⟩:=hy;dsimp only at hX hY hT Td⊢;rcases Ta hr0 hol with⟨hE,hno⟩|⟨hE,zD⟩
 rotate_left
 ·rcases Ta hr2 hol with⟨hE2,_⟩|⟨hE2,_⟩
  ·rw[hE,hE2];refine go ?_;intro Te;refine go ?_;exact aj () (hv:=rfl) (hp:=trivial)
  ·rw[hE,hE2];refine go ?_;intro Te;refine go ?_;exact aj () (hv:=rfl) (hp:=trivial)
 have hE2:=J8 hr2 hol (λh=>hno (hlim h));obtain⟨qa,xM⟩:=hX hE;obtain⟨hYl,hYc⟩:=hY hE2;obtain⟨hle1,hle2⟩:=(hT hE).less (Td hE2) (λx hx=>by
  obtain⟨u,hu,rfl⟩:=gz.1 hx;exact uF (hsub u hu))
 dsimp only at hle1 hle2;rw[hE,hE2];refine go ?_;intro Te;refine go ?_;refine gG (λe1=>?_) (λe1=>?_)
 rotate_left
 ·exfalso;omega
 refine go ?_;refine gG (λe2=>?_) (λe2=>?_)
 rotate_left
 ·exfalso;have e2:lo2<lo:=e2;omega
 refine go ?_;refine aM rfl (λe3=>?_) (λe3=>?_)
 ·exfalso;have e3:hi<hi2:=e3;omega
 refine go ?_;refine dQ (λk=>X.length - k) (λk:Nat=>[(152,.int .i64 (k:Int))]) (λ_=>[]) (λ_=>[]) (λk=>k<=X.length) 0 (dY _) (body:=?_);intro k hk;refine go ?_;refine aM rfl (λh5=>?_) (λh5=>?_)
 ·have hx:X[k]? =some (X[k]'(by omega)):=bH _;generalize X[k]'(by omega)=x at hx;have hy:Y[k]? =some (Y[k]'(by omega)):=bH _;generalize Y[k]'(by omega)=y at hy;obtain⟨g1,g2⟩:=(xM k x hx).2.2.less (hYc k y hy).2.2 (λz hz=>by
   obtain⟨u,hu,rfl⟩:=gz.1 hz;exact uF (hsub u hu))
  dsimp only at g1 g2;refine go ?_;refine eX oL (k:=k) (v:=vy) (xs:=Y) (next:=λbx1 Tf z1 _ hz1=>?_);cases hy.symm.trans hz1;refine go ?_;refine bX (bU bx1 (Tf+2) [.int .i64 y.lo,.int .i64 y.hi]) (λw hw=>xK (m:=2) (hw _ (aS ..))) ?_;refine(pM (b:=bx1) (o:=Tf+2) (j:=0) (v:=.int .i64 y.lo) rfl rfl rfl (aS ..) rfl).h ?_;refine go ?_;refine eX oL (k:=k) (v:=vx) (xs:=X) (next:=λzz zA z2 _ hz2=>?_);cases hx.symm.trans hz2;refine go ?_;refine bX (bU zz (zA+2) [.int .i64 x.lo,.int .i64 x.hi]) (λw hw=>xK (m:=2) (hw _ (aS ..))) ?_;refine(pM (b:=zz) (o:=zA+2) (j:=0) (v:=.int .i64 x.lo) rfl rfl rfl (aS ..) rfl).h ?_;refine go ?_;refine gG (λe4=>?_) (λe4=>?_)
  rotate_left
  ·exfalso;omega
  refine go ?_;refine eX oL (k:=k) (v:=vy) (xs:=Y) (next:=λTg Ti z3 _ hz3=>?_);cases hy.symm.trans hz3;refine go ?_;refine bX (bU Tg (Ti+2) [.int .i64 y.lo,.int .i64 y.hi]) (λw hw=>xK (m:=2) (hw _ (aS ..))) ?_;refine(pM (b:=Tg) (o:=Ti+2) (j:=1) (v:=.int .i64 y.hi) rfl rfl rfl (aS ..) rfl).h ?_;refine go ?_;refine eX oL (k:=k) (v:=vx) (xs:=X) (next:=λTj Tk z4 _ hz4=>?_);cases hx.symm.trans hz4;refine go ?_;refine bX (bU Tj (Tk+2) [.int .i64 x.lo,.int .i64 x.hi]) (λw hw=>xK (m:=2) (hw _ (aS ..))) ?_;refine(pM (b:=Tj) (o:=Tk+2) (j:=1) (v:=.int .i64 x.hi) rfl rfl rfl (aS ..) rfl).h ?_;refine go ?_;refine aM rfl (λe5=>?_) (λe5=>?_)
  ·exfalso;omega
  refine go ?_;exact aY (k+1) (by omega) (by omega)
 refine go ?_;exact aj () (hv:=rfl) (hp:=trivial)
