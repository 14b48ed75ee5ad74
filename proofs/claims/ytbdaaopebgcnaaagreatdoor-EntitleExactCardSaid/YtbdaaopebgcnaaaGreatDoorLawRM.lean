/-
  The law EntitleResolved.
-/
import Derived.Test.YtbdaaopebgcnaaaGreatDoorLibWM
set_option linter.all false
set_option maxRecDepth 10000
set_option maxHeartbeats 4000000
namespace Go.Proofs.YtbdaaopebgcnaaaGreatDoor
open Go.Ideal Rk En
theorem ah2(n:Int):IntKind.u64.wrap n=((n%18446744073709551616).toNat:Int):=by
 show(let m:=n%(2^64:Int);if false&&m>=(2^63:Int)then m - (2^64:Int)else m)=_;simp only[wH,qJ,if_false];rw[show((2:Int)^64)=18446744073709551616 from rfl];have:=Int.emod_nonneg n (show(18446744073709551616:Int)≠0 by decide);omega
theorem NZ{s:aK}{l:List ak}{o:List Bool}{fs:List aU}{day:Int}(hr:eG s l fs day=0)(ho:o.length=l.length):(jZ s l o fs day=0/\¬vX s l o fs day)\/(jZ s l o fs day=2/\vX s l o fs day):=by
 by_cases h:vX s l o fs day
 ·exact .inr ⟨TU hr ho h,h⟩
 ·exact .inl ⟨Ii hr ho h,h⟩
theorem ah3{s:aK}{v1 v2 v3 v4 vl vo vf:Value}{l:List ak}{o:List Bool}{fs:List aU}{day at_:Int}(hW:qB s.pg)(hb1:s.lv.length<9223372036854775808)(hb2:s.cl.length<9223372036854775808)(hb3:s.pz.length<9223372036854775808)(hb4:s.pg.length<9223372036854775808)(hx1:cellsOf v1=some [v1])(hx2:cellsOf v2=some [v2])(hx3:cellsOf v3=some [v3])(hx4:cellsOf v4=some [v4])(hbf:fs.length<9223372036854775808):
 gy Tryz.prog 6 [.agg ⟨jD s v1 v2 v3 v4⟩,vl,vo,vf,.int .i64 day,.int .i64 at_] [AY 4,l6 0 mU,ae ah v1 s.lv,ae ah v2 s.cl,ae fP v3 s.pg,ae ah v4 s.pz,ae aZ vl l,ae kK vo o,ae dS vf fs] (.bool true):=by
 refine aT _ (bz 6) λB w0=>?_;refine eY (E:=aZ) (v:=vl) (xs:=l) (by simp) λal cl el=>?_;subst el;refine eY (E:=kK) (v:=vo) (xs:=o) (by simp) λao co eo=>?_;subst eo;refine eY (E:=dS) (v:=vf) (xs:=fs) (by simp) λaf cf ef=>?_;subst ef;refine go ?_;intro b6;refine bP (fQ (b:=b6)) (h:=?_);refine go ?_;refine aB M0 (next:=λ_ _=>?_);refine go ?_;refine aB (NP (s:=s) (v1:=v1) (v2:=v2) (v3:=v3) (v4:=v4) (l:=l) (fs:=fs) (o:=o) (day:=day) hW hb1 hb2 hb3 hb4 hx1 hx2 hx3 hx4) (next:=λb hb=>?_);cases b with
 |false=>
  refine go ?_;exact aj () (hv:=rfl) (hp:=trivial)
 |true=>
 obtain⟨h4,hol,hr0⟩:=hb rfl;have hR:=uM hr0;have hfl:=hR.f16;have hck:=l7 hR.ck;have hc1:=hck.sh.c1;refine go ?_;refine aC rfl (λh1=>?_) (λh1=>?_)
 ·refine go ?_;exact aj () (hv:=rfl) (hp:=trivial)
 have hx0:0<fs.length:=by omega
 generalize hn:(at_%18446744073709551616).toNat%fs.length=n;have hnl:n<fs.length:=by rw[<- hn];exact uU _ hx0
 refine go ?_;refine(bC rfl rfl (AV (k:=.u64) (m:=((at_%18446744073709551616).toNat:Int)) (by kernel_rfl:Tryz.prog.underlying 3=some (.int .i64)) (by kernel_rfl) rfl (ah2 at_))).h ?_;refine go ?_;refine(bC rfl rfl (AV (k:=.u64) (m:=(fs.length:Int)) (by kernel_rfl:Tryz.prog.underlying 3=some (.int .i64)) (by kernel_rfl) rfl (ab9 (by omega)))).h ?_;refine go ?_;refine(bC rfl rfl (adb rfl rfl hx0)).h ?_;rw[hn];refine go ?_;refine(bC rfl rfl (AV (k:=.i64) (m:=(n:Int)) (by kernel_rfl:Tryz.prog.underlying 53=some (.int .u64)) (by kernel_rfl) rfl (wrapN (by omega)))).h ?_;refine go ?_;refine cZ dS (k:=n) (next:=λ_ _ f (vg:Value) hf=>?_);refine go ?_;refine aC rfl (λh2=>?_) (λh2=>?_)
 ·refine go ?_;exact aj () (hv:=rfl) (hp:=trivial)
 have hk3:f.k=3:=qd.1 h2;refine go ?_;intro DZ;refine go ?_;refine AP dS (xs:=fs) n (by omega) (next:=λa1 c1=>?_);refine go ?_;refine abD dS (xs:=fs) (n+1) (by omega) (next:=λa2 c2=>?_) (hlo:=rfl);refine go ?_;refine rJ dS (.slice a1 n c1) (xs:=fs.take n) λy1 e1=>?_;refine RB (E:=dS) (v:=.slice a1 n c1) (aa:=y1) ?_;refine rJ dS (.slice a2 (fs.length - (n+1)) c2) (xs:=fs.drop (n+1)) λy2 e2=>?_;refine RB (E:=dS) (v:=.slice a2 (fs.length - (n+1)) c2) (aa:=y2) ?_;have l1:y1.length=n:=by rw[<- bI (f:=λp:aU×dS.Y=>p.1),e1,cB];omega
 have l2:y2.length=fs.length - (n+1):=by rw[<- iZ,<- e2,bI]
 refine Si (b:=DZ) (f:=0) (m:=0) (v:=.slice a1 n c1) dS [] y1 rfl (.inl rfl) ⟨by omega,by omega,by omega⟩ (λb1 f1 m1 hm1 hf1=>?_) (hk:=ai.here);rw[dI]at hm1⊢;refine go ?_;refine Si (b:=b1) (f:=f1) (m:=m1) (v:=.slice a2 (fs.length - (n+1)) c2) dS y1 y2 hm1 hf1 ⟨by omega,by omega,by omega⟩ (λb3 f3 m3 yf hf3=>?_) (hk:=ai.here);have hmap:(y1++y2).map (·.1)=fs.take n++fs.drop (n+1):=by rw[eB,e1,e2]
 have hml:(y1++y2).length=(fs.take n++fs.drop (n+1)).length:=by rw[<- hmap,bI]
 subst yf;rw[show aP dS (y1++y2)=aP dS (y1++y2)++[]from(fU _).symm];refine Sj dS (aa:=y1++y2) hf3 (aG _) ?_ (λw hw=>?_)
 rotate_left
 ·intro p hp f hf;rcases gF.1 hp with hp|hp
  ·exact hw (og dS y1) (by simp) p hp f hf
  ·exact hw (og dS y2) (by simp) p hp f hf
 rw[hmap,hml];have Wt:=aej hf hk3 day;have hmem:∀g∈fs.take n++fs.drop (n+1),g∈fs:=λg hg=>(gF.1 hg).elim uS List.mem_of_mem_drop;have hgl:(fs.take n++fs.drop (n+1)).length<=fs.length:=by rw[dN,cB,iZ];omega
 generalize fs.take n++fs.drop (n+1)=gs at Wt hmem hgl⊢;have hr2:=aeh hgl hmem hr0;obtain⟨hlim,hsub⟩:=aei (s:=s) (l:=l) (o:=o) Wt hmem;refine go ?_;refine aB (Jg (s:=s) (v1:=v1) (v2:=v2) (v3:=v3) (v4:=v4) (l:=l) (o:=o) (fs:=fs) (day:=day) h4 hb1 hb2 hb3 hbf hx1 hx2 hx3 hx4 rfl rfl rfl) (next:=λy hy=>?_);obtain⟨vx,ex,X⟩:=y;obtain⟨rfl,hX⟩:=hy;refine go ?_;refine aB (Jg (s:=s) (v1:=v1) (v2:=v2) (v3:=v3) (v4:=v4) (l:=l) (o:=o) (fs:=gs) (day:=day) h4 hb1 hb2 hb3 (by omega) hx1 hx2 hx3 hx4 rfl rfl rfl) (next:=λy hy=>?_);obtain⟨vy,ey,Y⟩:=y;obtain⟨rfl,hY⟩:=hy;refine go ?_;refine aB (NY (s:=s) (v1:=v1) (v2:=v2) (v3:=v3) (v4:=v4) (l:=l) (o:=o) (fs:=fs) (day:=day) h4 hb1 hb2 hb3 hbf hx1 hx2 hx3 hx4 rfl rfl rfl) (next:=λy hy=>?_);obtain⟨Sd,lo,hi⟩:=y;obtain⟨rfl,hT⟩:=hy;refine go ?_;intro b19;refine go ?_;refine aB (NY (s:=s) (v1:=v1) (v2:=v2) (v3:=v3) (v4:=v4) (l:=l) (o:=o) (fs:=gs) (day:=day) h4 hb1 hb2 hb3 (by omega) hx1 hx2 hx3 hx4 rfl rfl rfl) (next:=λy hy=>?_);obtain⟨e2',lo2,hi2⟩:=y;obtain⟨rfl,IM⟩:=hy;dsimp only at hX hY hT IM⊢;rcases NZ hr0 hol with⟨hE,hno⟩|⟨hE,zi⟩
 rotate_left
 ·rcases NZ hr2 hol with⟨hE2,_⟩|⟨hE2,_⟩
  ·rw[hE,hE2];refine go ?_;intro Wu;refine go ?_;exact aj () (hv:=rfl) (hp:=trivial)
  ·rw[hE,hE2];refine go ?_;intro Wu;refine go ?_;exact aj () (hv:=rfl) (hp:=trivial)
 have hE2:=Ii hr2 hol (λh=>hno (hlim h));obtain⟨pW,rY⟩:=hX hE;obtain⟨hYl,hYc⟩:=hY hE2;obtain⟨hle1,hle2⟩:=(hT hE).less (IM hE2) (λx hx=>by
  obtain⟨u,hu,rfl⟩:=gD.1 hx;exact wG (hsub u hu))
 dsimp only at hle1 hle2;rw[hE,hE2];refine go ?_;intro Wu;refine go ?_;refine gG (λe1=>?_) (λe1=>?_)
 rotate_left
 ·exfalso;omega
 refine go ?_;refine gG (λe2=>?_) (λe2=>?_)
 rotate_left
 ·exfalso;have e2:lo2<lo:=e2;omega
 refine go ?_;refine aC rfl (λe3=>?_) (λe3=>?_)
 ·exfalso;have e3:hi<hi2:=e3;omega
 refine go ?_;refine bR (λk=>X.length - k) (λk:Nat=>[(152,.int .i64 (k:Int))]) (λ_=>[]) (λ_=>[]) (λk=>k<=X.length) 0 (cu _) (body:=?_);intro k hk;refine go ?_;refine aC rfl (λh5=>?_) (λh5=>?_)
 ·have hx:X[k]? =some (X[k]'(by omega)):=bB _;generalize X[k]'(by omega)=x at hx;have hy:Y[k]? =some (Y[k]'(by omega)):=bB _;generalize Y[k]'(by omega)=y at hy;obtain⟨g1,g2⟩:=(rY k x hx).2.2.less (hYc k y hy).2.2 (λz hz=>by
   obtain⟨u,hu,rfl⟩:=gD.1 hz;exact wG (hsub u hu))
  dsimp only at g1 g2;refine go ?_;refine cZ lI (k:=k) (v:=vy) (xs:=Y) (next:=λbx1 Br z1 _ hz1=>?_);cases hy.symm.trans hz1;refine go ?_;refine bJ (bW bx1 (Br+2) [.int .i64 y.lo,.int .i64 y.hi]) (λw hw=>qC (m:=2) (hw _ (aR ..))) ?_;refine(ko (b:=bx1) (o:=Br+2) (j:=0) (v:=.int .i64 y.lo) rfl rfl rfl (aR ..) rfl).h ?_;refine go ?_;refine cZ lI (k:=k) (v:=vx) (xs:=X) (next:=λoH oI z2 _ hz2=>?_);cases hx.symm.trans hz2;refine go ?_;refine bJ (bW oH (oI+2) [.int .i64 x.lo,.int .i64 x.hi]) (λw hw=>qC (m:=2) (hw _ (aR ..))) ?_;refine(ko (b:=oH) (o:=oI+2) (j:=0) (v:=.int .i64 x.lo) rfl rfl rfl (aR ..) rfl).h ?_;refine go ?_;refine gG (λe4=>?_) (λe4=>?_)
  rotate_left
  ·exfalso;omega
  refine go ?_;refine cZ lI (k:=k) (v:=vy) (xs:=Y) (next:=λzg zh z3 _ hz3=>?_);cases hy.symm.trans hz3;refine go ?_;refine bJ (bW zg (zh+2) [.int .i64 y.lo,.int .i64 y.hi]) (λw hw=>qC (m:=2) (hw _ (aR ..))) ?_;refine(ko (b:=zg) (o:=zh+2) (j:=1) (v:=.int .i64 y.hi) rfl rfl rfl (aR ..) rfl).h ?_;refine go ?_;refine cZ lI (k:=k) (v:=vx) (xs:=X) (next:=λIQ IR z4 _ hz4=>?_);cases hx.symm.trans hz4;refine go ?_;refine bJ (bW IQ (IR+2) [.int .i64 x.lo,.int .i64 x.hi]) (λw hw=>qC (m:=2) (hw _ (aR ..))) ?_;refine(ko (b:=IQ) (o:=IR+2) (j:=1) (v:=.int .i64 x.hi) rfl rfl rfl (aR ..) rfl).h ?_;refine go ?_;refine aC rfl (λe5=>?_) (λe5=>?_)
  ·exfalso;omega
  refine go ?_;exact aL (k+1) (by omega) (by omega)
 refine go ?_;exact aj () (hv:=rfl) (hp:=trivial)
