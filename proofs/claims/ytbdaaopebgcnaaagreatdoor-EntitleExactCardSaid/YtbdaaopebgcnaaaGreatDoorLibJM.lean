/-
  ref53: Add, Rank; lists compared.
-/
import Derived.Test.YtbdaaopebgcnaaaGreatDoorLibIM
set_option linter.all false
set_option maxRecDepth 10000
set_option maxHeartbeats 4000000
namespace Go.Proofs.YtbdaaopebgcnaaaGreatDoor
open Go.Ideal Rk
theorem af8{s:aK}{v1 v2 v3 v4 vl vo vp vt:Value}{l:List ak}{p:Nat}{aF t:List Int}(hW:qB s.pg)(h:yX s l)(hp:(p:Int)<s.p)(hpl:aF.length=(aO l p).length)(hpr:∀x∈aF,0<=x/\x<=1048576)(ht:(t.length:Int)=s.c)(htr:∀x∈t,0<=x/\x<=1099511627776):
 aX Tryz.prog (.func 56) [.agg ⟨jD s v1 v2 v3 v4⟩,vl,.int .i64 (p:Int),vo,vp,vt] [] [] [ae ah v1 s.lv,ae ah v2 s.cl,ae fP v3 s.pg,ae aZ vl l,ae ah vo (ints (aO l p)),ae ah vp aF,ae ah vt t]
  (λv:Value=>v) (λ_=>[]) (λv=>[ae ah v (iw s l p aF t)]) (λ_=>True):=by
 have hcl:=Bf l (p:Int);have hll:=h.len;have hil:=om (aO l p);have hlv:=h.sh.lv;have KC:=h.sh.cl;have c1:=h.sh.c1;have c8:=h.sh.c8;refine aT Vn af4 λB w0=>?_;refine go ?_;intro b6;refine go ?_;refine af5 (xs:=t) (by omega) ⟨by omega,by omega⟩ (λb13=>?_);refine go ?_;refine bR (λk=>(aO l p).length - k) (λk:Nat=>[(14,.int .i64 (k:Int))]) (λk=>[pt b13 (.cells ((addN s l p (aO l p) aF t k).map (.int .i64)))]) (λ_=>[]) (λk=>k<=(aO l p).length) 0 (cu _) (hk:=by repeat (first|exact aI.nil|(apply aI.cons;(focus (repeat (first|exact ai.here|apply ai.there)))))) (body:=?_);intro k hk;have qA:=Be s l p (aO l p) aF t k;have hTr:=Dx (s:=s) (l:=l) (p:=p) (own:=aO l p) (aF:=aF) htr (by decide) k;have hsucc:addN s l p (aO l p) aF t (k+1)=add1 s l p (aO l p) aF (addN s l p (aO l p) aF t k) k:=rfl;generalize hT:addN s l p (aO l p) aF t k=T at qA hTr hsucc⊢;refine go ?_;refine aC rfl (λh1=>?_) (λh1=>?_)
 ·obtain⟨wu,hok⟩:=Dy h.rs (p:=(p:Int)) (i:=k) (by omega);refine go ?_;intro _ _ i' hi';obtain⟨i,hi,rfl⟩:=vP hi';have hgi:(aO l p).getD k 0=i:=by rw[iA,hi];rfl
  rw[hgi]at wu hok;have hx0:l[i]? =some (l[i]'wu):=bB _;have hgx:l.getD i dR=l[i]'wu:=by rw[iA,hx0];rfl
  rw[hgx]at hok;refine go ?_;refine cZ aZ (k:=i) (next:=λbx ox x _ hx=>?_);have hxe:l[i]'wu=x:=Option.some.inj (hx0.symm.trans hx);rw[hxe]at hok hgx;refine go ?_;intro b15;refine go ?_;intro _ _ y hy;have Ni:=hpr y (dA hy);refine go ?_;intro _ _ z1 hz1;have afq:=h.sh.HY z1 (dA hz1);refine go ?_;intro _ _ z2 hz2;have afr:=h.sh.HZ z2 (dA hz2);refine go ?_;intro ww;have Nk:yV [y,((ints (aO l p)).length:Int),z1,z2,x.t]:=by
   refine⟨rfl,λu hu=>?_⟩;have q1:=hok.t0;have q2:=hok.t1;simp only[bD,zu,or_false]at hu;rcases hu with rfl|rfl|rfl|rfl|rfl<;>omega
  refine bP (A:=pt ww (.cells [.int .i64 y,.int .i64 ((ints (aO l p)).length:Int),.int .i64 z1,.int .i64 z2,.int .i64 x.t])) (fs:=[ae ah (.slice (some ⟨ww,0,some 0⟩) 5 5) [y,((ints (aO l p)).length:Int),z1,z2,x.t]]) (pF (b:=ww) (f:=0) (c:=5) (xs:=[y,((ints (aO l p)).length:Int),z1,z2,x.t])) (h:=?_);refine aB (af1 (ws:=s.pg) (inp:=[y,((ints (aO l p)).length:Int),z1,z2,x.t]) hW h.pg Nk) (next:=λ_ _=>?_);have hpt:=Ml s.pg [y,((ints (aO l p)).length:Int),z1,z2,x.t];have hnext:addN s l p (aO l p) aF t (k+1)=T.set x.c.toNat (T.getD x.c.toNat 0+pts s.pg [y,((ints (aO l p)).length:Int),z1,z2,x.t]):=by
   rw[hsucc,add1,hgi,hgx,Bq hy,Bq hz1,Bq hz2,hil]
  generalize pts s.pg [y,((ints (aO l p)).length:Int),z1,z2,x.t]=q at hpt hnext;have c0:=hok.c0;have c1:=hok.c1;have hT0:=hTr _ (rP (st:=T) (k:=x.c.toNat) (by omega));refine go ?_;refine gp (o:=0+x.c.toNat*1) (cs:=T.map (.int .i64)) (.int .i64 (T.getD x.c.toNat 0)) (by rw[bG,fV,bU,oD (by omega)];rfl) ?_;refine go ?_;refine jk (o:=0+x.c.toNat*1) (cs:=T.map (.int .i64)) (cs':=(T.set x.c.toNat (T.getD x.c.toNat 0+q)).map (.int .i64)) (v:=.int .i64 (T.getD x.c.toNat 0+q)) (by rw[bG,fV,lS]) (by rw[bI];omega) ?_;rw[<- hnext];refine go ?_;exact aL (k+1) (by omega) (by omega)
 have hkl:k=(aO l p).length:=by omega
 subst hkl;have hTe:iw s l p aF t=T:=by rw[iw,hT]
 rw[hTe,<- qA];refine go ?_;refine bP (A:=pt b13 (.cells (T.map (.int .i64)))) (fs:=[ae ah (.slice (some ⟨b13,0,some 1⟩) T.length T.length) T]) (pF (b:=b13) (f:=1) (c:=T.length) (xs:=T)) (h:=?_);exact aj (.slice (some ⟨b13,0,some 1⟩) T.length T.length) (hv:=rfl) (hp:=trivial)
theorem af9{s:aK}{v1 v2 v3 v4 vl vt:Value}{l:List ak}{ts:List Int}(hW:qB s.pg)(hb1:s.lv.length<9223372036854775808)(hb2:s.cl.length<9223372036854775808)(hb3:s.pz.length<9223372036854775808)(hb4:s.pg.length<9223372036854775808)(hx1:cellsOf v1=some [v1])(hx2:cellsOf v2=some [v2])(hx3:cellsOf v3=some [v3])(hx4:cellsOf v4=some [v4]):
 aX Tryz.prog (.func 22) [.agg ⟨jD s v1 v2 v3 v4⟩,vl,vt] [] [] [ae ah v1 s.lv,ae ah v2 s.cl,ae fP v3 s.pg,ae ah v4 s.pz,ae aZ vl l,ae ah vt ts] UU (λ_=>[]) UW (λy=>y.e=rR s l ts/\y.xs=xH s l ts):=by
 refine aT _ (bz 22) λB w0=>?_;refine go ?_;intro b3;refine go ?_;refine aB (Vm (s:=s) (l:=l) hW hb1 hb2 hb3 hb4 hx1 hx2 hx3 hx4) (next:=λy hy=>?_);subst hy;refine go ?_;refine aC rfl (λh1=>?_) (λh1=>?_)
 ·refine go ?_;refine bJ (ae ah (.slice none 0 0) ([]:List Int)) (λw _=>xV w) ?_;exact aj ⟨.slice none 0 0,dL s l,[]⟩ (hv:=rfl) (hp:=⟨(H7 h1).1.symm,(H7 h1).2.symm⟩)
 have h1:dL s l=0:=qd.1 h1;have h:=l7 h1;have hll:=h.len;refine go ?_;refine aC rfl (λh2=>?_) (λh2=>?_)
 ·have hno:¬jV l ts:=λk=>h2 (by rw[k.1]);refine go ?_;refine bJ (ae ah (.slice none 0 0) ([]:List Int)) (λw _=>xV w) ?_;exact aj ⟨.slice none 0 0,1,[]⟩ (hv:=rfl) (hp:=⟨(rT h1 hno).1.symm,(rT h1 hno).2.symm⟩)
 have htl:ts.length=l.length:=by omega
 refine go ?_;refine bR (λk=>l.length - k) (λk:Nat=>[(9,.int .i64 (k:Int))]) (λ_=>[]) (λ_=>[]) (λk=>k<=l.length/\∀(i:Nat) x t,i<k->l[i]? =some x->ts[i]? =some t->x.lo<=t/\t<=x.hi) 0 ⟨cu _,λi _ _ hi=>by omega⟩ (body:=?_);rintro k ⟨hk,hin⟩;refine go ?_;refine aC rfl (λh3=>?_) (λh3=>?_)
 ·refine go ?_;intro _ _ t ht;refine go ?_;refine cZ aZ (k:=k) (next:=λbx ox x _ hx=>?_);refine go ?_;refine(ko (b:=bx) (o:=ox) (j:=3) (v:=.int .i64 x.lo) rfl rfl rfl (aR ..) rfl).h ?_;refine go ?_;refine gG (λh4=>?_) (λh4=>?_)
  rotate_left
  ·have hno:¬jV l ts:=λq=>by have:=q.2 k x t hx ht;omega
   refine go ?_;refine bJ (ae ah (.slice none 0 0) ([]:List Int)) (λw _=>xV w) ?_;exact aj ⟨.slice none 0 0,1,[]⟩ (hv:=rfl) (hp:=⟨(rT h1 hno).1.symm,(rT h1 hno).2.symm⟩)
  refine go ?_;intro _ _ t2 ht2;cases ht.symm.trans ht2;refine go ?_;refine cZ aZ (k:=k) (next:=λoH oI x2 _ hx2=>?_);cases hx.symm.trans hx2;refine go ?_;refine(ko (b:=oH) (o:=oI) (j:=4) (v:=.int .i64 x.hi) rfl rfl rfl (aR ..) rfl).h ?_;refine go ?_;refine aC rfl (λh5=>?_) (λh5=>?_)
  ·have hno:¬jV l ts:=λq=>by have:=q.2 k x t hx ht;omega
   refine go ?_;refine bJ (ae ah (.slice none 0 0) ([]:List Int)) (λw _=>xV w) ?_;exact aj ⟨.slice none 0 0,1,[]⟩ (hv:=rfl) (hp:=⟨(rT h1 hno).1.symm,(rT h1 hno).2.symm⟩)
  refine go ?_;refine aL (k+1) (by omega) ⟨by omega,λi x' t' hi hx' ht'=>?_⟩;by_cases e:i=k
  ·subst e;cases hx.symm.trans hx';cases ht.symm.trans ht';exact⟨by omega,by omega⟩
  ·exact hin i x' t' (by omega) hx' ht'
 have hkl:k=l.length:=by omega
 subst hkl;have tX:jV l ts:=⟨htl,λi x t hx ht=>hin i x t (dU.1 hx).1 hx ht⟩
 clear hin hk h3;have hc1:=h.sh.c1;have hc8:=h.sh.c8;have hp1:=h.sh.p1;have oJ:=h.sh.p8;obtain⟨c,hc⟩:=wE (show 0<=s.c by omega);refine go ?_;refine AL c ⟨by omega,by omega,by omega⟩ (hx:=by show Value.int .i64 _=_;rw[hc]) (hy:=by show Value.int .i64 _=_;rw[hc]) (λb10=>?_);rw[Nn];refine go ?_;refine bP (A:=pt b10 (.cells ((List.replicate c (0:Int)).map (.int .i64)))) (fs:=[ae ah (.slice (some ⟨b10,0,some 0⟩) c c) (gT s l ts (List.replicate c (0:Int)) 0)]) (by have:=pF (b:=b10) (f:=0) (c:=c) (xs:=List.replicate c (0:Int)) (hc:=by rw[nP];exact aG _);rw[nP]at this;exact this) (h:=?_);refine bR (λy:Nat×Value=>s.p.toNat - y.1) (λy=>[(11,.int .i64 (y.1:Int)),(10,y.2)]) (λ_=>[]) (λy=>[ae ah y.2 (gT s l ts (List.replicate c 0) y.1)]) (λy=>(y.1:Int)<=s.p) (0,.slice (some ⟨b10,0,some 0⟩) c c) (by show(0:Int)<=_;omega) (body:=?_);rintro⟨p,v⟩ hp;dsimp only at hp⊢;refine go ?_;refine aC rfl (λh4=>?_) (λh4=>?_)
 ·refine go ?_;refine aB (af6 (l:=l) (p:=(p:Int)) (by omega)) (next:=λvo _=>?_);have hil:=om (aO l p);have hcl:=Bf l (p:Int);have hol:=H8 l ts (p:Int);have hpl:=Dv (ts:=fT l ts (p:Int));have hpr:∀x∈places (fT l ts (p:Int)),0<=x/\x<=1048576:=λx hx=>by have:=Mt hx;omega
  have Ea:gT s l ts (List.replicate c 0) (p+1)=iw s l p (places (fT l ts (p:Int))) (gT s l ts (List.replicate c 0) p):=rfl;have qA:(gT s l ts (List.replicate c 0) p).length=c:=by rw[xG,nP]
  have hTr:=Ms (s:=s) (l:=l) hll (ts:=ts) (t:=List.replicate c 0) (λx hx=>Ju hx) p;have IL:∀x∈gT s l ts (List.replicate c 0) p,0<=x/\x<=1099511627776:=λx hx=>by have:=hTr x hx;omega
  refine go ?_;refine tq ah ?_;refine bR (λy:Nat×Value=>(aO l p).length - y.1) (λy=>[(14,.int .i64 (y.1:Int)),(13,y.2)]) (λy=>[ap ah y.2 ((fT l ts p).take y.1)]) (λ_=>[]) (λy=>y.1<=(aO l p).length) (0,.slice none 0 0) (cu _) (hk:=by repeat (first|exact aI.nil|(apply aI.cons;(focus (repeat (first|exact ai.here|apply ai.there)))))) (body:=?_);rintro⟨i,vw⟩ hi;dsimp only at hi⊢;have htk:((fT l ts p).take i).length=i:=by rw[cB];omega
  refine go ?_;refine aC rfl (λh5=>?_) (λh5=>?_)
  ·refine go ?_;intro _ _ a' ha';obtain⟨a,ha,rfl⟩:=vP ha';have hal:=vT ha;have hoa:=DD (ts:=ts) ha;have Eb:=oD (st:=ts) (k:=a) (by omega);generalize ts.getD a 0=ta at Eb hoa;refine go ?_;intro _ _ ta' Np;cases Eb.symm.trans Np;refine go ?_;intro b82;refine go ?_;refine lY (xs:=(fT l ts p).take i) ah ta () (by omega) (next:=λad=>?_);rw[<- eD hoa];refine go ?_;exact aL (i+1,.slice ad (((fT l ts p).take i).length+1) (((fT l ts p).take i).length+1)) (by show(aO l p).length - (i+1)<(aO l p).length - i;omega) (by show i+1<=_;omega)
  have hik:i=(aO l p).length:=by omega
  subst hik;rw[nO (by omega)];refine bP (A:=ap ah vw (fT l ts p)) (fs:=[ae ah vw (fT l ts p)]) rD (h:=?_);refine go ?_;refine aB (af7 (ts:=fT l ts p) (by omega)) (next:=λvp _=>?_);refine go ?_;refine aB (af8 (s:=s) (l:=l) (p:=p) (aF:=places (fT l ts p)) (t:=gT s l ts (List.replicate c 0) p) hW h h4 (by omega) hpr (by omega) IL) (next:=λv2 _=>?_);rw[<- Ea];refine go ?_;exact aL (p+1,v2) (by show s.p.toNat - (p+1)<s.p.toNat - p;omega) (by show((p+1:Nat):Int)<=_;omega)
 have hpe:p=s.p.toNat:=by omega
 subst hpe;have hev:gT s l ts (List.replicate c 0) s.p.toNat=l9 s l ts:=by unfold l9;rw[hc];rfl
 rw[hev];refine go ?_;exact aj ⟨v,0,l9 s l ts⟩ (hv:=rfl) (hp:=⟨(DC h1 tX).1.symm,(DC h1 tX).2.symm⟩)
