/-
  law53's own functions: few, chosen, in, order; pairs as keys.
-/
import Derived.Test.YtjmgkllpcidhjaaGreatDoorRepN
set_option linter.all false
set_option maxRecDepth 10000
set_option maxHeartbeats 4000000
namespace Go.Proofs.YtjmgkllpcidhjaaGreatDoor
open Go.Ideal Rk
theorem Ib{s:aT}{v1 v2 v3 v4 vl:Value}{l:List aG}(hW:nP s.pg)(hb1:s.lv.length<9223372036854775808)(hb2:s.cl.length<9223372036854775808)(hb3:s.pz.length<9223372036854775808)(hb4:s.pg.length<9223372036854775808)(hx1:cellsOf v1=some [v1])(hx2:cellsOf v2=some [v2])(hx3:cellsOf v3=some [v3])(hx4:cellsOf v4=some [v4]):
 bD Tryz.prog (.func 25) [.agg ⟨kz s v1 v2 v3 v4⟩,vl] [] [] [ah ae v1 s.lv,ah ae v2 s.cl,ah fw v3 s.pg,ah ae v4 s.pz,ah cO vl l] (λb:Bool=>.bool b) (λ_=>[]) (λ_=>[]) (λb=>b=true->s.c<=4/\eU s l=0):=by
 refine aX _ (bN 25) λB w0=>?_;refine go ?_;intro b2;refine go ?_;refine aD (Nu (s:=s) (v1:=v1) (v2:=v2) (v3:=v3) (v4:=v4) (vl:=vl) (l:=l) hx1 hx2 hx3 hx4) (next:=λb hb=>?_);cases b with
 |false=>
  refine go ?_;exact aj false (hv:=rfl) (hp:=λh=>by cases h)
 |true=>
  refine go ?_;refine aD (UR (s:=s) (v1:=v1) (v2:=v2) (v3:=v3) (v4:=v4) (l:=l) hW hb1 hb2 hb3 hb4 hx1 hx2 hx3 hx4) (next:=λy hy=>?_);subst hy;refine go ?_;exact aj (decide (eU s l=0)) (hv:=rfl) (hp:=λh=>⟨(hb rfl).1,nX h⟩)
theorem Nw{x y:Int}:eY Tryz.prog 28 [.int .i64 x,.int .i64 y] [] (.int .i64 (fG x y)):=by
 refine aX _ (bN 28) λB w0=>?_;refine go ?_;refine aC rfl (λh1=>?_) (λh1=>?_)
 ·refine go ?_;exact aj () (hv:=by rw[fG,if_neg (by omega),if_pos h1];rfl) (hp:=trivial)
 refine go ?_;refine aC rfl (λh2=>?_) (λh2=>?_)
 ·refine go ?_;exact aj () (hv:=by rw[fG,if_neg (by omega),if_neg h1];rfl) (hp:=trivial)
 refine go ?_;exact aj () (hv:=by rw[fG,if_pos (by omega)];rfl) (hp:=trivial)
theorem Ny{vl vx:Value}{L:List (List Int)}{x:List Int}(hl:L.length<9223372036854775808)(hx:x.length<9223372036854775808):eY Tryz.prog 27 [vl,vx] [ah (aI ae) vl L,ah ae vx x] (.bool (decide (x∈L))):=by
 refine aX _ (bN 27) λB w0=>?_;refine go ?_;refine bE (λk=>L.length - k) (λk:Nat=>[(9,.int .i64 (k:Int))]) (λ_=>[]) (λ_=>[]) (λk=>k<=L.length/\x∉L.take k) 0 ⟨bF _,by simp⟩ (body:=?_);rintro k ⟨hk,hno⟩;refine go ?_;refine aC rfl (λh1=>?_) (λh1=>?_)
 ·refine go ?_;refine bJ (aI ae) (k:=k) (next:=λ_ _ y (vy:Value) hy=>?_);refine go ?_;refine aD (A7 (xs:=x) (ys:=y) hx) (next:=λ_ _=>?_);refine go ?_;refine aC rfl (λh2=>?_) (λh2=>?_)
  ·refine go ?_;subst h2;exact aj () (hv:=by rw[eH (cZ hy)];rfl) (hp:=trivial)
  ·refine go ?_;refine aO (k+1) (by omega) ⟨by omega,?_⟩;rw[dx hy,gy,not_or];exact⟨hno,by simp;exact h2⟩
 have hkl:k=L.length:=by omega
 subst hkl;rw[fK]at hno;refine go ?_;exact aj () (hv:=by rw[gz hno];rfl) (hp:=trivial)
def Bf(x:aG)(n:Int):Int:=x.lo+n.tmod (x.hi - x.lo+1)
def nQ(l:List aG)(us:List Int)(k:Nat):List Int:=(l.take k).mapIdx λi x=>Bf x (us.getD i 0)
def nR(l:List aG)(us:List Int):List Int:=nQ l us l.length
theorem ahb{l:List aG}{us:List Int}{k:Nat}{x:aG}(h:l[k]? =some x):nQ l us (k+1)=nQ l us k++[Bf x (us.getD k 0)]:=by
 unfold nQ;have:=(dX.1 h).1;rw[dx h,List.mapIdx_append,dw,xB (by omega)];simp
theorem VB(l:List aG)(us:List Int)(k:Nat):(nQ l us k).length=min k l.length:=by unfold nQ;rw[List.length_mapIdx,dw]
theorem ahc{l:List aG}{us:List Int}{k:Nat}{x:aG}(h:l[k]? =some x):(nR l us)[k]? =some (Bf x (us.getD k 0)):=by
 unfold nR nQ;rw[fK,List.getElem?_mapIdx,h];rfl
theorem ahd{x:aG}{n:Int}(hn:0<=n)(h:x.lo<=x.hi):x.lo<=Bf x n/\Bf x n<=x.hi:=by
 unfold Bf;have h1:=Int.tmod_nonneg (b:=x.hi - x.lo+1) hn;have h2:=Int.tmod_lt_of_pos n (show 0<x.hi - x.lo+1 by omega);omega
theorem VC{us:List Int}(h:∀x∈us,0<=x/\x<65536)(k:Nat):0<=us.getD k 0/\us.getD k 0<65536:=by
 rw[nY];cases e:us[k]? with
 |none=>exact⟨Int.le_refl _,by decide⟩
 |some x=>exact h x (cZ e)
theorem Eo{s:aT}{l:List aG}{us:List Int}(hl:∀x∈l,iW s x)(hu:∀x∈us,0<=x/\x<65536):lH l (nR l us):=by
 refine⟨by unfold nR;rw[VB,Nat.min_self],λi x t hx ht=>?_⟩;rw[ahc hx]at ht;cases ht;exact ahd (VC hu i).1 (hl x (cZ hx)).le
theorem Ep{s:aT}{vl vu:Value}{l:List aG}{us:List Int}(hl:∀x∈l,iW s x)(hll:l.length<=1000000)(ug:us.length<9223372036854775808)(hu:∀x∈us,0<=x/\x<65536):
 bD Tryz.prog (.func 26) [vl,vu] [] [] [ah cO vl l,ah vL vu us] (λv:Value=>v) (λ_=>[]) (λv=>[ah ae v (nR l us)]) (λ_=>True):=by
 refine aX _ (bN 26) λB w0=>?_;refine go ?_;refine nE ae ?_;refine bE (λy:Nat×Value=>l.length - y.1) (λy=>[(10,.int .i64 (y.1:Int)),(4,y.2)]) (λy=>[ap ae y.2 (nQ l us y.1)]) (λ_=>[]) (λy=>y.1<=l.length) (0,.slice none 0 0) (bF _) (hk:=by repeat (first|exact aM.nil|(apply aM.cons;(focus (repeat (first|exact ai.here|apply ai.there)))))) (body:=?_);rintro⟨k,v⟩ hk;dsimp only at hk⊢;have hcl:=VB l us k;refine go ?_;refine aC rfl (λh1=>?_) (λh1=>?_)
 ·refine go ?_;refine bJ cO (k:=k) (next:=λbx ox x _ hx=>?_);have hok:=hl x (cZ hx);have q1:=hok.lo;have q2:=hok.le;have q3:=hok.hi;have hs:=ahb (us:=us) hx;have hg:=VC hu k;refine go ?_;intro b6;refine go ?_;refine aC rfl (λh2=>?_) (λh2=>?_)
  ·refine go ?_;refine bJ vL (k:=k) (next:=λbu ou n _ hn=>?_);have hgn:us.getD k 0=n:=by rw[nY,hn];rfl
   rw[hgn]at hg;have ht1:=Int.tmod_nonneg (b:=x.hi - x.lo+1) hg.1;have ht2:=Int.tmod_lt_of_pos n (show 0<x.hi - x.lo+1 by omega);refine go ?_;refine(bO rfl rfl (Ld (ds:=.int .u16) (k:=.i64) (m:=n) (by kernel_rfl) (by kernel_rfl) rfl (wrap64 (by omega) (by omega)))).h ?_;refine go ?_;refine(bO rfl rfl (CP rfl rfl (by omega))).h ?_;refine go ?_;intro b39;refine go ?_;refine nH (xs:=nQ l us k) ae (x.lo+Int.tmod (n) (x.hi - x.lo+1)) () (by omega) (next:=λad=>?_);rw[show nQ l us k++[x.lo+Int.tmod (n) (x.hi - x.lo+1)]=nQ l us (k+1)by rw[hs,hgn];rfl];refine go ?_;exact aO (k+1,_) (by show l.length - (k+1)<l.length - k;omega) (by show k+1<=_;omega)
  ·have hgn:us.getD k 0=0:=by rw[nY,ig (by omega)];rfl
   have ht1:=Int.tmod_nonneg (b:=x.hi - x.lo+1) (Int.le_refl 0);have ht2:=Int.tmod_lt_of_pos 0 (show 0<x.hi - x.lo+1 by omega);refine go ?_;refine(bO rfl rfl (CP rfl rfl (by omega))).h ?_;refine go ?_;intro b39;refine go ?_;refine nH (xs:=nQ l us k) ae (x.lo+Int.tmod (0) (x.hi - x.lo+1)) () (by omega) (next:=λad=>?_);rw[show nQ l us k++[x.lo+Int.tmod (0) (x.hi - x.lo+1)]=nQ l us (k+1)by rw[hs,hgn];rfl];refine go ?_;exact aO (k+1,_) (by show l.length - (k+1)<l.length - k;omega) (by show k+1<=_;omega)
 have hkl:k=l.length:=by omega
 subst hkl;refine bG (A:=ap ae v (nQ l us l.length)) (fs:=[ah ae v (nR l us)]) pX (h:=?_);refine gH (E:=ae) (v:=v) (xs:=nR l us) (by simp) λa c e=>?_;subst e;refine go ?_;exact aj (.slice a (nR l us).length c) (hv:=rfl) (hp:=trivial)
theorem Ic:uQ Tryz.prog 50 qM:=abI (e:=3) (by kernel_rfl) (by kernel_rfl) (by kernel_rfl) (λa b=>by kernel_rfl)
def lQ{α:Type}(ks:List α):List (α×Value):=ks.map λk=>(k,.bool true)
theorem Ie{α:Type}[DecidableEq α](k:α):∀ks:List α,upd k (.bool true) (lQ ks)=lQ (jM ks k)
 |[]=>rfl
 |x::ks=>by
  have ih:=Ie k ks;have e1:lQ (x::ks)=(x,.bool true)::lQ ks:=rfl;rw[e1,upd];by_cases h:k=x
  ·subst h;rw[if_pos rfl];unfold jM;rw[if_pos (bz ..)];rfl
  ·rw[if_neg h,ih];unfold jM;by_cases hm:k∈ks
   ·rw[if_pos hm,if_pos (dh _ hm)];rfl
   ·rw[if_neg hm,if_neg (λe=>(aU.1 e).elim h hm)];rfl
theorem VD{α:Type}[DecidableEq α](a:α):∀ks:List α,qK a (lQ ks)=if a∈ks then some (.bool true)else none
 |[]=>rfl
 |x::ks=>by
  have ih:=VD a ks;have e1:lQ (x::ks)=(x,.bool true)::lQ ks:=rfl;rw[e1,qK,ih];by_cases h:a=x
  ·subst h;simp
  ·rw[if_neg h];by_cases hm:a∈ks
   ·rw[if_pos hm,if_pos (dh _ hm)]
   ·rw[if_neg hm,if_neg (λe=>(aU.1 e).elim h hm)]
theorem ahf{α:Type}[DecidableEq α](a:α)(ks:List α):ym false (.bool false) a (lQ ks)=.bool (decide (a∈ks)):=by
 unfold ym;rw[VD];by_cases e:a∈ks
 ·rw[if_pos e,eH e];rfl
 ·rw[if_neg e,gz e];rfl
theorem VE{α:Type}[DecidableEq α](a:α)(ks:List α):∃b:Bool,ym false (.bool false) a (lQ ks)=.bool b/\(b=true↔a∈ks):=⟨_,ahf a ks,decide_eq_true_iff⟩
theorem ahg{α:Type}(ks:List α):(lQ ks).length=ks.length:=bC ..
theorem Nz{s:aT}{l:List aG}(h:eU s l=0):gJ s l=0\/gJ s l=2:=by
 by_cases h2:mG s l
 ·exact .inr (Dw h h2).1
 ·exact .inl (qQ h h2).1
end Go.Proofs.YtjmgkllpcidhjaaGreatDoor
namespace Go.Proofs.YtjmgkllpcidhjaaGreatDoor
open Go.Ideal Rk
def nS(l:List aG):List Value:=aW cO (l.map λx=>(x,()))
theorem ahh(l:List aG):(nS l).length=l.length*6:=by unfold nS;rw[qL,bC];rfl
theorem ahi{aa:List (aG×cO.Y)}:aW cO aa=nS (aa.map (·.1)):=by
 unfold nS;rw[EC];congr 1;exact(List.map_id aa).symm.trans (List.map_congr_left λp _=>rfl)
theorem ahj{cs:List Value}{o:Nat}{v1 v2:Value}(h:o+1<cs.length):fU cs o [v1,v2]=some ((cs.set o v1).set (o+1) v2):=by
 obtain⟨r,hr⟩:=Dc cs o [v1,v2] (by simp;omega);rw[hr];congr 1;obtain⟨_,h2,h3⟩:=BN hr;apply jA;intro i;rw[h3];by_cases e1:i=o+1
 ·subst e1;rw[if_pos (by simp),List.getElem?_set_self (by rw[List.length_set];omega),show o+1 - o=1 by omega];rfl
 ·rw[List.getElem?_set_ne (Ne.symm e1)];by_cases e2:i=o
  ·subst e2;rw[if_pos (by simp),List.getElem?_set_self (by omega),xA];rfl
  ·rw[List.getElem?_set_ne (Ne.symm e2),if_neg (by simp;omega)]
theorem VF{l:List aG}{k:Nat}{x:aG}{a b:Int}(h:l[k]? =some x):fU (nS l) (k*6+3) [.int .i64 a,.int .i64 b]=some (nS (l.set k {x with lo:=a,hi:=b})):=by
 have hk:=(dX.1 h).1;rw[ahj (by rw[ahh];omega)];congr 1;have hm:(l.map λx=>((x,()):aG×cO.Y))[k]? =some (x,()):=by rw[bX,h];rfl
 have s1:=K8 (E:=cO) (j:=3) (v:=.int .i64 a) (p':=({x with lo:=a},())) hm rfl (by decide);have hm2:((l.map λx=>((x,()):aG×cO.Y)).set k ({x with lo:=a},()))[k]? =some ({x with lo:=a},()):=List.getElem?_set_self (by rw[bC];exact hk);have s2:=K8 (E:=cO) (j:=4) (v:=.int .i64 b) (p':=({x with lo:=a,hi:=b},())) hm2 rfl (by decide);unfold nS;have e1:(aW cO (l.map λx=>(x,()))).set (k*6+3) (.int .i64 a)=_:=s1;rw[e1];have e2:(aW cO ((l.map λx=>((x,()):aG×cO.Y)).set k ({x with lo:=a},()))).set (k*6+3+1) (.int .i64 b)=_:=s2;rw[e2,List.set_set,pI]
def nT(l:List aG)(R:List (Int×Int))(k:Nat):List aG:=dP (l.take k) (R.take k)++l.drop k
theorem VG{l:List aG}{R:List (Int×Int)}:nT l R 0=l:=by simp[nT,dP]
theorem VH{l:List aG}{R:List (Int×Int)}(h:R.length=l.length):nT l R l.length=dP l R:=by
 unfold nT;rw[fK,mM (by omega),zk (aH _),gQ]
theorem VI{l:List aG}{R:List (Int×Int)}(h:R.length=l.length){k:Nat}(hk:k<l.length):(nT l R k)[k]? =l[k]?:=by
 unfold nT;have hl:(dP (l.take k) (R.take k)).length=k:=by rw[tV (by rw[dw,dw,h]),dw];omega
 rw[pq (by omega),hl,xA,jy,nV]
theorem VJ{l:List aG}{R:List (Int×Int)}(h:R.length=l.length){k:Nat}{x:aG}{r:Int×Int}(hx:l[k]? =some x)(hr:R[k]? =some r):(nT l R k).set k {x with lo:=r.1,hi:=r.2}=nT l R (k+1):=by
 have hk:=(dX.1 hx).1;have hl:(dP (l.take k) (R.take k)).length=k:=by rw[tV (by rw[dw,dw,h]),dw];omega
 unfold nT;rw[NP _ _ (by omega),hl,xA,dx hx,dx hr,EA hk];unfold dP;rw[List.zipWith_append (by rw[dw,dw,h]),ik];rfl
section
variable {P:Program} {B:List Nat} {w0:Wd} {kl kl':List OA} {F:List aK} {K:KO} {ds:List Tmp} {rest:List aY} {n:Nat} {l':List (Nat×Value)} {D:List Deferred} {pm:Option FrameMode} {ro:Option Nat} {d:Nat} {g:Option (Tmp×Bool)}
theorem VK{e:TypeId}{bytes b:Nat}{s x:Operand}{v:Value}{l:List aG}(hm:l.length*bytes<=1073741824/\l.length<=1000000)
 (next:∀b' f',(f'=0\/f'=cO.n)->R (λh=>aB P ds rest (act n ((d,.slice (some ⟨b',0,some f'⟩) l.length l.length)::l') D pm ro) h K) B w0 (pt b' (.cells (nS l))::kl') F)
 (hf:ah cO v l∈F) (hk:ai (pt b (.cells [])) kl kl') (hs:ev l' s=.slice (some ⟨b,0,some 0⟩) 0 0:=by rfl) (hx:ev l' x=v:=by conv=>lhs;whnf) (hn:Nat.blt d n=true:=by rfl) (hg:bH l' g=true:=by rfl):
 R (λh=>aB P ds (⟨⟨some d,g,.append e 6 bytes s x⟩,[]⟩::rest) (act n l' D pm ro) h K) B w0 kl F:=by
 by_cases h0:l=[]
 ·subst h0;refine gH (E:=cO) (v:=v) (xs:=[]) hf λa c ea=>?_;subst ea;exact QR (b:=b) (next b 0 (.inl rfl)) hs (hx.trans rfl) hk hn hg
 ·have hpos:0<l.length:=o9.2 h0;refine nI cO v (xs:=l) (λaa VL=>?_) (hf:=hf);have hxl:aa.length=l.length:=by rw[<- VL,bC]
  refine abD (b:=b) cO aa (by omega) (by rw[hxl];omega) (λb'=>?_) hs hx (bz ..) rfl hk hn hg;rw[ahi,VL,hxl];exact λw st=>next b' 6 (.inr rfl) w (st.sub (jc.sub (.cons .here)))
theorem VM{l:List aG}{b f:Nat}{Q:IH->Prop}(hf:f=0\/f=cO.n)(h:R Q B w0 kl' (ah cO (.slice (some ⟨b,0,some f⟩) l.length l.length) l::F))(hk:ai (pt b (.cells (nS l))) kl kl'):R Q B w0 kl F:=by
 refine acF cO (aa:=l.map λx=>(x,())) (rest':=[]) (b:=b) (f:=f) (c:=l.length) hf (by rw[bC];exact aH _) ?_ (λw _ p hp f hf=>by cases hf) (hk:=by rw[gQ];exact hk);have e:(l.map λx=>((x,()):aG×cO.Y)).map (·.1)=l:=by rw[EC];exact List.map_id _
 rw[bC,e];exact h
end
