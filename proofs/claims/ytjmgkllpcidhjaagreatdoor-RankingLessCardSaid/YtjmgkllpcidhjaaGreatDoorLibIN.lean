/-
  ref53: between, sheet, result, Check.
-/
import Derived.Test.YtjmgkllpcidhjaaGreatDoorLibHN
import Derived.Test.YtjmgkllpcidhjaaGreatDoorLibFN
set_option linter.all false
set_option maxRecDepth 10000
set_option maxHeartbeats 4000000
namespace Go.Proofs.YtjmgkllpcidhjaaGreatDoor
open Go.Ideal Rk
theorem UQ{xs:List Int}{lo hi:Int}{k:Nat}{x:Int}(hx:xs[k]? =some x)(h:x<lo\/hi<x):uT xs lo hi=false:=by
 cases e:uT xs lo hi with
 |false=>rfl
 |true=>have:=lI.1 e x (cZ hx);omega
theorem M6{lo hi:Int}{va:Value}{xs:List Int}(hl:xs.length<9223372036854775808):eY Tryz.prog 60 [va,.int .i64 lo,.int .i64 hi] [ah ae va xs] (.bool (uT xs lo hi)):=by
 refine aX _ (bN 60) λB w0=>?_;refine go ?_;refine bE (λy:Nat=>xs.length - y) (λy=>[(7,.int .i64 (y:Int))]) (λ_=>[]) (λ_=>[]) (λy=>y<=xs.length/\∀x∈xs.take y,lo<=x/\x<=hi) 0 ⟨bF _,by simp⟩ (body:=?_);rintro k ⟨hk,hok⟩;dsimp only at hk⊢;refine go ?_;refine aC rfl (λh2=>?_) (λh2=>?_)
 ·refine go ?_;intro _ _ x hx;refine go ?_;refine gG (λh3=>?_) (λh3=>?_)
  rotate_left
  ·refine go ?_;exact aj () (hv:=by rw[UQ hx (.inl h3)];rfl) (hp:=trivial)
  refine go ?_;intro _ _ x2 hx2;cases hx.symm.trans hx2;refine go ?_;refine aC rfl (λh4=>?_) (λh4=>?_)
  ·refine go ?_;exact aj () (hv:=by rw[UQ hx (.inr h4)];rfl) (hp:=trivial)
  refine go ?_;refine aO (k+1) (by show xs.length - (k+1)<xs.length - k;omega) ⟨by show k+1<=_;omega,λy hy=>?_⟩;rw[dx hx]at hy;rcases gy.1 hy with hy|hy
  ·exact hok y hy
  ·rw[di.1 hy];omega
 have hkl:k=xs.length:=by omega
 subst hkl;rw[fK]at hok;refine go ?_;exact aj () (hv:=by rw[lI.2 hok];rfl) (hp:=trivial)
theorem afZ{s:aT}{v1 v2 v3 v4:Value}(hb1:s.lv.length<9223372036854775808)(hb2:s.cl.length<9223372036854775808)(hb3:s.pz.length<9223372036854775808)(hx1:cellsOf v1=some [v1])(hx2:cellsOf v2=some [v2])(hx3:cellsOf v3=some [v3])(hx4:cellsOf v4=some [v4]):
 bD Tryz.prog (.func 40) [.agg ⟨kz s v1 v2 v3 v4⟩] [] [] [ah ae v1 s.lv,ah ae v2 s.cl,ah ae v4 s.pz] (λy:Bool=>.bool y) (λ_=>[]) (λ_=>[]) (λy=>y=true↔Dn s):=by
 refine aX _ (bN 40) λB w0=>?_;refine go ?_;intro b1;refine go ?_;refine gG (λh1=>?_) (λh1=>?_)
 rotate_left
 ·refine go ?_;exact aj false (hv:=rfl) (hp:=⟨λh=>(by cases h),λh=>absurd h (by intro h;have:=h.c1;omega)⟩)
 refine go ?_;refine gG (λh2=>?_) (λh2=>?_)
 rotate_left
 ·refine go ?_;exact aj false (hv:=rfl) (hp:=⟨λh=>(by cases h),λh=>absurd h (by intro h;have:=h.c8;omega)⟩)
 refine go ?_;refine gG (λh3=>?_) (λh3=>?_)
 rotate_left
 ·refine go ?_;exact aj false (hv:=rfl) (hp:=⟨λh=>(by cases h),λh=>absurd h (by intro h;have:=h.p1;omega)⟩)
 refine go ?_;refine gG (λh4=>?_) (λh4=>?_)
 rotate_left
 ·refine go ?_;exact aj false (hv:=rfl) (hp:=⟨λh=>(by cases h),λh=>absurd h (by intro h;have:=h.p8;omega)⟩)
 refine go ?_;refine gG (λh5=>?_) (λh5=>?_)
 rotate_left
 ·refine go ?_;exact aj false (hv:=rfl) (hp:=⟨λh=>(by cases h),λh=>absurd h (by intro h;exact h5 h.lv)⟩)
 refine go ?_;refine gG (λh6=>?_) (λh6=>?_)
 rotate_left
 ·refine go ?_;exact aj false (hv:=rfl) (hp:=⟨λh=>(by cases h),λh=>absurd h (by intro h;exact h6 h.cl)⟩)
 refine go ?_;refine aC rfl (λh7=>?_) (λh7=>?_)
 ·refine go ?_;exact aj false (hv:=rfl) (hp:=⟨λh=>(by cases h),λh=>absurd h (by intro h;have:=h.pz;omega)⟩)
 refine go ?_;refine aD (M6 (xs:=s.lv) (lo:=0) (hi:=9) hb1) (next:=λ_ _=>?_);refine go ?_;refine gG (λg1=>?_) (λg1=>?_)
 ·refine go ?_;exact aj false (hv:=rfl) (hp:=⟨λh=>(by cases h),λh=>absurd h (by intro h;rw[lI.2 h.Gp]at g1;cases g1)⟩)
 refine go ?_;refine aD (M6 (xs:=s.cl) (lo:=0) (hi:=512) hb2) (next:=λ_ _=>?_);refine go ?_;refine gG (λg2=>?_) (λg2=>?_)
 ·refine go ?_;exact aj false (hv:=rfl) (hp:=⟨λh=>(by cases h),λh=>absurd h (by intro h;rw[lI.2 h.Gq]at g2;cases g2)⟩)
 refine go ?_;refine aD (M6 (xs:=s.pz) (lo:=0) (hi:=1048576) hb3) (next:=λ_ _=>?_);refine go ?_;exact aj (uT s.pz 0 1048576) (hv:=rfl) (hp:=⟨λh=>⟨by omega,by omega,by omega,by omega,by omega,by omega,by omega,lI.1 g1,lI.1 g2,lI.1 h⟩,λh=>lI.2 h.R6⟩)
theorem af0{s:aT}{v1 v2 v3 v4:Value}{x:aG}(hx1:cellsOf v1=some [v1])(hx2:cellsOf v2=some [v2])(hx3:cellsOf v3=some [v3])(hx4:cellsOf v4=some [v4]):
 bD Tryz.prog (.func 41) [.agg ⟨kz s v1 v2 v3 v4⟩,.agg ⟨[.int .i64 x.c,.int .i64 x.p,.int .i64 x.t,.int .i64 x.lo,.int .i64 x.hi,.bool x.r]⟩] [] [] [] (λy:Bool=>.bool y) (λ_=>[]) (λ_=>[]) (λy=>y=true↔iW s x):=by
 refine aX _ (bN 41) λB w0=>?_;refine go ?_;intro b2;refine go ?_;intro b3;refine go ?_;refine gG (λh1=>?_) (λh1=>?_)
 rotate_left
 ·refine go ?_;exact aj false (hv:=rfl) (hp:=⟨λh=>(by cases h),λh=>absurd h (by intro h;have:=h.c0;omega)⟩)
 refine go ?_;refine gG (λh2=>?_) (λh2=>?_)
 rotate_left
 ·refine go ?_;exact aj false (hv:=rfl) (hp:=⟨λh=>(by cases h),λh=>absurd h (by intro h;have:=h.c1;omega)⟩)
 refine go ?_;refine gG (λh3=>?_) (λh3=>?_)
 rotate_left
 ·refine go ?_;exact aj false (hv:=rfl) (hp:=⟨λh=>(by cases h),λh=>absurd h (by intro h;have:=h.p0;omega)⟩)
 refine go ?_;refine gG (λh4=>?_) (λh4=>?_)
 rotate_left
 ·refine go ?_;exact aj false (hv:=rfl) (hp:=⟨λh=>(by cases h),λh=>absurd h (by intro h;have:=h.p1;omega)⟩)
 refine go ?_;refine gG (λh5=>?_) (λh5=>?_)
 rotate_left
 ·refine go ?_;exact aj false (hv:=rfl) (hp:=⟨λh=>(by cases h),λh=>absurd h (by intro h;have:=h.t0;omega)⟩)
 refine go ?_;refine aC rfl (λh6=>?_) (λh6=>?_)
 ·refine go ?_;exact aj false (hv:=rfl) (hp:=⟨λh=>(by cases h),λh=>absurd h (by intro h;have:=h.t1;omega)⟩)
 refine go ?_;refine gG (λh7=>?_) (λh7=>?_)
 ·refine go ?_;exact aj false (hv:=rfl) (hp:=⟨λh=>(by cases h),λh=>absurd h (by intro h;have:=h.lo;omega)⟩)
 refine go ?_;refine gG (λh8=>?_) (λh8=>?_)
 ·refine go ?_;exact aj false (hv:=rfl) (hp:=⟨λh=>(by cases h),λh=>absurd h (by intro h;have:=h.le;omega)⟩)
 refine go ?_;exact aj (decide (x.hi<=1048576)) (hv:=rfl) (hp:=⟨λh=>⟨by omega,by omega,by omega,by omega,by omega,by omega,by omega,by omega,by have:=nX h;omega⟩,λh=>eH h.hi⟩)
theorem UR{s:aT}{v1 v2 v3 v4 vl:Value}{l:List aG}(hW:nP s.pg)(hb1:s.lv.length<9223372036854775808)(hb2:s.cl.length<9223372036854775808)(hb3:s.pz.length<9223372036854775808)(hb4:s.pg.length<9223372036854775808)(hx1:cellsOf v1=some [v1])(hx2:cellsOf v2=some [v2])(hx3:cellsOf v3=some [v3])(hx4:cellsOf v4=some [v4]):
 bD Tryz.prog (.func 14) [.agg ⟨kz s v1 v2 v3 v4⟩,vl] [] [] [ah ae v1 s.lv,ah ae v2 s.cl,ah fw v3 s.pg,ah ae v4 s.pz,ah cO vl l] (λy:Int=>.int .i64 y) (λ_=>[]) (λ_=>[]) (λy=>y=eU s l):=by
 refine aX _ (bN 14) λB w0=>?_;refine go ?_;intro b2;refine go ?_;refine aC rfl (λh1=>?_) (λh1=>?_)
 ·refine go ?_;exact aj 2 (hv:=rfl) (hp:=(R7 (by omega)).symm)
 refine go ?_;refine aD (UL (ws:=s.pg) hW hb4) (next:=λy hy=>?_);refine go ?_;refine aC rfl (λh2=>?_) (λh2=>?_)
 ·refine go ?_;refine aj y (hv:=rfl) (hp:=?_);have hno:¬fo s.pg:=λh=>h2 (hy.1 h);rw[R8 (by omega) hno];exact hy.2 hno
 have hp:fo s.pg:=Classical.byContradiction λh=>by have:=hy.2 h;omega
 refine go ?_;refine aD (afZ (s:=s) (v1:=v1) (v2:=v2) (v3:=v3) (v4:=v4) hb1 hb2 hb3 hx1 hx2 hx3 hx4) (next:=λz hz=>?_);refine go ?_;refine iy rfl (λh3=>?_) (λh3=>?_)
 ·refine go ?_;refine aj 530 (hv:=rfl) (hp:=(nL (by omega) hp λhs hr=>?_).symm);rw[hz.2 hs]at h3;cases h3
 have hsh:=hz.1 (by simpa using h3);refine go ?_;refine bE (λk=>l.length - k) (λk:Nat=>[(6,.int .i64 (k:Int))]) (λ_=>[]) (λ_=>[]) (λk=>k<=l.length/\∀x∈l.take k,iW s x) 0 ⟨bF _,by simp⟩ (body:=?_);rintro k ⟨hk,hok⟩;refine go ?_;refine aC rfl (λh4=>?_) (λh4=>?_)
 ·refine go ?_;refine bJ cO (k:=k) (next:=λbx ox x _ hx=>?_);have hxm:=cZ hx;refine go ?_;refine aD (af0 (s:=s) (v1:=v1) (v2:=v2) (v3:=v3) (v4:=v4) (x:=x) hx1 hx2 hx3 hx4) (next:=λu hu=>?_);refine go ?_;refine iy rfl (λh5=>?_) (λh5=>?_)
  ·refine go ?_;refine aj 530 (hv:=rfl) (hp:=(nL (by omega) hp λhs hr=>?_).symm);rw[hu.2 (hr x hxm)]at h5;cases h5
  refine go ?_;refine aO (k+1) (by omega) ⟨by omega,λy hy=>?_⟩;rw[dx hx]at hy;rcases gy.1 hy with hy|hy
  ·exact hok y hy
  ·rw[di.1 hy];exact hu.1 (by simpa using h5)
 have hkl:k=l.length:=by omega
 subst hkl;rw[fK]at hok;refine go ?_;exact aj 0 (hv:=rfl) (hp:=(LV ⟨by omega,hp,hsh,hok⟩).symm)
end Go.Proofs.YtjmgkllpcidhjaaGreatDoor
namespace Go.Proofs.YtjmgkllpcidhjaaGreatDoor
open Go.Ideal Rk
noncomputable def UT:=sN Tryz.prog 35
theorem af1:ja Tryz.prog 35=some UT:=by kernel_rfl
section
variable {P:Program} {B:List Nat} {w0:Wd} {kl kl':List OA} {F:List aK} {K:KO} {ds:List Tmp} {rest:List aY} {n:Nat} {l:List (Nat×Value)} {D:List Deferred} {pm:Option FrameMode} {ro:Option Nat} {d:Nat} {g:Option (Tmp×Bool)}
theorem UU{e:TypeId}{bytes:Nat}{s x:Operand}{v:Value}{xs:List Int}(hne:0<xs.length)(hm:xs.length*bytes<=1073741824/\xs.length<=1073741824)
 (next:∀b',R (λh=>aB P ds rest (act n ((d,.slice (some ⟨b',0,some 1⟩) xs.length xs.length)::l) D pm ro) h K) B w0 (pt b' (.cells (xs.map (.int .i64)))::kl) F)
 (hs:ev l s=.slice none 0 0:=by rfl) (hx:ev l x=v:=by conv=>lhs;whnf) (hf:ah ae v xs∈F:=by exact oF) (hn:Nat.blt d n=true:=by rfl) (hg:bH l g=true:=by rfl):
 R (λh=>aB P ds (⟨⟨some d,g,.append e 1 bytes s x⟩,[]⟩::rest) (act n l D pm ro) h K) B w0 kl F:=λw st=>by
 obtain⟨k,hk'⟩:∃k,xs.length=k+1:=⟨xs.length - 1,by omega⟩
 rcases st.facts _ hf with⟨rfl,_⟩|⟨i,o,f,c,cells,⟨e1,hc⟩,q2,q3⟩
 ·simp at hne
 have hcells:∀j,j<xs.length->cells[o+j]? =(xs.map (Value.int .i64))[j]?:=λj hj=>by
  obtain⟨y,u1,_⟩:=q3 j xs[j] (bf hj);have:=u1 0 (.int .i64 xs[j]) rfl;rw[bX,bf hj];simpa[ae]using this
 have hlen:o+xs.length<=cells.length:=by
  have:=hcells (xs.length - 1) (by omega);have hx0:xs[xs.length - 1]? =some (xs[xs.length - 1]'(by omega)):=bf _;rw[bX,hx0]at this;have:=(dX.1 this).1;omega
 have hread:w.h.dK i o (xs.length*1)=some (xs.map (.int .i64)):=by
  rw[q2.cells.dK,j5,j6,gT,if_pos (by rw[jR];omega)];congr 1;apply jA;intro j;rw[qi];by_cases hj:j<xs.length
  ·rw[if_pos hj,jy];exact hcells j hj
  ·rw[if_neg hj,ig (by rw[bC];omega)]
 refine JZ (k:=k) (c:=0) (xs:=xs.map (.int .i64)) hn hg hs (by rw[hx,e1,hk'];rfl) (by rw[hx,e1,<- hk'];exact hread) (by rw[<- hk'];omega) λh' ag l8 hnx=>?_;obtain⟨w',rfl,dO⟩:=st.fresh ag l8 hnx;have:=next w.h.next w' dO
 rw[hk']at this;exact this
end
theorem af2{vl:Value}{l:List aG}{p:Int}(hl:l.length<=1000000):bD Tryz.prog (.func 34) [vl,.int .i64 p] [] [] [ah cO vl l] (λv:Value=>v) (λ_=>[]) (λv=>[ah ae v (ints (aL l p))]) (λ_=>True):=by
 refine aX _ (bN 34) λB w0=>?_;refine go ?_;refine nE ae ?_;refine bE (λy:Nat×Value=>l.length - y.1) (λy=>[(6,.int .i64 (y.1:Int)),(5,y.2)]) (λy=>[ap ae y.2 (ints (fq l p y.1))]) (λ_=>[]) (λy=>y.1<=l.length) (0,.slice none 0 0) (bF _) (hk:=by repeat (first|exact aM.nil|(apply aM.cons;(focus (repeat (first|exact ai.here|apply ai.there)))))) (body:=?_);rintro⟨i,v⟩ hi;dsimp only at hi⊢;have hcl:=LY l p i;have hil:=tN (fq l p i);refine go ?_;refine aC rfl (λh1=>?_) (λh1=>?_)
 ·refine go ?_;refine bJ cO (k:=i) (next:=λbx0 ox0 x _ hx=>?_);have hc:=LW l p i;have sW:jH l p i=(x.r&&decide (x.p=p)&&!((l.take i).any λy=>y.r&&decide (y.p=p)&&decide (y.c=x.c))):=by unfold jH;rw[hx]
  refine go ?_;refine gG (λg1=>?_) (λg1=>?_)
  ·have hF:jH l p i=(!((l.take i).any λy=>y.r&&decide (y.p=p)&&decide (y.c=x.c))&&false):=by rw[sW,g1];simp
   refine go ?_;refine bE (λk=>i - k) (λk:Nat=>[(8,.int .i64 (k:Int)),(7,.bool (!((l.take k).any λy=>y.r&&decide (y.p=p)&&decide (y.c=x.c))&&false))]) (λ_=>[]) (λ_=>[]) (λk=>k<=i) 0 (bF _) (body:=?_);intro k hk;refine go ?_;refine aC rfl (λh2=>?_) (λh2=>?_)
   ·refine go ?_;refine bJ cO (k:=k) (next:=λbx ox y _ hy=>?_);have hs:((l.take (k+1)).any λy=>y.r&&decide (y.p=p)&&decide (y.c=x.c))=(((l.take k).any λy=>y.r&&decide (y.p=p)&&decide (y.c=x.c))||(y.r&&decide (y.p=p)&&decide (y.c=x.c))):=by rw[dx hy,List.any_append];simp
    refine go ?_;refine gG (λf1=>?_) (λf1=>?_)
    ·rw[f1,EE,EE,zg]at hs;rw[<- hs];refine go ?_;exact aO (k+1) (by omega) (by omega)
    refine go ?_;refine bJ cO (k:=k) (next:=λyQ yR y2 _ hy2=>?_);cases hy.symm.trans hy2;refine go ?_;refine gG (λf2=>?_) (λf2=>?_)
    ·rw[gz f2,Iw,EE,zg]at hs;rw[<- hs];refine go ?_;exact aO (k+1) (by omega) (by omega)
    refine go ?_;refine bJ cO (k:=k) (next:=λbx3 ox3 y3 _ hy3=>?_);cases hy.symm.trans hy3;refine go ?_;refine bJ cO (k:=i) (next:=λbx4 ox4 x4 _ hx4=>?_);cases hx.symm.trans hx4;refine go ?_;refine aC rfl (λf3=>?_) (λf3=>?_)
    ·rw[f1,eH f2,eH f3,Et,Et,Bool.or_true]at hs;refine go ?_;rw[show Value.bool false=.bool (!((l.take (k+1)).any λy=>y.r&&decide (y.p=p)&&decide (y.c=x.c))&&false)by rw[hs];rfl];exact aO (k+1) (by omega) (by omega)
    ·rw[gz f3,Iw,zg]at hs;rw[<- hs];refine go ?_;exact aO (k+1) (by omega) (by omega)
   have hki:k=i:=by omega
   subst hki;rw[<- hF];refine go ?_;refine iy rfl (λf4=>?_) (λf4=>?_)
   ·rw[if_pos f4]at hc;refine go ?_;intro b64;refine go ?_;refine nH (xs:=ints (fq l p k)) ae (k:Int) () (by omega) (next:=λad=>?_);rw[<- L6,show fq l p k++[k]=fq l p (k+1)from hc.symm];refine go ?_;exact aO (k+1,.slice ad ((ints (fq l p k)).length+1) ((ints (fq l p k)).length+1)) (by show l.length - (k+1)<l.length - k;omega) (by show k+1<=_;omega)
   ·rw[if_neg (by rw[f4];simp)]at hc;rw[show fq l p k=fq l p (k+1)from hc.symm];refine go ?_;exact aO (k+1,v) (by show l.length - (k+1)<l.length - k;omega) (by show k+1<=_;omega)
  have hF:jH l p i=(!((l.take i).any λy=>y.r&&decide (y.p=p)&&decide (y.c=x.c))&&decide (x.p=p)):=by rw[sW,g1,Et,Bool.and_comm]
  refine go ?_;refine bJ cO (k:=i) (next:=λbx1 ox1 x1 _ hx1=>?_);cases hx.symm.trans hx1;refine go ?_;refine bE (λk=>i - k) (λk:Nat=>[(8,.int .i64 (k:Int)),(7,.bool (!((l.take k).any λy=>y.r&&decide (y.p=p)&&decide (y.c=x.c))&&decide (x.p=p)))]) (λ_=>[]) (λ_=>[]) (λk=>k<=i) 0 (bF _) (body:=?_);intro k hk;refine go ?_;refine aC rfl (λh2=>?_) (λh2=>?_)
  ·refine go ?_;refine bJ cO (k:=k) (next:=λbx ox y _ hy=>?_);have hs:((l.take (k+1)).any λy=>y.r&&decide (y.p=p)&&decide (y.c=x.c))=(((l.take k).any λy=>y.r&&decide (y.p=p)&&decide (y.c=x.c))||(y.r&&decide (y.p=p)&&decide (y.c=x.c))):=by rw[dx hy,List.any_append];simp
   refine go ?_;refine gG (λf1=>?_) (λf1=>?_)
   ·rw[f1,EE,EE,zg]at hs;rw[<- hs];refine go ?_;exact aO (k+1) (by omega) (by omega)
   refine go ?_;refine bJ cO (k:=k) (next:=λyQ yR y2 _ hy2=>?_);cases hy.symm.trans hy2;refine go ?_;refine gG (λf2=>?_) (λf2=>?_)
   ·rw[gz f2,Iw,EE,zg]at hs;rw[<- hs];refine go ?_;exact aO (k+1) (by omega) (by omega)
   refine go ?_;refine bJ cO (k:=k) (next:=λbx3 ox3 y3 _ hy3=>?_);cases hy.symm.trans hy3;refine go ?_;refine bJ cO (k:=i) (next:=λbx4 ox4 x4 _ hx4=>?_);cases hx.symm.trans hx4;refine go ?_;refine aC rfl (λf3=>?_) (λf3=>?_)
   ·rw[f1,eH f2,eH f3,Et,Et,Bool.or_true]at hs;refine go ?_;rw[show Value.bool false=.bool (!((l.take (k+1)).any λy=>y.r&&decide (y.p=p)&&decide (y.c=x.c))&&decide (x.p=p))by rw[hs];rfl];exact aO (k+1) (by omega) (by omega)
   ·rw[gz f3,Iw,zg]at hs;rw[<- hs];refine go ?_;exact aO (k+1) (by omega) (by omega)
  have hki:k=i:=by omega
  subst hki;rw[<- hF];refine go ?_;refine iy rfl (λf4=>?_) (λf4=>?_)
  ·rw[if_pos f4]at hc;refine go ?_;intro b64;refine go ?_;refine nH (xs:=ints (fq l p k)) ae (k:Int) () (by omega) (next:=λad=>?_);rw[<- L6,show fq l p k++[k]=fq l p (k+1)from hc.symm];refine go ?_;exact aO (k+1,.slice ad ((ints (fq l p k)).length+1) ((ints (fq l p k)).length+1)) (by show l.length - (k+1)<l.length - k;omega) (by show k+1<=_;omega)
  ·rw[if_neg (by rw[f4];simp)]at hc;rw[show fq l p k=fq l p (k+1)from hc.symm];refine go ?_;exact aO (k+1,v) (by show l.length - (k+1)<l.length - k;omega) (by show k+1<=_;omega)
 have hkl:i=l.length:=by omega
 subst hkl;refine go ?_;rw[show fq l p l.length=aL l p from rfl];refine bG (A:=ap ae v (ints (aL l p))) (fs:=[ah ae v (ints (aL l p))]) pX (h:=?_);exact aj v (hv:=rfl) (hp:=trivial)
theorem af7{vt:Value}{ts:List Int}(hl:ts.length<=1000000):bD Tryz.prog (.func 36) [vt] [] [] [ah ae vt ts] (λv:Value=>v) (λ_=>[]) (λv=>[ah ae v (places ts)]) (λ_=>True):=by
 refine aX _ (bN 36) λB w0=>?_;refine go ?_;refine nE ae ?_;refine bE (λy:Nat×Value=>ts.length - y.1) (λy=>[(4,.int .i64 (y.1:Int)),(3,y.2)]) (λy=>[ap ae y.2 ((places ts).take y.1)]) (λ_=>[]) (λy=>y.1<=ts.length) (0,.slice none 0 0) (bF _) (hk:=by repeat (first|exact aM.nil|(apply aM.cons;(focus (repeat (first|exact ai.here|apply ai.there)))))) (body:=?_);rintro⟨k,v⟩ hk;dsimp only at hk⊢;have hrl:(places ts).length=ts.length:=yD;have htl:((places ts).take k).length=k:=by rw[dw];omega
 refine go ?_;refine aC rfl (λh1=>?_) (λh1=>?_)
 ·have hx:ts[k]? =some (ts[k]'(by omega)):=bf _;generalize ts[k]'(by omega)=x at hx;refine go ?_;refine bE (λj=>ts.length - j) (λj:Nat=>[(6,.int .i64 (j:Int)),(5,.int .i64 (1+((ts.take j).countP λm=>decide (m<x):Nat):Int))]) (λ_=>[]) (λ_=>[]) (λj=>j<=ts.length) 0 (bF _) (body:=?_);intro j hj;have hcl:((ts.take j).countP λm=>decide (m<x))<=(ts.take j).length:=Bq;rw[dw]at hcl;refine go ?_;refine aC rfl (λh2=>?_) (λh2=>?_)
  ·refine go ?_;intro _ _ z hz _ _ x2 hx2;cases hx.symm.trans hx2;have hs:((ts.take (j+1)).countP λm=>decide (m<x))=((ts.take j).countP λm=>decide (m<x))+if z<x then 1 else 0:=by rw[dx hz,Br,Bt];simp
   refine go ?_;refine aC rfl (λh3=>?_) (λh3=>?_)
   ·rw[if_pos h3]at hs;refine go ?_;rw[show(1+(((ts.take j).countP λm=>decide (m<x):Nat):Int))+1=1+(((ts.take (j+1)).countP λm=>decide (m<x):Nat):Int)by rw[hs];omega];exact aO (j+1) (by omega) (by omega)
   ·have hs2:((ts.take j).countP λm=>decide (m<x))=((ts.take (j+1)).countP λm=>decide (m<x)):=by rw[hs,if_neg h3,nV]
    rw[hs2];refine go ?_;exact aO (j+1) (by omega) (by omega)
  have hjl:j=ts.length:=by omega
  subst hjl;rw[fK];refine go ?_;intro b32;refine go ?_;have vF:=Sl hx;refine nH (xs:=(places ts).take k) ae (1+((ts.countP λm=>decide (m<x):Nat):Int)) () (by omega) (next:=λad=>?_);rw[<- dx vF];refine go ?_;exact aO (k+1,.slice ad (((places ts).take k).length+1) (((places ts).take k).length+1)) (by show ts.length - (k+1)<ts.length - k;omega) (by show k+1<=_;omega)
 have hkl:k=ts.length:=by omega
 subst hkl;rw[mM (by omega)];refine go ?_;refine bG (A:=ap ae v (places ts)) (fs:=[ah ae v (places ts)]) pX (h:=?_);exact aj v (hv:=rfl) (hp:=trivial)
