/-
  ref53: between, sheet, result, Check.
-/
import Derived.Test.YtbdaaopebgcnaaaGreatDoorLibHM
import Derived.Test.YtbdaaopebgcnaaaGreatDoorLibFM
set_option linter.all false
set_option maxRecDepth 10000
set_option maxHeartbeats 4000000
namespace Go.Proofs.YtbdaaopebgcnaaaGreatDoor
open Go.Ideal Rk
theorem Vl{xs:List Int}{lo hi:Int}{k:Nat}{x:Int}(hx:xs[k]? =some x)(h:x<lo\/hi<x):vQ xs lo hi=false:=by
 cases e:vQ xs lo hi with
 |false=>rfl
 |true=>have:=mg.1 e x (dA hx);omega
theorem Nt{lo hi:Int}{va:Value}{xs:List Int}(hl:xs.length<9223372036854775808):gy Tryz.prog 106 [va,.int .i64 lo,.int .i64 hi] [ae ah va xs] (.bool (vQ xs lo hi)):=by
 refine aT _ (bz 106) λB w0=>?_;refine go ?_;refine bR (λy:Nat=>xs.length - y) (λy=>[(7,.int .i64 (y:Int))]) (λ_=>[]) (λ_=>[]) (λy=>y<=xs.length/\∀x∈xs.take y,lo<=x/\x<=hi) 0 ⟨cu _,by simp⟩ (body:=?_);rintro k ⟨hk,hok⟩;dsimp only at hk⊢;refine go ?_;refine aC rfl (λh2=>?_) (λh2=>?_)
 ·refine go ?_;intro _ _ x hx;refine go ?_;refine gG (λh3=>?_) (λh3=>?_)
  rotate_left
  ·refine go ?_;exact aj () (hv:=by rw[Vl hx (.inl h3)];rfl) (hp:=trivial)
  refine go ?_;intro _ _ x2 hx2;cases hx.symm.trans hx2;refine go ?_;refine aC rfl (λh4=>?_) (λh4=>?_)
  ·refine go ?_;exact aj () (hv:=by rw[Vl hx (.inr h4)];rfl) (hp:=trivial)
  refine go ?_;refine aL (k+1) (by show xs.length - (k+1)<xs.length - k;omega) ⟨by show k+1<=_;omega,λy hy=>?_⟩;rw[eD hx]at hy;rcases gF.1 hy with hy|hy
  ·exact hok y hy
  ·rw[cz.1 hy];omega
 have hkl:k=xs.length:=by omega
 subst hkl;rw[gV]at hok;refine go ?_;exact aj () (hv:=by rw[mg.2 hok];rfl) (hp:=trivial)
theorem af2{s:aK}{v1 v2 v3 v4:Value}(hb1:s.lv.length<9223372036854775808)(hb2:s.cl.length<9223372036854775808)(hb3:s.pz.length<9223372036854775808)(hx1:cellsOf v1=some [v1])(hx2:cellsOf v2=some [v2])(hx3:cellsOf v3=some [v3])(hx4:cellsOf v4=some [v4]):
 aX Tryz.prog (.func 74) [.agg ⟨jD s v1 v2 v3 v4⟩] [] [] [ae ah v1 s.lv,ae ah v2 s.cl,ae ah v4 s.pz] (λy:Bool=>.bool y) (λ_=>[]) (λ_=>[]) (λy=>y=true↔rQ s):=by
 refine aT _ (bz 74) λB w0=>?_;refine go ?_;intro b1;refine go ?_;refine gG (λh1=>?_) (λh1=>?_)
 rotate_left
 ·refine go ?_;exact aj false (hv:=rfl) (hp:=⟨λh=>(by cases h),λh=>absurd h (by intro h;have:=h.c1;omega)⟩)
 refine go ?_;refine gG (λh2=>?_) (λh2=>?_)
 rotate_left
 ·refine go ?_;exact aj false (hv:=rfl) (hp:=⟨λh=>(by cases h),λh=>absurd h (by intro h;have:=h.c8;omega)⟩)
 refine go ?_;refine gG (λh3=>?_) (λh3=>?_)
 rotate_left
 ·refine go ?_;exact aj false (hv:=rfl) (hp:=⟨λh=>(by cases h),λh=>absurd h (by intro h;have:=h.p1;omega)⟩)
 refine go ?_;refine gG (λh4=>?_) (λh4=>?_)
 rotate_left
 ·refine go ?_;exact aj false (hv:=rfl) (hp:=⟨λh=>(by cases h),λh=>absurd h (by intro h;have:=h.p8;omega)⟩)
 refine go ?_;refine gG (λh5=>?_) (λh5=>?_)
 rotate_left
 ·refine go ?_;exact aj false (hv:=rfl) (hp:=⟨λh=>(by cases h),λh=>absurd h (by intro h;exact h5 h.lv)⟩)
 refine go ?_;refine gG (λh6=>?_) (λh6=>?_)
 rotate_left
 ·refine go ?_;exact aj false (hv:=rfl) (hp:=⟨λh=>(by cases h),λh=>absurd h (by intro h;exact h6 h.cl)⟩)
 refine go ?_;refine aC rfl (λh7=>?_) (λh7=>?_)
 ·refine go ?_;exact aj false (hv:=rfl) (hp:=⟨λh=>(by cases h),λh=>absurd h (by intro h;have:=h.pz;omega)⟩)
 refine go ?_;refine aB (Nt (xs:=s.lv) (lo:=0) (hi:=9) hb1) (next:=λ_ _=>?_);refine go ?_;refine gG (λg1=>?_) (λg1=>?_)
 ·refine go ?_;exact aj false (hv:=rfl) (hp:=⟨λh=>(by cases h),λh=>absurd h (by intro h;rw[mg.2 h.HY]at g1;cases g1)⟩)
 refine go ?_;refine aB (Nt (xs:=s.cl) (lo:=0) (hi:=512) hb2) (next:=λ_ _=>?_);refine go ?_;refine gG (λg2=>?_) (λg2=>?_)
 ·refine go ?_;exact aj false (hv:=rfl) (hp:=⟨λh=>(by cases h),λh=>absurd h (by intro h;rw[mg.2 h.HZ]at g2;cases g2)⟩)
 refine go ?_;refine aB (Nt (xs:=s.pz) (lo:=0) (hi:=1048576) hb3) (next:=λ_ _=>?_);refine go ?_;exact aj (vQ s.pz 0 1048576) (hv:=rfl) (hp:=⟨λh=>⟨by omega,by omega,by omega,by omega,by omega,by omega,by omega,mg.1 g1,mg.1 g2,mg.1 h⟩,λh=>mg.2 h.H6⟩)
theorem af3{s:aK}{v1 v2 v3 v4:Value}{x:ak}(hx1:cellsOf v1=some [v1])(hx2:cellsOf v2=some [v2])(hx3:cellsOf v3=some [v3])(hx4:cellsOf v4=some [v4]):
 aX Tryz.prog (.func 75) [.agg ⟨jD s v1 v2 v3 v4⟩,.agg ⟨[.int .i64 x.c,.int .i64 x.p,.int .i64 x.t,.int .i64 x.lo,.int .i64 x.hi,.bool x.r]⟩] [] [] [] (λy:Bool=>.bool y) (λ_=>[]) (λ_=>[]) (λy=>y=true↔iq s x):=by
 refine aT _ (bz 75) λB w0=>?_;refine go ?_;intro b2;refine go ?_;intro b3;refine go ?_;refine gG (λh1=>?_) (λh1=>?_)
 rotate_left
 ·refine go ?_;exact aj false (hv:=rfl) (hp:=⟨λh=>(by cases h),λh=>absurd h (by intro h;have:=h.c0;omega)⟩)
 refine go ?_;refine gG (λh2=>?_) (λh2=>?_)
 rotate_left
 ·refine go ?_;exact aj false (hv:=rfl) (hp:=⟨λh=>(by cases h),λh=>absurd h (by intro h;have:=h.c1;omega)⟩)
 refine go ?_;refine gG (λh3=>?_) (λh3=>?_)
 rotate_left
 ·refine go ?_;exact aj false (hv:=rfl) (hp:=⟨λh=>(by cases h),λh=>absurd h (by intro h;have:=h.p0;omega)⟩)
 refine go ?_;refine gG (λh4=>?_) (λh4=>?_)
 rotate_left
 ·refine go ?_;exact aj false (hv:=rfl) (hp:=⟨λh=>(by cases h),λh=>absurd h (by intro h;have:=h.p1;omega)⟩)
 refine go ?_;refine gG (λh5=>?_) (λh5=>?_)
 rotate_left
 ·refine go ?_;exact aj false (hv:=rfl) (hp:=⟨λh=>(by cases h),λh=>absurd h (by intro h;have:=h.t0;omega)⟩)
 refine go ?_;refine aC rfl (λh6=>?_) (λh6=>?_)
 ·refine go ?_;exact aj false (hv:=rfl) (hp:=⟨λh=>(by cases h),λh=>absurd h (by intro h;have:=h.t1;omega)⟩)
 refine go ?_;refine gG (λh7=>?_) (λh7=>?_)
 ·refine go ?_;exact aj false (hv:=rfl) (hp:=⟨λh=>(by cases h),λh=>absurd h (by intro h;have:=h.lo;omega)⟩)
 refine go ?_;refine gG (λh8=>?_) (λh8=>?_)
 ·refine go ?_;exact aj false (hv:=rfl) (hp:=⟨λh=>(by cases h),λh=>absurd h (by intro h;have:=h.le;omega)⟩)
 refine go ?_;exact aj (decide (x.hi<=1048576)) (hv:=rfl) (hp:=⟨λh=>⟨by omega,by omega,by omega,by omega,by omega,by omega,by omega,by omega,by have:=si h;omega⟩,λh=>eP h.hi⟩)
theorem Vm{s:aK}{v1 v2 v3 v4 vl:Value}{l:List ak}(hW:qB s.pg)(hb1:s.lv.length<9223372036854775808)(hb2:s.cl.length<9223372036854775808)(hb3:s.pz.length<9223372036854775808)(hb4:s.pg.length<9223372036854775808)(hx1:cellsOf v1=some [v1])(hx2:cellsOf v2=some [v2])(hx3:cellsOf v3=some [v3])(hx4:cellsOf v4=some [v4]):
 aX Tryz.prog (.func 54) [.agg ⟨jD s v1 v2 v3 v4⟩,vl] [] [] [ae ah v1 s.lv,ae ah v2 s.cl,ae fP v3 s.pg,ae ah v4 s.pz,ae aZ vl l] (λy:Int=>.int .i64 y) (λ_=>[]) (λ_=>[]) (λy=>y=dL s l):=by
 refine aT _ (bz 54) λB w0=>?_;refine go ?_;intro b2;refine go ?_;refine aC rfl (λh1=>?_) (λh1=>?_)
 ·refine go ?_;exact aj 2 (hv:=rfl) (hp:=(SV (by omega)).symm)
 refine go ?_;refine aB (Vh (ws:=s.pg) hW hb4) (next:=λy hy=>?_);refine go ?_;refine aC rfl (λh2=>?_) (λh2=>?_)
 ·refine go ?_;refine aj y (hv:=rfl) (hp:=?_);have hno:¬fI s.pg:=λh=>h2 (hy.1 h);rw[SX (by omega) hno];exact hy.2 hno
 have hp:fI s.pg:=Classical.byContradiction λh=>by have:=hy.2 h;omega
 refine go ?_;refine aB (af2 (s:=s) (v1:=v1) (v2:=v2) (v3:=v3) (v4:=v4) hb1 hb2 hb3 hx1 hx2 hx3 hx4) (next:=λz hz=>?_);refine go ?_;refine iW rfl (λh3=>?_) (λh3=>?_)
 ·refine go ?_;refine aj 530 (hv:=rfl) (hp:=(ol (by omega) hp λhs hr=>?_).symm);rw[hz.2 hs]at h3;cases h3
 have hsh:=hz.1 (by simpa using h3);refine go ?_;refine bR (λk=>l.length - k) (λk:Nat=>[(6,.int .i64 (k:Int))]) (λ_=>[]) (λ_=>[]) (λk=>k<=l.length/\∀x∈l.take k,iq s x) 0 ⟨cu _,by simp⟩ (body:=?_);rintro k ⟨hk,hok⟩;refine go ?_;refine aC rfl (λh4=>?_) (λh4=>?_)
 ·refine go ?_;refine cZ aZ (k:=k) (next:=λbx ox x _ hx=>?_);have hxm:=dA hx;refine go ?_;refine aB (af3 (s:=s) (v1:=v1) (v2:=v2) (v3:=v3) (v4:=v4) (x:=x) hx1 hx2 hx3 hx4) (next:=λu hu=>?_);refine go ?_;refine iW rfl (λh5=>?_) (λh5=>?_)
  ·refine go ?_;refine aj 530 (hv:=rfl) (hp:=(ol (by omega) hp λhs hr=>?_).symm);rw[hu.2 (hr x hxm)]at h5;cases h5
  refine go ?_;refine aL (k+1) (by omega) ⟨by omega,λy hy=>?_⟩;rw[eD hx]at hy;rcases gF.1 hy with hy|hy
  ·exact hok y hy
  ·rw[cz.1 hy];exact hu.1 (by simpa using h5)
 have hkl:k=l.length:=by omega
 subst hkl;rw[gV]at hok;refine go ?_;exact aj 0 (hv:=rfl) (hp:=(Mm ⟨by omega,hp,hsh,hok⟩).symm)
end Go.Proofs.YtbdaaopebgcnaaaGreatDoor
namespace Go.Proofs.YtbdaaopebgcnaaaGreatDoor
open Go.Ideal Rk
noncomputable def Vn:=yB Tryz.prog 56
theorem af4:jN Tryz.prog 56=some Vn:=by kernel_rfl
section
variable {P:Program} {B:List Nat} {w0:Wd} {kl kl':List OA} {F:List aD} {K:KO} {ds:List Tmp} {rest:List aW} {n:Nat} {l:List (Nat×Value)} {D:List Deferred} {pm:Option FrameMode} {ro:Option Nat} {d:Nat} {g:Option (Tmp×Bool)}
theorem af5{e:TypeId}{bytes:Nat}{s x:Operand}{v:Value}{xs:List Int}(hne:0<xs.length)(hm:xs.length*bytes<=1073741824/\xs.length<=1073741824)
 (next:∀b',R (λh=>aA P ds rest (act n ((d,.slice (some ⟨b',0,some 1⟩) xs.length xs.length)::l) D pm ro) h K) B w0 (pt b' (.cells (xs.map (.int .i64)))::kl) F)
 (hs:ev l s=.slice none 0 0:=by rfl) (hx:ev l x=v:=by conv=>lhs;whnf) (hf:ae ah v xs∈F:=by exact nA) (hn:Nat.blt d n=true:=by rfl) (hg:bH l g=true:=by rfl):
 R (λh=>aA P ds (⟨⟨some d,g,.append e 1 bytes s x⟩,[]⟩::rest) (act n l D pm ro) h K) B w0 kl F:=λw st=>by
 obtain⟨k,hk'⟩:∃k,xs.length=k+1:=⟨xs.length - 1,by omega⟩
 rcases st.facts _ hf with⟨rfl,_⟩|⟨i,o,f,c,cells,⟨e1,hc⟩,q2,q3⟩
 ·simp at hne
 have hcells:∀j,j<xs.length->cells[o+j]? =(xs.map (Value.int .i64))[j]?:=λj hj=>by
  obtain⟨y,u1,_⟩:=q3 j xs[j] (bB hj);have:=u1 0 (.int .i64 xs[j]) rfl;rw[bU,bB hj];simpa[ah]using this
 have hlen:o+xs.length<=cells.length:=by
  have:=hcells (xs.length - 1) (by omega);have hx0:xs[xs.length - 1]? =some (xs[xs.length - 1]'(by omega)):=bB _;rw[bU,hx0]at this;have:=(dU.1 this).1;omega
 have hread:w.h.dV i o (xs.length*1)=some (xs.map (.int .i64)):=by
  rw[q2.cells.dV,jO,jP,fV,if_pos (by rw[iZ];omega)];congr 1;apply kz;intro j;rw[qN];by_cases hj:j<xs.length
  ·rw[if_pos hj,jf];exact hcells j hj
  ·rw[if_neg hj,jg (by rw[bI];omega)]
 refine K5 (k:=k) (c:=0) (xs:=xs.map (.int .i64)) hn hg hs (by rw[hx,e1,hk'];rfl) (by rw[hx,e1,<- hk'];exact hread) (by rw[<- hk'];omega) λh' ag mP hnx=>?_;obtain⟨w',rfl,dO⟩:=st.fresh ag mP hnx;have:=next w.h.next w' dO
 rw[hk']at this;exact this
end
theorem af6{vl:Value}{l:List ak}{p:Int}(hl:l.length<=1000000):aX Tryz.prog (.func 55) [vl,.int .i64 p] [] [] [ae aZ vl l] (λv:Value=>v) (λ_=>[]) (λv=>[ae ah v (ints (aO l p))]) (λ_=>True):=by
 refine aT _ (bz 55) λB w0=>?_;refine go ?_;refine tq ah ?_;refine bR (λy:Nat×Value=>l.length - y.1) (λy=>[(6,.int .i64 (y.1:Int)),(5,y.2)]) (λy=>[ap ah y.2 (ints (fK l p y.1))]) (λ_=>[]) (λy=>y.1<=l.length) (0,.slice none 0 0) (cu _) (hk:=by repeat (first|exact aI.nil|(apply aI.cons;(focus (repeat (first|exact ai.here|apply ai.there)))))) (body:=?_);rintro⟨i,v⟩ hi;dsimp only at hi⊢;have hcl:=Mr l p i;have hil:=om (fK l p i);refine go ?_;refine aC rfl (λh1=>?_) (λh1=>?_)
 ·refine go ?_;refine cZ aZ (k:=i) (next:=λbx0 ox0 x _ hx=>?_);have hc:=Mo l p i;have uz:jU l p i=(x.r&&decide (x.p=p)&&!((l.take i).any λy=>y.r&&decide (y.p=p)&&decide (y.c=x.c))):=by unfold jU;rw[hx]
  refine go ?_;refine gG (λg1=>?_) (λg1=>?_)
  ·have hF:jU l p i=(!((l.take i).any λy=>y.r&&decide (y.p=p)&&decide (y.c=x.c))&&false):=by rw[uz,g1];simp
   refine go ?_;refine bR (λk=>i - k) (λk:Nat=>[(8,.int .i64 (k:Int)),(7,.bool (!((l.take k).any λy=>y.r&&decide (y.p=p)&&decide (y.c=x.c))&&false))]) (λ_=>[]) (λ_=>[]) (λk=>k<=i) 0 (cu _) (body:=?_);intro k hk;refine go ?_;refine aC rfl (λh2=>?_) (λh2=>?_)
   ·refine go ?_;refine cZ aZ (k:=k) (next:=λbx ox y _ hy=>?_);have hs:((l.take (k+1)).any λy=>y.r&&decide (y.p=p)&&decide (y.c=x.c))=(((l.take k).any λy=>y.r&&decide (y.p=p)&&decide (y.c=x.c))||(y.r&&decide (y.p=p)&&decide (y.c=x.c))):=by rw[eD hy,zB];simp
    refine go ?_;refine gG (λf1=>?_) (λf1=>?_)
    ·rw[f1,wH,wH,oP]at hs;rw[<- hs];refine go ?_;exact aL (k+1) (by omega) (by omega)
    refine go ?_;refine cZ aZ (k:=k) (next:=λoH oI y2 _ hy2=>?_);cases hy.symm.trans hy2;refine go ?_;refine gG (λf2=>?_) (λf2=>?_)
    ·rw[fB f2,EP,wH,oP]at hs;rw[<- hs];refine go ?_;exact aL (k+1) (by omega) (by omega)
    refine go ?_;refine cZ aZ (k:=k) (next:=λzg zh y3 _ hy3=>?_);cases hy.symm.trans hy3;refine go ?_;refine cZ aZ (k:=i) (next:=λIQ IR x4 _ hx4=>?_);cases hx.symm.trans hx4;refine go ?_;refine aC rfl (λf3=>?_) (λf3=>?_)
    ·rw[f1,eP f2,eP f3,EB,EB,Bool.or_true]at hs;refine go ?_;rw[show Value.bool false=.bool (!((l.take (k+1)).any λy=>y.r&&decide (y.p=p)&&decide (y.c=x.c))&&false)by rw[hs];rfl];exact aL (k+1) (by omega) (by omega)
    ·rw[fB f3,EP,oP]at hs;rw[<- hs];refine go ?_;exact aL (k+1) (by omega) (by omega)
   have hki:k=i:=by omega
   subst hki;rw[<- hF];refine go ?_;refine iW rfl (λf4=>?_) (λf4=>?_)
   ·rw[if_pos f4]at hc;refine go ?_;intro b64;refine go ?_;refine lY (xs:=ints (fK l p k)) ah (k:Int) () (by omega) (next:=λad=>?_);rw[<- Dz,show fK l p k++[k]=fK l p (k+1)from hc.symm];refine go ?_;exact aL (k+1,.slice ad ((ints (fK l p k)).length+1) ((ints (fK l p k)).length+1)) (by show l.length - (k+1)<l.length - k;omega) (by show k+1<=_;omega)
   ·rw[if_neg (by rw[f4];simp)]at hc;rw[show fK l p k=fK l p (k+1)from hc.symm];refine go ?_;exact aL (k+1,v) (by show l.length - (k+1)<l.length - k;omega) (by show k+1<=_;omega)
  have hF:jU l p i=(!((l.take i).any λy=>y.r&&decide (y.p=p)&&decide (y.c=x.c))&&decide (x.p=p)):=by rw[uz,g1,EB,Bool.and_comm]
  refine go ?_;refine cZ aZ (k:=i) (next:=λbx1 Br x1 _ hx1=>?_);cases hx.symm.trans hx1;refine go ?_;refine bR (λk=>i - k) (λk:Nat=>[(8,.int .i64 (k:Int)),(7,.bool (!((l.take k).any λy=>y.r&&decide (y.p=p)&&decide (y.c=x.c))&&decide (x.p=p)))]) (λ_=>[]) (λ_=>[]) (λk=>k<=i) 0 (cu _) (body:=?_);intro k hk;refine go ?_;refine aC rfl (λh2=>?_) (λh2=>?_)
  ·refine go ?_;refine cZ aZ (k:=k) (next:=λbx ox y _ hy=>?_);have hs:((l.take (k+1)).any λy=>y.r&&decide (y.p=p)&&decide (y.c=x.c))=(((l.take k).any λy=>y.r&&decide (y.p=p)&&decide (y.c=x.c))||(y.r&&decide (y.p=p)&&decide (y.c=x.c))):=by rw[eD hy,zB];simp
   refine go ?_;refine gG (λf1=>?_) (λf1=>?_)
   ·rw[f1,wH,wH,oP]at hs;rw[<- hs];refine go ?_;exact aL (k+1) (by omega) (by omega)
   refine go ?_;refine cZ aZ (k:=k) (next:=λoH oI y2 _ hy2=>?_);cases hy.symm.trans hy2;refine go ?_;refine gG (λf2=>?_) (λf2=>?_)
   ·rw[fB f2,EP,wH,oP]at hs;rw[<- hs];refine go ?_;exact aL (k+1) (by omega) (by omega)
   refine go ?_;refine cZ aZ (k:=k) (next:=λzg zh y3 _ hy3=>?_);cases hy.symm.trans hy3;refine go ?_;refine cZ aZ (k:=i) (next:=λIQ IR x4 _ hx4=>?_);cases hx.symm.trans hx4;refine go ?_;refine aC rfl (λf3=>?_) (λf3=>?_)
   ·rw[f1,eP f2,eP f3,EB,EB,Bool.or_true]at hs;refine go ?_;rw[show Value.bool false=.bool (!((l.take (k+1)).any λy=>y.r&&decide (y.p=p)&&decide (y.c=x.c))&&decide (x.p=p))by rw[hs];rfl];exact aL (k+1) (by omega) (by omega)
   ·rw[fB f3,EP,oP]at hs;rw[<- hs];refine go ?_;exact aL (k+1) (by omega) (by omega)
  have hki:k=i:=by omega
  subst hki;rw[<- hF];refine go ?_;refine iW rfl (λf4=>?_) (λf4=>?_)
  ·rw[if_pos f4]at hc;refine go ?_;intro b64;refine go ?_;refine lY (xs:=ints (fK l p k)) ah (k:Int) () (by omega) (next:=λad=>?_);rw[<- Dz,show fK l p k++[k]=fK l p (k+1)from hc.symm];refine go ?_;exact aL (k+1,.slice ad ((ints (fK l p k)).length+1) ((ints (fK l p k)).length+1)) (by show l.length - (k+1)<l.length - k;omega) (by show k+1<=_;omega)
  ·rw[if_neg (by rw[f4];simp)]at hc;rw[show fK l p k=fK l p (k+1)from hc.symm];refine go ?_;exact aL (k+1,v) (by show l.length - (k+1)<l.length - k;omega) (by show k+1<=_;omega)
 have hkl:i=l.length:=by omega
 subst hkl;refine go ?_;rw[show fK l p l.length=aO l p from rfl];refine bP (A:=ap ah v (ints (aO l p))) (fs:=[ae ah v (ints (aO l p))]) rD (h:=?_);exact aj v (hv:=rfl) (hp:=trivial)
theorem af7{vt:Value}{ts:List Int}(hl:ts.length<=1000000):aX Tryz.prog (.func 57) [vt] [] [] [ae ah vt ts] (λv:Value=>v) (λ_=>[]) (λv=>[ae ah v (places ts)]) (λ_=>True):=by
 refine aT _ (bz 57) λB w0=>?_;refine go ?_;refine tq ah ?_;refine bR (λy:Nat×Value=>ts.length - y.1) (λy=>[(4,.int .i64 (y.1:Int)),(3,y.2)]) (λy=>[ap ah y.2 ((places ts).take y.1)]) (λ_=>[]) (λy=>y.1<=ts.length) (0,.slice none 0 0) (cu _) (hk:=by repeat (first|exact aI.nil|(apply aI.cons;(focus (repeat (first|exact ai.here|apply ai.there)))))) (body:=?_);rintro⟨k,v⟩ hk;dsimp only at hk⊢;have hrl:(places ts).length=ts.length:=Dv;have htl:((places ts).take k).length=k:=by rw[cB];omega
 refine go ?_;refine aC rfl (λh1=>?_) (λh1=>?_)
 ·have hx:ts[k]? =some (ts[k]'(by omega)):=bB _;generalize ts[k]'(by omega)=x at hx;refine go ?_;refine bR (λj=>ts.length - j) (λj:Nat=>[(6,.int .i64 (j:Int)),(5,.int .i64 (1+((ts.take j).countP λm=>decide (m<x):Nat):Int))]) (λ_=>[]) (λ_=>[]) (λj=>j<=ts.length) 0 (cu _) (body:=?_);intro j hj;have hcl:((ts.take j).countP λm=>decide (m<x))<=(ts.take j).length:=OI;rw[cB]at hcl;refine go ?_;refine aC rfl (λh2=>?_) (λh2=>?_)
  ·refine go ?_;intro _ _ z hz _ _ x2 hx2;cases hx.symm.trans hx2;have hs:((ts.take (j+1)).countP λm=>decide (m<x))=((ts.take j).countP λm=>decide (m<x))+if z<x then 1 else 0:=by rw[eD hz,OJ,OL];simp
   refine go ?_;refine aC rfl (λh3=>?_) (λh3=>?_)
   ·rw[if_pos h3]at hs;refine go ?_;rw[show(1+(((ts.take j).countP λm=>decide (m<x):Nat):Int))+1=1+(((ts.take (j+1)).countP λm=>decide (m<x):Nat):Int)by rw[hs];omega];exact aL (j+1) (by omega) (by omega)
   ·have hs2:((ts.take j).countP λm=>decide (m<x))=((ts.take (j+1)).countP λm=>decide (m<x)):=by rw[hs,if_neg h3,jG]
    rw[hs2];refine go ?_;exact aL (j+1) (by omega) (by omega)
  have hjl:j=ts.length:=by omega
  subst hjl;rw[gV];refine go ?_;intro b32;refine go ?_;have xU:=Tf hx;refine lY (xs:=(places ts).take k) ah (1+((ts.countP λm=>decide (m<x):Nat):Int)) () (by omega) (next:=λad=>?_);rw[<- eD xU];refine go ?_;exact aL (k+1,.slice ad (((places ts).take k).length+1) (((places ts).take k).length+1)) (by show ts.length - (k+1)<ts.length - k;omega) (by show k+1<=_;omega)
 have hkl:k=ts.length:=by omega
 subst hkl;rw[nO (by omega)];refine go ?_;refine bP (A:=ap ah v (places ts)) (fs:=[ae ah v (places ts)]) rD (h:=?_);exact aj v (hv:=rfl) (hp:=trivial)
