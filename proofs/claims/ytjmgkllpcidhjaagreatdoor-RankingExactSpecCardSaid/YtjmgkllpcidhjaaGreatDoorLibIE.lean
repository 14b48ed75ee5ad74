/-
  ref53: between, sheet, result, Check.
-/
import Derived.Test.YtjmgkllpcidhjaaGreatDoorLibHE
import Derived.Test.YtjmgkllpcidhjaaGreatDoorLibFE
set_option linter.all false
set_option maxRecDepth 10000
set_option maxHeartbeats 4000000
namespace Go.Proofs.YtjmgkllpcidhjaaGreatDoor
open Go.Ideal Rk
theorem Ma{xs:List Int}{lo hi:Int}{k:Nat}{x:Int}(hx:xs[k]? =some x)(h:x<lo\/hi<x):p9 xs lo hi=false:=by
 cases e:p9 xs lo hi with
 |false=>rfl
 |true=>have:=iX.1 e x (dG hx);omega
theorem FW{lo hi:Int}{va:Value}{xs:List Int}(hl:xs.length<9223372036854775808):fG Tryz.prog 60 [va,.int .i64 lo,.int .i64 hi] [ah au va xs] (.bool (p9 xs lo hi)):=by
 refine bq _ (bP 60) λB w0=>?_;refine go ?_;refine dZ (λy:Nat=>xs.length - y) (λy=>[(7,.int .i64 (y:Int))]) (λ_=>[]) (λ_=>[]) (λy=>y<=xs.length/\∀x∈xs.take y,lo<=x/\x<=hi) 0 ⟨dz _,by simp⟩ (body:=?_);rintro k ⟨hk,hok⟩;dsimp only at hk⊢;refine go ?_;refine aJ rfl (λh2=>?_) (λh2=>?_)
 ·refine go ?_;intro _ _ x hx;refine go ?_;refine gG (λh3=>?_) (λh3=>?_)
  rotate_left
  ·refine go ?_;exact av () (hv:=by rw[Ma hx (.inl h3)];rfl) (hp:=trivial)
  refine go ?_;intro _ _ x2 hx2;cases hx.symm.trans hx2;refine go ?_;refine aJ rfl (λh4=>?_) (λh4=>?_)
  ·refine go ?_;exact av () (hv:=by rw[Ma hx (.inr h4)];rfl) (hp:=trivial)
  refine go ?_;refine bC (k+1) (by show xs.length - (k+1)<xs.length - k;omega) ⟨by show k+1<=_;omega,λy hy=>?_⟩;rw[eT hx]at hy;rcases gZ.1 hy with hy|hy
  ·exact hok y hy
  ·rw[dH.1 hy];omega
 have hkl:k=xs.length:=by omega
 subst hkl;rw[jc]at hok;refine go ?_;exact av () (hv:=by rw[iX.2 hok];rfl) (hp:=trivial)
theorem Ww{s:dm}{v1 v2 v3 v4:Value}(hb1:s.lv.length<9223372036854775808)(hb2:s.cl.length<9223372036854775808)(hb3:s.pz.length<9223372036854775808)(hx1:cellsOf v1=some [v1])(hx2:cellsOf v2=some [v2])(hx3:cellsOf v3=some [v3])(hx4:cellsOf v4=some [v4]):
 bJ Tryz.prog (.func 40) [.agg ⟨ou s v1 v2 v3 v4⟩] [] [] [ah au v1 s.lv,ah au v2 s.cl,ah au v4 s.pz] (λy:Bool=>.bool y) (λ_=>[]) (λ_=>[]) (λy=>y=true↔ym s):=by
 refine bq _ (bP 40) λB w0=>?_;refine go ?_;intro b1;refine go ?_;refine gG (λh1=>?_) (λh1=>?_)
 rotate_left
 ·refine go ?_;exact av false (hv:=rfl) (hp:=⟨λh=>(by cases h),λh=>absurd h (by intro h;have:=h.c1;omega)⟩)
 refine go ?_;refine gG (λh2=>?_) (λh2=>?_)
 rotate_left
 ·refine go ?_;exact av false (hv:=rfl) (hp:=⟨λh=>(by cases h),λh=>absurd h (by intro h;have:=h.c8;omega)⟩)
 refine go ?_;refine gG (λh3=>?_) (λh3=>?_)
 rotate_left
 ·refine go ?_;exact av false (hv:=rfl) (hp:=⟨λh=>(by cases h),λh=>absurd h (by intro h;have:=h.p1;omega)⟩)
 refine go ?_;refine gG (λh4=>?_) (λh4=>?_)
 rotate_left
 ·refine go ?_;exact av false (hv:=rfl) (hp:=⟨λh=>(by cases h),λh=>absurd h (by intro h;have:=h.p8;omega)⟩)
 refine go ?_;refine gG (λh5=>?_) (λh5=>?_)
 rotate_left
 ·refine go ?_;exact av false (hv:=rfl) (hp:=⟨λh=>(by cases h),λh=>absurd h (by intro h;exact h5 h.lv)⟩)
 refine go ?_;refine gG (λh6=>?_) (λh6=>?_)
 rotate_left
 ·refine go ?_;exact av false (hv:=rfl) (hp:=⟨λh=>(by cases h),λh=>absurd h (by intro h;exact h6 h.cl)⟩)
 refine go ?_;refine aJ rfl (λh7=>?_) (λh7=>?_)
 ·refine go ?_;exact av false (hv:=rfl) (hp:=⟨λh=>(by cases h),λh=>absurd h (by intro h;have:=h.pz;omega)⟩)
 refine go ?_;refine aF (FW (xs:=s.lv) (lo:=0) (hi:=9) hb1) (next:=λ_ _=>?_);refine go ?_;refine gG (λg1=>?_) (λg1=>?_)
 ·refine go ?_;exact av false (hv:=rfl) (hp:=⟨λh=>(by cases h),λh=>absurd h (by intro h;rw[iX.2 h.AQ]at g1;cases g1)⟩)
 refine go ?_;refine aF (FW (xs:=s.cl) (lo:=0) (hi:=512) hb2) (next:=λ_ _=>?_);refine go ?_;refine gG (λg2=>?_) (λg2=>?_)
 ·refine go ?_;exact av false (hv:=rfl) (hp:=⟨λh=>(by cases h),λh=>absurd h (by intro h;rw[iX.2 h.AU]at g2;cases g2)⟩)
 refine go ?_;refine aF (FW (xs:=s.pz) (lo:=0) (hi:=1048576) hb3) (next:=λ_ _=>?_);refine go ?_;exact av (p9 s.pz 0 1048576) (hv:=rfl) (hp:=⟨λh=>⟨by omega,by omega,by omega,by omega,by omega,by omega,by omega,iX.1 g1,iX.1 g2,iX.1 h⟩,λh=>iX.2 h.J9⟩)
theorem Wx{s:dm}{v1 v2 v3 v4:Value}{x:bE}(hx1:cellsOf v1=some [v1])(hx2:cellsOf v2=some [v2])(hx3:cellsOf v3=some [v3])(hx4:cellsOf v4=some [v4]):
 bJ Tryz.prog (.func 41) [.agg ⟨ou s v1 v2 v3 v4⟩,.agg ⟨[.int .i64 x.c,.int .i64 x.p,.int .i64 x.t,.int .i64 x.lo,.int .i64 x.hi,.bool x.r]⟩] [] [] [] (λy:Bool=>.bool y) (λ_=>[]) (λ_=>[]) (λy=>y=true↔rA s x):=by
 refine bq _ (bP 41) λB w0=>?_;refine go ?_;intro b2;refine go ?_;intro b3;refine go ?_;refine gG (λh1=>?_) (λh1=>?_)
 rotate_left
 ·refine go ?_;exact av false (hv:=rfl) (hp:=⟨λh=>(by cases h),λh=>absurd h (by intro h;have:=h.c0;omega)⟩)
 refine go ?_;refine gG (λh2=>?_) (λh2=>?_)
 rotate_left
 ·refine go ?_;exact av false (hv:=rfl) (hp:=⟨λh=>(by cases h),λh=>absurd h (by intro h;have:=h.c1;omega)⟩)
 refine go ?_;refine gG (λh3=>?_) (λh3=>?_)
 rotate_left
 ·refine go ?_;exact av false (hv:=rfl) (hp:=⟨λh=>(by cases h),λh=>absurd h (by intro h;have:=h.p0;omega)⟩)
 refine go ?_;refine gG (λh4=>?_) (λh4=>?_)
 rotate_left
 ·refine go ?_;exact av false (hv:=rfl) (hp:=⟨λh=>(by cases h),λh=>absurd h (by intro h;have:=h.p1;omega)⟩)
 refine go ?_;refine gG (λh5=>?_) (λh5=>?_)
 rotate_left
 ·refine go ?_;exact av false (hv:=rfl) (hp:=⟨λh=>(by cases h),λh=>absurd h (by intro h;have:=h.t0;omega)⟩)
 refine go ?_;refine aJ rfl (λh6=>?_) (λh6=>?_)
 ·refine go ?_;exact av false (hv:=rfl) (hp:=⟨λh=>(by cases h),λh=>absurd h (by intro h;have:=h.t1;omega)⟩)
 refine go ?_;refine gG (λh7=>?_) (λh7=>?_)
 ·refine go ?_;exact av false (hv:=rfl) (hp:=⟨λh=>(by cases h),λh=>absurd h (by intro h;have:=h.lo;omega)⟩)
 refine go ?_;refine gG (λh8=>?_) (λh8=>?_)
 ·refine go ?_;exact av false (hv:=rfl) (hp:=⟨λh=>(by cases h),λh=>absurd h (by intro h;have:=h.le;omega)⟩)
 refine go ?_;exact av (decide (x.hi<=1048576)) (hv:=rfl) (hp:=⟨λh=>⟨by omega,by omega,by omega,by omega,by omega,by omega,by omega,by omega,by have:=BI h;omega⟩,λh=>gL h.hi⟩)
theorem Mc{s:dm}{v1 v2 v3 v4 vl:Value}{l:List bE}(hW:rU s.pg)(hb1:s.lv.length<9223372036854775808)(hb2:s.cl.length<9223372036854775808)(hb3:s.pz.length<9223372036854775808)(hb4:s.pg.length<9223372036854775808)(hx1:cellsOf v1=some [v1])(hx2:cellsOf v2=some [v2])(hx3:cellsOf v3=some [v3])(hx4:cellsOf v4=some [v4]):
 bJ Tryz.prog (.func 14) [.agg ⟨ou s v1 v2 v3 v4⟩,vl] [] [] [ah au v1 s.lv,ah au v2 s.cl,ah fV v3 s.pg,ah au v4 s.pz,ah eH vl l] (λy:Int=>.int .i64 y) (λ_=>[]) (λ_=>[]) (λy=>y=fT s l):=by
 refine bq _ (bP 14) λB w0=>?_;refine go ?_;intro b2;refine go ?_;refine aJ rfl (λh1=>?_) (λh1=>?_)
 ·refine go ?_;exact av 2 (hv:=rfl) (hp:=(Ka (by omega)).symm)
 refine go ?_;refine aF (LZ (ws:=s.pg) hW hb4) (next:=λy hy=>?_);refine go ?_;refine aJ rfl (λh2=>?_) (λh2=>?_)
 ·refine go ?_;refine av y (hv:=rfl) (hp:=?_);have hno:¬dD s.pg:=λh=>h2 (hy.1 h);rw[Kb (by omega) hno];exact hy.2 hno
 have hp:dD s.pg:=Classical.byContradiction λh=>by have:=hy.2 h;omega
 refine go ?_;refine aF (Ww (s:=s) (v1:=v1) (v2:=v2) (v3:=v3) (v4:=v4) hb1 hb2 hb3 hx1 hx2 hx3 hx4) (next:=λz hz=>?_);refine go ?_;refine jr rfl (λh3=>?_) (λh3=>?_)
 ·refine go ?_;refine av 530 (hv:=rfl) (hp:=(jY (by omega) hp λhs hr=>?_).symm);rw[hz.2 hs]at h3;cases h3
 have hsh:=hz.1 (by simpa using h3);refine go ?_;refine dZ (λk=>l.length - k) (λk:Nat=>[(6,.int .i64 (k:Int))]) (λ_=>[]) (λ_=>[]) (λk=>k<=l.length/\∀x∈l.take k,rA s x) 0 ⟨dz _,by simp⟩ (body:=?_);rintro k ⟨hk,hok⟩;refine go ?_;refine aJ rfl (λh4=>?_) (λh4=>?_)
 ·refine go ?_;refine dh eH (k:=k) (next:=λbx ox x _ hx=>?_);have hxm:=dG hx;refine go ?_;refine aF (Wx (s:=s) (v1:=v1) (v2:=v2) (v3:=v3) (v4:=v4) (x:=x) hx1 hx2 hx3 hx4) (next:=λu hu=>?_);refine go ?_;refine jr rfl (λh5=>?_) (λh5=>?_)
  ·refine go ?_;refine av 530 (hv:=rfl) (hp:=(jY (by omega) hp λhs hr=>?_).symm);rw[hu.2 (hr x hxm)]at h5;cases h5
  refine go ?_;refine bC (k+1) (by omega) ⟨by omega,λy hy=>?_⟩;rw[eT hx]at hy;rcases gZ.1 hy with hy|hy
  ·exact hok y hy
  ·rw[dH.1 hy];exact hu.1 (by simpa using h5)
 have hkl:k=l.length:=by omega
 subst hkl;rw[jc]at hok;refine go ?_;exact av 0 (hv:=rfl) (hp:=(Kc ⟨by omega,hp,hsh,hok⟩).symm)
end Go.Proofs.YtjmgkllpcidhjaaGreatDoor
namespace Go.Proofs.YtjmgkllpcidhjaaGreatDoor
open Go.Ideal Rk
noncomputable def Md:=Ca Tryz.prog 35
theorem Wy:iN Tryz.prog 35=some Md:=by kernel_rfl
section
variable {P:Program} {B:List Nat} {w0:Wd} {kl kl':List OA} {F:List aH} {K:KO} {ds:List Tmp} {rest:List aK} {n:Nat} {l:List (Nat×Value)} {D:List Deferred} {pm:Option FrameMode} {ro:Option Nat} {d:Nat} {g:Option (Tmp×Bool)}
theorem Wz{e:TypeId}{bytes:Nat}{s x:Operand}{v:Value}{xs:List Int}(hne:0<xs.length)(hm:xs.length*bytes<=1073741824/\xs.length<=1073741824)
 (next:∀b',R (λh=>ax P ds rest (act n ((d,.slice (some ⟨b',0,some 1⟩) xs.length xs.length)::l) D pm ro) h K) B w0 (pt b' (.cells (xs.map (.int .i64)))::kl) F)
 (hs:ev l s=.slice none 0 0:=by rfl) (hx:ev l x=v:=by conv=>lhs;whnf) (hf:ah au v xs∈F:=by exact nV) (hn:Nat.blt d n=true:=by rfl) (hg:bn l g=true:=by rfl):
 R (λh=>ax P ds (⟨⟨some d,g,.append e 1 bytes s x⟩,[]⟩::rest) (act n l D pm ro) h K) B w0 kl F:=λw st=>by
 obtain⟨k,hk'⟩:∃k,xs.length=k+1:=⟨xs.length - 1,by omega⟩
 rcases st.facts _ hf with⟨rfl,_⟩|⟨i,o,f,c,cells,⟨e1,hc⟩,q2,q3⟩
 ·simp at hne
 have hcells:∀j,j<xs.length->cells[o+j]? =(xs.map (Value.int .i64))[j]?:=λj hj=>by
  obtain⟨y,u1,_⟩:=q3 j xs[j] (bO hj);have:=u1 0 (.int .i64 xs[j]) rfl;rw[bT,bO hj];simpa[au]using this
 have hlen:o+xs.length<=cells.length:=by
  have:=hcells (xs.length - 1) (by omega);have hx0:xs[xs.length - 1]? =some (xs[xs.length - 1]'(by omega)):=bO _;rw[bT,hx0]at this;have:=(fH.1 this).1;omega
 have hread:w.h.dx i o (xs.length*1)=some (xs.map (.int .i64)):=by
  rw[q2.cells.dx,jG,jH,ko,if_pos (by rw[jQ];omega)];congr 1;apply ja;intro j;rw[mo];by_cases hj:j<xs.length
  ·rw[if_pos hj,iK];exact hcells j hj
  ·rw[if_neg hj,gU (by rw[dw];omega)]
 refine IR (k:=k) (c:=0) (xs:=xs.map (.int .i64)) hn hg hs (by rw[hx,e1,hk'];rfl) (by rw[hx,e1,<- hk'];exact hread) (by rw[<- hk'];omega) λh' ag jV hnx=>?_;obtain⟨w',rfl,dL⟩:=st.fresh ag jV hnx;have:=next w.h.next w' dL
 rw[hk']at this;exact this
end
theorem WA{vl:Value}{l:List bE}{p:Int}(hl:l.length<=1000000):bJ Tryz.prog (.func 34) [vl,.int .i64 p] [] [] [ah eH vl l] (λv:Value=>v) (λ_=>[]) (λv=>[ah au v (ints (aL l p))]) (λ_=>True):=by
 refine bq _ (bP 34) λB w0=>?_;refine go ?_;refine u7 au ?_;refine dZ (λy:Nat×Value=>l.length - y.1) (λy=>[(6,.int .i64 (y.1:Int)),(5,y.2)]) (λy=>[ap au y.2 (ints (dI l p y.1))]) (λ_=>[]) (λy=>y.1<=l.length) (0,.slice none 0 0) (dz _) (hk:=by repeat (first|exact bI.nil|(apply bI.cons;(focus (repeat (first|exact ak.here|apply ak.there)))))) (body:=?_);rintro⟨i,v⟩ hi;dsimp only at hi⊢;have hcl:=Ff l p i;have hil:=vP (dI l p i);refine go ?_;refine aJ rfl (λh1=>?_) (λh1=>?_)
 ·refine go ?_;refine dh eH (k:=i) (next:=λbx0 XX x _ hx=>?_);have hc:=Fe l p i;have qY:iI l p i=(x.r&&decide (x.p=p)&&!((l.take i).any λy=>y.r&&decide (y.p=p)&&decide (y.c=x.c))):=by unfold iI;rw[hx]
  refine go ?_;refine gG (λg1=>?_) (λg1=>?_)
  ·have hF:iI l p i=(!((l.take i).any λy=>y.r&&decide (y.p=p)&&decide (y.c=x.c))&&false):=by rw[qY,g1];simp
   refine go ?_;refine dZ (λk=>i - k) (λk:Nat=>[(8,.int .i64 (k:Int)),(7,.bool (!((l.take k).any λy=>y.r&&decide (y.p=p)&&decide (y.c=x.c))&&false))]) (λ_=>[]) (λ_=>[]) (λk=>k<=i) 0 (dz _) (body:=?_);intro k hk;refine go ?_;refine aJ rfl (λh2=>?_) (λh2=>?_)
   ·refine go ?_;refine dh eH (k:=k) (next:=λbx ox y _ hy=>?_);have hs:((l.take (k+1)).any λy=>y.r&&decide (y.p=p)&&decide (y.c=x.c))=(((l.take k).any λy=>y.r&&decide (y.p=p)&&decide (y.c=x.c))||(y.r&&decide (y.p=p)&&decide (y.c=x.c))):=by rw[eT hy,List.any_append];simp
    refine go ?_;refine gG (λf1=>?_) (λf1=>?_)
    ·rw[f1,zi,zi,uj]at hs;rw[<- hs];refine go ?_;exact bC (k+1) (by omega) (by omega)
    refine go ?_;refine dh eH (k:=k) (next:=λvV vW y2 _ hy2=>?_);cases hy.symm.trans hy2;refine go ?_;refine gG (λf2=>?_) (λf2=>?_)
    ·rw[jS f2,Bool.and_false,zi,uj]at hs;rw[<- hs];refine go ?_;exact bC (k+1) (by omega) (by omega)
    refine go ?_;refine dh eH (k:=k) (next:=λWB WC y3 _ hy3=>?_);cases hy.symm.trans hy3;refine go ?_;refine dh eH (k:=i) (next:=λWE WG x4 _ hx4=>?_);cases hx.symm.trans hx4;refine go ?_;refine aJ rfl (λf3=>?_) (λf3=>?_)
    ·rw[f1,gL f2,gL f3,yZ,yZ,Bool.or_true]at hs;refine go ?_;rw[show Value.bool false=.bool (!((l.take (k+1)).any λy=>y.r&&decide (y.p=p)&&decide (y.c=x.c))&&false)by rw[hs];rfl];exact bC (k+1) (by omega) (by omega)
    ·rw[jS f3,Bool.and_false,uj]at hs;rw[<- hs];refine go ?_;exact bC (k+1) (by omega) (by omega)
   have hki:k=i:=by omega
   subst hki;rw[<- hF];refine go ?_;refine jr rfl (λf4=>?_) (λf4=>?_)
   ·rw[if_pos f4]at hc;refine go ?_;intro b64;refine go ?_;refine tC (xs:=ints (dI l p k)) au (k:Int) () (by omega) (next:=λad=>?_);rw[<- Fh,show dI l p k++[k]=dI l p (k+1)from hc.symm];refine go ?_;exact bC (k+1,.slice ad ((ints (dI l p k)).length+1) ((ints (dI l p k)).length+1)) (by show l.length - (k+1)<l.length - k;omega) (by show k+1<=_;omega)
   ·rw[if_neg (by rw[f4];simp)]at hc;rw[show dI l p k=dI l p (k+1)from hc.symm];refine go ?_;exact bC (k+1,v) (by show l.length - (k+1)<l.length - k;omega) (by show k+1<=_;omega)
  have hF:iI l p i=(!((l.take i).any λy=>y.r&&decide (y.p=p)&&decide (y.c=x.c))&&decide (x.p=p)):=by rw[qY,g1,yZ,Bool.and_comm]
  refine go ?_;refine dh eH (k:=i) (next:=λbx1 XY x1 _ hx1=>?_);cases hx.symm.trans hx1;refine go ?_;refine dZ (λk=>i - k) (λk:Nat=>[(8,.int .i64 (k:Int)),(7,.bool (!((l.take k).any λy=>y.r&&decide (y.p=p)&&decide (y.c=x.c))&&decide (x.p=p)))]) (λ_=>[]) (λ_=>[]) (λk=>k<=i) 0 (dz _) (body:=?_);intro k hk;refine go ?_;refine aJ rfl (λh2=>?_) (λh2=>?_)
  ·refine go ?_;refine dh eH (k:=k) (next:=λbx ox y _ hy=>?_);have hs:((l.take (k+1)).any λy=>y.r&&decide (y.p=p)&&decide (y.c=x.c))=(((l.take k).any λy=>y.r&&decide (y.p=p)&&decide (y.c=x.c))||(y.r&&decide (y.p=p)&&decide (y.c=x.c))):=by rw[eT hy,List.any_append];simp
   refine go ?_;refine gG (λf1=>?_) (λf1=>?_)
   ·rw[f1,zi,zi,uj]at hs;rw[<- hs];refine go ?_;exact bC (k+1) (by omega) (by omega)
   refine go ?_;refine dh eH (k:=k) (next:=λvV vW y2 _ hy2=>?_);cases hy.symm.trans hy2;refine go ?_;refine gG (λf2=>?_) (λf2=>?_)
   ·rw[jS f2,Bool.and_false,zi,uj]at hs;rw[<- hs];refine go ?_;exact bC (k+1) (by omega) (by omega)
   refine go ?_;refine dh eH (k:=k) (next:=λWB WC y3 _ hy3=>?_);cases hy.symm.trans hy3;refine go ?_;refine dh eH (k:=i) (next:=λWE WG x4 _ hx4=>?_);cases hx.symm.trans hx4;refine go ?_;refine aJ rfl (λf3=>?_) (λf3=>?_)
   ·rw[f1,gL f2,gL f3,yZ,yZ,Bool.or_true]at hs;refine go ?_;rw[show Value.bool false=.bool (!((l.take (k+1)).any λy=>y.r&&decide (y.p=p)&&decide (y.c=x.c))&&decide (x.p=p))by rw[hs];rfl];exact bC (k+1) (by omega) (by omega)
   ·rw[jS f3,Bool.and_false,uj]at hs;rw[<- hs];refine go ?_;exact bC (k+1) (by omega) (by omega)
  have hki:k=i:=by omega
  subst hki;rw[<- hF];refine go ?_;refine jr rfl (λf4=>?_) (λf4=>?_)
  ·rw[if_pos f4]at hc;refine go ?_;intro b64;refine go ?_;refine tC (xs:=ints (dI l p k)) au (k:Int) () (by omega) (next:=λad=>?_);rw[<- Fh,show dI l p k++[k]=dI l p (k+1)from hc.symm];refine go ?_;exact bC (k+1,.slice ad ((ints (dI l p k)).length+1) ((ints (dI l p k)).length+1)) (by show l.length - (k+1)<l.length - k;omega) (by show k+1<=_;omega)
  ·rw[if_neg (by rw[f4];simp)]at hc;rw[show dI l p k=dI l p (k+1)from hc.symm];refine go ?_;exact bC (k+1,v) (by show l.length - (k+1)<l.length - k;omega) (by show k+1<=_;omega)
 have hkl:i=l.length:=by omega
 subst hkl;refine go ?_;rw[show dI l p l.length=aL l p from rfl];refine dB (A:=ap au v (ints (aL l p))) (fs:=[ah au v (ints (aL l p))]) u6 (h:=?_);exact av v (hv:=rfl) (hp:=trivial)
theorem WH{vt:Value}{ts:List Int}(hl:ts.length<=1000000):bJ Tryz.prog (.func 36) [vt] [] [] [ah au vt ts] (λv:Value=>v) (λ_=>[]) (λv=>[ah au v (places ts)]) (λ_=>True):=by
 refine bq _ (bP 36) λB w0=>?_;refine go ?_;refine u7 au ?_;refine dZ (λy:Nat×Value=>ts.length - y.1) (λy=>[(4,.int .i64 (y.1:Int)),(3,y.2)]) (λy=>[ap au y.2 ((places ts).take y.1)]) (λ_=>[]) (λy=>y.1<=ts.length) (0,.slice none 0 0) (dz _) (hk:=by repeat (first|exact bI.nil|(apply bI.cons;(focus (repeat (first|exact ak.here|apply ak.there)))))) (body:=?_);rintro⟨k,v⟩ hk;dsimp only at hk⊢;have hrl:(places ts).length=ts.length:=E5;have htl:((places ts).take k).length=k:=by rw[cB];omega
 refine go ?_;refine aJ rfl (λh1=>?_) (λh1=>?_)
 ·have hx:ts[k]? =some (ts[k]'(by omega)):=bO _;generalize ts[k]'(by omega)=x at hx;refine go ?_;refine dZ (λj=>ts.length - j) (λj:Nat=>[(6,.int .i64 (j:Int)),(5,.int .i64 (1+((ts.take j).countP λm=>decide (m<x):Nat):Int))]) (λ_=>[]) (λ_=>[]) (λj=>j<=ts.length) 0 (dz _) (body:=?_);intro j hj;have hcl:((ts.take j).countP λm=>decide (m<x))<=(ts.take j).length:=F6;rw[cB]at hcl;refine go ?_;refine aJ rfl (λh2=>?_) (λh2=>?_)
  ·refine go ?_;intro _ _ z hz _ _ x2 hx2;cases hx.symm.trans hx2;have hs:((ts.take (j+1)).countP λm=>decide (m<x))=((ts.take j).countP λm=>decide (m<x))+if z<x then 1 else 0:=by rw[eT hz,F7,F8];simp
   refine go ?_;refine aJ rfl (λh3=>?_) (λh3=>?_)
   ·rw[if_pos h3]at hs;refine go ?_;rw[show(1+(((ts.take j).countP λm=>decide (m<x):Nat):Int))+1=1+(((ts.take (j+1)).countP λm=>decide (m<x):Nat):Int)by rw[hs];omega];exact bC (j+1) (by omega) (by omega)
   ·have hs2:((ts.take j).countP λm=>decide (m<x))=((ts.take (j+1)).countP λm=>decide (m<x)):=by rw[hs,if_neg h3,oH]
    rw[hs2];refine go ?_;exact bC (j+1) (by omega) (by omega)
  have hjl:j=ts.length:=by omega
  subst hjl;rw[jc];refine go ?_;intro b32;refine go ?_;have yL:=Kn hx;refine tC (xs:=(places ts).take k) au (1+((ts.countP λm=>decide (m<x):Nat):Int)) () (by omega) (next:=λad=>?_);rw[<- eT yL];refine go ?_;exact bC (k+1,.slice ad (((places ts).take k).length+1) (((places ts).take k).length+1)) (by show ts.length - (k+1)<ts.length - k;omega) (by show k+1<=_;omega)
 have hkl:k=ts.length:=by omega
 subst hkl;rw[oJ (by omega)];refine go ?_;refine dB (A:=ap au v (places ts)) (fs:=[ah au v (places ts)]) u6 (h:=?_);exact av v (hv:=rfl) (hp:=trivial)
