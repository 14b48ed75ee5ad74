/-
  The reference's graphs: checked; what is connected.
-/
import Derived.Test.YtoohgkkmdnbnfaaGreatDoorLibWE
set_option linter.all false
set_option maxRecDepth 10000
set_option maxHeartbeats 2000000
namespace Go.Proofs.YtoohgkkmdnbnfaaGreatDoor
open Go.Ideal Gph
theorem TJ{vl:Value}{xs:List Int}{z:Int}(hl:xs.length<9223372036854775808):dS Tryz.prog 87 [vl,.int .i64 z] [ai ae vl xs] (.bool (decide (z∈xs))):=by
 refine aS _ (aQ 87) λB w0=>?_;refine go ?_;refine bJ (λk=>xs.length - k) (λk:Nat=>[(5,.int .i64 (k:Int))]) (λ_=>[]) (λ_=>[]) (λk=>k<=xs.length/\z∉xs.take k) 0 ⟨by omega,by simp⟩ (body:=?_);rintro k ⟨hk,hno⟩;refine go ?_;refine aG rfl (λh1=>?_) (λh1=>?_)
 ·refine go ?_;intro _ _ x hx;refine go ?_;refine aG rfl (λh2=>?_) (λh2=>?_)
  ·refine go ?_;refine aa () (hv:=?_) (hp:=trivial);subst h2;rw[dU (bG hx)];rfl
  ·refine go ?_;refine bi (k+1) (by omega) ⟨by omega,?_⟩;rw[take_one hx,eZ,not_or];exact⟨hno,by simp;exact λe=>h2 e.symm⟩
 refine go ?_;have:k=xs.length:=by omega
 subst this;rw[eB]at hno;refine aa () (hv:=?_) (hp:=trivial);rw[cO hno];rfl
theorem aee{vg:Value}{g:List (List Int)}(hll:∀l∈g,l.length<9223372036854775808):aV Tryz.prog (.func 58) [vg] [] [] [ai (aC ae) vg g] (λb:Bool=>.int .i64 (if b then 0 else 120)) (λ_=>[]) (λ_=>[]) (λb=>(b=true↔gQ g)):=by
 refine aS _ (aQ 58) λB w0=>?_;refine go ?_;refine aG rfl (λh1=>?_) (λh1=>?_)
 ·refine go ?_;exact aa false (hv:=rfl) (hp:=⟨(λh=>by cases h),(λh=>by have:=h.len;omega)⟩)
 refine go ?_;refine bJ (λk=>g.length - k) (λk:Nat=>[(3,.int .i64 (k:Int))]) (λ_=>[]) (λ_=>[])
  (λi=>i<=g.length/\∀(i':Nat) l,i'<i->g[i']? =some l->∀(k:Nat) n,l[k]? =some n->0<=n/\n<g.length/\n≠i'/\(∀m,0<k->l[k - 1]? =some m->m<n)/\∀l',g[n.toNat]? =some l'->(i':Int)∈l') 0 ⟨by omega,λi' l h=>by omega⟩ (body:=?_)
 rintro i ⟨hi,hall⟩;refine go ?_;refine aG rfl (λh2=>?_) (λh2=>?_)
 ·obtain⟨l,sI⟩:∃l,g[i]? =some l:=⟨g[i]'(by omega),dz _⟩
  have hl1:=hll l (bG sI);refine go ?_;refine bJ (λk=>l.length - k) (λk:Nat=>[(4,.int .i64 (k:Int))]) (λ_=>[]) (λ_=>[])
   (λk=>k<=l.length/\∀(k':Nat) n,k'<k->l[k']? =some n->0<=n/\n<g.length/\n≠i/\(∀m,0<k'->l[k' - 1]? =some m->m<n)/\∀l',g[n.toNat]? =some l'->(i:Int)∈l') 0 ⟨by omega,λk' n h=>by omega⟩ (body:=?_)
  rintro k ⟨hk,hin⟩;refine go ?_;refine dm (aC ae) (next:=λ_ _ l0 (TK:Value) hl0=>?_);cases sI.symm.trans hl0;refine go ?_;refine aG rfl (λh3=>?_) (λh3=>?_)
  ·refine go ?_;refine dm (aC ae) (next:=λ_ _ l0 (TK:Value) hl0=>?_);cases sI.symm.trans hl0;refine go ?_;intro _ _ n hn;have hbad:∀(_:¬(0<=n/\n<g.length/\n≠i/\(∀m,0<k->l[k - 1]? =some m->m<n)/\∀l',g[n.toNat]? =some l'->(i:Int)∈l')),¬gQ g:=λh hG=>h (hG.ok i l sI k n hn);refine go ?_;first|with_reducible refine aN (λh4=>?_) (λh4=>?_)|with_reducible refine aO (λh4=>?_) (λh4=>?_)|with_reducible refine aL (λh4=>?_) (λh4=>?_)
   rotate_left
   ·refine go ?_;exact aa false (hv:=rfl) (hp:=⟨(λh=>by cases h),λhG=>absurd hG (hbad (λh=>by omega))⟩)
   refine go ?_;first|with_reducible refine aN (λh5=>?_) (λh5=>?_)|with_reducible refine aO (λh5=>?_) (λh5=>?_)|with_reducible refine aL (λh5=>?_) (λh5=>?_)
   rotate_left
   ·refine go ?_;exact aa false (hv:=rfl) (hp:=⟨(λh=>by cases h),λhG=>absurd hG (hbad (λh=>by omega))⟩)
   refine go ?_;first|with_reducible refine aN (λh6=>?_) (λh6=>?_)|with_reducible refine aO (λh6=>?_) (λh6=>?_)|with_reducible refine aL (λh6=>?_) (λh6=>?_)
   rotate_left
   ·refine go ?_;exact aa false (hv:=rfl) (hp:=⟨(λh=>by cases h),λhG=>absurd hG (hbad (λh=>by omega))⟩)
   refine go ?_;obtain⟨n,rfl⟩:=qB (show 0<=n by omega);first|with_reducible refine aN (λh7=>?_) (λh7=>?_)|with_reducible refine aO (λh7=>?_) (λh7=>?_)|with_reducible refine aL (λh7=>?_) (λh7=>?_)
   ·have yF:∀m,0<k->l[k - 1]? =some m->m<(n:Int):=λm hm=>by omega
    refine go ?_;refine dm (aC ae) (next:=λ_ _ l' (J7:Value) hl'=>?_);have yG:=hll l' (bG hl');refine go ?_;refine ax (TJ (xs:=l') yG) (next:=λ_ _=>?_);refine go ?_;refine lg rfl (λh9=>?_) (λh9=>?_)
    ·refine go ?_;exact aa false (hv:=rfl) (hp:=⟨(λh=>by cases h),λhG=>absurd hG (hbad (λh=>h9 (h.2.2.2.2 l' (by simpa using hl'))))⟩)
    refine go ?_;refine bi (k+1) (by omega) ⟨by omega,λk' m hk' hm=>?_⟩;by_cases e:k'=k
    ·subst e;rw[hn]at hm;cases hm;refine⟨by omega,by omega,h6,yF,λl2 hl2=>?_⟩;rw[kV]at hl2;rw[hl2]at hl';cases hl';exact h9
    ·exact hin k' m (by omega) hm
   refine go ?_;obtain⟨k,rfl⟩:∃k',k=k'+1:=⟨k - 1,by omega⟩
   refine dm (aC ae) (next:=λ_ _ l0 (TK:Value) hl0=>?_);cases sI.symm.trans hl0;refine go ?_;intro _ _ m hm;rw[show(((k+1:Nat):Int) - 1).toNat=k by omega]at hm;refine go ?_;first|with_reducible refine aN (λh8=>?_) (λh8=>?_)|with_reducible refine aO (λh8=>?_) (λh8=>?_)|with_reducible refine aL (λh8=>?_) (λh8=>?_)
   ·have yF:∀u,0<k+1->l[k+1 - 1]? =some u->u<(n:Int):=λu _ hu=>by
     rw[GA,hm]at hu;cases hu;omega
    refine go ?_;refine dm (aC ae) (next:=λ_ _ l' (J7:Value) hl'=>?_);have yG:=hll l' (bG hl');refine go ?_;refine ax (TJ (xs:=l') yG) (next:=λ_ _=>?_);refine go ?_;refine lg rfl (λh9=>?_) (λh9=>?_)
    ·refine go ?_;exact aa false (hv:=rfl) (hp:=⟨(λh=>by cases h),λhG=>absurd hG (hbad (λh=>h9 (h.2.2.2.2 l' (by simpa using hl'))))⟩)
    refine go ?_;refine bi (k+1+1) (by omega) ⟨by omega,λk' m hk' hm=>?_⟩;by_cases e:k'=k+1
    ·subst e;rw[hn]at hm;cases hm;refine⟨by omega,by omega,h6,yF,λl2 hl2=>?_⟩;rw[kV]at hl2;rw[hl2]at hl';cases hl';exact h9
    ·exact hin k' m (by omega) hm
   refine go ?_;refine aa false (hv:=rfl) (hp:=⟨(λh=>by cases h),λhG=>absurd hG (hbad (λh=>by have:=h.2.2.2.1 m (by omega) (by rw[GA];exact hm);omega))⟩)
  refine go ?_;refine bi (i+1) (by omega) ⟨by omega,λi' l2 hi' hl2=>?_⟩;by_cases e:i'=i
  ·subst e;rw[sI]at hl2;cases hl2;exact λk' n hn=>hin k' n (by have:=(bA.1 hn).1;omega) hn
  ·exact hall i' l2 (by omega) hl2
 refine go ?_;refine aa true (hv:=rfl) (hp:=⟨λ_=>⟨by omega,λi' l hl=>hall i' l (by have:=(bA.1 hl).1;omega) hl⟩,λ_=>rfl⟩)
theorem gQ.RD{g:List (List Int)}(h:gQ g):lV g:=λi l hl n hn=>by
 obtain⟨k,hk⟩:=ku hn;have:=h.ok i l hl k n hk;exact⟨⟨this.1,this.2.1⟩,this.2.2.2.2⟩
def Snd(g:List (List Int))(jh:List Bool)(s:Int)(met:List Bool):Prop:=∀n:Nat,n<g.length->ym met n=true->mI g jh s n
structure Swp(g:List (List Int))(jh:List Bool)(s:Nat)(TL met:List Bool)(more:Bool):Prop where
 len:met.length=g.length
 snd:Snd g jh s met
 st:ym met s=true
 same:more=false->met=TL
 less:more=true->left met<left TL
theorem iI{va:Value}{xs:List Int}{lo hi:Int}(hl:xs.length<9223372036854775808):dS Tryz.prog 57 [va,.int .i64 lo,.int .i64 hi] [ai ae va xs] (.bool (gK xs lo hi)):=by
 refine aS _ (aQ 57) λB w0=>?_;refine go ?_;refine bJ (λk=>xs.length - k) (λk:Nat=>[(7,.int .i64 (k:Int))]) (λ_=>[]) (λ_=>[]) (λk=>k<=xs.length/\∀x∈xs.take k,lo<=x/\x<=hi) 0 ⟨dD _,by simp⟩ (body:=?_);rintro k ⟨hk,hall⟩;refine go ?_;refine aG rfl (λh2=>?_) (λh2=>?_)
 ·refine go ?_;intro _ _ x hx;have hxm:=bG hx;have no:¬(lo<=x/\x<=hi)->gK xs lo hi=false:=λh=>cO λhw=>h (hw x hxm);refine go ?_;first|with_reducible refine aN (λh3=>?_) (λh3=>?_)|with_reducible refine aO (λh3=>?_) (λh3=>?_)|with_reducible refine aL (λh3=>?_) (λh3=>?_)
  rotate_left
  ·refine go ?_;refine aa () (hv:=?_) (hp:=trivial);rw[no (by omega)];rfl
  refine go ?_;intro _ _ x' hx';cases hx.symm.trans hx';refine go ?_;refine aG rfl (λh4=>?_) (λh4=>?_)
  ·refine go ?_;refine aa () (hv:=?_) (hp:=trivial);rw[no (by omega)];rfl
  refine go ?_;refine bi (k+1) (by omega) ⟨by omega,λs hs=>?_⟩;rw[take_one hx,eZ]at hs;rcases hs with hs|hs
  ·exact hall s hs
  ·rw[bC.1 hs];omega
 have hkl:k=xs.length:=by omega
 subst hkl;rw[eB]at hall;refine go ?_;refine aa () (hv:=?_) (hp:=trivial);rw[gK,dU hall];rfl
theorem aeg{vc:Value}{cells:List Int}(hl:cells.length<9223372036854775808):dS Tryz.prog 88 [vc] [ai ae vc cells] (.bool (decide cells.Nodup)):=by
 refine aS _ (aQ 88) λB w0=>?_;refine go ?_;refine bJ (λk=>cells.length - k) (λk:Nat=>[(3,.int .i64 (k:Int))]) (λ_=>[]) (λ_=>[]) (λk=>k<=cells.length/\(cells.take k).Nodup) 0 ⟨dD _,by simp⟩ (body:=?_);rintro k ⟨hk,hnd⟩;refine go ?_;refine aG rfl (λh1=>?_) (λh1=>?_)
 ·have hck:cells[k]? =some (cells[k]'(by omega)):=dz _;generalize cells[k]'(by omega)=c at hck;refine go ?_;refine bJ (λj=>k - j) (λj:Nat=>[(4,.int .i64 (j:Int))]) (λ_=>[]) (λ_=>[]) (λj=>j<=k/\c∉cells.take j) 0 ⟨dD _,by simp⟩ (body:=?_);rintro j ⟨hj,hno⟩;refine go ?_;refine aG rfl (λh2=>?_) (λh2=>?_)
  ·refine go ?_;intro _ _ c' hc' _ _ d hd;cases hck.symm.trans hc';refine go ?_;refine aG rfl (λh3=>?_) (λh3=>?_)
   ·refine go ?_;refine aa () (hv:=?_) (hp:=trivial);have:¬cells.Nodup:=λhall=>by
     have h4:(cells.take (k+1)).Nodup:=List.Nodup.sublist (Mc _ _) hall;rw[take_one hck,gM]at h4;have hm:d∈cells.take k:=List.mem_take_iff_getElem.2 ⟨j,by have:=(bA.1 hd).1;omega,(bA.1 hd).2⟩;exact h4.2.2 d hm c (by simp) h3.symm
    rw[cO this];rfl
   refine go ?_;refine bi (j+1) (by omega) ⟨by omega,?_⟩;rw[take_one hd,eZ,not_or];exact⟨hno,by simp;exact h3⟩
  have hjk:j=k:=by omega
  subst hjk;refine go ?_;exact bi (j+1) (by omega) ⟨by omega,Td hnd hck hno⟩
 have hkl:k=cells.length:=by omega
 subst hkl;rw[eB]at hnd;refine go ?_;refine aa () (hv:=?_) (hp:=trivial);rw[dU hnd];rfl
theorem uJ{qc:Int}{m:Nat}{kd:Int}{cells:List Int}{fZ gp gF gG:Int}{runs:List Int}{jB jC:Int}(hsh:1<<<m=2^m)(hcell:∀x∈cells,0<=x/\x<qc)(hnd:cells.Nodup)(hkd:1<=kd/\kd<=9)
 (two:kd=6\/kd=7->cells.length=2) (all:8<=kd->(cells.length:Int)=qc) (ord:8<=kd->∀(i:Nat) x,cells[i]? =some x->x=i):
 ni qc (m:Int) ⟨kd,cells,fZ,gp,gF,gG,runs,jB,jC⟩↔gK [fZ,gp] 0 ((1<<<m:Nat) - 1:Int)=true/\gK [gF,gG] 0 65536=true/\runs.length<=8/\gK runs 1 256=true:=by
 constructor
 ·intro h;have h1:=h.set;have h2:=h.other;have h3:=h.lo;have h4:=h.hi;dsimp only at h1 h2 h3 h4;rw[kV]at h1 h2;refine⟨Bc.2 ⟨⟨h1.1,by omega⟩,h2.1,by omega⟩,Bc.2 ⟨h3,h4⟩,h.CY,dU h.runs⟩
 ·rintro⟨h1,h2,h3,h4⟩;rw[Bc]at h1 h2;exact{cell:=λi x hx=>⟨(hcell x (bG hx)).1,(hcell x (bG hx)).2,λh=>ord h i x hx⟩,nd:=hnd,kind:=hkd,two:=two,all:=all,set:=⟨h1.1.1,by rw[kV];have:=h1.1.2;show fZ<((2^m:Nat):Int);omega⟩,other:=⟨h1.2.1,by rw[kV];have:=h1.2.2;show gp<((2^m:Nat):Int);omega⟩,lo:=h2.1,hi:=h2.2,CY:=h3,runs:=iJ h4}
theorem aeh{qc:Int}{m:Nat}{c:iU}{v1 v2:Value}(hq:1<=qc/\qc<=256)(hm:1<=m/\m<=16)(hcs:Bb c):
 aV Tryz.prog (.func 59) [.agg ⟨Dr c v1 v2⟩,.int .i64 qc,.int .i64 (m:Int)] [] [] [ai ae v1 c.cells,ai ae v2 c.runs] (λb:Bool=>.bool b) (λ_=>[]) (λ_=>[]) (λb=>(b=true↔ni qc (m:Int) c)):=by
 obtain⟨kd,cells,fZ,gp,gF,gG,runs,jB,jC⟩:=c;dsimp only[Dr];refine aS _ (aQ 59) λB w0=>?_;have hcl:=hcs.cells;have hrl:=hcs.runs;dsimp only at hcl hrl;refine go ?_;intro b3;refine aZ (fo (b:=b3)) (h:=?_);refine go ?_;first|with_reducible refine aN (λh1=>?_) (λh1=>?_)|with_reducible refine aO (λh1=>?_) (λh1=>?_)|with_reducible refine aL (λh1=>?_) (λh1=>?_)
 rotate_left
 ·refine go ?_;refine aa false (hv:=rfl) (hp:=⟨(λh=>by cases h),λh=>False.elim ?_⟩);have:=h.kind;dsimp only at this;omega
 refine go ?_;first|with_reducible refine aN (λh2=>?_) (λh2=>?_)|with_reducible refine aO (λh2=>?_) (λh2=>?_)|with_reducible refine aL (λh2=>?_) (λh2=>?_)
 rotate_left
 ·refine go ?_;refine aa false (hv:=rfl) (hp:=⟨(λh=>by cases h),λh=>False.elim ?_⟩);have:=h.kind;dsimp only at this;omega
 refine go ?_;first|with_reducible refine aN (λh3=>?_) (λh3=>?_)|with_reducible refine aO (λh3=>?_) (λh3=>?_)|with_reducible refine aL (λh3=>?_) (λh3=>?_)
 rotate_left
 ·refine go ?_;refine aa false (hv:=rfl) (hp:=⟨(λh=>by cases h),λh=>False.elim ?_⟩);rcases h.len with h4|h4
  ·dsimp only at h4;omega
  ·dsimp only at h4;subst h4;simp at h3;omega
 refine go ?_;refine ax (iI (xs:=cells) (lo:=0) (hi:=qc - 1) hcl) (next:=λ_ _=>?_);refine go ?_;cases h4:gK cells 0 (qc - 1)with
 |false=>
  refine go ?_;refine aa false (hv:=rfl) (hp:=⟨(λh=>by cases h),λh=>False.elim ?_⟩);have h4:=uP h4;refine h4 λx hx=>?_;obtain⟨i,hi⟩:=ku hx;have:=h.cell i x hi;omega
 |true=>
 have h4:=iJ h4;refine go ?_;refine ax (aeg (cells:=cells) hcl) (next:=λ_ _=>?_);refine go ?_;refine lg rfl (λh5=>?_) (λh5=>?_)
 ·refine go ?_;refine aa false (hv:=rfl) (hp:=⟨(λh=>by cases h),λh=>False.elim ?_⟩);exact h5 h.nd
 have hsh:1<<<m=2^m:=by rw[Gw,uQ]
 have hsm:2^m<=2^16:=Nat.pow_le_pow_right (by omega) (by omega);have hsp:0<2^m:=Nat.two_pow_pos m;have hcell:∀x∈cells,0<=x/\x<qc:=λx hx=>by have:=h4 x hx;omega
 have hks:kd=1\/kd=2\/kd=3\/kd=4\/kd=5\/kd=6\/kd=7\/kd=8\/kd=9:=by omega
 rcases hks with rfl|rfl|rfl|rfl|rfl|rfl|rfl|rfl|rfl
 ·refine go ?_;refine bJ (λk=>cells.length - k) (λk:Nat=>[(7,.int .i64 (k:Int))]) (λ_=>[]) (λ_=>[]) (λk=>k<=cells.length) 0 (dD _) (body:=?_);intro k hk;refine go ?_;refine aG rfl (λe1=>?_) (λe1=>?_)
  ·refine go ?_;exact bi (k+1) (by omega) (by omega)
  have dN:=uJ (qc:=qc) (m:=m) (kd:=1) (cells:=cells) (fZ:=fZ) (gp:=gp) (gF:=gF) (gG:=gG) (runs:=runs) (jB:=jB) (jC:=jC) hsh hcell h5 (by omega) (λh=>by omega) (λh=>by omega) (λh=>by omega);refine go ?_;refine qV (qa (a:=1) (b:=m) rfl rfl (by omega) (by omega)) ?_;refine go ?_;intro kJ;refine aZ (kK (b:=kJ) (f:=0) (c:=2)) (h:=?_);refine go ?_;refine ax (iI (xs:=[fZ,gp]) (lo:=0) (hi:=((1<<<m:Nat):Int) - 1) (by simp)) (next:=λ_ _=>?_);refine go ?_;first|with_reducible refine aN (λg1=>?_) (λg1=>?_)|with_reducible refine aO (λg1=>?_) (λg1=>?_)|with_reducible refine aL (λg1=>?_) (λg1=>?_)
  ·refine go ?_;exact aa false (hv:=rfl) (hp:=⟨(λh=>by cases h),λh=>by rw[(dN.1 h).1]at g1;cases g1⟩)
  refine go ?_;intro l8;refine aZ (kK (b:=l8) (f:=0) (c:=2)) (h:=?_);refine ax (iI (xs:=[gF,gG]) (lo:=0) (hi:=65536) (by simp)) (next:=λ_ _=>?_);refine go ?_;first|with_reducible refine aN (λg2=>?_) (λg2=>?_)|with_reducible refine aO (λg2=>?_) (λg2=>?_)|with_reducible refine aL (λg2=>?_) (λg2=>?_)
  ·refine go ?_;exact aa false (hv:=rfl) (hp:=⟨(λh=>by cases h),λh=>by rw[(dN.1 h).2.1]at g2;cases g2⟩)
  refine go ?_;first|with_reducible refine aN (λg3=>?_) (λg3=>?_)|with_reducible refine aO (λg3=>?_) (λg3=>?_)|with_reducible refine aL (λg3=>?_) (λg3=>?_)
  ·refine go ?_;exact aa false (hv:=rfl) (hp:=⟨(λh=>by cases h),λh=>by have:=(dN.1 h).2.2.1;omega⟩)
  refine go ?_;refine ax (iI (xs:=runs) (lo:=1) (hi:=256) hrl) (next:=λ_ _=>?_);refine go ?_;refine aa (gK runs 1 256) (hv:=rfl) (hp:=?_);rw[dN];exact⟨λh=>⟨g1,g2,by omega,h⟩,λh=>h.2.2.2⟩
 ·refine go ?_;refine bJ (λk=>cells.length - k) (λk:Nat=>[(7,.int .i64 (k:Int))]) (λ_=>[]) (λ_=>[]) (λk=>k<=cells.length) 0 (dD _) (body:=?_);intro k hk;refine go ?_;refine aG rfl (λe1=>?_) (λe1=>?_)
  ·refine go ?_;exact bi (k+1) (by omega) (by omega)
  have dN:=uJ (qc:=qc) (m:=m) (kd:=2) (cells:=cells) (fZ:=fZ) (gp:=gp) (gF:=gF) (gG:=gG) (runs:=runs) (jB:=jB) (jC:=jC) hsh hcell h5 (by omega) (λh=>by omega) (λh=>by omega) (λh=>by omega);refine go ?_;refine qV (qa (a:=1) (b:=m) rfl rfl (by omega) (by omega)) ?_;refine go ?_;intro kJ;refine aZ (kK (b:=kJ) (f:=0) (c:=2)) (h:=?_);refine go ?_;refine ax (iI (xs:=[fZ,gp]) (lo:=0) (hi:=((1<<<m:Nat):Int) - 1) (by simp)) (next:=λ_ _=>?_);refine go ?_;first|with_reducible refine aN (λg1=>?_) (λg1=>?_)|with_reducible refine aO (λg1=>?_) (λg1=>?_)|with_reducible refine aL (λg1=>?_) (λg1=>?_)
  ·refine go ?_;exact aa false (hv:=rfl) (hp:=⟨(λh=>by cases h),λh=>by rw[(dN.1 h).1]at g1;cases g1⟩)
  refine go ?_;intro l8;refine aZ (kK (b:=l8) (f:=0) (c:=2)) (h:=?_);refine ax (iI (xs:=[gF,gG]) (lo:=0) (hi:=65536) (by simp)) (next:=λ_ _=>?_);refine go ?_;first|with_reducible refine aN (λg2=>?_) (λg2=>?_)|with_reducible refine aO (λg2=>?_) (λg2=>?_)|with_reducible refine aL (λg2=>?_) (λg2=>?_)
  ·refine go ?_;exact aa false (hv:=rfl) (hp:=⟨(λh=>by cases h),λh=>by rw[(dN.1 h).2.1]at g2;cases g2⟩)
  refine go ?_;first|with_reducible refine aN (λg3=>?_) (λg3=>?_)|with_reducible refine aO (λg3=>?_) (λg3=>?_)|with_reducible refine aL (λg3=>?_) (λg3=>?_)
  ·refine go ?_;exact aa false (hv:=rfl) (hp:=⟨(λh=>by cases h),λh=>by have:=(dN.1 h).2.2.1;omega⟩)
  refine go ?_;refine ax (iI (xs:=runs) (lo:=1) (hi:=256) hrl) (next:=λ_ _=>?_);refine go ?_;refine aa (gK runs 1 256) (hv:=rfl) (hp:=?_);rw[dN];exact⟨λh=>⟨g1,g2,by omega,h⟩,λh=>h.2.2.2⟩
 ·refine go ?_;refine bJ (λk=>cells.length - k) (λk:Nat=>[(7,.int .i64 (k:Int))]) (λ_=>[]) (λ_=>[]) (λk=>k<=cells.length) 0 (dD _) (body:=?_);intro k hk;refine go ?_;refine aG rfl (λe1=>?_) (λe1=>?_)
  ·refine go ?_;exact bi (k+1) (by omega) (by omega)
  have dN:=uJ (qc:=qc) (m:=m) (kd:=3) (cells:=cells) (fZ:=fZ) (gp:=gp) (gF:=gF) (gG:=gG) (runs:=runs) (jB:=jB) (jC:=jC) hsh hcell h5 (by omega) (λh=>by omega) (λh=>by omega) (λh=>by omega);refine go ?_;refine qV (qa (a:=1) (b:=m) rfl rfl (by omega) (by omega)) ?_;refine go ?_;intro kJ;refine aZ (kK (b:=kJ) (f:=0) (c:=2)) (h:=?_);refine go ?_;refine ax (iI (xs:=[fZ,gp]) (lo:=0) (hi:=((1<<<m:Nat):Int) - 1) (by simp)) (next:=λ_ _=>?_);refine go ?_;first|with_reducible refine aN (λg1=>?_) (λg1=>?_)|with_reducible refine aO (λg1=>?_) (λg1=>?_)|with_reducible refine aL (λg1=>?_) (λg1=>?_)
  ·refine go ?_;exact aa false (hv:=rfl) (hp:=⟨(λh=>by cases h),λh=>by rw[(dN.1 h).1]at g1;cases g1⟩)
  refine go ?_;intro l8;refine aZ (kK (b:=l8) (f:=0) (c:=2)) (h:=?_);refine ax (iI (xs:=[gF,gG]) (lo:=0) (hi:=65536) (by simp)) (next:=λ_ _=>?_);refine go ?_;first|with_reducible refine aN (λg2=>?_) (λg2=>?_)|with_reducible refine aO (λg2=>?_) (λg2=>?_)|with_reducible refine aL (λg2=>?_) (λg2=>?_)
  ·refine go ?_;exact aa false (hv:=rfl) (hp:=⟨(λh=>by cases h),λh=>by rw[(dN.1 h).2.1]at g2;cases g2⟩)
  refine go ?_;first|with_reducible refine aN (λg3=>?_) (λg3=>?_)|with_reducible refine aO (λg3=>?_) (λg3=>?_)|with_reducible refine aL (λg3=>?_) (λg3=>?_)
  ·refine go ?_;exact aa false (hv:=rfl) (hp:=⟨(λh=>by cases h),λh=>by have:=(dN.1 h).2.2.1;omega⟩)
  refine go ?_;refine ax (iI (xs:=runs) (lo:=1) (hi:=256) hrl) (next:=λ_ _=>?_);refine go ?_;refine aa (gK runs 1 256) (hv:=rfl) (hp:=?_);rw[dN];exact⟨λh=>⟨g1,g2,by omega,h⟩,λh=>h.2.2.2⟩
 ·refine go ?_;refine bJ (λk=>cells.length - k) (λk:Nat=>[(7,.int .i64 (k:Int))]) (λ_=>[]) (λ_=>[]) (λk=>k<=cells.length) 0 (dD _) (body:=?_);intro k hk;refine go ?_;refine aG rfl (λe1=>?_) (λe1=>?_)
  ·refine go ?_;exact bi (k+1) (by omega) (by omega)
  have dN:=uJ (qc:=qc) (m:=m) (kd:=4) (cells:=cells) (fZ:=fZ) (gp:=gp) (gF:=gF) (gG:=gG) (runs:=runs) (jB:=jB) (jC:=jC) hsh hcell h5 (by omega) (λh=>by omega) (λh=>by omega) (λh=>by omega);refine go ?_;refine qV (qa (a:=1) (b:=m) rfl rfl (by omega) (by omega)) ?_;refine go ?_;intro kJ;refine aZ (kK (b:=kJ) (f:=0) (c:=2)) (h:=?_);refine go ?_;refine ax (iI (xs:=[fZ,gp]) (lo:=0) (hi:=((1<<<m:Nat):Int) - 1) (by simp)) (next:=λ_ _=>?_);refine go ?_;first|with_reducible refine aN (λg1=>?_) (λg1=>?_)|with_reducible refine aO (λg1=>?_) (λg1=>?_)|with_reducible refine aL (λg1=>?_) (λg1=>?_)
  ·refine go ?_;exact aa false (hv:=rfl) (hp:=⟨(λh=>by cases h),λh=>by rw[(dN.1 h).1]at g1;cases g1⟩)
  refine go ?_;intro l8;refine aZ (kK (b:=l8) (f:=0) (c:=2)) (h:=?_);refine ax (iI (xs:=[gF,gG]) (lo:=0) (hi:=65536) (by simp)) (next:=λ_ _=>?_);refine go ?_;first|with_reducible refine aN (λg2=>?_) (λg2=>?_)|with_reducible refine aO (λg2=>?_) (λg2=>?_)|with_reducible refine aL (λg2=>?_) (λg2=>?_)
  ·refine go ?_;exact aa false (hv:=rfl) (hp:=⟨(λh=>by cases h),λh=>by rw[(dN.1 h).2.1]at g2;cases g2⟩)
  refine go ?_;first|with_reducible refine aN (λg3=>?_) (λg3=>?_)|with_reducible refine aO (λg3=>?_) (λg3=>?_)|with_reducible refine aL (λg3=>?_) (λg3=>?_)
  ·refine go ?_;exact aa false (hv:=rfl) (hp:=⟨(λh=>by cases h),λh=>by have:=(dN.1 h).2.2.1;omega⟩)
  refine go ?_;refine ax (iI (xs:=runs) (lo:=1) (hi:=256) hrl) (next:=λ_ _=>?_);refine go ?_;refine aa (gK runs 1 256) (hv:=rfl) (hp:=?_);rw[dN];exact⟨λh=>⟨g1,g2,by omega,h⟩,λh=>h.2.2.2⟩
 ·refine go ?_;refine bJ (λk=>cells.length - k) (λk:Nat=>[(7,.int .i64 (k:Int))]) (λ_=>[]) (λ_=>[]) (λk=>k<=cells.length) 0 (dD _) (body:=?_);intro k hk;refine go ?_;refine aG rfl (λe1=>?_) (λe1=>?_)
  ·refine go ?_;exact bi (k+1) (by omega) (by omega)
  have dN:=uJ (qc:=qc) (m:=m) (kd:=5) (cells:=cells) (fZ:=fZ) (gp:=gp) (gF:=gF) (gG:=gG) (runs:=runs) (jB:=jB) (jC:=jC) hsh hcell h5 (by omega) (λh=>by omega) (λh=>by omega) (λh=>by omega);refine go ?_;refine qV (qa (a:=1) (b:=m) rfl rfl (by omega) (by omega)) ?_;refine go ?_;intro kJ;refine aZ (kK (b:=kJ) (f:=0) (c:=2)) (h:=?_);refine go ?_;refine ax (iI (xs:=[fZ,gp]) (lo:=0) (hi:=((1<<<m:Nat):Int) - 1) (by simp)) (next:=λ_ _=>?_);refine go ?_;first|with_reducible refine aN (λg1=>?_) (λg1=>?_)|with_reducible refine aO (λg1=>?_) (λg1=>?_)|with_reducible refine aL (λg1=>?_) (λg1=>?_)
  ·refine go ?_;exact aa false (hv:=rfl) (hp:=⟨(λh=>by cases h),λh=>by rw[(dN.1 h).1]at g1;cases g1⟩)
  refine go ?_;intro l8;refine aZ (kK (b:=l8) (f:=0) (c:=2)) (h:=?_);refine ax (iI (xs:=[gF,gG]) (lo:=0) (hi:=65536) (by simp)) (next:=λ_ _=>?_);refine go ?_;first|with_reducible refine aN (λg2=>?_) (λg2=>?_)|with_reducible refine aO (λg2=>?_) (λg2=>?_)|with_reducible refine aL (λg2=>?_) (λg2=>?_)
  ·refine go ?_;exact aa false (hv:=rfl) (hp:=⟨(λh=>by cases h),λh=>by rw[(dN.1 h).2.1]at g2;cases g2⟩)
  refine go ?_;first|with_reducible refine aN (λg3=>?_) (λg3=>?_)|with_reducible refine aO (λg3=>?_) (λg3=>?_)|with_reducible refine aL (λg3=>?_) (λg3=>?_)
  ·refine go ?_;exact aa false (hv:=rfl) (hp:=⟨(λh=>by cases h),λh=>by have:=(dN.1 h).2.2.1;omega⟩)
  refine go ?_;refine ax (iI (xs:=runs) (lo:=1) (hi:=256) hrl) (next:=λ_ _=>?_);refine go ?_;refine aa (gK runs 1 256) (hv:=rfl) (hp:=?_);rw[dN];exact⟨λh=>⟨g1,g2,by omega,h⟩,λh=>h.2.2.2⟩
 ·refine go ?_;refine aG rfl (λe0=>?_) (λe0=>?_)
  ·refine go ?_;refine aa false (hv:=rfl) (hp:=⟨(λh=>by cases h),λh=>False.elim ?_⟩);have:=h.two (show(6:Int)=6\/(6:Int)=7 by omega);exact e0 (by show(cells.length:Int)=2;dsimp only at this;omega)
  refine go ?_;refine bJ (λk=>cells.length - k) (λk:Nat=>[(7,.int .i64 (k:Int))]) (λ_=>[]) (λ_=>[]) (λk=>k<=cells.length) 0 (dD _) (body:=?_);intro k hk;refine go ?_;refine aG rfl (λe1=>?_) (λe1=>?_)
  ·refine go ?_;exact bi (k+1) (by omega) (by omega)
  have dN:=uJ (qc:=qc) (m:=m) (kd:=6) (cells:=cells) (fZ:=fZ) (gp:=gp) (gF:=gF) (gG:=gG) (runs:=runs) (jB:=jB) (jC:=jC) hsh hcell h5 (by omega) (λ_=>by omega) (λh=>by omega) (λh=>by omega);refine go ?_;refine qV (qa (a:=1) (b:=m) rfl rfl (by omega) (by omega)) ?_;refine go ?_;intro kJ;refine aZ (kK (b:=kJ) (f:=0) (c:=2)) (h:=?_);refine go ?_;refine ax (iI (xs:=[fZ,gp]) (lo:=0) (hi:=((1<<<m:Nat):Int) - 1) (by simp)) (next:=λ_ _=>?_);refine go ?_;first|with_reducible refine aN (λg1=>?_) (λg1=>?_)|with_reducible refine aO (λg1=>?_) (λg1=>?_)|with_reducible refine aL (λg1=>?_) (λg1=>?_)
  ·refine go ?_;exact aa false (hv:=rfl) (hp:=⟨(λh=>by cases h),λh=>by rw[(dN.1 h).1]at g1;cases g1⟩)
  refine go ?_;intro l8;refine aZ (kK (b:=l8) (f:=0) (c:=2)) (h:=?_);refine ax (iI (xs:=[gF,gG]) (lo:=0) (hi:=65536) (by simp)) (next:=λ_ _=>?_);refine go ?_;first|with_reducible refine aN (λg2=>?_) (λg2=>?_)|with_reducible refine aO (λg2=>?_) (λg2=>?_)|with_reducible refine aL (λg2=>?_) (λg2=>?_)
  ·refine go ?_;exact aa false (hv:=rfl) (hp:=⟨(λh=>by cases h),λh=>by rw[(dN.1 h).2.1]at g2;cases g2⟩)
  refine go ?_;first|with_reducible refine aN (λg3=>?_) (λg3=>?_)|with_reducible refine aO (λg3=>?_) (λg3=>?_)|with_reducible refine aL (λg3=>?_) (λg3=>?_)
  ·refine go ?_;exact aa false (hv:=rfl) (hp:=⟨(λh=>by cases h),λh=>by have:=(dN.1 h).2.2.1;omega⟩)
  refine go ?_;refine ax (iI (xs:=runs) (lo:=1) (hi:=256) hrl) (next:=λ_ _=>?_);refine go ?_;refine aa (gK runs 1 256) (hv:=rfl) (hp:=?_);rw[dN];exact⟨λh=>⟨g1,g2,by omega,h⟩,λh=>h.2.2.2⟩
 ·refine go ?_;refine aG rfl (λe0=>?_) (λe0=>?_)
  ·refine go ?_;refine aa false (hv:=rfl) (hp:=⟨(λh=>by cases h),λh=>False.elim ?_⟩);have:=h.two (show(7:Int)=6\/(7:Int)=7 by omega);exact e0 (by show(cells.length:Int)=2;dsimp only at this;omega)
  refine go ?_;refine bJ (λk=>cells.length - k) (λk:Nat=>[(7,.int .i64 (k:Int))]) (λ_=>[]) (λ_=>[]) (λk=>k<=cells.length) 0 (dD _) (body:=?_);intro k hk;refine go ?_;refine aG rfl (λe1=>?_) (λe1=>?_)
  ·refine go ?_;exact bi (k+1) (by omega) (by omega)
  have dN:=uJ (qc:=qc) (m:=m) (kd:=7) (cells:=cells) (fZ:=fZ) (gp:=gp) (gF:=gF) (gG:=gG) (runs:=runs) (jB:=jB) (jC:=jC) hsh hcell h5 (by omega) (λ_=>by omega) (λh=>by omega) (λh=>by omega);refine go ?_;refine qV (qa (a:=1) (b:=m) rfl rfl (by omega) (by omega)) ?_;refine go ?_;intro kJ;refine aZ (kK (b:=kJ) (f:=0) (c:=2)) (h:=?_);refine go ?_;refine ax (iI (xs:=[fZ,gp]) (lo:=0) (hi:=((1<<<m:Nat):Int) - 1) (by simp)) (next:=λ_ _=>?_);refine go ?_;first|with_reducible refine aN (λg1=>?_) (λg1=>?_)|with_reducible refine aO (λg1=>?_) (λg1=>?_)|with_reducible refine aL (λg1=>?_) (λg1=>?_)
  ·refine go ?_;exact aa false (hv:=rfl) (hp:=⟨(λh=>by cases h),λh=>by rw[(dN.1 h).1]at g1;cases g1⟩)
  refine go ?_;intro l8;refine aZ (kK (b:=l8) (f:=0) (c:=2)) (h:=?_);refine ax (iI (xs:=[gF,gG]) (lo:=0) (hi:=65536) (by simp)) (next:=λ_ _=>?_);refine go ?_;first|with_reducible refine aN (λg2=>?_) (λg2=>?_)|with_reducible refine aO (λg2=>?_) (λg2=>?_)|with_reducible refine aL (λg2=>?_) (λg2=>?_)
  ·refine go ?_;exact aa false (hv:=rfl) (hp:=⟨(λh=>by cases h),λh=>by rw[(dN.1 h).2.1]at g2;cases g2⟩)
  refine go ?_;first|with_reducible refine aN (λg3=>?_) (λg3=>?_)|with_reducible refine aO (λg3=>?_) (λg3=>?_)|with_reducible refine aL (λg3=>?_) (λg3=>?_)
  ·refine go ?_;exact aa false (hv:=rfl) (hp:=⟨(λh=>by cases h),λh=>by have:=(dN.1 h).2.2.1;omega⟩)
  refine go ?_;refine ax (iI (xs:=runs) (lo:=1) (hi:=256) hrl) (next:=λ_ _=>?_);refine go ?_;refine aa (gK runs 1 256) (hv:=rfl) (hp:=?_);rw[dN];exact⟨λh=>⟨g1,g2,by omega,h⟩,λh=>h.2.2.2⟩
 ·refine go ?_;refine aG rfl (λe0=>?_) (λe0=>?_)
  ·refine go ?_;refine aa false (hv:=rfl) (hp:=⟨(λh=>by cases h),λh=>False.elim ?_⟩);exact e0 (h.all (show(8:Int)<=8 by omega))
  refine go ?_;refine bJ (λk=>cells.length - k) (λk:Nat=>[(7,.int .i64 (k:Int))]) (λ_=>[]) (λ_=>[]) (λk=>k<=cells.length/\∀(i:Nat) x,i<k->cells[i]? =some x->x=i) 0 ⟨dD _,λi x hi=>by omega⟩ (body:=?_);rintro k ⟨hk,ho⟩;refine go ?_;refine aG rfl (λe1=>?_) (λe1=>?_)
  ·refine go ?_;intro _ _ x hx;refine go ?_;refine aG rfl (λe2=>?_) (λe2=>?_)
   ·refine go ?_;refine aa false (hv:=rfl) (hp:=⟨(λh=>by cases h),λh=>False.elim ?_⟩);exact e2 ((h.cell k x hx).2.2 (show(8:Int)<=8 by omega))
   refine go ?_;refine bi (k+1) (by omega) ⟨by omega,λi y hi hy=>?_⟩;by_cases e:i=k
   ·subst e;rw[hx]at hy;cases hy;omega
   ·exact ho i y (by omega) hy
  have dN:=uJ (qc:=qc) (m:=m) (kd:=8) (cells:=cells) (fZ:=fZ) (gp:=gp) (gF:=gF) (gG:=gG) (runs:=runs) (jB:=jB) (jC:=jC) hsh hcell h5 (by omega) (λh=>by omega) (λ_=>by omega) (λ_ i x hx=>ho i x (by have:=(bA.1 hx).1;omega) hx);refine go ?_;refine qV (qa (a:=1) (b:=m) rfl rfl (by omega) (by omega)) ?_;refine go ?_;intro kJ;refine aZ (kK (b:=kJ) (f:=0) (c:=2)) (h:=?_);refine go ?_;refine ax (iI (xs:=[fZ,gp]) (lo:=0) (hi:=((1<<<m:Nat):Int) - 1) (by simp)) (next:=λ_ _=>?_);refine go ?_;first|with_reducible refine aN (λg1=>?_) (λg1=>?_)|with_reducible refine aO (λg1=>?_) (λg1=>?_)|with_reducible refine aL (λg1=>?_) (λg1=>?_)
  ·refine go ?_;exact aa false (hv:=rfl) (hp:=⟨(λh=>by cases h),λh=>by rw[(dN.1 h).1]at g1;cases g1⟩)
  refine go ?_;intro l8;refine aZ (kK (b:=l8) (f:=0) (c:=2)) (h:=?_);refine ax (iI (xs:=[gF,gG]) (lo:=0) (hi:=65536) (by simp)) (next:=λ_ _=>?_);refine go ?_;first|with_reducible refine aN (λg2=>?_) (λg2=>?_)|with_reducible refine aO (λg2=>?_) (λg2=>?_)|with_reducible refine aL (λg2=>?_) (λg2=>?_)
  ·refine go ?_;exact aa false (hv:=rfl) (hp:=⟨(λh=>by cases h),λh=>by rw[(dN.1 h).2.1]at g2;cases g2⟩)
  refine go ?_;first|with_reducible refine aN (λg3=>?_) (λg3=>?_)|with_reducible refine aO (λg3=>?_) (λg3=>?_)|with_reducible refine aL (λg3=>?_) (λg3=>?_)
  ·refine go ?_;exact aa false (hv:=rfl) (hp:=⟨(λh=>by cases h),λh=>by have:=(dN.1 h).2.2.1;omega⟩)
  refine go ?_;refine ax (iI (xs:=runs) (lo:=1) (hi:=256) hrl) (next:=λ_ _=>?_);refine go ?_;refine aa (gK runs 1 256) (hv:=rfl) (hp:=?_);rw[dN];exact⟨λh=>⟨g1,g2,by omega,h⟩,λh=>h.2.2.2⟩
 ·refine go ?_;refine aG rfl (λe0=>?_) (λe0=>?_)
  ·refine go ?_;refine aa false (hv:=rfl) (hp:=⟨(λh=>by cases h),λh=>False.elim ?_⟩);exact e0 (h.all (show(8:Int)<=9 by omega))
  refine go ?_;refine bJ (λk=>cells.length - k) (λk:Nat=>[(7,.int .i64 (k:Int))]) (λ_=>[]) (λ_=>[]) (λk=>k<=cells.length/\∀(i:Nat) x,i<k->cells[i]? =some x->x=i) 0 ⟨dD _,λi x hi=>by omega⟩ (body:=?_);rintro k ⟨hk,ho⟩;refine go ?_;refine aG rfl (λe1=>?_) (λe1=>?_)
  ·refine go ?_;intro _ _ x hx;refine go ?_;refine aG rfl (λe2=>?_) (λe2=>?_)
   ·refine go ?_;refine aa false (hv:=rfl) (hp:=⟨(λh=>by cases h),λh=>False.elim ?_⟩);exact e2 ((h.cell k x hx).2.2 (show(8:Int)<=9 by omega))
   refine go ?_;refine bi (k+1) (by omega) ⟨by omega,λi y hi hy=>?_⟩;by_cases e:i=k
   ·subst e;rw[hx]at hy;cases hy;omega
   ·exact ho i y (by omega) hy
  have dN:=uJ (qc:=qc) (m:=m) (kd:=9) (cells:=cells) (fZ:=fZ) (gp:=gp) (gF:=gF) (gG:=gG) (runs:=runs) (jB:=jB) (jC:=jC) hsh hcell h5 (by omega) (λh=>by omega) (λ_=>by omega) (λ_ i x hx=>ho i x (by have:=(bA.1 hx).1;omega) hx);refine go ?_;refine qV (qa (a:=1) (b:=m) rfl rfl (by omega) (by omega)) ?_;refine go ?_;intro kJ;refine aZ (kK (b:=kJ) (f:=0) (c:=2)) (h:=?_);refine go ?_;refine ax (iI (xs:=[fZ,gp]) (lo:=0) (hi:=((1<<<m:Nat):Int) - 1) (by simp)) (next:=λ_ _=>?_);refine go ?_;first|with_reducible refine aN (λg1=>?_) (λg1=>?_)|with_reducible refine aO (λg1=>?_) (λg1=>?_)|with_reducible refine aL (λg1=>?_) (λg1=>?_)
  ·refine go ?_;exact aa false (hv:=rfl) (hp:=⟨(λh=>by cases h),λh=>by rw[(dN.1 h).1]at g1;cases g1⟩)
  refine go ?_;intro l8;refine aZ (kK (b:=l8) (f:=0) (c:=2)) (h:=?_);refine ax (iI (xs:=[gF,gG]) (lo:=0) (hi:=65536) (by simp)) (next:=λ_ _=>?_);refine go ?_;first|with_reducible refine aN (λg2=>?_) (λg2=>?_)|with_reducible refine aO (λg2=>?_) (λg2=>?_)|with_reducible refine aL (λg2=>?_) (λg2=>?_)
  ·refine go ?_;exact aa false (hv:=rfl) (hp:=⟨(λh=>by cases h),λh=>by rw[(dN.1 h).2.1]at g2;cases g2⟩)
  refine go ?_;first|with_reducible refine aN (λg3=>?_) (λg3=>?_)|with_reducible refine aO (λg3=>?_) (λg3=>?_)|with_reducible refine aL (λg3=>?_) (λg3=>?_)
  ·refine go ?_;exact aa false (hv:=rfl) (hp:=⟨(λh=>by cases h),λh=>by have:=(dN.1 h).2.2.1;omega⟩)
  refine go ?_;refine ax (iI (xs:=runs) (lo:=1) (hi:=256) hrl) (next:=λ_ _=>?_);refine go ?_;refine aa (gK runs 1 256) (hv:=rfl) (hp:=?_);rw[dN];exact⟨λh=>⟨g1,g2,by omega,h⟩,λh=>h.2.2.2⟩
theorem aei{q:oP}{vv vn vc:Value}(hs:Be q):
 aV Tryz.prog (.func 26) [.agg ⟨kU q vv vn vc⟩] [] [] [ai ae vv q.values,ai (aC ae) vn q.aK,ai iW vc q.cons] (λb:Bool=>.int .i64 (if b then 0 else 191)) (λ_=>[]) (λ_=>[]) (λb=>(b=true↔Ga q)):=by
 refine aS _ (aQ 26) λB w0=>?_;refine go ?_;intro b1;refine aZ (fo (b:=b1)) (h:=?_);refine go ?_;first|with_reducible refine aN (λh1=>?_) (λh1=>?_)|with_reducible refine aO (λh1=>?_) (λh1=>?_)|with_reducible refine aL (λh1=>?_) (λh1=>?_)
 rotate_left
 ·refine go ?_;exact aa false (hv:=rfl) (hp:=⟨(λh=>by cases h),λh=>by have:=h.cells;omega⟩)
 refine go ?_;first|with_reducible refine aN (λh2=>?_) (λh2=>?_)|with_reducible refine aO (λh2=>?_) (λh2=>?_)|with_reducible refine aL (λh2=>?_) (λh2=>?_)
 rotate_left
 ·refine go ?_;exact aa false (hv:=rfl) (hp:=⟨(λh=>by cases h),λh=>by have:=h.cells;omega⟩)
 refine go ?_;first|with_reducible refine aN (λh3=>?_) (λh3=>?_)|with_reducible refine aO (λh3=>?_) (λh3=>?_)|with_reducible refine aL (λh3=>?_) (λh3=>?_)
 rotate_left
 ·refine go ?_;exact aa false (hv:=rfl) (hp:=⟨(λh=>by cases h),λh=>by have:=h.symbols;omega⟩)
 refine go ?_;first|with_reducible refine aN (λh4=>?_) (λh4=>?_)|with_reducible refine aO (λh4=>?_) (λh4=>?_)|with_reducible refine aL (λh4=>?_) (λh4=>?_)
 rotate_left
 ·refine go ?_;exact aa false (hv:=rfl) (hp:=⟨(λh=>by cases h),λh=>by have:=h.symbols;omega⟩)
 refine go ?_;first|with_reducible refine aN (λh5=>?_) (λh5=>?_)|with_reducible refine aO (λh5=>?_) (λh5=>?_)|with_reducible refine aL (λh5=>?_) (λh5=>?_)
 rotate_left
 ·refine go ?_;exact aa false (hv:=rfl) (hp:=⟨(λh=>by cases h),λh=>by have:=h.Dt;omega⟩)
 refine go ?_;refine ax (iI (xs:=q.values) (lo:=0) (hi:=99) hs.values) (next:=λ_ _=>?_);refine go ?_;refine uj rfl (λh6=>?_) (λh6=>?_)
 ·refine go ?_;refine aa false (hv:=rfl) (hp:=⟨(λh=>by cases h),λh=>?_⟩);have:gK q.values 0 99=true:=dU h.vals;rw[this]at h6;cases h6
 have Lh:∀v∈q.values,0<=v/\v<=99:=iJ (by simpa[gK]using h6);refine go ?_;first|with_reducible refine aN (λh7=>?_) (λh7=>?_)|with_reducible refine aO (λh7=>?_) (λh7=>?_)|with_reducible refine aL (λh7=>?_) (λh7=>?_)
 rotate_left
 ·refine go ?_;exact aa false (hv:=rfl) (hp:=⟨(λh=>by cases h),λh=>by have:=h.Bd;omega⟩)
 refine go ?_;refine ax (aee (g:=q.aK) hs.aK) (next:=λb hb=>?_);cases b with
 |false=>
  refine go ?_;exact aa false (hv:=rfl) (hp:=⟨(λh=>by cases h),λh=>absurd (hb.2 h.Gb) (by simp)⟩)
 |true=>
 have hG:=hb.1 rfl;refine go ?_;refine aG rfl (λh8=>?_) (λh8=>?_)
 ·refine go ?_;exact aa false (hv:=rfl) (hp:=⟨(λh=>by cases h),λh=>by have:=h.many;omega⟩)
 obtain⟨m,hm⟩:=qB (show 0<=q.symbols by omega);refine go ?_;refine bJ (λk=>q.cons.length - k) (λk:Nat=>[(3,.int .i64 (k:Int))]) (λ_=>[]) (λ_=>[]) (λk=>k<=q.cons.length/\∀c∈q.cons.take k,ni q.cells q.symbols c) 0 ⟨dD _,by simp⟩ (body:=?_);rintro k ⟨hk,hall⟩;refine go ?_;refine aG rfl (λh9=>?_) (λh9=>?_)
 ·refine go ?_;refine dm iW (next:=λ_ _ c (y:Value×Value) hc=>?_);refine go ?_;rw[hm];refine ax (aeh (qc:=q.cells) (m:=m) (c:=c) ⟨by omega,by omega⟩ ⟨by omega,by omega⟩ (hs.Te c (bG hc))) (next:=λb hb=>?_);rw[<- hm]at hb;cases b with
  |false=>
   refine go ?_;exact aa false (hv:=rfl) (hp:=⟨(λh=>by cases h),λh=>absurd (hb.2 (h.fine c (bG hc))) (by simp)⟩)
  |true=>
   refine go ?_;refine bi (k+1) (by omega) ⟨by omega,λd hd=>?_⟩;rw[take_one hc,eZ]at hd;rcases hd with hd|hd
   ·rw[<- hm];exact hall d hd
   ·rw[bC.1 hd,<- hm];exact hb.1 rfl
 have hkl:k=q.cons.length:=by omega
 subst hkl;rw[eB]at hall;refine go ?_;refine aa true (hv:=rfl) (hp:=⟨λ_=>?_,λ_=>rfl⟩);exact{cells:=⟨by omega,by omega⟩,symbols:=⟨by omega,by omega⟩,Dt:=by omega,vals:=Lh,Bd:=by omega,Gb:=hG,many:=by omega,fine:=hall}
