/-
  Prizes: the library's functions, the program's Prizes.
-/
import Derived.Test.YtbdaaopebgcnaaaGreatDoorLibAM
set_option linter.all false
set_option maxRecDepth 10000
set_option maxHeartbeats 2000000
namespace Go.Proofs.YtbdaaopebgcnaaaGreatDoor
open Go.Ideal En
theorem I1{α:Type}{xs:List α}{k:Nat}{x:α}(h:xs[k]? =some x):xs.take (k+1)=xs.take k++[x]:=by
 rw[List.take_add_one,h];rfl
theorem VH{fn:Fn}{first cap:List Value}{F1:List aD}{p:Int->Bool}{va:Value}{xs:List Int}(hl:xs.length<9223372036854775808)(hp:∀x∈xs,xO Tryz.prog fn first cap (.int .i64 x) F1 (p x)):
 aX Tryz.prog (.func 28) [va,.func fn ⟨first⟩ ⟨cap⟩] [] [] (ae ah va xs::F1) (λ_:Unit=>.int .i64 (xs.countP p:Int)) (λ_=>[]) (λ_=>[]) (λ_=>True):=by
 refine aT _ (bz 28) λB w0=>?_;refine go ?_;refine bR (λk=>xs.length - k) (λk:Nat=>[(9,.int .i64 (k:Int)),(4,.int .i64 ((xs.take k).countP p:Int))]) (λ_=>[]) (λ_=>[]) (λk=>k<=xs.length) 0 (cu _) (body:=?_);intro k hk;have hcl:(xs.take k).countP p<=(xs.take k).length:=OI;rw[cB]at hcl;refine go ?_;refine aC rfl (λh1=>?_) (λh1=>?_)
 ·refine go ?_;intro _ _ x hx;have hs:(xs.take (k+1)).countP p=(xs.take k).countP p+if p x=true then 1 else 0:=by rw[I1 hx,OJ,OL]
  refine go ?_;refine aB (hp x (dA hx)) (next:=λ_ _=>?_);cases hpx:p x with
  |true=>
   rw[hpx,if_pos rfl]at hs;refine go ?_;rw[show(((xs.take k).countP p:Nat):Int)+1=(((xs.take (k+1)).countP p:Nat):Int)by rw[hs];omega];exact aL (k+1) (by omega) (by omega)
  |false=>
   have hs:(xs.take k).countP p=(xs.take (k+1)).countP p:=by rw[hs,hpx];simp
   rw[hs];refine go ?_;exact aL (k+1) (by omega) (by omega)
 have hkl:k=xs.length:=by omega
 subst hkl;rw[gV];refine go ?_;exact aj () (hv:=rfl) (hp:=trivial)
theorem agK{x:Int}:xO Tryz.prog (.func 27) [] [] (.int .i64 x) [] (decide (x<0\/1048576<x)):=by
 refine aT _ (bz 27) λB w0=>?_;refine go ?_;refine gG (λh1=>?_) (λh1=>?_)
 ·refine go ?_;refine aj () (hv:=?_) (hp:=trivial);rw[show decide (x<0\/1048576<x)=decide (1048576<x)from zA.2 ⟨λh=>h.elim (λh=>absurd h h1) id,.inr⟩];rfl
 refine go ?_;refine aj () (hv:=?_) (hp:=trivial);rw[eP (.inl h1)];rfl
theorem agL{b:Nat}{r x:Int}:xO Tryz.prog (.func 29) [] [ptr' b] (.int .i64 x) [bW b 0 [.int .i64 r]] (decide (x<r)):=by
 refine aT _ (bz 29) λB w0=>?_;refine go ?_;exact aj () (hv:=rfl) (hp:=trivial)
theorem agM{b:Nat}{r x:Int}:xO Tryz.prog (.func 30) [] [ptr' b] (.int .i64 x) [bW b 0 [.int .i64 r]] (decide (x=r)):=by
 refine aT _ (bz 30) λB w0=>?_;refine go ?_;exact aj () (hv:=rfl) (hp:=trivial)
structure qE(p l:List Int):Prop where
 p8:p.length<=8
 l8:l.length<=8
 jX:Mw p
 iy:Ranks l
abbrev pzV(y:List Int×Value×Int):Value:=.tuple ⟨[y.2.1,.int .i64 y.2.2]⟩
abbrev I4(y:List Int×Value×Int):List aD:=[ae ah y.2.1 y.1]
def NI(p l:List Int)(y:List Int×Value×Int):Prop:=(qE p l->y.1=l.map (jX p l)/\y.2.2=0)/\(¬qE p l->y.1=[]/\y.2.2=550/\y.2.1=.slice none 0 0)
theorem I5(w:Wd):(ae ah (.slice none 0 0) ([]:List Int)).p w:=.inl ⟨rfl,none,0,rfl,trivial⟩
theorem agO{p:List Int}{a n:Nat}{x:Int}(h:p[a+n]? =some x):blk p a (n+1)=blk p a n++[x]:=by
 unfold blk;rw[List.take_add_one,jf,h];rfl
theorem agP{p:List Int}{a n m:Nat}(h:p.length<=a+n)(hm:n<=m):blk p a n=blk p a m:=by
 unfold blk;rw[nO (by rw[iZ];omega),nO (by rw[iZ];omega)]
theorem VI{p:List Int}(hp:Mw p)(h8:p.length<=8)(a n:Nat):0<=fA (blk p a n)/\fA (blk p a n)<=8388608:=by
 have h1:∀x∈blk p a n,0<=x/\x<=1048576:=λx hx=>by
  obtain⟨i,_,_,hi⟩:=adH hx;exact hp x (dA hi)
 refine⟨H9 λx hx=>(h1 x hx).1,?_⟩;have h2:=Ia (λx hx=>(h1 x hx).2);rw[adI]at h2;omega
theorem NJ{vp vl:Value}{p l:List Int}(hpl:p.length<9223372036854775808)(hll:l.length<9223372036854775808):
 aX Tryz.prog (.func 9) [vp,vl] [] [] [ae ah vp p,ae ah vl l] pzV (λ_=>[]) I4 (NI p l):=by
 refine aT _ (bz 9) λB w0=>?_;refine go ?_;refine gG (λh1=>?_) (λh1=>?_)
 rotate_left
 ·have hno:¬qE p l:=λh=>by have:=h.p8;omega
  refine go ?_;refine bJ (ae ah (.slice none 0 0) ([]:List Int)) (λw _=>I5 w) ?_;exact aj ([],.slice none 0 0,550) (hv:=rfl) (hp:=⟨λh=>absurd h hno,λ_=>⟨rfl,rfl,rfl⟩⟩)
 refine go ?_;refine aC rfl (λh2=>?_) (λh2=>?_)
 ·have hno:¬qE p l:=λh=>by have:=h.l8;omega
  refine go ?_;refine bJ (ae ah (.slice none 0 0) ([]:List Int)) (λw _=>I5 w) ?_;exact aj ([],.slice none 0 0,550) (hv:=rfl) (hp:=⟨λh=>absurd h hno,λ_=>⟨rfl,rfl,rfl⟩⟩)
 refine go ?_;refine aB (M3 (xs:=p) (p:=λx=>decide (x<0\/1048576<x)) hpl (λx _=>agK)) (next:=λ_ _=>?_);refine go ?_;refine iW rfl (λh3=>?_) (λh3=>?_)
 ·obtain⟨x,hx,hd⟩:=sw.1 h3;have hno:¬qE p l:=λh=>by have:=h.jX x hx;have:=si hd;omega
  refine go ?_;refine bJ (ae ah (.slice none 0 0) ([]:List Int)) (λw _=>I5 w) ?_;exact aj ([],.slice none 0 0,550) (hv:=rfl) (hp:=⟨λh=>absurd h hno,λ_=>⟨rfl,rfl,rfl⟩⟩)
 have NK:Mw p:=λx hx=>by
  have:=List.any_eq_false.1 h3 x hx;simp at this;omega
 refine go ?_;refine tq ah ?_;refine bR (λy:Nat×Value=>l.length - y.1) (λy=>[(23,.int .i64 (y.1:Int)),(4,y.2)]) (λy=>[ap ah y.2 ((l.take y.1).map (jX p l))]) (λ_=>[]) (λy=>y.1<=l.length/\∀r∈l.take y.1,(lD l r:Int)+1=r) (0,.slice none 0 0) ⟨cu _,by simp⟩ (hk:=by repeat (first|exact aI.nil|(apply aI.cons;(focus (repeat (first|exact ai.here|apply ai.there)))))) (body:=?_);rintro⟨j,v4⟩ ⟨hj,xU⟩;dsimp only at hj xU⊢;have hjl:((l.take j).map (jX p l)).length=j:=by rw[bI,cB];omega
 refine go ?_;refine aC rfl (λh4=>?_) (λh4=>?_)
 ·refine go ?_;intro _ _ r hr b7;have hrm:=dA hr;have hlt:=adF l r;have heq:=adG l r;have hep:=Ti hrm;refine go ?_;refine bP (fQ (b:=b7)) (h:=?_);refine aB (VH (xs:=l) (p:=λx=>decide (x<r)) hll (λx _=>agL (b:=b7) (r:=r))) (next:=λ_ _=>?_);rw[show(l.countP λx=>decide (x<r))=lD l r from rfl];refine go ?_;refine aC rfl (λh5=>?_) (λh5=>?_)
  ·have hno:¬qE p l:=λh=>h5 (h.iy r hrm);refine go ?_;refine bJ (ae ah (.slice none 0 0) ([]:List Int)) (λw _=>I5 w) ?_;exact aj ([],.slice none 0 0,550) (hv:=rfl) (hp:=⟨λh=>absurd h hno,λ_=>⟨rfl,rfl,rfl⟩⟩)
  have hre:(lD l r:Int)+1=r:=qd.1 h5;have hr1:r - 1=((lD l r:Nat):Int):=by omega
  have hrt:(r - 1).toNat=lD l r:=by omega
  refine go ?_;refine aB (VH (xs:=l) (p:=λx=>decide (x=r)) hll (λx _=>agM (b:=b7) (r:=r))) (next:=λ_ _=>?_);rw[show(l.countP λx=>decide (x=r))=jW l r from rfl];refine go ?_;rw[hr1];refine bR (λy:Nat×Int=>jW l r - y.1) (λy=>[(10,.int .i64 ((lD l r+y.1:Nat):Int)),(9,.int .i64 y.2)]) (λ_=>[]) (λ_=>[]) (λy=>y.1<=jW l r/\(y.1=0\/lD l r+y.1<=p.length)/\y.2=fA (blk p (lD l r) y.1)) (0,0) ⟨cu _,.inl rfl,rfl⟩ (body:=?_);rintro⟨n,s⟩ ⟨hn,KD,hs⟩;dsimp only at hn KD hs⊢;have pR:=VI NK (by omega) (lD l r) n;rw[<- hs]at pR;refine go ?_;refine(bC rfl rfl (uC rfl rfl)).h ?_;refine go ?_;refine aC rfl (λh6=>?_) (λh6=>?_)
  ·have hpx:p[lD l r+n]? =some (p[lD l r+n]'(by omega)):=bB _;generalize p[lD l r+n]'(by omega)=x at hpx;have pV:=NK x (dA hpx);have hbs:fA (blk p (lD l r) (n+1))=s+x:=by rw[agO hpx,DF,xI,Bg,hs];omega
   refine go ?_;intro _ _ x' hx';cases hpx.symm.trans hx';refine go ?_;exact aL (n+1,s+x) (by show jW l r - (n+1)<jW l r - n;omega) ⟨by show n+1<=_;omega,.inr (by show lD l r+(n+1)<=_;omega),hbs.symm⟩
  have hbe:s=fA (blk p (lD l r) (jW l r)):=by
   rw[hs];by_cases hne:n=jW l r
   ·rw[hne]
   ·rw[agP (by omega) hn]
  have hq0:0<=s.tdiv (jW l r:Int)/\s.tdiv (jW l r:Int)<=8388608:=by
   rw[OM pR.1];have h7:=Int.ediv_nonneg pR.1 (show(0:Int)<=(jW l r:Int)by omega);have h8:=Int.ediv_le_self (jW l r:Int) pR.1;omega
  have hpz:jX p l r=s.tdiv (jW l r:Int):=by unfold jX;rw[hrt,hbe]
  have hts:(l.take (j+1)).map (jX p l)=(l.take j).map (jX p l)++[s.tdiv (jW l r:Int)]:=by rw[I1 hr,eB,OO,hpz]
  refine go ?_;refine(bC rfl rfl (Ap (a:=s) (b:=(jW l r:Int)) rfl rfl (by omega) (by omega) (by omega))).h ?_;refine go ?_;intro UI;refine go ?_;refine lY (xs:=(l.take j).map (jX p l)) ah (s.tdiv (jW l r:Int)) () (by omega) (next:=λad=>?_);rw[<- hts];refine go ?_;refine aL (j+1,.slice ad (((l.take j).map (jX p l)).length+1) (((l.take j).map (jX p l)).length+1)) (by show l.length - (j+1)<l.length - j;omega) ⟨by show j+1<=_;omega,λx hx=>?_⟩;rw[I1 hr]at hx;rcases gF.1 hx with hx|hx
  ·exact xU x hx
  ·rw[cz.1 hx];exact hre
 have hje:j=l.length:=by omega
 subst hje;rw[gV]at xU⊢;have zi:qE p l:=⟨by omega,by omega,NK,xU⟩
 refine bP (rD (E:=ah) (v:=v4) (xs:=l.map (jX p l))) (h:=?_);refine go ?_;exact aj (l.map (jX p l),v4,0) (hv:=rfl) (hp:=⟨λ_=>⟨rfl,rfl⟩,λh=>absurd zi h⟩)
