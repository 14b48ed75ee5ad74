/-
  Prizes: the library's functions, the program's Prizes.
-/
import Derived.Test.YtbdaaopebgcnaaaGreatDoorLibAM
set_option linter.all false
set_option maxRecDepth 10000
set_option maxHeartbeats 2000000
namespace Go.Proofs.YtbdaaopebgcnaaaGreatDoor
open Go.Ideal En
theorem KX{α:Type}{xs:List α}{k:Nat}{x:α}(h:xs[k]? =some x):xs.take (k+1)=xs.take k++[x]:=by
 rw[List.take_add_one,h];rfl
theorem Sa{fn:Fn}{first cap:List Value}{F1:List aB}{p:Int->Bool}{va:Value}{xs:List Int}(hl:xs.length<9223372036854775808)(hp:∀x∈xs,vP Tryz.prog fn first cap (.int .i64 x) F1 (p x)):
 aT Tryz.prog (.func 28) [va,.func fn ⟨first⟩ ⟨cap⟩] [] [] (ae az va xs::F1) (λ_:Unit=>.int .i64 (xs.countP p:Int)) (λ_=>[]) (λ_=>[]) (λ_=>True):=by
 refine aV _ (bB 28) λB w0=>?_;refine go ?_;refine dQ (λk=>xs.length - k) (λk:Nat=>[(9,.int .i64 (k:Int)),(4,.int .i64 ((xs.take k).countP p:Int))]) (λ_=>[]) (λ_=>[]) (λk=>k<=xs.length) 0 (dY _) (body:=?_);intro k hk;have hcl:(xs.take k).countP p<=(xs.take k).length:=List.countP_le_length;rw[fB]at hcl;refine go ?_;refine aM rfl (λh1=>?_) (λh1=>?_)
 ·refine go ?_;intro _ _ x hx;have hs:(xs.take (k+1)).countP p=(xs.take k).countP p+if p x=true then 1 else 0:=by rw[KX hx,List.countP_append,List.countP_singleton]
  refine go ?_;refine aG (hp x (dA hx)) (next:=λ_ _=>?_);cases hpx:p x with
  |true=>
   rw[hpx,if_pos rfl]at hs;refine go ?_;rw[show(((xs.take k).countP p:Nat):Int)+1=(((xs.take (k+1)).countP p:Nat):Int)by rw[hs];omega];exact aY (k+1) (by omega) (by omega)
  |false=>
   have hs:(xs.take k).countP p=(xs.take (k+1)).countP p:=by rw[hs,hpx];simp
   rw[hs];refine go ?_;exact aY (k+1) (by omega) (by omega)
 have hkl:k=xs.length:=by omega
 subst hkl;rw[iB];refine go ?_;exact aj () (hv:=rfl) (hp:=trivial)
theorem ad8{x:Int}:vP Tryz.prog (.func 27) [] [] (.int .i64 x) [] (decide (x<0\/1048576<x)):=by
 refine aV _ (bB 27) λB w0=>?_;refine go ?_;refine gG (λh1=>?_) (λh1=>?_)
 ·refine go ?_;refine aj () (hv:=?_) (hp:=trivial);rw[show decide (x<0\/1048576<x)=decide (1048576<x)from xW.2 ⟨λh=>h.elim (λh=>absurd h h1) id,.inr⟩];rfl
 refine go ?_;refine aj () (hv:=?_) (hp:=trivial);rw[fK (.inl h1)];rfl
theorem ad9{b:Nat}{r x:Int}:vP Tryz.prog (.func 29) [] [ptr' b] (.int .i64 x) [bU b 0 [.int .i64 r]] (decide (x<r)):=by
 refine aV _ (bB 29) λB w0=>?_;refine go ?_;exact aj () (hv:=rfl) (hp:=trivial)
theorem aea{b:Nat}{r x:Int}:vP Tryz.prog (.func 30) [] [ptr' b] (.int .i64 x) [bU b 0 [.int .i64 r]] (decide (x=r)):=by
 refine aV _ (bB 30) λB w0=>?_;refine go ?_;exact aj () (hv:=rfl) (hp:=trivial)
structure rA(p l:List Int):Prop where
 p8:p.length<=8
 l8:l.length<=8
 jU:JK p
 iT:Ranks l
abbrev pzV(y:List Int×Value×Int):Value:=.tuple ⟨[y.2.1,.int .i64 y.2.2]⟩
abbrev Sb(y:List Int×Value×Int):List aB:=[ae az y.2.1 y.1]
def KY(p l:List Int)(y:List Int×Value×Int):Prop:=(rA p l->y.1=l.map (jU p l)/\y.2.2=0)/\(¬rA p l->y.1=[]/\y.2.2=550/\y.2.1=.slice none 0 0)
theorem F6(w:Wd):(ae az (.slice none 0 0) ([]:List Int)).p w:=.inl ⟨rfl,none,0,rfl,trivial⟩
theorem aec{p:List Int}{a n:Nat}{x:Int}(h:p[a+n]? =some x):blk p a (n+1)=blk p a n++[x]:=by
 unfold blk;rw[List.take_add_one,iV,h];rfl
theorem aed{p:List Int}{a n m:Nat}(h:p.length<=a+n)(hm:n<=m):blk p a n=blk p a m:=by
 unfold blk;rw[rH (by rw[iY];omega),rH (by rw[iY];omega)]
theorem Sc{p:List Int}(hp:JK p)(h8:p.length<=8)(a n:Nat):0<=gy (blk p a n)/\gy (blk p a n)<=8388608:=by
 have h1:∀x∈blk p a n,0<=x/\x<=1048576:=λx hx=>by
  obtain⟨i,_,_,hi⟩:=aaZ hx;exact hp x (dA hi)
 refine⟨JL λx hx=>(h1 x hx).1,?_⟩;have h2:=JM (λx hx=>(h1 x hx).2);rw[aa0]at h2;omega
theorem aee{vp vl:Value}{p l:List Int}(hpl:p.length<9223372036854775808)(hll:l.length<9223372036854775808):
 aT Tryz.prog (.func 9) [vp,vl] [] [] [ae az vp p,ae az vl l] pzV (λ_=>[]) Sb (KY p l):=by
 refine aV _ (bB 9) λB w0=>?_;refine go ?_;refine gG (λh1=>?_) (λh1=>?_)
 rotate_left
 ·have hno:¬rA p l:=λh=>by have:=h.p8;omega
  refine go ?_;refine bX (ae az (.slice none 0 0) ([]:List Int)) (λw _=>F6 w) ?_;exact aj ([],.slice none 0 0,550) (hv:=rfl) (hp:=⟨λh=>absurd h hno,λ_=>⟨rfl,rfl,rfl⟩⟩)
 refine go ?_;refine aM rfl (λh2=>?_) (λh2=>?_)
 ·have hno:¬rA p l:=λh=>by have:=h.l8;omega
  refine go ?_;refine bX (ae az (.slice none 0 0) ([]:List Int)) (λw _=>F6 w) ?_;exact aj ([],.slice none 0 0,550) (hv:=rfl) (hp:=⟨λh=>absurd h hno,λ_=>⟨rfl,rfl,rfl⟩⟩)
 refine go ?_;refine aG (Kg (xs:=p) (p:=λx=>decide (x<0\/1048576<x)) hpl (λx _=>ad8)) (next:=λ_ _=>?_);refine go ?_;refine jO rfl (λh3=>?_) (λh3=>?_)
 ·obtain⟨x,hx,hd⟩:=wC.1 h3;have hno:¬rA p l:=λh=>by have:=h.jU x hx;have:=sN hd;omega
  refine go ?_;refine bX (ae az (.slice none 0 0) ([]:List Int)) (λw _=>F6 w) ?_;exact aj ([],.slice none 0 0,550) (hv:=rfl) (hp:=⟨λh=>absurd h hno,λ_=>⟨rfl,rfl,rfl⟩⟩)
 have KZ:JK p:=λx hx=>by
  have:=List.any_eq_false.1 h3 x hx;simp at this;omega
 refine go ?_;refine wW az ?_;refine dQ (λy:Nat×Value=>l.length - y.1) (λy=>[(23,.int .i64 (y.1:Int)),(4,y.2)]) (λy=>[ap az y.2 ((l.take y.1).map (jU p l))]) (λ_=>[]) (λy=>y.1<=l.length/\∀r∈l.take y.1,(ko l r:Int)+1=r) (0,.slice none 0 0) ⟨dY _,by simp⟩ (hk:=by repeat (first|exact aL.nil|(apply aL.cons;(focus (repeat (first|exact ah.here|apply ah.there)))))) (body:=?_);rintro⟨j,v4⟩ ⟨hj,zB⟩;dsimp only at hj zB⊢;have hjl:((l.take j).map (jU p l)).length=j:=by rw[bI,fB];omega
 refine go ?_;refine aM rfl (λh4=>?_) (λh4=>?_)
 ·refine go ?_;intro _ _ r hr b7;have hrm:=dA hr;have hlt:=aaX l r;have heq:=aaY l r;have hep:=Qg hrm;refine go ?_;refine cu (fT (b:=b7)) (h:=?_);refine aG (Sa (xs:=l) (p:=λx=>decide (x<r)) hll (λx _=>ad9 (b:=b7) (r:=r))) (next:=λ_ _=>?_);rw[show(l.countP λx=>decide (x<r))=ko l r from rfl];refine go ?_;refine aM rfl (λh5=>?_) (λh5=>?_)
  ·have hno:¬rA p l:=λh=>h5 (h.iT r hrm);refine go ?_;refine bX (ae az (.slice none 0 0) ([]:List Int)) (λw _=>F6 w) ?_;exact aj ([],.slice none 0 0,550) (hv:=rfl) (hp:=⟨λh=>absurd h hno,λ_=>⟨rfl,rfl,rfl⟩⟩)
  have hre:(ko l r:Int)+1=r:=rJ.1 h5;have hr1:r - 1=((ko l r:Nat):Int):=by omega
  have hrt:(r - 1).toNat=ko l r:=by omega
  refine go ?_;refine aG (Sa (xs:=l) (p:=λx=>decide (x=r)) hll (λx _=>aea (b:=b7) (r:=r))) (next:=λ_ _=>?_);rw[show(l.countP λx=>decide (x=r))=jq l r from rfl];refine go ?_;rw[hr1];refine dQ (λy:Nat×Int=>jq l r - y.1) (λy=>[(10,.int .i64 ((ko l r+y.1:Nat):Int)),(9,.int .i64 y.2)]) (λ_=>[]) (λ_=>[]) (λy=>y.1<=jq l r/\(y.1=0\/ko l r+y.1<=p.length)/\y.2=gy (blk p (ko l r) y.1)) (0,0) ⟨dY _,.inl rfl,rfl⟩ (body:=?_);rintro⟨n,s⟩ ⟨hn,Ih,hs⟩;dsimp only at hn Ih hs⊢;have uu:=Sc KZ (by omega) (ko l r) n;rw[<- hs]at uu;refine go ?_;refine(bV rfl rfl (w9 rfl rfl)).h ?_;refine go ?_;refine aM rfl (λh6=>?_) (λh6=>?_)
  ·have hpx:p[ko l r+n]? =some (p[ko l r+n]'(by omega)):=bH _;generalize p[ko l r+n]'(by omega)=x at hpx;have sI:=KZ x (dA hpx);have hbs:gy (blk p (ko l r) (n+1))=s+x:=by rw[aec hpx,Fj,xz,BL,hs];omega
   refine go ?_;intro _ _ x' hx';cases hpx.symm.trans hx';refine go ?_;exact aY (n+1,s+x) (by show jq l r - (n+1)<jq l r - n;omega) ⟨by show n+1<=_;omega,.inr (by show ko l r+(n+1)<=_;omega),hbs.symm⟩
  have hbe:s=gy (blk p (ko l r) (jq l r)):=by
   rw[hs];by_cases hne:n=jq l r
   ·rw[hne]
   ·rw[aed (by omega) hn]
  have hq0:0<=s.tdiv (jq l r:Int)/\s.tdiv (jq l r:Int)<=8388608:=by
   rw[Tx uu.1];have h7:=Int.ediv_nonneg uu.1 (show(0:Int)<=(jq l r:Int)by omega);have h8:=Int.ediv_le_self (jq l r:Int) uu.1;omega
  have hpz:jU p l r=s.tdiv (jq l r:Int):=by unfold jU;rw[hrt,hbe]
  have hts:(l.take (j+1)).map (jU p l)=(l.take j).map (jU p l)++[s.tdiv (jq l r:Int)]:=by rw[KX hr,dM,List.map_singleton,hpz]
  refine go ?_;refine(bV rfl rfl (Ep (a:=s) (b:=(jq l r:Int)) rfl rfl (by omega) (by omega) (by omega))).h ?_;refine go ?_;intro b59;refine go ?_;refine qN (xs:=(l.take j).map (jU p l)) az (s.tdiv (jq l r:Int)) () (by omega) (next:=λad=>?_);rw[<- hts];refine go ?_;refine aY (j+1,.slice ad (((l.take j).map (jU p l)).length+1) (((l.take j).map (jU p l)).length+1)) (by show l.length - (j+1)<l.length - j;omega) ⟨by show j+1<=_;omega,λx hx=>?_⟩;rw[KX hr]at hx;rcases fI.1 hx with hx|hx
  ·exact zB x hx
  ·rw[cB.1 hx];exact hre
 have hje:j=l.length:=by omega
 subst hje;rw[iB]at zB⊢;have zD:rA p l:=⟨by omega,by omega,KZ,zB⟩
 refine cu (wV (E:=az) (v:=v4) (xs:=l.map (jU p l))) (h:=?_);refine go ?_;exact aj (l.map (jU p l),v4,0) (hv:=rfl) (hp:=⟨λ_=>⟨rfl,rfl⟩,λh=>absurd zD h⟩)
