/-
  The reference's programs: Check, operate.
-/
import Derived.Test.YtbdaaopebgcnaaaGreatDoorLibGM
set_option linter.all false
set_option maxRecDepth 10000
set_option maxHeartbeats 4000000
namespace Go.Proofs.YtbdaaopebgcnaaaGreatDoor
open Go.Ideal Rk
def vZ(ws:List eB):Prop:=∀w∈ws, -9223372036854775808<=w.n/\w.n<9223372036854775808
structure WhY where
 v:Value
 ok:Bool
theorem adu{vp:Value}{ws:List eB}(hW:vZ ws)(hl:ws.length<9223372036854775808):aT Tryz.prog (.func 105) [vp] [] [] [ae iw vp ws] (λy:WhY=>.tuple ⟨[y.v,.bool y.ok]⟩) (λ_=>[]) (λ_=>[]) (λy=>(y.ok=true↔fw ws)):=by
 refine aV _ (bB 105) λB w0=>?_;refine go ?_;refine aM rfl (λh1=>?_) (λh1=>?_)
 ·have hno:¬fw ws:=λh=>by have:=h.len;omega
  refine go ?_;exact aj ⟨.slice none 0 0,false⟩ (hv:=rfl) (hp:=⟨(λe=>by cases e),λh=>absurd h hno⟩)
 refine go ?_;refine bX (ae aO (.slice none 0 0) ([]:List (Bool×List ByteArray))) (λw _=>.inl ⟨rfl,none,0,rfl,trivial⟩) ?_;refine dQ (λy:Nat×Value×List (Bool×List ByteArray)=>ws.length - y.1) (λy=>[(5,.int .i64 (y.1:Int)),(4,y.2.1)]) (λ_=>[]) (λy=>[ae aO y.2.1 y.2.2]) (λy=>y.1<=ws.length/\kg (ws.take y.1)=some (iI y.2.2)/\jw y.2.2<=8*y.1) (0,.slice none 0 0,[]) ⟨dY _,rfl,dY _⟩ (body:=?_);rintro⟨k,v,L⟩ ⟨hk,hfl,htot⟩;dsimp only at hk hfl htot⊢;have xk:L.length<=256:=by have:=Fb k (by rw[fB];omega) hfl;rw[nV]at this;omega
 refine go ?_;refine aM rfl (λh2=>?_) (λh2=>?_)
 ·refine go ?_;refine eX iw (k:=k) (next:=λbw ow w _ hw=>?_);have hwr:=hW w (dA hw);have hstep:=Fa hw hfl;obtain⟨op,n⟩:=w;dsimp only at hwr;refine go ?_;refine aG (adp (L:=L) (op:=op) (n:=n) hwr.1 hwr.2 xk (by omega)) (next:=λy hy=>?_);obtain⟨v',ok,L'⟩:=y;obtain⟨hy1,hy2⟩:=hy;dsimp only at hy1 hy2⊢;cases ok with
  |false=>
   refine go ?_;have hno:¬fw ws:=λh=>by have:=h.fl;rw[JC (k:=k+1) (by rw[hstep];exact hy2 rfl)]at this;cases this
   refine go ?_;exact aj ⟨.slice none 0 0,false⟩ (hv:=rfl) (hp:=⟨(λe=>by cases e),λh=>absurd h hno⟩)
  |true=>
   obtain⟨c1,c2⟩:=hy1 rfl;refine bX (ae aO v' L') (λw hw=>hw _ (aS ..) rfl) ?_;refine go ?_;exact aY (k+1,v',L') (by show ws.length - (k+1)<ws.length - k;omega) ⟨by show k+1<=_;omega,hstep.trans c1,by show jw L'<=8*(k+1);omega⟩
 have hkl:k=ws.length:=by omega
 subst hkl;rw[iB]at hfl;refine go ?_;refine gG (λh3=>?_) (λh3=>?_)
 rotate_left
 ·have hno:¬fw ws:=λh=>by have:=h.fl;rw[hfl]at this;have:=congrArg List.length (Option.some.inj this);rw[nV]at this;exact h3 (by show(L.length:Int)=1;rw[this];rfl)
  refine go ?_;exact aj ⟨.slice none 0 0,false⟩ (hv:=rfl) (hp:=⟨(λe=>by cases e),λh=>absurd h hno⟩)
 have hL1:L.length=1:=by omega
 obtain⟨p,rfl⟩:∃p,L=[p]:=by
  match L,hL1 with
  |[p],_=>exact⟨p,rfl⟩
 refine go ?_;refine eX aO (k:=0) (xs:=[p]) (v:=v) (h1:=by simp) (next:=λb o q (y:Value) hq=>?_);cases hq;refine go ?_;refine jO rfl (λh4=>?_) (λh4=>?_)
 ·have hno:¬fw ws:=λh=>by have:=h.fl;rw[hfl]at this;have:=Option.some.inj this;injection this with this;have this:p.1=false:=this;rw[h4]at this;cases this
  refine go ?_;exact aj ⟨.slice none 0 0,false⟩ (hv:=rfl) (hp:=⟨(λe=>by cases e),λh=>absurd h hno⟩)
 refine go ?_;refine eX aO (k:=0) (xs:=[p]) (v:=v) (h1:=by simp) (next:=λb o q (y:Value) hq=>?_);cases hq;refine go ?_;exact aj ⟨y,true⟩ (hv:=rfl) (hp:=⟨λ_=>⟨by omega,by rw[hfl];exact congrArg (λx=>some [x]) h4⟩,λ_=>rfl⟩)
theorem adv{vp:Value}{ws:List eB}(hW:vZ ws)(hl:ws.length<9223372036854775808):aT Tryz.prog (.func 73) [vp] [] [] [ae iw vp ws] (λy:Int=>.int .i64 y) (λ_=>[]) (λ_=>[]) (λy=>(fw ws->y=0)/\(¬fw ws->y=520)):=by
 refine aV _ (bB 73) λB w0=>?_;refine go ?_;refine aG (adu hW hl) (next:=λy hy=>?_);obtain⟨v,ok⟩:=y;dsimp only at hy⊢;cases ok with
 |false=>
  refine go ?_;exact aj 520 (hv:=rfl) (hp:=⟨(λh=>by have:=hy.2 h;cases this),λ_=>rfl⟩)
 |true=>
  refine go ?_;exact aj 0 (hv:=rfl) (hp:=⟨λ_=>rfl,λh=>absurd (hy.1 rfl) h⟩)
