/-
  Times chosen by numbers.
-/
import Derived.Test.YtbdaaopebgcnaaaGreatDoorPlainCM
set_option linter.all false
namespace Rk
def oC(x:ak)(n:Int):Int:=x.lo+n.tmod (x.hi - x.lo+1)
def tT(l:List ak)(us:List Int)(k:Nat):List Int:=(l.take k).mapIdx λi x=>oC x (us.getD i 0)
def Bj(l:List ak)(us:List Int):List Int:=tT l us l.length
theorem aek{l:List ak}{us:List Int}{k:Nat}{x:ak}(h:l[k]? =some x):tT l us (k+1)=tT l us k++[oC x (us.getD k 0)]:=by
 unfold tT;have:=(List.getElem?_eq_some_iff.1 h).1;rw[eD h,List.mapIdx_append,List.length_take,Nat.min_eq_left (by omega)];simp
theorem T9(l:List ak)(us:List Int)(k:Nat):(tT l us k).length=min k l.length:=by unfold tT;rw[List.length_mapIdx,List.length_take]
theorem Ua{l:List ak}{us:List Int}{k:Nat}{x:ak}(h:l[k]? =some x):(Bj l us)[k]? =some (oC x (us.getD k 0)):=by
 unfold Bj tT;rw[List.take_length,List.getElem?_mapIdx,h];rfl
theorem MW{x:ak}{n:Int}(hn:0<=n)(h:x.lo<=x.hi):x.lo<=oC x n/\oC x n<=x.hi:=by
 unfold oC;have h1:=Int.tmod_nonneg (b:=x.hi - x.lo+1) hn;have h2:=Int.tmod_lt_of_pos n (show 0<x.hi - x.lo+1 by omega);omega
theorem Ub{us:List Int}(h:∀x∈us,0<=x/\x<65536)(k:Nat):0<=us.getD k 0/\us.getD k 0<65536:=by
 rw[List.getD_eq_getElem?_getD];cases e:us[k]? with
 |none=>exact⟨Int.le_refl _,by decide⟩
 |some x=>exact h x (List.mem_of_getElem? e)
theorem ael{s:aK}{l:List ak}{us:List Int}(hl:∀x∈l,iq s x)(hu:∀x∈us,0<=x/\x<65536):jV l (Bj l us):=by
 refine⟨by unfold Bj;rw[T9,Nat.min_self],λi x t hx ht=>?_⟩;rw[Ua hx]at ht;cases ht;exact MW (Ub hu i).1 (hl x (List.mem_of_getElem? hx)).le
end Rk
namespace En
open Rk
theorem Uc{l:List ak}{R:List (Int×Int)}(fs:List aU)(day:Int):bO (dK l R) fs day=dK (bO l fs day) R:=by
 unfold bO dK;rw[List.map_zipWith,List.zipWith_map_left]
theorem Ud{l:List ak}{ts:List Int}{fs:List aU}{day:Int}(h:jV l ts):jV (bO l fs day) ts:=by
 refine⟨by rw[xL];exact h.1,λi x t hx ht=>?_⟩;have hi:=(List.getElem?_eq_some_iff.1 hx).1;rw[xL]at hi;have hy:l[i]? =some l[i]:=List.getElem?_eq_getElem hi;rw[TL hy]at hx;cases hx;exact h.2 i l[i] t hy ht
theorem aem{s:aK}{l:List ak}{o:List Bool}{fs:List aU}{day:Int}{ts:List Int}(hr:eG s l fs day=0)(ho:o.length=l.length)(hd:aS s fs day=[])(ht:jV l ts):
 eG s (dK l (dW ts)) fs day=0/\jZ s (dK l (dW ts)) o fs day=0/\outs s (dK l (dW ts)) o fs day=[gI s.pz (l9 s (bO l fs day) ts)]:=by
 have hR:=uM hr;have hL:=yZ ht;have hck:=hL.mR hR.ck;have h1:eG s (dK l (dW ts)) fs day=0:=Ig ⟨hck,hR.f16,hR.fl,hR.d0,hR.d1⟩;have ho2:o.length=(dK l (dW ts)).length:=by rw[tL hL.len,ho]
 have hv0:dL s (bO l fs day)=0:=by rw[(MP ..).mR];exact hR.ck
 have DT:=Ud (fs:=fs) (day:=day) ht;obtain⟨q1,q2⟩:=adW DT hv0;have hc2:=(yZ DT).mR hv0;have hno:¬jm s (dK (bO l fs day) (dW ts)):=λh=>by rw[(MH hc2 h).1]at q1;cases q1
 rw[(yY hc2 hno).2]at q2;have hrd:∀m,bO (rd (dK l (dW ts)) o (aS s fs day) m) fs day=dK (bO l fs day) (dW ts):=λm=>by rw[hd,Li ho2,Uc]
 refine⟨h1,Ii h1 ho2 (λ⟨m,_,h⟩=>hno (by rw[<- hrd m];exact h)),?_⟩;unfold outs;rw[hd];show oz s (dK l (dW ts)) o fs day (0+1)=_;rw[TV];unfold y8;rw[hrd,q2];rfl
