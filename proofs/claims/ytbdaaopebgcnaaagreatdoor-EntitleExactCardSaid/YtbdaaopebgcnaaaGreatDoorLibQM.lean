/-
  The laws EntitlePrizesSpec and EntitleShared on the ideal machine.
-/
import Derived.Test.YtbdaaopebgcnaaaGreatDoorLibPM
import Derived.Test.YtbdaaopebgcnaaaGreatDoorSaneBM
set_option linter.all false
set_option maxRecDepth 10000
set_option maxHeartbeats 2000000
namespace Go.Proofs.YtbdaaopebgcnaaaGreatDoor
open Go.Ideal En
theorem agT{va vb:Value}{xs:List Int}(hal:xs.length<=1000000):gy Tryz.prog 33 [va,vb] [ae ah va xs,ae ah vb xs] (.int .i64 0):=by
 refine aT _ (bz 33) λB w0=>?_;refine go ?_;refine bR (λk=>xs.length - k) (λk:Nat=>[(5,.int .i64 (k:Int))]) (λ_=>[]) (λ_=>[]) (λk=>k<=xs.length) 0 (cu _) (body:=?_);intro k hk;refine go ?_;refine gG (λh1=>?_) (λh1=>?_)
 ·have hkl:k=xs.length:=by omega
  subst hkl;refine go ?_;refine aC rfl (λh3=>?_) (λh3=>?_)
  ·omega
  refine go ?_;refine aC rfl (λh4=>?_) (λh4=>?_)
  ·omega
  refine go ?_;exact aj () (hv:=rfl) (hp:=trivial)
 refine go ?_;refine aC rfl (λh2=>?_) (λh2=>?_)
 rotate_left
 ·omega
 refine go ?_;intro _ _ x hx _ _ y hy;cases hx.symm.trans hy;refine go ?_;refine aC rfl (λh3=>?_) (λh3=>?_)
 ·omega
 refine go ?_;intro _ _ x' hx' _ _ y' hy';cases hx'.symm.trans hy';refine go ?_;refine aC rfl (λh4=>?_) (λh4=>?_)
 ·omega
 refine go ?_;exact aL (k+1) (by omega) (by omega)
theorem agU{va vb:Value}{xs:List Int}(hal:xs.length<=1000000):gy Tryz.prog 11 [va,vb] [ae ah va xs,ae ah vb xs] (.bool true):=by
 refine aT _ (bz 11) λB w0=>?_;refine go ?_;refine aB (agT (xs:=xs) hal) (next:=λ_ _=>?_);refine go ?_;exact aj () (hv:=rfl) (hp:=trivial)
theorem NI.len{p l:List Int}{y:List Int×Value×Int}(hy:NI p l y):y.1.length<=l.length:=by
 by_cases h:qE p l
 ·rw[(hy.1 h).1,bI];exact aG _
 ·rw[(hy.2 h).1];exact cu _
theorem agV{p l:List Int}(h:qE p l){r:Int}(hr:r∈l):0<=jX p l r/\jX p l r<=8388608:=by
 have hb:=VI h.jX h.p8 (r - 1).toNat (jW l r)
 have hep:=Ti hr;unfold jX;rw[OM hb.1];have h7:=Int.ediv_nonneg hb.1 (show(0:Int)<=(jW l r:Int)by omega);have h8:=Int.ediv_le_self (jW l r:Int) hb.1;omega
