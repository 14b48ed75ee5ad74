/-
  Prizes: the reference's Prizes, its ranks and sums.
-/
import Derived.Test.YtbdaaopebgcnaaaGreatDoorLibOM
set_option linter.all false
set_option maxRecDepth 10000
set_option maxHeartbeats 2000000
namespace Go.Proofs.YtbdaaopebgcnaaaGreatDoor
open Go.Ideal En
theorem agS{vl:Value}{l:List Int}(hl:l.length<=1000)(hb:∀x∈l,0<=x/\x<=1000000000):gy Tryz.prog 20 [vl] [ae ah vl l] (.int .i64 (fA l)):=by
 refine aT _ (bz 20) λB w0=>?_;refine go ?_;refine bR (λk=>l.length - k) (λk:Nat=>[(4,.int .i64 (k:Int)),(3,.int .i64 (fA (l.take k)))]) (λ_=>[]) (λ_=>[]) (λk=>k<=l.length) 0 (cu _) (body:=?_);intro k hk;have h0:0<=fA (l.take k):=H9 λx hx=>(hb x (uS hx)).1;have h1:=Ia (l:=l.take k) (c:=1000000000) λx hx=>(hb x (uS hx)).2;have hlt:(l.take k).length<=1000:=by rw[cB];omega
 refine go ?_;refine aC rfl (λh2=>?_) (λh2=>?_)
 ·refine go ?_;intro _ _ x hx;have hxb:=hb x (dA hx);have hs:fA (l.take (k+1))=fA (l.take k)+x:=by rw[I1 hx,DF,xI,Bg];omega
  refine go ?_;rw[<- hs];exact aL (k+1) (by omega) (by omega)
 have hkl:k=l.length:=by omega
 subst hkl;rw[gV];refine go ?_;exact aj () (hv:=rfl) (hp:=trivial)
