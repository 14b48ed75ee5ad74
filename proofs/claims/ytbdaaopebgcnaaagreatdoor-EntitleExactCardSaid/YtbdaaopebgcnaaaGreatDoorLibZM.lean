/-
  Comparisons: cmp.Compare and slices.Compare of numbers.
-/
import Derived.Test.YtbdaaopebgcnaaaGreatDoorIdealKM
import Derived.Test.YtbdaaopebgcnaaaGreatDoorProg
set_option linter.all false
set_option maxRecDepth 10000
set_option maxHeartbeats 1000000
namespace Go.Proofs.YtbdaaopebgcnaaaGreatDoor
open Go.Ideal Canon
theorem Vo(x:Int):gy Tryz.prog 104 [.int .i64 x] [] (.bool false):=by
 refine aT _ (bz 104) λB w0=>?_;refine go ?_;refine aj () (hv:=?_) (hp:=trivial);simp[rG]
theorem aga(x y:Int):gy Tryz.prog 72 [.int .i64 x,.int .i64 y] [] (.int .i64 (jS x y)):=by
 refine aT _ (bz 72) λB w0=>?_;refine go ?_;refine aB (Vo x) (next:=λ_ _=>?_);refine go ?_;refine aB (Vo y) (next:=λ_ _=>?_);refine go ?_;refine aC rfl (λh1=>?_) (λh1=>?_)
 ·refine go ?_;refine aj () (hv:=?_) (hp:=trivial);rw[jS,if_pos h1];rfl
 refine go ?_;refine aC rfl (λh2=>?_) (λh2=>?_)
 ·refine go ?_;refine aj () (hv:=?_) (hp:=trivial);rw[jS,if_neg h1,if_pos h2];rfl
 refine go ?_;refine aj () (hv:=?_) (hp:=trivial);rw[jS,if_neg h1,if_neg h2];rfl
theorem drop_cons{α:Type}{xs:List α}{k:Nat}{x:α}(h:xs[k]? =some x):xs.drop k=x::xs.drop (k+1):=by
 obtain⟨hlt,he⟩:=dU.1 h;rw[zz hlt,he]
theorem Vp{xs ys:List Int}{k:Nat}(hx:k<=xs.length)(hy:k<=ys.length)(h:k=xs.length\/k=ys.length):
 iD jS (xs.drop k) (ys.drop k)=if xs.length<ys.length then -1 else if ys.length<xs.length then 1 else 0:=by
 rcases h with h|h
 ·rw[show xs.drop k=[]from uV (by omega)];by_cases e:xs.length<ys.length
  ·rw[if_pos e];have:k<ys.length:=by omega
   rw[zz this];rfl
  ·rw[if_neg e,if_neg (by omega),show ys.drop k=[]from uV (by omega)];rfl
 ·rw[show ys.drop k=[]from uV (by omega)];by_cases e:ys.length<xs.length
  ·rw[if_neg (by omega),if_pos e];have:k<xs.length:=by omega
   rw[zz this];rfl
  ·rw[if_neg (by omega),if_neg e,show xs.drop k=[]from uV (by omega)];rfl
theorem agb{va vb:Value}{xs ys:List Int}(hal:xs.length<=1000000)(hbl:ys.length<=1000000):
 gy Tryz.prog 53 [va,vb] [ae ah va xs,ae ah vb ys] (.int .i64 (iD jS xs ys)):=by
 refine aT _ (bz 53) λB w0=>?_;refine go ?_;refine bR (λk=>xs.length - k) (λk:Nat=>[(11,.int .i64 (k:Int))]) (λ_=>[]) (λ_=>[]) (λk=>k<=xs.length/\k<=ys.length/\iD jS xs ys=iD jS (xs.drop k) (ys.drop k)) 0 ⟨by omega,by omega,rfl⟩ (body:=?_);rintro k ⟨hkx,Vq,Eh⟩;refine go ?_;refine aC rfl (λh1=>?_) (λh1=>?_)
 ·refine go ?_;intro _ _ x hx;refine aC rfl (λh2=>?_) (λh2=>?_)
  ·refine go ?_;refine aj () (hv:=?_) (hp:=trivial);rw[Eh,drop_cons hx,show ys.drop k=[]from uV (by omega)];rfl
  refine go ?_;intro _ _ y hy;refine aB (aga x y) (next:=λ_ _=>?_);refine go ?_;refine aC rfl (λh3=>?_) (λh3=>?_)
  ·refine go ?_;refine aj () (hv:=?_) (hp:=trivial);rw[Eh,drop_cons hx,drop_cons hy,iD,if_pos h3];rfl
  refine go ?_;refine aL (k+1) (by omega) ⟨by omega,by omega,?_⟩;rw[Eh,drop_cons hx,drop_cons hy,iD,if_neg (by simpa using h3)]
 refine go ?_;have hkm:k=xs.length:=by omega
 refine aC rfl (λh3=>?_) (λh3=>?_)
 ·refine go ?_;refine aj () (hv:=?_) (hp:=trivial);rw[Eh,Vp hkx Vq (by omega),if_pos (by omega)];rfl
 refine go ?_;refine aj () (hv:=?_) (hp:=trivial);rw[Eh,Vp hkx Vq (by omega),if_neg (by omega),if_neg (by omega)];rfl
