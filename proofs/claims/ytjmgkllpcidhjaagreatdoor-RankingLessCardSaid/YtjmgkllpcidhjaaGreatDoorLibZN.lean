/-
  Comparisons: cmp.Compare and slices.Compare of numbers.
-/
import Derived.Test.YtjmgkllpcidhjaaGreatDoorIdealKN
import Derived.Test.YtjmgkllpcidhjaaGreatDoorProg
set_option linter.all false
set_option maxRecDepth 10000
set_option maxHeartbeats 1000000
namespace Go.Proofs.YtjmgkllpcidhjaaGreatDoor
open Go.Ideal Canon
theorem UY(x:Int):eY Tryz.prog 95 [.int .i64 x] [] (.bool false):=by
 refine aX _ (bN 95) λB w0=>?_;refine go ?_;refine aj () (hv:=?_) (hp:=trivial);simp[sV]
theorem agb(x y:Int):eY Tryz.prog 65 [.int .i64 x,.int .i64 y] [] (.int .i64 (jE x y)):=by
 refine aX _ (bN 65) λB w0=>?_;refine go ?_;refine aD (UY x) (next:=λ_ _=>?_);refine go ?_;refine aD (UY y) (next:=λ_ _=>?_);refine go ?_;refine aC rfl (λh1=>?_) (λh1=>?_)
 ·refine go ?_;refine aj () (hv:=?_) (hp:=trivial);rw[jE,if_pos h1];rfl
 refine go ?_;refine aC rfl (λh2=>?_) (λh2=>?_)
 ·refine go ?_;refine aj () (hv:=?_) (hp:=trivial);rw[jE,if_neg h1,if_pos h2];rfl
 refine go ?_;refine aj () (hv:=?_) (hp:=trivial);rw[jE,if_neg h1,if_neg h2];rfl
theorem drop_cons{α:Type}{xs:List α}{k:Nat}{x:α}(h:xs[k]? =some x):xs.drop k=x::xs.drop (k+1):=by
 obtain⟨hlt,he⟩:=dX.1 h;rw[EA hlt,he]
theorem UZ{xs ys:List Int}{k:Nat}(hx:k<=xs.length)(hy:k<=ys.length)(h:k=xs.length\/k=ys.length):
 gM jE (xs.drop k) (ys.drop k)=if xs.length<ys.length then -1 else if ys.length<xs.length then 1 else 0:=by
 rcases h with h|h
 ·rw[show xs.drop k=[]from zk (by omega)];by_cases e:xs.length<ys.length
  ·rw[if_pos e];have:k<ys.length:=by omega
   rw[EA this];rfl
  ·rw[if_neg e,if_neg (by omega),show ys.drop k=[]from zk (by omega)];rfl
 ·rw[show ys.drop k=[]from zk (by omega)];by_cases e:ys.length<xs.length
  ·rw[if_neg (by omega),if_pos e];have:k<xs.length:=by omega
   rw[EA this];rfl
  ·rw[if_neg (by omega),if_neg e,show xs.drop k=[]from zk (by omega)];rfl
theorem agc{va vb:Value}{xs ys:List Int}(hal:xs.length<=1000000)(hbl:ys.length<=1000000):
 eY Tryz.prog 47 [va,vb] [ah ae va xs,ah ae vb ys] (.int .i64 (gM jE xs ys)):=by
 refine aX _ (bN 47) λB w0=>?_;refine go ?_;refine bE (λk=>xs.length - k) (λk:Nat=>[(11,.int .i64 (k:Int))]) (λ_=>[]) (λ_=>[]) (λk=>k<=xs.length/\k<=ys.length/\gM jE xs ys=gM jE (xs.drop k) (ys.drop k)) 0 ⟨by omega,by omega,rfl⟩ (body:=?_);rintro k ⟨hkx,U0,Ea⟩;refine go ?_;refine aC rfl (λh1=>?_) (λh1=>?_)
 ·refine go ?_;intro _ _ x hx;refine aC rfl (λh2=>?_) (λh2=>?_)
  ·refine go ?_;refine aj () (hv:=?_) (hp:=trivial);rw[Ea,drop_cons hx,show ys.drop k=[]from zk (by omega)];rfl
  refine go ?_;intro _ _ y hy;refine aD (agb x y) (next:=λ_ _=>?_);refine go ?_;refine aC rfl (λh3=>?_) (λh3=>?_)
  ·refine go ?_;refine aj () (hv:=?_) (hp:=trivial);rw[Ea,drop_cons hx,drop_cons hy,gM,if_pos h3];rfl
  refine go ?_;refine aO (k+1) (by omega) ⟨by omega,by omega,?_⟩;rw[Ea,drop_cons hx,drop_cons hy,gM,if_neg (by simpa using h3)]
 refine go ?_;have hkm:k=xs.length:=by omega
 refine aC rfl (λh3=>?_) (λh3=>?_)
 ·refine go ?_;refine aj () (hv:=?_) (hp:=trivial);rw[Ea,UZ hkx U0 (by omega),if_pos (by omega)];rfl
 refine go ?_;refine aj () (hv:=?_) (hp:=trivial);rw[Ea,UZ hkx U0 (by omega),if_neg (by omega),if_neg (by omega)];rfl
