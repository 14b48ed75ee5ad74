/-
  Comparisons: cmp.Compare and slices.Compare of numbers.
-/
import Derived.Test.YtbdaaopebgcnaaaGreatDoorIdealKM
import Derived.Test.YtbdaaopebgcnaaaGreatDoorProg
set_option linter.all false
set_option maxRecDepth 10000
set_option maxHeartbeats 1000000
namespace Go.Proofs.YtbdaaopebgcnaaaGreatDoor
open Go.Ideal Canon
theorem RI(x:Int):ik Tryz.prog 104 [.int .i64 x] [] (.bool false):=by
 refine aV _ (bB 104) λB w0=>?_;refine go ?_;refine aj () (hv:=?_) (hp:=trivial);simp[pQ]
theorem adz(x y:Int):ik Tryz.prog 72 [.int .i64 x,.int .i64 y] [] (.int .i64 (jm x y)):=by
 refine aV _ (bB 72) λB w0=>?_;refine go ?_;refine aG (RI x) (next:=λ_ _=>?_);refine go ?_;refine aG (RI y) (next:=λ_ _=>?_);refine go ?_;refine aM rfl (λh1=>?_) (λh1=>?_)
 ·refine go ?_;refine aj () (hv:=?_) (hp:=trivial);rw[jm,if_pos h1];rfl
 refine go ?_;refine aM rfl (λh2=>?_) (λh2=>?_)
 ·refine go ?_;refine aj () (hv:=?_) (hp:=trivial);rw[jm,if_neg h1,if_pos h2];rfl
 refine go ?_;refine aj () (hv:=?_) (hp:=trivial);rw[jm,if_neg h1,if_neg h2];rfl
theorem drop_cons{α:Type}{xs:List α}{k:Nat}{x:α}(h:xs[k]? =some x):xs.drop k=x::xs.drop (k+1):=by
 obtain⟨hlt,he⟩:=dU.1 h;rw[zV hlt,he]
theorem RJ{xs ys:List Int}{k:Nat}(hx:k<=xs.length)(hy:k<=ys.length)(h:k=xs.length\/k=ys.length):
 gB jm (xs.drop k) (ys.drop k)=if xs.length<ys.length then -1 else if ys.length<xs.length then 1 else 0:=by
 rcases h with h|h
 ·rw[show xs.drop k=[]from uG (by omega)];by_cases e:xs.length<ys.length
  ·rw[if_pos e];have:k<ys.length:=by omega
   rw[zV this];rfl
  ·rw[if_neg e,if_neg (by omega),show ys.drop k=[]from uG (by omega)];rfl
 ·rw[show ys.drop k=[]from uG (by omega)];by_cases e:ys.length<xs.length
  ·rw[if_neg (by omega),if_pos e];have:k<xs.length:=by omega
   rw[zV this];rfl
  ·rw[if_neg (by omega),if_neg e,show xs.drop k=[]from uG (by omega)];rfl
theorem adA{va vb:Value}{xs ys:List Int}(hal:xs.length<=1000000)(hbl:ys.length<=1000000):
 ik Tryz.prog 53 [va,vb] [ae az va xs,ae az vb ys] (.int .i64 (gB jm xs ys)):=by
 refine aV _ (bB 53) λB w0=>?_;refine go ?_;refine dQ (λk=>xs.length - k) (λk:Nat=>[(11,.int .i64 (k:Int))]) (λ_=>[]) (λ_=>[]) (λk=>k<=xs.length/\k<=ys.length/\gB jm xs ys=gB jm (xs.drop k) (ys.drop k)) 0 ⟨by omega,by omega,rfl⟩ (body:=?_);rintro k ⟨hkx,RN,Ck⟩;refine go ?_;refine aM rfl (λh1=>?_) (λh1=>?_)
 ·refine go ?_;intro _ _ x hx;refine aM rfl (λh2=>?_) (λh2=>?_)
  ·refine go ?_;refine aj () (hv:=?_) (hp:=trivial);rw[Ck,drop_cons hx,show ys.drop k=[]from uG (by omega)];rfl
  refine go ?_;intro _ _ y hy;refine aG (adz x y) (next:=λ_ _=>?_);refine go ?_;refine aM rfl (λh3=>?_) (λh3=>?_)
  ·refine go ?_;refine aj () (hv:=?_) (hp:=trivial);rw[Ck,drop_cons hx,drop_cons hy,gB,if_pos h3];rfl
  refine go ?_;refine aY (k+1) (by omega) ⟨by omega,by omega,?_⟩;rw[Ck,drop_cons hx,drop_cons hy,gB,if_neg (by simpa using h3)]
 refine go ?_;have hkm:k=xs.length:=by omega
 refine aM rfl (λh3=>?_) (λh3=>?_)
 ·refine go ?_;refine aj () (hv:=?_) (hp:=trivial);rw[Ck,RJ hkx RN (by omega),if_pos (by omega)];rfl
 refine go ?_;refine aj () (hv:=?_) (hp:=trivial);rw[Ck,RJ hkx RN (by omega),if_neg (by omega),if_neg (by omega)];rfl
