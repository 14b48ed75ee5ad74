/-
  Part LibMX.
-/
import Derived.Test.YtoilpafpgndilaaGreatLibGX
import Derived.Test.YtoilpafpgndilaaGreatIdealPX
import Derived.Test.YtoilpafpgndilaaGreatPlainDX
set_option linter.all false
set_option maxRecDepth 10000
set_option maxHeartbeats 4000000
namespace Go.Proofs.YtoilpafpgndilaaGreat
open Go.Ideal Kd
def Bv(xs zs:List Int)(k:Nat):Prop:=zs.length=xs.length/\∀i,i<xs.length->zs[i]? =if i<k\/xs.length - 1 - i<k then xs[xs.length - 1 - i]? else xs[i]?
theorem Bv.zero(xs:List Int):Bv xs xs 0:=⟨rfl,λi hi=>by rw[if_neg (by omega)]⟩
theorem Bv.step{xs zs:List Int}{k:Nat}{x y:Int}(h:Bv xs zs k)(hk:k<xs.length - 1 - k)(hx:zs[k]? =some x)(hy:zs[xs.length - 1 - k]? =some y):Bv xs ((zs.set k y).set (xs.length - 1 - k) x) (k+1):=by
 obtain⟨h1,h2⟩:=h;refine⟨by rw[pV,pV];exact h1,λi hi=>?_⟩;have hx':=h2 k (by omega);have hy':=h2 (xs.length - 1 - k) (by omega);rw[if_neg (by omega),hx]at hx';rw[if_neg (by omega),hy]at hy';rw[oQ,pV,h1];by_cases e:xs.length - 1 - k=i
 ·rw[if_pos e,if_pos (by omega),if_pos (by omega),show xs.length - 1 - i=k by omega,hx']
 ·rw[if_neg e,oQ,h1];by_cases e2:k=i
  ·subst e2;rw[if_pos rfl,if_pos hi,if_pos (by omega),hy']
  ·rw[if_neg e2,h2 i hi];by_cases c:i<k\/xs.length - 1 - i<k
   ·rw[if_pos c,if_pos (by omega)]
   ·rw[if_neg c,if_neg (by omega)]
theorem Bv.done{xs zs:List Int}{k:Nat}(h:Bv xs zs k)(hk:¬k<xs.length - 1 - k)(hle:2*k<=xs.length+1):zs=xs.reverse:=by
 obtain⟨h1,h2⟩:=h;apply iY;intro i;by_cases hi:i<xs.length
 ·rw[h2 i hi,List.getElem?_reverse hi];by_cases c:i<k\/xs.length - 1 - i<k
  ·rw[if_pos c]
  ·rw[if_neg c,show xs.length - 1 - i=i by omega]
 ·rw[fO (by omega),fO (by rw[List.length_reverse];omega)]
def sw(d:List Int)(n:Nat):List Int:=d++List.replicate (n - d.length) 0
theorem ag7{d:List Int}{n:Nat}(h:d.length<=n):(sw d n).length=n:=by unfold sw;rw[iH,Gn];omega
theorem ag8{d:List Int}{n k:Nat}{x:Int}(hk:k=d.length)(h:k<n):(sw d n).set k x=sw (d++[x]) n:=by
 subst hk;unfold sw;rw[Gl _ _ (bT _),vK,show n - d.length=(n - (d.length+1))+1 by omega,Gg,List.set_cons_zero,iH,zS,List.append_assoc];rfl
theorem ag9{d:List Int}{n:Nat}(h:d.length=n):sw d n=d:=by unfold sw;rw[h,vK];simp
theorem aha(n:Nat):sw [] n=List.replicate n 0:=by unfold sw;simp
theorem ahb(n:Nat):zeros [.int .i64 0] n=(sw [] n).map (.int .i64):=by
 rw[aha];induction n with
 |zero=>rfl
 |succ n ih=>rw[Gg,gL,<- ih];rfl
