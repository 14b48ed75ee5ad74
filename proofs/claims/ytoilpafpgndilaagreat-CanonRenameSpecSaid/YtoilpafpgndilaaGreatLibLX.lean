/-
  Part LibLX.
-/
import Derived.Test.YtoilpafpgndilaaGreatIdealPX
import Derived.Test.YtoilpafpgndilaaGreatLibIX
set_option linter.all false
set_option maxRecDepth 10000
set_option maxHeartbeats 4000000
namespace Go.Proofs.YtoilpafpgndilaaGreat
open Go.Ideal Kd Canon Go.Sort
open Go.Ideal Kd Canon
abbrev CV:=Clue×bO.Y
def ag5(a:Option Addr)(n:Nat):Prop:=(a=none/\n=0)\/∃b f,a=some ⟨b,0,some f⟩
theorem ag6{v:Value}{xs:List Clue}(hl:xs.length<=1000000):bA Tryz.prog (.func 78) [v] [] [] [ai bO v xs] (λa:Option Addr=>.slice a xs.length xs.length) (λa=>[ap bO (.slice a xs.length xs.length) xs]) (λ_=>[]) (λa=>ag5 a xs.length):=by
 refine aM _ (aP 78) λB w0=>?_;refine IW bO v (xs:=xs) λaC hxy=>?_;have hlen:aC.length=xs.length:=by rw[<- hxy,bY]
 refine Tp (aC:=aC) (v:=v) (E:=bO) ?_;refine adD (v:=v) (aC:=aC) bO (λe c ev=>?_) (λe i o f c ev=>?_) (λhne i o f c ev=>?_)
 ·subst e ev;have hx:xs=[]:=by rw[<- hxy];rfl
  subst hx;simp only[Dx];refine go ?_;refine(fA rfl rfl (Fe (e:=76) (by kernel_rfl) rfl)).h ?_;refine go ?_;refine gH bO ?_;exact ah none (hv:=rfl) (hp:=.inl ⟨rfl,rfl⟩)
 ·subst e ev;have hx:xs=[]:=by rw[<- hxy];rfl
  subst hx;simp only[Dx];refine go ?_;refine(fA rfl rfl (zb (e:=76) (by kernel_rfl) rfl)).h ?_;refine go ?_;intro b;refine go ?_;refine IY (b:=b) ?_;refine go ?_;refine Sg bO az.here ?_;exact ah (some ⟨b,0,some 0⟩) (hv:=rfl) (hp:=.inr ⟨b,0,rfl⟩)
 ·subst ev;refine go ?_;refine(fA rfl rfl (zb (e:=76) (by kernel_rfl) rfl)).h ?_;refine go ?_;intro b;refine go ?_;refine IZ (b:=b) bO aC hne (by omega) (λb'=>?_);refine go ?_;refine tT (b:=b') (m:=aC.length) (f:=bO.n) bO (aC:=aC) rfl (.inr rfl) ?_ (hk:=az.here);refine TR (aC:=aC) hne ?_ (λw h=>h _ (by simp));rw[hxy,hlen];exact ah (some ⟨b',0,some bO.n⟩) (hv:=rfl) (hp:=.inr ⟨b',_,rfl⟩)
