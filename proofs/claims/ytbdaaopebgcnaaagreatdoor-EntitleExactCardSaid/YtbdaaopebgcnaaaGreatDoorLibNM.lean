/-
  ref53: lists put into their places; times that suffice.
-/
import Derived.Test.YtbdaaopebgcnaaaGreatDoorLibMM
set_option linter.all false
set_option maxRecDepth 10000
set_option maxHeartbeats 4000000
namespace Go.Proofs.YtbdaaopebgcnaaaGreatDoor
open Go.Ideal Rk
end Go.Proofs.YtbdaaopebgcnaaaGreatDoor
namespace Go.Proofs.YtbdaaopebgcnaaaGreatDoor
open Go.Ideal Rk
structure TmY where
 v:Value
 xs:List Int
section
variable {P:Program} {B:List Nat} {w0:Wd} {kl kl':List OA} {F:List aD} {K:KO} {ds:List Tmp} {rest:List aW} {n:Nat} {l:List (Nat×Value)} {D:List Deferred} {pm:Option FrameMode} {ro:Option Nat} {d:Nat} {g:Option (Tmp×Bool)}
end
end Go.Proofs.YtbdaaopebgcnaaaGreatDoor
namespace Go.Proofs.YtbdaaopebgcnaaaGreatDoor
open Go.Ideal Rk
end Go.Proofs.YtbdaaopebgcnaaaGreatDoor
namespace Go.Proofs.YtbdaaopebgcnaaaGreatDoor
open Go.Ideal Rk
theorem agJ{s:aK}{v1 v2 v3 v4 vl:Value}{l:List ak}(hx1:cellsOf v1=some [v1])(hx2:cellsOf v2=some [v2])(hx3:cellsOf v3=some [v3])(hx4:cellsOf v4=some [v4]):
 aX Tryz.prog (.func 77) [.agg ⟨jD s v1 v2 v3 v4⟩,vl] [] [] [ae ah v1 s.lv,ae ah v2 s.cl,ae fP v3 s.pg,ae ah v4 s.pz,ae aZ vl l] (λb:Bool=>.bool b) (λ_=>[]) (λ_=>[]) (λb=>b=true->s.c<=4/\s.p<=3/\l.length<=12/\s.pg.length<=30):=by
 refine aT _ (bz 77) λB w0=>?_;refine go ?_;intro b2;refine go ?_;refine gG (λh1=>?_) (λh1=>?_)
 ·refine go ?_;exact aj false (hv:=rfl) (hp:=λh=>by cases h)
 refine go ?_;refine gG (λh2=>?_) (λh2=>?_)
 ·refine go ?_;exact aj false (hv:=rfl) (hp:=λh=>by cases h)
 refine go ?_;refine gG (λh3=>?_) (λh3=>?_)
 ·refine go ?_;exact aj false (hv:=rfl) (hp:=λh=>by cases h)
 refine go ?_;refine gG (λh4=>?_) (λh4=>?_)
 ·refine go ?_;exact aj false (hv:=rfl) (hp:=λh=>by cases h)
 refine go ?_;refine gG (λh5=>?_) (λh5=>?_)
 ·refine go ?_;exact aj false (hv:=rfl) (hp:=λh=>by cases h)
 refine go ?_;refine gG (λh6=>?_) (λh6=>?_)
 ·refine go ?_;exact aj false (hv:=rfl) (hp:=λh=>by cases h)
 refine go ?_;exact aj _ (hv:=rfl) (hp:=λ_=>⟨h1,h2,by omega,by omega⟩)
