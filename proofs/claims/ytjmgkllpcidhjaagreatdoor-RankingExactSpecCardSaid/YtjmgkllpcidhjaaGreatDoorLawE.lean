/-
  The law RankingExactSpec.
-/
import Derived.Test.YtjmgkllpcidhjaaGreatDoorLibJE
import Derived.Test.YtjmgkllpcidhjaaGreatDoorSaneDE
set_option linter.all false
set_option maxRecDepth 10000
set_option maxHeartbeats 4000000
namespace Go.Proofs.YtjmgkllpcidhjaaGreatDoor
open Go.Ideal Rk
theorem WL(s:dm)(l:List bE)(ts:List Int):(mg s l ts).length<=8:=by
 unfold mg;split
 ·rename_i h;unfold jZ at h;split at h
  ·rename_i h2;exact absurd h h2
  ·rename_i h2;have hk:=Fb (zh.1 h2);have:=hk.sh.c8;have:=hk.sh.c1;unfold mY;rw[rC,qw];omega
 ·exact dz _
theorem WM(xs:List Int):(fU xs).length=xs.length:=dw ..
theorem WN{s:dm}{v1 v2 v3 v4 vl vt vp:Value}{l:List bE}{ts xs:List Int}(hW:rU s.pg)(hb1:s.lv.length<9223372036854775808)(hb2:s.cl.length<9223372036854775808)(hb3:s.pz.length<9223372036854775808)(hb4:s.pg.length<9223372036854775808)(hx1:cellsOf v1=some [v1])(hx2:cellsOf v2=some [v2])(hx3:cellsOf v3=some [v3])(hx4:cellsOf v4=some [v4]):
 fG Tryz.prog 3 [.agg ⟨ou s v1 v2 v3 v4⟩,vl,vt,vp] [Av 4,mX 0 og,ah au v1 s.lv,ah au v2 s.cl,ah fV v3 s.pg,ah au v4 s.pz,ah eH vl l,ah au vt ts,ah au vp xs] (.bool true):=by
 refine bq _ (bP 3) λB w0=>?_;refine go ?_;intro b4;refine go ?_;refine aF Uy (next:=λ_ _=>?_);refine go ?_;refine gG (λh1=>?_) (λh1=>?_)
 rotate_left
 ·refine go ?_;exact av () (hv:=rfl) (hp:=trivial)
 refine go ?_;refine gG (λh2=>?_) (λh2=>?_)
 rotate_left
 ·refine go ?_;exact av () (hv:=rfl) (hp:=trivial)
 refine go ?_;refine aJ rfl (λh3=>?_) (λh3=>?_)
 ·refine go ?_;exact av () (hv:=rfl) (hp:=trivial)
 refine go ?_;refine aF (VM (s:=s) (v1:=v1) (v2:=v2) (v3:=v3) (v4:=v4) (l:=l) (ts:=ts) hb1 hb2 hb3 hx1 hx2 hx3 hx4) (next:=λy hy=>?_);obtain⟨vy,ey,ys⟩:=y;obtain⟨rfl,rfl⟩:=hy;dsimp only;refine go ?_;refine aF (WK (s:=s) (v1:=v1) (v2:=v2) (v3:=v3) (v4:=v4) (l:=l) (ts:=ts) hW hb1 hb2 hb3 hb4 hx1 hx2 hx3 hx4) (next:=λz hz=>?_);obtain⟨vz,ez,zs⟩:=z;obtain⟨rfl,rfl⟩:=hz;dsimp only;have hel:=WL s l ts;refine go ?_;refine aF (Lp (s:=s) (v1:=v1) (v2:=v2) (v3:=v3) (v4:=v4) (l:=l) hb1 hb2 hb3 hx1 hx2 hx3 hx4) (next:=λc1 hc1=>?_);subst hc1;refine go ?_;refine aF (Mc (s:=s) (v1:=v1) (v2:=v2) (v3:=v3) (v4:=v4) (l:=l) hW hb1 hb2 hb3 hb4 hx1 hx2 hx3 hx4) (next:=λc2 hc2=>?_);subst hc2;refine go ?_;rw[gL (rfl:fT s l=fT s l)];refine go ?_;refine aF (Me (xs:=mg s l ts) (ys:=mg s l ts) rfl (by omega)) (next:=λ_ _=>?_);refine go ?_;rw[gL (rfl:jZ s l ts=jZ s l ts)];refine go ?_;refine aF (VD (xs:=xs) (by omega)) (next:=λva _=>?_);refine go ?_;refine aF (WJ (xs:=xs) (by omega)) (next:=λvb _=>?_);have hrl:=WM xs;refine go ?_;refine aF (Me (xs:=fU xs) (ys:=fU xs) rfl (by omega)) (next:=λ_ _=>?_);refine go ?_;exact av () (hv:=rfl) (hp:=trivial)
