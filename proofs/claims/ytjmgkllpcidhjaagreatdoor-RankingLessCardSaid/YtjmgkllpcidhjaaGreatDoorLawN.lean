/-
  ref53.Same of rankings; the laws RankingOrdersSpec and RankingSpec.
-/
import Derived.Test.YtjmgkllpcidhjaaGreatDoorLibPN
import Derived.Test.YtjmgkllpcidhjaaGreatDoorSaneDN
set_option linter.all false
set_option maxRecDepth 10000
set_option maxHeartbeats 4000000
namespace Go.Proofs.YtjmgkllpcidhjaaGreatDoor
open Go.Ideal Rk
theorem Ei(s:aT)(l:List aG):(dV s l).length<=4096:=by
 by_cases h:gJ s l=0
 ·obtain⟨hck,hL⟩:=yY h;rw[(qQ hck hL).2];have hp:=(mX hck).sh.p1;apply Classical.byContradiction;intro hgt;exact hL ⟨s.p.toNat - 1,by omega,by rw[show s.p.toNat - 1+1=s.p.toNat by omega];omega⟩
 ·unfold dV;rw[if_neg h];exact bF _
theorem agY{s:aT}{l:List aG}(h4:s.c<=4){t:List Int}(h:t∈dV s l):t.length<=4:=by have:=uW h;omega
theorem agZ{s:aT}{v1 v2 v3 v4 vl:Value}{l:List aG}(hW:nP s.pg)(hb1:s.lv.length<9223372036854775808)(hb2:s.cl.length<9223372036854775808)(hb3:s.pz.length<9223372036854775808)(hb4:s.pg.length<9223372036854775808)(hx1:cellsOf v1=some [v1])(hx2:cellsOf v2=some [v2])(hx3:cellsOf v3=some [v3])(hx4:cellsOf v4=some [v4]):
 eY Tryz.prog 4 [.agg ⟨kz s v1 v2 v3 v4⟩,vl] [uR 4,lG 0 mh,ah ae v1 s.lv,ah ae v2 s.cl,ah fw v3 s.pg,ah ae v4 s.pz,ah cO vl l] (.bool true):=by
 refine aX _ (bN 4) λB w0=>?_;refine go ?_;intro b2;refine go ?_;refine aD AO (next:=λ_ _=>?_);refine go ?_;refine aD (Nu (s:=s) (v1:=v1) (v2:=v2) (v3:=v3) (v4:=v4) (vl:=vl) (l:=l) hx1 hx2 hx3 hx4) (next:=λb hb=>?_);refine go ?_;refine iy rfl (λh1=>?_) (λh1=>?_)
 ·refine go ?_;exact aj () (hv:=rfl) (hp:=trivial)
 have h4:=(hb (by simpa using h1)).1;refine go ?_;refine aD (yX (s:=s) (v1:=v1) (v2:=v2) (v3:=v3) (v4:=v4) (l:=l) h4 hb1 hb2 hb3 hx1 hx2 hx3 hx4) (next:=λy hy=>?_);obtain⟨vy,ey,Y⟩:=y;obtain⟨rfl,rfl⟩:=hy;dsimp only;refine go ?_;refine aD (Vu (s:=s) (v1:=v1) (v2:=v2) (v3:=v3) (v4:=v4) (l:=l) h4 hW hb1 hb2 hb3 hb4 hx1 hx2 hx3 hx4) (next:=λz hz=>?_);obtain⟨vz,ez,Z⟩:=z;obtain⟨rfl,rfl⟩:=hz;dsimp only;refine go ?_;refine aD (Vt (xs:=dV s l) (ys:=dV s l) (by have:=Ei s l;omega) (λt ht=>by have:=agY h4 ht;omega)) (next:=λ_ _=>?_);rw[eH (rfl:dV s l=dV s l)];refine go ?_;rw[eH (rfl:gJ s l=gJ s l)];refine go ?_;exact aj () (hv:=rfl) (hp:=trivial)
section
variable {P:Program} {l:List (Nat×Value)}
theorem Vy{x y:Operand}{n:Nat}{t e:TypeId}{xs ys:List Int}(hx:ev l x=.agg ⟨xs.map (.int .i64)⟩)(hy:ev l y=.agg ⟨ys.map (.int .i64)⟩)(hu:P.underlying t=some (.array n e))(he:P.underlying e=some (.int .i64))(hs:P.info? e|>.map (·.size)|>(·=some 1))(hxl:xs.length=n)(hyl:ys.length=n)(hm:P.eqGuardType P.depth t=false):
 Pu P (ev l) (.bin .neq t x y) (.bool (!decide (xs=ys))):=λh0=>by
 have hfr:∀zs:List Int,gD (zs.map (Value.int .i64))=true:=by
  intro zs;induction zs with
  |nil=>rfl
  |cons z zs ih=>rw[mJ];simp[gD,bY,Ideal.cellV,ih]
 simp only[ak.run,hx,hy];rw[abG (hfr xs) (hfr ys) hm (v:=.bool (!decide (xs=ys))) (by
  show dF P (do pure (Value.bool (!(<- Op.equal t (.agg ⟨xs.map (.int .i64)⟩) (.agg ⟨ys.map (.int .i64)⟩)))))=_;rw[gW,show dF P (Op.equal t (.agg ⟨xs.map (.int .i64)⟩) (.agg ⟨ys.map (.int .i64)⟩))=some (decide (xs=ys))from Lc (d:=9998) hu he hs hxl hyl];rfl) rfl]
end
theorem Vz{va vb vc wa wb wc:Value}{xs ys:List Int}{us:List (Int×Int)}(hx:xs.length<9223372036854775808)(hy:ys.length<9223372036854775808)(hu:us.length<9223372036854775808):
 eY Tryz.prog 24 [.agg ⟨[va,vb,vc]⟩,.agg ⟨[wa,wb,wc]⟩] [ah ae va xs,ah ae vb ys,ah iK vc us,ah ae wa xs,ah ae wb ys,ah iK wc us] (.bool true):=by
 refine aX Vv agW λB w0=>?_;refine go ?_;intro b2 b3;refine bG (eP (b:=b2)) (h:=?_);refine bG (eP (b:=b3)) (h:=?_);refine go ?_;refine aD (A7 (xs:=xs) (ys:=xs) hx) (next:=λ_ _=>?_);rw[eH (rfl:xs=xs)];refine go ?_;refine aD (A7 (xs:=ys) (ys:=ys) hy) (next:=λ_ _=>?_);rw[eH (rfl:ys=ys)];refine go ?_;refine aC rfl (λh1=>absurd rfl h1) (λh1=>?_);refine go ?_;refine bE (λk=>us.length - k) (λk:Nat=>[(5,.int .i64 (k:Int))]) (λ_=>[]) (λ_=>[]) (λk=>k<=us.length) 0 (bF _) (body:=?_);intro k hk;refine go ?_;refine aC rfl (λh2=>?_) (λh2=>?_)
 ·refine go ?_;refine bJ iK (k:=k) (v:=vc) (xs:=us) (next:=λ_ _ x _ hxk=>?_);refine go ?_;refine bJ iK (k:=k) (v:=wc) (xs:=us) (next:=λ_ _ y _ hyk=>?_);cases hxk.symm.trans hyk;refine go ?_;refine(bO rfl rfl (Vy (n:=2) (e:=3) (xs:=[x.1,x.2]) (ys:=[x.1,x.2]) rfl rfl (by kernel_rfl) (by kernel_rfl) (by kernel_rfl) rfl rfl (by kernel_rfl))).h ?_;rw[eH (rfl:[x.1,x.2]=[x.1,x.2])];refine go ?_;exact aO (k+1) (by omega) (by omega)
 refine go ?_;exact aj () (hv:=rfl) (hp:=trivial)
theorem ag0{s:aT}{v1 v2 v3 v4 vl:Value}{l:List aG}(hW:nP s.pg)(hb1:s.lv.length<9223372036854775808)(hb2:s.cl.length<9223372036854775808)(hb3:s.pz.length<9223372036854775808)(hb4:s.pg.length<9223372036854775808)(hx1:cellsOf v1=some [v1])(hx2:cellsOf v2=some [v2])(hx3:cellsOf v3=some [v3])(hx4:cellsOf v4=some [v4]):
 eY Tryz.prog 5 [.agg ⟨kz s v1 v2 v3 v4⟩,vl] [uR 4,lG 0 mh,ah ae v1 s.lv,ah ae v2 s.cl,ah fw v3 s.pg,ah ae v4 s.pz,ah cO vl l] (.bool true):=by
 refine aX _ (bN 5) λB w0=>?_;refine go ?_;intro b2;refine go ?_;refine aD AO (next:=λ_ _=>?_);refine go ?_;refine aD (Nu (s:=s) (v1:=v1) (v2:=v2) (v3:=v3) (v4:=v4) (vl:=vl) (l:=l) hx1 hx2 hx3 hx4) (next:=λb hb=>?_);refine go ?_;refine iy rfl (λh1=>?_) (λh1=>?_)
 ·refine go ?_;exact aj () (hv:=rfl) (hp:=trivial)
 have h4:=(hb (by simpa using h1)).1;refine go ?_;refine aD (AZ (s:=s) (v1:=v1) (v2:=v2) (v3:=v3) (v4:=v4) (l:=l) h4 hb1 hb2 hb3 hx1 hx2 hx3 hx4) (next:=λy hy=>?_);obtain⟨H9,Ia,Ej,ey,yb,yw,yu⟩:=y;obtain⟨he,hy0,hy1⟩:=hy;dsimp only at he hy0 hy1⊢;subst he;refine go ?_;intro b5;refine go ?_;refine aD (agX (s:=s) (v1:=v1) (v2:=v2) (v3:=v3) (v4:=v4) (l:=l) h4 hW hb1 hb2 hb3 hb4 hx1 hx2 hx3 hx4) (next:=λz hz=>?_);obtain⟨vzb,vzw,VA,ez,zb,zw,zu⟩:=z;obtain⟨he,hz0,hz1⟩:=hz;dsimp only at he hz0 hz1⊢;subst he;obtain⟨e1,e2,e3⟩:yb=zb/\yw=zw/\yu=zu:=by
  by_cases h:gJ s l=0
  ·obtain⟨a1,a2,a3⟩:=hy1 h;obtain⟨c1,c2,c3⟩:=hz1 h;exact⟨a1.trans c1.symm,a2.trans c2.symm,a3.trans c3.symm⟩
  ·obtain⟨a1,a2,a3⟩:=hy0 h;obtain⟨c1,c2,c3⟩:=hz0 h;exact⟨a1.trans c1.symm,a2.trans c2.symm,a3.trans c3.symm⟩
 subst e1 e2 e3;have hlen:yb.length<=4/\yw.length<=4/\yu.length<=16:=by
  by_cases h:gJ s l=0
  ·obtain⟨a1,a2,a3⟩:=hy1 h;obtain⟨hck,hL⟩:=yY h;have hne:=yK hck hL;have hc1:=(mX hck).sh.c1;have h3:=wP (dV s l) s.c.toNat s.c.toNat
   have h5:s.c.toNat*s.c.toNat<=4*4:=xC (by omega) (by omega);rw[a1,a2,a3,yL hne (λx hx=>uW hx),yM hne (λx hx=>uW hx)];exact⟨by omega,by omega,dz h3 h5⟩
  ·obtain⟨a1,a2,a3⟩:=hy0 h;rw[a1,a2,a3];simp
 refine go ?_;intro b7;refine go ?_;refine aD (Vz (xs:=yb) (ys:=yw) (us:=yu) (by omega) (by omega) (by omega)) (next:=λ_ _=>?_);refine go ?_;rw[eH (rfl:gJ s l=gJ s l)];refine go ?_;exact aj () (hv:=rfl) (hp:=trivial)
