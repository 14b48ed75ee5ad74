/-
  Part LibMR.
-/
import Derived.Test.YtpkieeggilkagaaGreatLibLR
set_option linter.all false
set_option maxRecDepth 10000
set_option maxHeartbeats 4000000
namespace Go.Proofs.YtpkieeggilkagaaGreat
open Go.Ideal Kd Canon
structure jW(k:bR)(p:List Clue)(grid:List Int)(r:bB)(set other:Nat):Prop where
 s:lJ k
 ps:qO p
 lX:AJ k
 Dm:F5 k r
 right:∀g∈p,qb k g
 mG:oN grid
 cells:∀x∈eY k p r,oq grid x.1
 vals:AQ (gD k) grid
 bW:gX k.aN
 xQ:grid.length=k.aN.length
 st:r.set=(set:Int)/\set<9223372036854775808
 ot:r.other=(other:Int)/\other<9223372036854775808
 kind:1<=r.kind/\r.kind<=11
 Dn:r.kind=2\/r.kind=3\/r.kind=11->∀x∈eY k p r,0<x.2.length
 few:∀x∈eY k p r,x.1.length<=4096
 one:r.kind=11->∀x∈eY k p r,0<x.1.length
def cA(grid:List Int)(x:List Int×List Int):Bool:=zh grid x.1
def cB(grid:List Int)(set:Nat)(op:Int)(x:List Int×List Int):Bool:=qJ (cnt grid set x.1:Int) op (x.2.getD 0 0)
def cC(vals grid:List Int)(op:Int)(x:List Int×List Int):Bool:=qJ (lI vals grid x.1) op (x.2.getD 0 0)
def cD(vals grid:List Int)(x:List Int×List Int):Bool:=zi vals grid x.1
def cE(grid:List Int)(set:Nat)(x:List Int×List Int):Bool:=decide (rn grid set 0 x.1=x.2)
def cK(grid:List Int)(x:List Int×List Int):Bool:=decide (ol grid (x.1.getD 0 0)=x.2.getD 0 0)
def nF(a b:Int):Bool:=decide (a≠b)
def nG(vals:List Int)(n a b:Int):Bool:=decide (n<=max (ol vals a - ol vals b) (ol vals b - ol vals a))
def nH(set other:Nat)(a b:Int):Bool:=!(set.testBit a.toNat)||!(other.testBit b.toNat)
noncomputable def kL(k:bR)(p:List Clue)(grid:List Int)(r:bB)(set other:Nat):Bool:=
 if r.kind=1 then(eY k p r).all (cA grid)
 else if r.kind=2 then(eY k p r).all (cB grid set r.op)
 else if r.kind=3 then(eY k p r).all (cC (gD k) grid r.op)
 else if r.kind=4 then(eY k p r).all (cD (gD k) grid)
 else if r.kind=5 then(eY k p r).all (cE grid set)
 else if r.kind=6 then mW k.aN grid nF
 else if r.kind=7 then mW k.aN grid (nG (gD k) r.n)
 else if r.kind=8 then mW k.aN grid (nH set other)
 else if r.kind=9 then qd k.aN (kH grid set (upTo' grid.length)) false
 else if r.kind=10 then qd k.aN (kH grid set (upTo' grid.length)) true
 else(eY k p r).all (cK grid)
theorem JR(grid:List Int)(set:Nat):∀(cells:List Int) (n:Nat),(rn grid set n cells).length<=cells.length+1
 |[],n=>by unfold rn;split<;>simp
 |c::cs,n=>by
  unfold rn;split
  ·have:=JR grid set cs (n+1);simp;omega
  ·split
   ·have:=JR grid set cs 0;simp;omega
   ·have:=JR grid set cs 0;simp;omega
theorem Bl{l:List Int}{y:Int}(h:l[0]? =some y):l.getD 0 0=y:=uO h
section
variable {k:bR} {p:List Clue} {grid:List Int} {r:bB} {set other:Nat} {bv br:Nat} {vh vs vr vc vu gh gc vn vl vp vg vv v1 v2:Value}
theorem agU(H:jW k p grid r set other)(x:List Int×List Int)(hx:x∈eY k p r):Bi Tryz.prog (.func 59) [] [ptr' bv] [bZ bv 0 (lK k vh vs vr vc vu gh gc vn vl vp vg vv),ah aa vg grid] (cA grid) x:=by
 intro w1 w2;rw[bY];refine aC _ (aF 59) λB w0=>?_;refine go ?_;refine aj (aem (grid:=grid) (cells:=x.1) H.mG (H.cells x hx)) (next:=λ_ _=>?_);refine go ?_;exact ae () (hv:=rfl) (hp:=trivial)
theorem agV(H:jW k p grid r set other)(h0:∀x∈eY k p r,0<x.2.length)(x:List Int×List Int)(hx:x∈eY k p r):Bi Tryz.prog (.func 62) [] [ptr' bv,ptr' br] [bZ bv 0 (lK k vh vs vr vc vu gh gc vn vl vp vg vv),bZ br 0 (gY r v1 v2),ah aa vg grid] (cB grid set r.op) x:=by
 intro w1 w2;have hx0:=h0 x hx;rw[bY];refine aC _ (aF 62) λB w0=>?_;refine go ?_;intro _ _ y hy;rw[H.st.1];refine aj (aek (grid:=grid) (cells:=x.1) (set:=set) H.mG (H.cells x hx) H.st.2) (next:=λ_ _=>?_);refine go ?_;refine aj (VU (n:=(cnt grid set x.1:Int)) (op:=r.op) (b:=y)) (next:=λ_ _=>?_);refine go ?_;refine ae () (hv:=?_) (hp:=trivial);show _=Value.bool (cB grid set r.op x);unfold cB;rw[Bl hy];rfl
theorem agW(H:jW k p grid r set other)(h0:∀x∈eY k p r,0<x.2.length)(x:List Int×List Int)(hx:x∈eY k p r):Bi Tryz.prog (.func 66) [] [ptr' bv,ptr' br] [bZ bv 0 (lK k vh vs vr vc vu gh gc vn vl vp vg vv),bZ br 0 (gY r v1 v2),ah aa vg grid,ah aa vv (gD k)] (cC (gD k) grid r.op) x:=by
 intro w1 w2;have hx0:=h0 x hx;rw[bY];refine aC _ (aF 66) λB w0=>?_;refine go ?_;intro _ _ y hy;refine aj (ael (values:=gD k) (grid:=grid) (cells:=x.1) H.mG (H.cells x hx) H.vals) (next:=λ_ _=>?_);refine go ?_;refine aj (VU (n:=lI (gD k) grid x.1) (op:=r.op) (b:=y)) (next:=λ_ _=>?_);refine go ?_;refine ae () (hv:=?_) (hp:=trivial);show _=Value.bool (cC (gD k) grid r.op x);unfold cC;rw[Bl hy];rfl
theorem agX(H:jW k p grid r set other)(x:List Int×List Int)(hx:x∈eY k p r):Bi Tryz.prog (.func 69) [] [ptr' bv] [bZ bv 0 (lK k vh vs vr vc vu gh gc vn vl vp vg vv),ah aa vg grid,ah aa vv (gD k)] (cD (gD k) grid) x:=by
 intro w1 w2;rw[bY];refine aC _ (aF 69) λB w0=>?_;refine go ?_;refine aj (aen (values:=gD k) (grid:=grid) (cells:=x.1) H.mG (H.cells x hx) H.vals) (next:=λ_ _=>?_);refine go ?_;exact ae () (hv:=rfl) (hp:=trivial)
theorem agY(H:jW k p grid r set other)(x:List Int×List Int)(hx:x∈eY k p r):Bi Tryz.prog (.func 72) [] [ptr' bv,ptr' br] [bZ bv 0 (lK k vh vs vr vc vu gh gc vn vl vp vg vv),bZ br 0 (gY r v1 v2),ah aa vg grid] (cE grid set) x:=by
 intro w1 w2;have hcl:=H.few x hx;rw[bY];refine aC _ (aF 72) λB w0=>?_;refine go ?_;rw[H.st.1];refine aj (aeq (grid:=grid) (cells:=x.1) (set:=set)) (next:=λy _=>?_);dsimp only[List.cons_append,List.nil_append];have hrl:=JR grid set x.1 0;refine go ?_;refine aj (aes (aep (b3:=y.1) (b4:=y.2.1) (b5:=y.2.2) (vg:=vg) (vc:=w1) (grid:=grid) (cells:=x.1) (set:=set) H.mG (H.cells x hx) H.st.2) (by omega)) (next:=λv _=>?_);refine go ?_;refine aj (zk (xs:=rn grid set 0 x.1) (ys:=x.2) (by omega)) (next:=λ_ _=>?_);refine go ?_;exact ae () (hv:=rfl) (hp:=trivial)
theorem agZ(H:jW k p grid r set other)(h0:∀x∈eY k p r,0<x.2.length)(h1:∀x∈eY k p r,0<x.1.length)(x:List Int×List Int)(hx:x∈eY k p r):Bi Tryz.prog (.func 90) [] [ptr' bv] [bZ bv 0 (lK k vh vs vr vc vu gh gc vn vl vp vg vv),ah aa vg grid] (cK grid) x:=by
 intro w1 w2;have hx0:=h0 x hx;have hx1:=h1 x hx;rw[bY];refine aC _ (aF 90) λB w0=>?_;refine go ?_;intro _ _ c hc;have hcc:=(H.cells x hx).cell c (aP hc);obtain⟨cn,rfl⟩:=dZ hcc.1;refine go ?_;intro _ _ z hz _ _ y hy;refine go ?_;refine ae () (hv:=?_) (hp:=trivial);show _=Value.bool (cK grid x);unfold cK;rw[Bl hy,Bl hc,vT hz];rfl
theorem ag0{a b:Int}:Bj Tryz.prog (.func 78) [] [] [] nF a b:=by
 unfold Bj;rw[bY];refine aC _ (aF 78) λB w0=>?_;refine go ?_;exact ae () (hv:=rfl) (hp:=trivial)
theorem ag1(H:jW k p grid r set other){a b:Int}(ha:a∈grid)(hb:b∈grid):Bj Tryz.prog (.func 80) [] [ptr' bv,ptr' br] [bZ bv 0 (lK k vh vs vr vc vu gh gc vn vl vp vg vv),bZ br 0 (gY r v1 v2),ah aa vv (gD k)] (nG (gD k) r.n) a b:=by
 unfold Bj;rw[bY];obtain⟨a0,a1⟩:=H.mG.dP a ha;obtain⟨b0,b1⟩:=H.mG.dP b hb;have a2:=H.vals.dP a ha;have b2:=H.vals.dP b hb;obtain⟨an,rfl⟩:=dZ a0;obtain⟨bn,rfl⟩:=dZ b0;refine aC _ (aF 80) λB w0=>?_;refine go ?_;intro _ _ x hx _ _ y hy;have hxv:=H.vals.val x (aP hx);have hyv:=H.vals.val y (aP hy);refine go ?_;refine aj (aeo (a:=x) (b:=y) (n:=r.n) (by omega) (by omega)) (next:=λ_ _=>?_);refine go ?_;refine ae () (hv:=?_) (hp:=trivial);show _=Value.bool (nG (gD k) r.n an bn);unfold nG;rw[vT hx,vT hy];rfl
theorem ag2(H:jW k p grid r set other){a b:Int}(ha:a∈grid)(hb:b∈grid):Bj Tryz.prog (.func 83) [] [ptr' br] [bZ br 0 (gY r v1 v2)] (nH set other) a b:=by
 unfold Bj;rw[bY];obtain⟨a0,a1⟩:=H.mG.dP a ha;obtain⟨b0,b1⟩:=H.mG.dP b hb;obtain⟨an,rfl⟩:=dZ a0;obtain⟨bn,rfl⟩:=dZ b0;refine aC _ (aF 83) λB w0=>?_;refine go ?_;rw[H.st.1];refine aj (CY (set:=set) (dP:=an) H.st.2 (by omega)) (next:=λ_ _=>?_);refine go ?_;cases hs:set.testBit an with
 |false=>
  refine go ?_;refine ae () (hv:=?_) (hp:=trivial);show _=Value.bool (nH set other an bn);unfold nH;rw[ku,hs];rfl
 |true=>
  refine go ?_;rw[H.ot.1];refine aj (CY (set:=other) (dP:=bn) H.ot.2 (by omega)) (next:=λ_ _=>?_);refine go ?_;refine ae () (hv:=?_) (hp:=trivial);show _=Value.bool (nH set other an bn);unfold nH;rw[ku,ku,hs];show _=Value.bool (false||!other.testBit bn);rw[Bool.false_or];rfl
abbrev uV(k:bR)(p:List Clue)(grid:List Int)(r:bB)(bv br:Nat)(vh vs vr vc vu gh gc vn vl vp vg vv v1 v2:Value):List aL:=
 [bZ bv 0 (lK k vh vs vr vc vu gh gc vn vl vp vg vv),bZ br 0 (gY r v1 v2),ah (ax (ax aa)) vl k.lists,ah bI vc k.decl.aM,ah jh vp p,ah aa vg grid,ah aa vv (gD k),ah (ax aa) vn k.aN]
abbrev uW(P:Program)(f:FuncId)(cap:List Value)(F:List aL)(b:Bool):Prop:=aV P (.func f) [] cap [] F (λ_:Unit=>.bool b) (λ_=>[]) (λ_=>[]) (λ_=>True)
theorem ag3(H:jW k p grid r set other):uW Tryz.prog 57 [ptr' bv,ptr' br] (uV k p grid r bv br vh vs vr vc vu gh gc vn vl vp vg vv v1 v2) ((eY k p r).all (cA grid)):=by
 refine aC _ (aF 57) λB w0=>?_;refine go ?_;refine aj (Dl (k:=k) (p:=p) (r:=r) (vv:=vv) (v1:=v1) (v2:=v2) (fn:=.func 59) (first:=[]) (cap:=[ptr' bv]) (F1:=[bZ bv 0 (lK k vh vs vr vc vu gh gc vn vl vp vg vv),ah aa vg grid]) (c:=cA grid) H.s H.ps H.lX H.Dm H.right (λx hx=>agU H x hx)) (next:=λ_ _=>?_);refine go ?_;exact ae () (hv:=rfl) (hp:=trivial)
theorem ag4(H:jW k p grid r set other)(h0:∀x∈eY k p r,0<x.2.length):uW Tryz.prog 61 [ptr' bv,ptr' br] (uV k p grid r bv br vh vs vr vc vu gh gc vn vl vp vg vv v1 v2) ((eY k p r).all (cB grid set r.op)):=by
 refine aC _ (aF 61) λB w0=>?_;refine go ?_;refine aj (Dl (k:=k) (p:=p) (r:=r) (vv:=vv) (v1:=v1) (v2:=v2) (fn:=.func 62) (first:=[]) (cap:=[ptr' bv,ptr' br]) (F1:=[bZ bv 0 (lK k vh vs vr vc vu gh gc vn vl vp vg vv),bZ br 0 (gY r v1 v2),ah aa vg grid]) (c:=cB grid set r.op) H.s H.ps H.lX H.Dm H.right (λx hx=>agV H h0 x hx)) (next:=λ_ _=>?_);refine go ?_;exact ae () (hv:=rfl) (hp:=trivial)
theorem ag5(H:jW k p grid r set other)(h0:∀x∈eY k p r,0<x.2.length):uW Tryz.prog 65 [ptr' bv,ptr' br] (uV k p grid r bv br vh vs vr vc vu gh gc vn vl vp vg vv v1 v2) ((eY k p r).all (cC (gD k) grid r.op)):=by
 refine aC _ (aF 65) λB w0=>?_;refine go ?_;refine aj (Dl (k:=k) (p:=p) (r:=r) (vv:=vv) (v1:=v1) (v2:=v2) (fn:=.func 66) (first:=[]) (cap:=[ptr' bv,ptr' br]) (F1:=[bZ bv 0 (lK k vh vs vr vc vu gh gc vn vl vp vg vv),bZ br 0 (gY r v1 v2),ah aa vg grid,ah aa vv (gD k)]) (c:=cC (gD k) grid r.op) H.s H.ps H.lX H.Dm H.right (λx hx=>agW H h0 x hx)) (next:=λ_ _=>?_);refine go ?_;exact ae () (hv:=rfl) (hp:=trivial)
theorem ag6(H:jW k p grid r set other):uW Tryz.prog 68 [ptr' bv,ptr' br] (uV k p grid r bv br vh vs vr vc vu gh gc vn vl vp vg vv v1 v2) ((eY k p r).all (cD (gD k) grid)):=by
 refine aC _ (aF 68) λB w0=>?_;refine go ?_;refine aj (Dl (k:=k) (p:=p) (r:=r) (vv:=vv) (v1:=v1) (v2:=v2) (fn:=.func 69) (first:=[]) (cap:=[ptr' bv]) (F1:=[bZ bv 0 (lK k vh vs vr vc vu gh gc vn vl vp vg vv),ah aa vg grid,ah aa vv (gD k)]) (c:=cD (gD k) grid) H.s H.ps H.lX H.Dm H.right (λx hx=>agX H x hx)) (next:=λ_ _=>?_);refine go ?_;exact ae () (hv:=rfl) (hp:=trivial)
theorem ag7(H:jW k p grid r set other):uW Tryz.prog 71 [ptr' bv,ptr' br] (uV k p grid r bv br vh vs vr vc vu gh gc vn vl vp vg vv v1 v2) ((eY k p r).all (cE grid set)):=by
 refine aC _ (aF 71) λB w0=>?_;refine go ?_;refine aj (Dl (k:=k) (p:=p) (r:=r) (vv:=vv) (v1:=v1) (v2:=v2) (fn:=.func 72) (first:=[]) (cap:=[ptr' bv,ptr' br]) (F1:=[bZ bv 0 (lK k vh vs vr vc vu gh gc vn vl vp vg vv),bZ br 0 (gY r v1 v2),ah aa vg grid]) (c:=cE grid set) H.s H.ps H.lX H.Dm H.right (λx hx=>agY H x hx)) (next:=λ_ _=>?_);refine go ?_;exact ae () (hv:=rfl) (hp:=trivial)
theorem ag8(H:jW k p grid r set other)(h0:∀x∈eY k p r,0<x.2.length)(h1:∀x∈eY k p r,0<x.1.length):uW Tryz.prog 89 [ptr' bv,ptr' br] (uV k p grid r bv br vh vs vr vc vu gh gc vn vl vp vg vv v1 v2) ((eY k p r).all (cK grid)):=by
 refine aC _ (aF 89) λB w0=>?_;refine go ?_;refine aj (Dl (k:=k) (p:=p) (r:=r) (vv:=vv) (v1:=v1) (v2:=v2) (fn:=.func 90) (first:=[]) (cap:=[ptr' bv]) (F1:=[bZ bv 0 (lK k vh vs vr vc vu gh gc vn vl vp vg vv),ah aa vg grid]) (c:=cK grid) H.s H.ps H.lX H.Dm H.right (λx hx=>agZ H h0 h1 x hx)) (next:=λ_ _=>?_);refine go ?_;exact ae () (hv:=rfl) (hp:=trivial)
theorem jW.aN(H:jW k p grid r set other):∀l∈k.aN,∀b∈l,0<=b/\b<grid.length:=by
 intro l hl b hb;obtain⟨i,hi⟩:=nA hl;obtain⟨j,hj⟩:=nA hb;have:=H.bW.ok i l hi j b hj;have:=H.xQ;omega
theorem ag9(H:jW k p grid r set other):uW Tryz.prog 76 [ptr' bv] (uV k p grid r bv br vh vs vr vc vu gh gc vn vl vp vg vv v1 v2) (mW k.aN grid (nF)):=by
 have hgl:=H.mG.len;have hnl:=H.xQ;refine aC _ (aF 76) λB w0=>?_;refine go ?_;refine aj (OO (k:=k) (grid:=grid) (vv:=vv) (fn:=.func 78) (first:=[]) (cap:=[]) (F1:=[]) (c:=nF) (by omega) hgl (λl hl=>⟨H.s.aN.2 l hl,λb hb=>H.aN l hl b hb⟩) (λa ha b hb=>ag0)) (next:=λ_ _=>?_);refine go ?_;exact ae () (hv:=rfl) (hp:=trivial)
theorem aha(H:jW k p grid r set other):uW Tryz.prog 79 [ptr' bv,ptr' br] (uV k p grid r bv br vh vs vr vc vu gh gc vn vl vp vg vv v1 v2) (mW k.aN grid (nG (gD k) r.n)):=by
 have hgl:=H.mG.len;have hnl:=H.xQ;refine aC _ (aF 79) λB w0=>?_;refine go ?_;refine aj (OO (k:=k) (grid:=grid) (vv:=vv) (fn:=.func 80) (first:=[]) (cap:=[ptr' bv,ptr' br]) (F1:=[bZ bv 0 (lK k vh vs vr vc vu gh gc vn vl vp vg vv),bZ br 0 (gY r v1 v2),ah aa vv (gD k)]) (c:=nG (gD k) r.n) (by omega) hgl (λl hl=>⟨H.s.aN.2 l hl,λb hb=>H.aN l hl b hb⟩) (λa ha b hb=>ag1 H ha hb)) (next:=λ_ _=>?_);refine go ?_;exact ae () (hv:=rfl) (hp:=trivial)
theorem ahb(H:jW k p grid r set other):uW Tryz.prog 82 [ptr' bv,ptr' br] (uV k p grid r bv br vh vs vr vc vu gh gc vn vl vp vg vv v1 v2) (mW k.aN grid (nH set other)):=by
 have hgl:=H.mG.len;have hnl:=H.xQ;refine aC _ (aF 82) λB w0=>?_;refine go ?_;refine aj (OO (k:=k) (grid:=grid) (vv:=vv) (fn:=.func 83) (first:=[]) (cap:=[ptr' br]) (F1:=[bZ br 0 (gY r v1 v2)]) (c:=nH set other) (by omega) hgl (λl hl=>⟨H.s.aN.2 l hl,λb hb=>H.aN l hl b hb⟩) (λa ha b hb=>ag2 H ha hb)) (next:=λ_ _=>?_);refine go ?_;exact ae () (hv:=rfl) (hp:=trivial)
theorem VW{grid:List Int}(h:grid.length<=1000000):oq grid (upTo' grid.length):=by
 refine⟨by rw[oh];exact h,λc hc=>?_⟩;unfold upTo' at hc;obtain⟨i,hi,rfl⟩:=eT.1 hc;have:=uf.1 hi;omega
theorem ahc(H:jW k p grid r set other):uW Tryz.prog 85 [ptr' bv,ptr' br] (uV k p grid r bv br vh vs vr vc vu gh gc vn vl vp vg vv v1 v2) (qd k.aN (kH grid set (upTo' grid.length)) false):=by
 have hgl:=H.mG.len;have rU:=oh grid.length;refine aC _ (aF 85) λB w0=>?_;refine aT (E:=aa) (v:=vg) (xs:=grid) (by simp) λag cg eg=>?_;subst eg;refine go ?_;refine aj (VV (n:=grid.length) hgl) (next:=λv _=>?_);dsimp only[List.cons_append,List.nil_append];refine go ?_;rw[H.st.1];refine aj (U4 (aN:=k.aN) (grid:=grid) (cells:=upTo' grid.length) (set:=set) (loop:=false) H.bW H.s.aN.2 H.xQ H.mG (VW hgl) H.st.2) (next:=λ_ _=>?_);refine go ?_;exact ae () (hv:=rfl) (hp:=trivial)
theorem ahd(H:jW k p grid r set other):uW Tryz.prog 88 [ptr' bv,ptr' br] (uV k p grid r bv br vh vs vr vc vu gh gc vn vl vp vg vv v1 v2) (qd k.aN (kH grid set (upTo' grid.length)) true):=by
 have hgl:=H.mG.len;have rU:=oh grid.length;refine aC _ (aF 88) λB w0=>?_;refine aT (E:=aa) (v:=vg) (xs:=grid) (by simp) λag cg eg=>?_;subst eg;refine go ?_;refine aj (VV (n:=grid.length) hgl) (next:=λv _=>?_);dsimp only[List.cons_append,List.nil_append];refine go ?_;rw[H.st.1];refine aj (U4 (aN:=k.aN) (grid:=grid) (cells:=upTo' grid.length) (set:=set) (loop:=true) H.bW H.s.aN.2 H.xQ H.mG (VW hgl) H.st.2) (next:=λ_ _=>?_);refine go ?_;exact ae () (hv:=rfl) (hp:=trivial)
theorem VX(H:jW k p grid r set other):aV Tryz.prog (.func 36) [.agg ⟨lK k vh vs vr vc vu gh gc vn vl vp vg vv⟩,.agg ⟨gY r v1 v2⟩] [] [] [ah (ax (ax aa)) vl k.lists,ah bI vc k.decl.aM,ah jh vp p,ah aa vg grid,ah aa vv (gD k),ah (ax aa) vn k.aN] (λ_:Unit=>.bool (kL k p grid r set other)) (λ_=>[]) (λ_=>[]) (λ_=>True):=by
 have hcs:r.kind=1\/r.kind=2\/r.kind=3\/r.kind=4\/r.kind=5\/r.kind=6\/r.kind=7\/r.kind=8\/r.kind=9\/r.kind=10\/r.kind=11:=by have:=H.kind;omega
 refine aC _ (aF 36) λB w0=>?_;refine go ?_;intro b2 b3 b5;refine aW (eB (b:=b2)) (h:=?_);refine aW (eB (b:=b3)) (h:=?_);refine go ?_;rcases hcs with h|h|h|h|h|h|h|h|h|h|h
 ·rw[h];refine go ?_;refine aj (ag3 (bv:=b2) (br:=b3) (vv:=vv) (v1:=v1) (v2:=v2) H) (next:=λ_ _=>?_);refine go ?_;refine ae () (hv:=?_) (hp:=trivial);show Value.bool _=Value.bool _;unfold kL;rw[h];rfl
 ·rw[h];refine go ?_;refine aj (ag4 (bv:=b2) (br:=b3) (vv:=vv) (v1:=v1) (v2:=v2) H (H.Dn (.inl h))) (next:=λ_ _=>?_);refine go ?_;refine ae () (hv:=?_) (hp:=trivial);show Value.bool _=Value.bool _;unfold kL;rw[h];rfl
 ·rw[h];refine go ?_;refine aj (ag5 (bv:=b2) (br:=b3) (vv:=vv) (v1:=v1) (v2:=v2) H (H.Dn (.inr (.inl h)))) (next:=λ_ _=>?_);refine go ?_;refine ae () (hv:=?_) (hp:=trivial);show Value.bool _=Value.bool _;unfold kL;rw[h];rfl
 ·rw[h];refine go ?_;refine aj (ag6 (bv:=b2) (br:=b3) (vv:=vv) (v1:=v1) (v2:=v2) H) (next:=λ_ _=>?_);refine go ?_;refine ae () (hv:=?_) (hp:=trivial);show Value.bool _=Value.bool _;unfold kL;rw[h];rfl
 ·rw[h];refine go ?_;refine aj (ag7 (bv:=b2) (br:=b3) (vv:=vv) (v1:=v1) (v2:=v2) H) (next:=λ_ _=>?_);refine go ?_;refine ae () (hv:=?_) (hp:=trivial);show Value.bool _=Value.bool _;unfold kL;rw[h];rfl
 ·rw[h];refine go ?_;refine aj (ag9 (bv:=b2) (br:=b3) (vv:=vv) (v1:=v1) (v2:=v2) H) (next:=λ_ _=>?_);refine go ?_;refine ae () (hv:=?_) (hp:=trivial);show Value.bool _=Value.bool _;unfold kL;rw[h];rfl
 ·rw[h];refine go ?_;refine aj (aha (bv:=b2) (br:=b3) (vv:=vv) (v1:=v1) (v2:=v2) H) (next:=λ_ _=>?_);refine go ?_;refine ae () (hv:=?_) (hp:=trivial);show Value.bool _=Value.bool _;unfold kL;rw[h];rfl
 ·rw[h];refine go ?_;refine aj (ahb (bv:=b2) (br:=b3) (vv:=vv) (v1:=v1) (v2:=v2) H) (next:=λ_ _=>?_);refine go ?_;refine ae () (hv:=?_) (hp:=trivial);show Value.bool _=Value.bool _;unfold kL;rw[h];rfl
 ·rw[h];refine go ?_;refine aj (ahc (bv:=b2) (br:=b3) (vv:=vv) (v1:=v1) (v2:=v2) H) (next:=λ_ _=>?_);refine go ?_;refine ae () (hv:=?_) (hp:=trivial);show Value.bool _=Value.bool _;unfold kL;rw[h];rfl
 ·rw[h];refine go ?_;refine aj (ahd (bv:=b2) (br:=b3) (vv:=vv) (v1:=v1) (v2:=v2) H) (next:=λ_ _=>?_);refine go ?_;refine ae () (hv:=?_) (hp:=trivial);show Value.bool _=Value.bool _;unfold kL;rw[h];rfl
 ·rw[h];refine go ?_;refine aj (ag8 (bv:=b2) (br:=b3) (vv:=vv) (v1:=v1) (v2:=v2) H (H.Dn (.inr (.inr h))) (H.one h)) (next:=λ_ _=>?_);refine go ?_;refine ae () (hv:=?_) (hp:=trivial);show Value.bool _=Value.bool _;unfold kL;rw[h];rfl
end
end Go.Proofs.YtpkieeggilkagaaGreat
namespace Go.Proofs.YtpkieeggilkagaaGreat
open Go.Ideal Kd Canon
noncomputable def xY(k:bR)(p:List Clue)(grid:List Int)(r:bB):Bool:=kL k p grid r r.set.toNat r.other.toNat
noncomputable def jr(k:bR)(p:List Clue)(grid:List Int)(rs:List bB):List Int:=rs.zipIdx.filterMap λx=>if xY k p grid x.1 then none else some (x.2:Int)
theorem VY{k:bR}{p:List Clue}{grid:List Int}{rs:List bB}{j:Nat}{r:bB}(h:rs[j]? =some r):jr k p grid (rs.take (j+1))=jr k p grid (rs.take j)++if xY k p grid r then[]else[(j:Int)]:=by
 have hk:=(bK.1 h).1;unfold jr;rw[bS h,DI,PG,gL,zF (by omega)];congr 1;rw[Kb,List.zipIdx_nil,fC];cases h2:xY k p grid r<;>simp[h2]
theorem OQ(k:bR)(p:List Clue)(grid:List Int)(rs:List bB):(jr k p grid rs).length<=rs.length:=by
 unfold jr;refine oU (Xb _ _) ?_;simp
def F7(k:bR)(p:List Clue)(grid:List Int):Prop:=eH k->mF k grid->jO k p->∀r∈k.decl.rules,jW k p grid r r.set.toNat r.other.toNat
theorem ahe{k:bR}{p:List Clue}{grid:List Int}{vh vs vr vc vu gh gc vn vl vp vg:Value}(hS:lJ k)(hP:qO p)(hl:grid.length<9223372036854775808)(hA:F7 k p grid):
 aV Tryz.prog (.func 15) [.agg ⟨jq k vh vs vr vc vu gh gc vn vl⟩,.agg ⟨[vp]⟩,vg] [] [] (ah jh vp p::ah aa vg grid::iB k vh vs vr vc vu gh gc vn vl []) tT (λ_=>[])
  (λy=>[kX (y.e=0) (ah aa y.v (jr k p grid k.decl.rules))]) (λy=>Dk k p grid y.e/\(y.e≠0->y.v=.slice none 0 0)):=by
 have rU:=hS.d.s.jP;refine aC _ (aF 15) λB w0=>?_;dsimp only[iB];refine go ?_;intro b3 b4;refine go ?_;refine aj (VT (k:=k) (p:=p) (grid:=grid) hS hP hl) (next:=λe he=>?_);refine go ?_;refine ay rfl (λhne=>?_) (λhz=>?_)
 ·refine go ?_;refine kY (c:=e=0) (f:=ah aa (.slice none 0 0) (jr k p grid k.decl.rules)) hne ?_;exact ae ⟨.slice none 0 0,e⟩ (hv:=rfl) (hp:=⟨he,λ_=>rfl⟩)
 have hz:e=0:=gM.1 hz;subst hz;have hK:eH k:=Classical.byContradiction λh=>by have:=he.nk h;omega
 have hF:mF k grid:=Classical.byContradiction λh=>by have:=he.nf hK h;omega
 have hQ:jO k p:=Classical.byContradiction λh=>by have:=he.np hK hF h;omega
 have xy:=hA hK hF hQ;refine go ?_;refine aj (look_ok (p:=p) (k:=k) (grid:=grid) hS.d.s.cZ) (next:=λvv _=>?_);refine go ?_;intro b8;refine go ?_;refine fJ aa ?_;refine aR (λy:Nat×Value=>k.decl.rules.length - y.1) (λy=>[(26,.int .i64 (y.1:Int)),(6,y.2)]) (λy=>[ap aa y.2 (jr k p grid (k.decl.rules.take y.1))]) (λ_=>[]) (λy=>y.1<=k.decl.rules.length) (0,.slice none 0 0) (bJ _) (hk:=by repeat (first|exact aJ.nil|(apply aJ.cons;(focus (repeat (first|exact aA.here|apply aA.there)))))) (body:=?_);rintro⟨j,v6⟩ hj;dsimp only at hj⊢;have hbl:=OQ k p grid (k.decl.rules.take j);rw[gL]at hbl;refine go ?_;refine ay rfl (λh1=>?_) (λh1=>?_)
 ·refine go ?_;refine aU aZ (xs:=k.decl.rules) (next:=λ_ _ r (w:Value×Value) hr=>?_);have OT:=xy r (aP hr);have hsu:=VY (k:=k) (p:=p) (grid:=grid) hr;refine go ?_;intro b10;refine go ?_;refine aj (VX (k:=k) (p:=p) (grid:=grid) (r:=r) (vv:=vv) (v1:=w.1) (v2:=w.2) OT) (next:=λ_ _=>?_);rw[show kL k p grid r r.set.toNat r.other.toNat=xY k p grid r from rfl];generalize xY k p grid r=hr2 at hsu⊢;cases hr2 with
  |true=>
   have hu2:jr k p grid (k.decl.rules.take (j+1))=jr k p grid (k.decl.rules.take j):=by rw[hsu];simp
   rw[<- hu2];refine go ?_;exact aD (j+1,v6) (by show k.decl.rules.length - (j+1)<k.decl.rules.length - j;omega) (by show j+1<=_;omega)
  |false=>
   have hu2:jr k p grid (k.decl.rules.take (j+1))=jr k p grid (k.decl.rules.take j)++[(j:Int)]:=by rw[hsu];simp
   refine go ?_;intro xV;refine go ?_;refine eG (xs:=jr k p grid (k.decl.rules.take j)) aa (j:Int) () (by omega) (next:=λad=>?_);rw[<- hu2];refine go ?_;exact aD (j+1,.slice ad ((jr k p grid (k.decl.rules.take j)).length+1) ((jr k p grid (k.decl.rules.take j)).length+1)) (by show k.decl.rules.length - (j+1)<k.decl.rules.length - j;omega) (by show j+1<=_;omega)
 have fK:j=k.decl.rules.length:=by omega
 subst fK;rw[bC];refine aW (fG (E:=aa) (v:=v6) (xs:=jr k p grid k.decl.rules)) (h:=?_);refine go ?_;refine kJ (c:=(0:Int)=0) (f:=ah aa v6 (jr k p grid k.decl.rules)) (by simp) ?_;exact ae ⟨v6,0⟩ (hv:=rfl) (hp:=⟨he,λh=>absurd rfl h⟩)
end Go.Proofs.YtpkieeggilkagaaGreat
namespace Go.Proofs.YtpkieeggilkagaaGreat
open Go.Ideal Kd Canon
structure F8(k:bR):Prop where
 dw:kD k.decl.w
 dh:kD k.decl.h
 gw:kD k.grid.w
 gh:kD k.grid.h
 holes:k.decl.holes.length<9223372036854775808
 cZ:k.decl.symbols.length<9223372036854775808
 regs:k.decl.regions.length<9223372036854775808
 vZ:∀r∈k.decl.regions,r.lists.length<9223372036854775808/\∀l∈r.lists,l.length<9223372036854775808
 jB:k.decl.aM.length<9223372036854775808
 jP:k.decl.rules.length<9223372036854775808
 vY:∀r∈k.decl.rules,r.names.length<9223372036854775808/\r.others.length<9223372036854775808
 OU:k.grid.holes.length<9223372036854775808
 cells:k.grid.cells.length<9223372036854775808
 aN:k.aN.length<9223372036854775808/\∀l∈k.aN,l.length<9223372036854775808
 lists:k.lists.length<9223372036854775808/\∀l∈k.lists,l.length<9223372036854775808/\∀m∈l,m.length<9223372036854775808
structure OV(k:bR):Prop where
 cells:k.grid.cells.length<=16
 OU:k.grid.holes.length<=256
 aN:k.aN.length<=20
 lists:k.lists.length<=12
 cZ:k.decl.symbols.length<=6
 regs:k.decl.regions.length<=6
 jB:k.decl.aM.length<=6
 jP:k.decl.rules.length<=10
 holes:k.decl.holes.length<=256
 each:∀l∈k.lists,l.length<=40
 reg:∀r∈k.decl.regions,r.lists.length<=20
theorem lJ.of{k:bR}(hB:F8 k)(hF:OV k):lJ k:=by
 have f1:=hF.cells;have f2:=hF.OU;have f5:=hF.cZ;have f6:=hF.regs;have f7:=hF.jB;have f8:=hF.jP;have f9:=hF.holes;exact⟨⟨⟨by omega,by omega,by omega,by omega,hB.vY,hB.holes,hB.vZ⟩,hB.dw,hB.dh,by omega⟩,⟨hB.gw,hB.gh,by omega,by omega⟩,hB.aN,hB.lists⟩
theorem ahf{k:bR}{vh vs vr vc vu gh gc vn vl:Value}(hB:F8 k):aV Tryz.prog (.func 33) [.agg ⟨jq k vh vs vr vc vu gh gc vn vl⟩] [] [] (iB k vh vs vr vc vu gh gc vn vl []) (λb:Bool=>.bool b) (λ_=>[]) (λ_=>[]) (λb=>b=true->OV k):=by
 refine aC _ (aF 33) λB w0=>?_;dsimp only[iB];refine go ?_;intro b1;refine go ?_;refine gG (λh1=>?_) (λh1=>?_)
 rotate_left
 ·refine go ?_;exact ae false (hv:=rfl) (hp:=λh=>by cases h)
 refine go ?_;refine gG (λh2=>?_) (λh2=>?_)
 rotate_left
 ·refine go ?_;exact ae false (hv:=rfl) (hp:=λh=>by cases h)
 refine go ?_;refine gG (λh3=>?_) (λh3=>?_)
 rotate_left
 ·refine go ?_;exact ae false (hv:=rfl) (hp:=λh=>by cases h)
 refine go ?_;refine gG (λh4=>?_) (λh4=>?_)
 rotate_left
 ·refine go ?_;exact ae false (hv:=rfl) (hp:=λh=>by cases h)
 refine go ?_;refine gG (λh5=>?_) (λh5=>?_)
 rotate_left
 ·refine go ?_;exact ae false (hv:=rfl) (hp:=λh=>by cases h)
 refine go ?_;refine gG (λh6=>?_) (λh6=>?_)
 rotate_left
 ·refine go ?_;exact ae false (hv:=rfl) (hp:=λh=>by cases h)
 refine go ?_;refine gG (λh7=>?_) (λh7=>?_)
 rotate_left
 ·refine go ?_;exact ae false (hv:=rfl) (hp:=λh=>by cases h)
 refine go ?_;refine gG (λh8=>?_) (λh8=>?_)
 rotate_left
 ·refine go ?_;exact ae false (hv:=rfl) (hp:=λh=>by cases h)
 refine go ?_;refine ay rfl (λh9=>?_) (λh9=>?_)
 ·refine go ?_;exact ae false (hv:=rfl) (hp:=λh=>by cases h)
 refine go ?_;refine aR (λj:Nat=>k.lists.length - j) (λj=>[(3,.int .i64 (j:Int))]) (λ_=>[]) (λ_=>[]) (λj=>j<=k.lists.length/\∀l∈k.lists.take j,l.length<=40) 0 ⟨bJ _,by simp⟩ (body:=?_);rintro j ⟨hj,hall⟩;refine go ?_;refine ay rfl (λa1=>?_) (λa1=>?_)
 ·refine go ?_;refine aU (ax (ax aa)) (xs:=k.lists) (next:=λ_ _ l (OP:Value) hl=>?_);refine go ?_;refine ay rfl (λa2=>?_) (λa2=>?_)
  ·refine go ?_;exact ae false (hv:=rfl) (hp:=λh=>by cases h)
  ·refine go ?_;refine aD (j+1) (by show k.lists.length - (j+1)<k.lists.length - j;omega) ⟨by omega,?_⟩;rw[bS hl];intro x hx;rcases dB.1 hx with hx|hx
   ·exact hall x hx
   ·rw[bM.1 hx];omega
 have fK:j=k.lists.length:=by omega
 subst fK;rw[bC]at hall;refine go ?_;refine aR (λj:Nat=>k.decl.regions.length - j) (λj=>[(4,.int .i64 (j:Int))]) (λ_=>[]) (λ_=>[]) (λj=>j<=k.decl.regions.length/\∀r∈k.decl.regions.take j,r.lists.length<=20) 0 ⟨bJ _,by simp⟩ (body:=?_);rintro j ⟨hj,nu⟩;refine go ?_;refine ay rfl (λa1=>?_) (λa1=>?_)
 ·have hr:k.decl.regions[j]? =some (k.decl.regions[j]'(by omega)):=bN _;generalize k.decl.regions[j]'(by omega)=r at hr;refine go ?_;refine aU fA (xs:=k.decl.regions) (next:=λ_ _ r2 (OP:Value) hr2=>?_);rw[hr]at hr2;obtain rfl:r=r2:=Option.some.inj hr2;refine go ?_;refine ay rfl (λa2=>?_) (λa2=>?_)
  ·refine go ?_;exact ae false (hv:=rfl) (hp:=λh=>by cases h)
  ·refine go ?_;refine aD (j+1) (by show k.decl.regions.length - (j+1)<k.decl.regions.length - j;omega) ⟨by omega,?_⟩;rw[bS hr];intro x hx;rcases dB.1 hx with hx|hx
   ·exact nu x hx
   ·rw[bM.1 hx];omega
 have fK:j=k.decl.regions.length:=by omega
 subst fK;rw[bC]at nu;refine go ?_;exact ae true (hv:=rfl) (hp:=λ_=>⟨by omega,by omega,by omega,by omega,by omega,by omega,by omega,by omega,by omega,hall,nu⟩)
theorem ahg{k:bR}{p:List Clue}{grid:List Int}{vh vs vr vc vu gh gc vn vl vp vg:Value}(hB:F8 k):
 aV Tryz.prog (.func 12) [.agg ⟨jq k vh vs vr vc vu gh gc vn vl⟩,.agg ⟨[vp]⟩,vg] [] [] (ah jh vp p::ah aa vg grid::iB k vh vs vr vc vu gh gc vn vl []) (λb:Bool=>.bool b) (λ_=>[]) (λ_=>[]) (λb=>b=true->OV k/\p.length<=60/\grid.length<=20):=by
 refine aC _ (aF 12) λB w0=>?_;dsimp only[iB];refine go ?_;intro b3 b4;refine go ?_;refine aj (ahf (k:=k) hB) (next:=λb hb=>?_);cases b with
 |false=>
  refine go ?_;exact ae false (hv:=rfl) (hp:=λh=>by cases h)
 |true=>
 have hk:=hb rfl;refine go ?_;refine gG (λh1=>?_) (λh1=>?_)
 ·refine go ?_;exact ae false (hv:=rfl) (hp:=λh=>by cases h)
 refine go ?_;refine ae (decide ((grid.length:Int)<=20)) (hv:=rfl) (hp:=λh=>?_);have h:=iw h;exact⟨hk,by omega,by omega⟩
end Go.Proofs.YtpkieeggilkagaaGreat
namespace Go.Proofs.YtpkieeggilkagaaGreat
open Go.Ideal Kd Canon
theorem VZ{k:Int}(h:(fF k).read=true):1<=k/\k<=11:=by
 apply Classical.byContradiction;intro hn;have hc:(k<0\/14<=k)\/k=0\/k=12\/k=13:=by omega
 rcases hc with hc|rfl|rfl|rfl
 ·rw[Df hc]at h;cases h
 ·cases h
 ·cases h
 ·cases h
theorem V3{cZ:List ByteArray}(hs:cZ.length<=16):∀(l:List ByteArray),(∀s∈l,s∈cZ)->fO cZ l<2^16:=by
 have h:∀(l:List ByteArray) (m:Nat),m<2^16->(∀s∈l,s∈cZ)->l.foldl (λm s=>m|||1<<<dY s cZ) m<2^16:=by
  intro l;induction l with
  |nil=>intro m hm _;exact hm
  |cons s l ih=>
   intro m hm hl;rw[qZ];refine ih _ (Kn hm ?_) (λt ht=>hl t (dN _ ht));have:=xB (hl s (dJ ..));rw[Nat.one_shiftLeft];exact Gm (by omega) (by omega)
 intro l hl;exact h l 0 (by decide) hl
theorem eH.tL{k:bR}(h:eH k){r:bB}(hr:r∈k.decl.rules):∃q∈k.decl.rules,r=mR (bP k.decl) (bX k.decl) (dM k.decl) q:=by
 have h1:r∈(Kd.bH k.decl).rules:=by rw[<- h.decl];exact hr
 obtain⟨q,hq,e⟩:=eT.1 (show r∈k.decl.rules.map (mR (bP k.decl) (bX k.decl) (dM k.decl))from h1);exact⟨q,hq,e.symm⟩
theorem eH.iM{k:bR}(h:eH k):k.lists.length=8+k.decl.regions.length:=by
 rw[h.lists];unfold l5;rw[gU,dV,dV,Kl]
theorem eH.bW{k:bR}(h:eH k):fH (aQ k.decl):=⟨h.typ.Dg,rfl⟩
theorem eH.inr{k:bR}(h:eH k){r:bB}(hr:r∈k.decl.rules):F5 k r:=by
 obtain⟨q,hq,rfl⟩:=h.tL hr;have hro:=h.b.rs.tL q hq;have hl:=h.iM;have hfl:(bX k.decl).length=8+k.decl.regions.length:=by
  unfold bX;rw[gU,dV];rfl
 refine⟨?_,?_⟩
 ·show 0<=(if q.on=⟨⟨[]⟩⟩then(0:Int)else(dY q.on (bX k.decl):Int))/\(if q.on=⟨⟨[]⟩⟩then(0:Int)else(dY q.on (bX k.decl):Int))<_;by_cases e:q.on=⟨⟨[]⟩⟩
  ·rw[if_pos e];omega
  ·rw[if_neg e];have:=xB (hro.on.resolve_left e);omega
 ·show(if q.dn=⟨⟨[]⟩⟩then(-1:Int)else(dY q.dn (dM k.decl):Int))<_;by_cases e:q.dn=⟨⟨[]⟩⟩
  ·rw[if_pos e];omega
  ·rw[if_neg e];have h1:=xB (hro.dn.resolve_left e);have h2:(dM k.decl).length=k.decl.aM.length:=by unfold dM;rw[dV]
   omega
theorem ahh{k:bR}{p:List Clue}{r:bB}(hr:F5 k r)(hp:∀g∈p,qb k g){x:List Int×List Int}(hx:x∈eY k p r):∃l∈k.lists,x.1∈l:=by
 unfold eY at hx;obtain⟨hf0,hf1⟩:=hr.lX;split at hx
 ·have hl:k.lists[r.family.toNat]? =some (k.lists[r.family.toNat]'(by omega)):=bN _;rw[uO hl]at hx;obtain⟨l,hl2,rfl⟩:=eT.1 hx;exact⟨_,uY _,hl2⟩
 ·obtain⟨g,hg,rfl⟩:=eT.1 hx;obtain⟨c,l,ps,h1,h2,h3,_,_,_,h4⟩:=(hp g (pI.1 hg).1).cells;exact⟨l,aP h2,by rw[h4];exact aP h3⟩
theorem ahi{k:bR}{p:List Clue}{grid:List Int}(hS:lJ k)(hP:qO p)(hgl:grid.length<=1000000):F7 k p grid:=by
 intro hK ahj hQ r hr;have hty:=hK.typ;have hgo:=hK.bW;have hin:=hK.inr hr;obtain⟨q,hq,hre⟩:=hK.tL hr;have hro:=hK.b.rs.tL q hq;have hrx:=hty.form.jP r hr;have hsl:=hty.lim.s1;have hkd:1<=r.kind/\r.kind<=11:=by
  refine VZ ?_;have:=hty.read;unfold jl at this;rw[List.filterMap_eq_nil_iff]at this;obtain⟨j,hj⟩:=nA hr;have:=this (r,j) (zG.2 hj);cases h:(fF r.kind).read with
  |true=>rfl
  |false=>simp[h]at this
 have hgc:k.grid.cells.length=(aQ k.decl).cells.length:=by rw[hK.grid]
 obtain⟨hf1,hf2⟩:=ahj;have hlin:∀l∈k.lists,∀ps∈l,xL (aQ k.decl).cells.length ps:=by
  rw[hK.lists];exact Um hgo (λr hr=>(hty.Bd r hr).1.2)
 have OW:∀x∈eY k p r,xL (aQ k.decl).cells.length x.1:=λx hx=>by
  obtain⟨l,hl,hxl⟩:=ahh hin hQ.right hx;exact hlin l hl _ hxl
 have V4:r.set=((fO (bP k.decl) q.names:Nat):Int):=by rw[hre];rfl
 have V5:r.other=((fO (bP k.decl) q.others:Nat):Int):=by rw[hre];rfl
 have hsn:(bP k.decl).length<=16:=by unfold bP;rw[dV];exact hsl
 have hl1:=V3 hsn q.names hro.names;have hl2:=V3 hsn q.others hro.others;have JS:∀need:Int,need≠0->(∀n2:Int,n2=(if(fF r.kind).op=true/\r.dn≠ow then 2 else(fF r.kind).aB)->n2=0\/n2=need)->0<=r.aB->∃c,k.decl.aM[r.aB.toNat]? =some c/\c.type=need:=by
  intro need hn h2 hc;rcases hrx.JM _ rfl with⟨a1,_,a2⟩|⟨a1,_,_,c,a2,a3,_⟩
  ·omega
  ·rcases h2 _ rfl with h|h
   ·exact absurd h a1
   ·exact⟨c,a2,by rw[a3];exact h⟩
 have ahk:r.kind=2\/r.kind=3\/r.kind=11->0<=r.aB->∃c,k.decl.aM[r.aB.toNat]? =some c/\(c.type=1\/c.type=2):=by
  intro h hc;rcases h with h|h|h
  ·obtain⟨c,h1,h2⟩:=JS 2 (by omega) (λn2 hn2=>by rw[h]at hn2;rw[hn2];split;exact .inr rfl;exact .inl rfl) hc;exact⟨c,h1,.inr h2⟩
  ·obtain⟨c,h1,h2⟩:=JS 2 (by omega) (λn2 hn2=>by rw[h]at hn2;rw[hn2];split;exact .inr rfl;exact .inl rfl) hc;exact⟨c,h1,.inr h2⟩
  ·obtain⟨c,h1,h2⟩:=JS 1 (by omega) (λn2 hn2=>by
    rw[h]at hn2;have e:(fF 11).op=false:=rfl;rw[e,if_neg (by simp)]at hn2;exact .inr hn2) hc
   exact⟨c,h1,.inl h2⟩
 refine⟨hS,hP,hK.lX,hin,hQ.right,⟨hgl,λx hx=>?_⟩,λx hx=>⟨?_,λc hc=>?_⟩,⟨λv hv=>?_,λx hx=>?_⟩,?_,?_,⟨by rw[V4];omega,by rw[V4];omega⟩,⟨by rw[V5];omega,by rw[V5];omega⟩,hkd,λhk x hx=>?_,λx hx=>(OW x hx).1,λhk x hx=>?_⟩
 ·have:=hf2 x hx;omega
 ·have:=(OW x hx).1;omega
 ·have:=(OW x hx).2 c hc;omega
 ·obtain⟨s,hs,rfl⟩:=eT.1 hv;exact hty.form.cZ s hs
 ·have:=hf2 x hx;have:(gD k).length=k.decl.symbols.length:=by unfold gD;rw[dV]
  omega
 ·rw[hK.aN];refine⟨by rw[vP];exact hgo.len,λi l hl j n hn=>?_⟩;exact NG hgo i l hl j n hn
 ·rw[hK.aN,vP];omega
 ·unfold eY at hx;by_cases hc:r.aB<0
  ·rw[if_pos hc]at hx;obtain⟨l,_,rfl⟩:=eT.1 hx;simp
  ·rw[if_neg hc]at hx;obtain⟨g,hg,rfl⟩:=eT.1 hx;obtain⟨hg1,hg2⟩:=pI.1 hg;have hg2:=iw hg2;obtain⟨c,h1,h2⟩:=ahk hk (by omega);obtain⟨c',l,_,b1,_,_,_,b2⟩:=hQ.right g hg1;rw[hg2,h1]at b1;cases b1;show 0<g.values.length;rcases b2 with b2|b2|b2
   ·omega
   ·omega
   ·rcases h2 with h2|h2
    ·exact absurd h2 b2.1
    ·exact absurd h2 b2.2.1
 ·have hc:0<=r.aB:=by
   rcases hrx.JM _ rfl with⟨a1,_,_⟩|⟨_,a,_⟩
   ·rw[hk]at a1;have e:(fF 11).op=false:=rfl;rw[e,if_neg (by simp)]at a1;cases a1
   ·exact a
  obtain⟨c,h1,h2⟩:=JS 1 (by omega) (λn2 hn2=>by
   rw[hk]at hn2;have e:(fF 11).op=false:=rfl;rw[e,if_neg (by simp)]at hn2;exact .inr hn2) hc
  have hcp:=(hty.form.jB _ c h1).2;have ahl:c.family=0:=by unfold ou at hcp;omega
  unfold eY at hx;rw[if_neg (by omega)]at hx;obtain⟨g,hg,rfl⟩:=eT.1 hx;obtain⟨hg1,hg2⟩:=pI.1 hg;have hg2:=iw hg2;obtain⟨c',l,ps,b1,b2,b3,_,_,_,b4⟩:=(hQ.right g hg1).cells;rw[hg2,h1]at b1;cases b1;rw[ahl,hK.lists]at b2;have hl0:(l5 k.decl)[(0:Int).toNat]? =some (dx (aQ k.decl) 0):=rfl;rw[hl0]at b2;cases b2;show 0<(kR k g).length;rw[b4];have hps:=aP b3;have:dx (aQ k.decl) 0=kF (aQ k.decl).cells.length:=by simp[dx]
  rw[this]at hps;unfold kF at hps;obtain⟨i,_,rfl⟩:=eT.1 hps;simp
end Go.Proofs.YtpkieeggilkagaaGreat
namespace Go.Proofs.YtpkieeggilkagaaGreat
open Go.Ideal Kd Canon
structure Bn(k:bR)(p:List Clue)(grid:List Int)(i:Int)(y:Bool×Int):Prop where
 nk:¬eH k->y=(false,180)
 nf:eH k->¬mF k grid->y=(false,200)
 np:eH k->mF k grid->¬jO k p->y=(false,190)
 na:eH k->mF k grid->jO k p->(i<0\/(k.decl.rules.length:Int)<=i)->y=(false,1)
 ok:eH k->mF k grid->jO k p->∀(n:Nat) r,i=(n:Int)->k.decl.rules[n]? =some r->y=(xY k p grid r,0)
theorem ahm{k:bR}{p:List Clue}{grid:List Int}{i:Int}{vh vs vr vc vu gh gc vn vl vp vg:Value}(hS:lJ k)(hP:qO p)(hl:grid.length<9223372036854775808)(hA:F7 k p grid):
 aV Tryz.prog (.func 13) [.agg ⟨jq k vh vs vr vc vu gh gc vn vl⟩,.agg ⟨[vp]⟩,vg,.int .i64 i] [] [] (ah jh vp p::ah aa vg grid::iB k vh vs vr vc vu gh gc vn vl []) U5 (λ_=>[]) (λ_=>[]) (Bn k p grid i):=by
 have rU:=hS.d.s.jP;refine aC _ (aF 13) λB w0=>?_;dsimp only[iB];refine go ?_;intro b4 b5;refine go ?_;refine aj (VT (k:=k) (p:=p) (grid:=grid) hS hP hl) (next:=λe he=>?_);refine go ?_;refine ay rfl (λhne=>?_) (λhz=>?_)
 ·refine go ?_;have e0:∀n:Int,e=n->(false,e)=(false,n):=λn h=>by rw[h]
  exact ae (false,e) (hv:=rfl) (hp:=⟨λh=>e0 _ (he.nk h),λh1 h2=>e0 _ (he.nf h1 h2),λh1 h2 h3=>e0 _ (he.np h1 h2 h3),λh1 h2 h3=>absurd (he.ok h1 h2 h3) hne,λh1 h2 h3=>absurd (he.ok h1 h2 h3) hne⟩)
 have hz:e=0:=gM.1 hz;subst hz;have hK:eH k:=Classical.byContradiction λh=>by have:=he.nk h;omega
 have hF:mF k grid:=Classical.byContradiction λh=>by have:=he.nf hK h;omega
 have hQ:jO k p:=Classical.byContradiction λh=>by have:=he.np hK hF h;omega
 have xy:=hA hK hF hQ;have hno:(i<0\/(k.decl.rules.length:Int)<=i)->Bn k p grid i (false,1):=λh=>⟨λh=>absurd hK h,λ_ h=>absurd hF h,λ_ _ h=>absurd hQ h,λ_ _ _ _=>rfl,λ_ _ _ n r e hr=>by
  have:=(bK.1 hr).1;omega⟩
 refine go ?_;refine gG (λh1=>?_) (λh1=>?_)
 rotate_left
 ·refine go ?_;exact ae (false,1) (hv:=rfl) (hp:=hno (.inl h1))
 refine go ?_;refine ay rfl (λh2=>?_) (λh2=>?_)
 ·refine go ?_;exact ae (false,1) (hv:=rfl) (hp:=hno (.inr h2))
 obtain⟨i,rfl⟩:=dZ (show 0<=i by omega);refine go ?_;refine aU aZ (xs:=k.decl.rules) (next:=λ_ _ r (w:Value×Value) hr=>?_);have OT:=xy r (aP hr);refine go ?_;refine aj (look_ok (p:=p) (k:=k) (grid:=grid) hS.d.s.cZ) (next:=λvv _=>?_);refine go ?_;refine aj (VX (k:=k) (p:=p) (grid:=grid) (r:=r) (vv:=vv) (v1:=w.1) (v2:=w.2) OT) (next:=λ_ _=>?_);refine go ?_;exact ae (xY k p grid r,0) (hv:=rfl) (hp:=⟨λh=>absurd hK h,λ_ h=>absurd hF h,λ_ _ h=>absurd hQ h,λ_ _ _ h=>by omega,λ_ _ _ n r' e hr'=>by
  have:n=i:=by omega
  subst this;rw[hr]at hr';cases hr';rfl⟩)
end Go.Proofs.YtpkieeggilkagaaGreat
set_option maxHeartbeats 1000000
namespace Go.Proofs.YtpkieeggilkagaaGreat
open Go.Ideal Kd Canon Gph
structure RF(k:bR)(r:bB):Prop where
 kd:1<=r.kind/\r.kind<=11
 x:uS (fF r.kind) k.decl.aM r
 by0:r.dn=ow↔r.aB<0
 s1:∃n:Nat,r.set=(n:Int)/\n<2^k.decl.symbols.length
 s2:∃n:Nat,r.other=(n:Int)/\n<2^k.decl.symbols.length
 f0:0<=r.family/\r.family<k.lists.length
 cl:0<=r.aB->(r.kind=2\/r.kind=3\/r.kind=5\/r.kind=11)/\∃c,k.decl.aM[r.aB.toNat]? =some c/\c.family=iR r/\ou c/\(r.kind=2\/r.kind=3->c.type=2)/\(r.kind=5->c.type=3)/\(r.kind=11->c.type=1)
 JU:r.kind=5\/r.kind=11->0<=r.aB
 op:r.kind=2\/r.kind=3->1<=r.op/\r.op<=3
theorem V6{cZ:List ByteArray}:∀(l:List ByteArray),(∀s∈l,s∈cZ)->fO cZ l<2^cZ.length:=by
 have h:∀(l:List ByteArray) (m:Nat),m<2^cZ.length->(∀s∈l,s∈cZ)->l.foldl (λm s=>m|||1<<<dY s cZ) m<2^cZ.length:=by
  intro l;induction l with
  |nil=>intro m hm _;exact hm
  |cons s l ih=>
   intro m hm hl;rw[qZ];refine ih _ (Kn hm ?_) (λt ht=>hl t (dN _ ht));have:=xB (hl s (dJ ..));rw[Nat.one_shiftLeft];exact Gm (by omega) (by omega)
 intro l hl;exact h l 0 (Nat.two_pow_pos _) hl
theorem eH.rf{k:bR}(hK:eH k){r:bB}(hr:r∈k.decl.rules):RF k r:=by
 have hty:=hK.typ;have hin:=hK.inr hr;obtain⟨q,hq,hre⟩:=hK.tL hr;have hro:=hK.b.rs.tL q hq;have hrx:=hty.form.jP r hr;have hkd:1<=r.kind/\r.kind<=11:=by
  refine VZ ?_;have:=hty.read;unfold jl at this;rw[List.filterMap_eq_nil_iff]at this;obtain⟨j,hj⟩:=nA hr;have:=this (r,j) (zG.2 hj);cases h:(fF r.kind).read with
  |true=>rfl
  |false=>simp[h]at this
 have hsl:(bP k.decl).length=k.decl.symbols.length:=by unfold bP;rw[dV]
 have hb1:r.dn=q.dn:=by rw[hre];rfl
 have hb2:r.aB=if q.dn=ow then(-1:Int)else(dY q.dn (dM k.decl):Int):=by rw[hre];rfl
 have hby:r.dn=ow↔r.aB<0:=by
  rw[hb1,hb2];by_cases e:q.dn=ow
  ·rw[if_pos e];exact⟨λ_=>by omega,λ_=>e⟩
  ·rw[if_neg e];exact⟨λh=>absurd h e,λh=>by omega⟩
 refine⟨hkd,hrx,hby,⟨fO (bP k.decl) q.names,by rw[hre];rfl,by rw[<- hsl];exact V6 _ hro.names⟩,⟨fO (bP k.decl) q.others,by rw[hre];rfl,by rw[<- hsl];exact V6 _ hro.others⟩,hin.lX,?_,?_,?_⟩
 ·intro hc;have hne:r.dn≠ow:=λe=>by have:=hby.1 e;omega
  rcases hrx.JM _ rfl with⟨_,a,_⟩|⟨a0,a1,a2,c,a3,a4,a5⟩
  ·exact absurd a hne
  have hcp:=(hty.form.jB _ c a3).2;have hk:r.kind=1\/r.kind=2\/r.kind=3\/r.kind=4\/r.kind=5\/r.kind=6\/r.kind=7\/r.kind=8\/r.kind=9\/r.kind=10\/r.kind=11:=by omega
  have hf:∀f:Int,iR r=f->c.family=f->c.family=iR r:=λf h1 h2=>by omega
  rcases hk with e|e|e|e|e|e|e|e|e|e|e<;>rw[e]at a0 a4 a5<;>simp[fF,hne]at a0 a4 a5
  ·exact⟨by omega,c,a3,by unfold iR;rw[if_neg (by omega),if_neg (by omega),if_neg (by omega)];exact a5,hcp,by omega,by omega,by omega⟩
  ·exact⟨by omega,c,a3,by unfold iR;rw[if_neg (by omega),if_neg (by omega),if_neg (by omega)];exact a5,hcp,by omega,by omega,by omega⟩
  ·exact⟨by omega,c,a3,by unfold iR;rw[if_neg (by omega),if_neg (by omega),if_neg (by omega)];exact a5,hcp,by omega,by omega,by omega⟩
  ·refine⟨by omega,c,a3,?_,hcp,by omega,by omega,by omega⟩;unfold iR;rw[if_neg (by omega),if_neg (by omega),if_pos e];unfold ou at hcp;omega
 ·intro h;rcases hrx.JM _ rfl with⟨a0,_,_⟩|⟨_,a1,_⟩
  ·rcases h with e|e<;>rw[e]at a0<;>simp[fF]at a0
  ·exact a1
 ·intro h;refine hrx.op.1 ?_;rcases h with e|e<;>rw[e]<;>rfl
theorem RF.list{k:bR}{r:bB}(hK:eH k)(h:RF k r):∃ls,k.lists[(iR r).toNat]? =some ls/\(∀l∈ls,xL k.grid.cells.length l/\l.Nodup)/\
 (r.kind=6\/r.kind=7\/r.kind=8->ls=iA k.aN)/\(r.kind=9\/r.kind=10->ls=[upTo' k.grid.cells.length])/\(r.kind=11->ls=kF k.grid.cells.length):=by
 have hl:=hK.iM;have hf:=h.f0;have h8:(iR r).toNat<k.lists.length:=by
  unfold iR;repeat' split
  all_goals omega
 have hg:=hK.bW;have hrg:∀r∈k.decl.regions,ze (aQ k.decl) r.lists:=λr hr=>(hK.typ.Bd r hr).1.2;have hgc:k.grid.cells.length=(aQ k.decl).cells.length:=by rw[hK.grid]
 have e:k.lists[(iR r).toNat]? =some (k.lists[(iR r).toNat]'h8):=bN _;generalize k.lists[(iR r).toNat]'h8=ls at e;have hm:=aP e;refine⟨ls,e,λl hl=>⟨?_,?_⟩,λhk=>?_,λhk=>?_,λhk=>?_⟩
 ·rw[hK.lists]at hm;rw[hgc];exact Um hg hrg _ hm l hl
 ·rw[hK.lists]at hm;exact adQ hg hrg _ hm l hl
 ·have e6:iR r=6:=by unfold iR;rw[if_pos hk]
  have:k.lists[(iR r).toNat]? =some (iA k.aN):=by rw[hK.lists,hK.aN,e6];rfl
  rw[e]at this;exact Option.some.inj this
 ·have e7:iR r=7:=by unfold iR;rw[if_neg (by omega),if_pos hk]
  have:k.lists[(iR r).toNat]? =some [upTo' k.grid.cells.length]:=by rw[hgc,hK.lists,e7];rfl
  rw[e]at this;exact Option.some.inj this
 ·have e0:iR r=0:=by unfold iR;rw[if_neg (by omega),if_neg (by omega),if_pos hk]
  have:k.lists[(iR r).toNat]? =some (kF k.grid.cells.length):=by rw[hgc,hK.lists,e0];rfl
  rw[e]at this;exact Option.some.inj this
theorem RF.vals{k:bR}{p:List Clue}{r:bB}{ls:List (List Int)}(h:RF k r)(hQ:jO k p){y:Nat×List Int×List Int}(hy:y∈pE p r ls):
 (r.aB<0/\y.2.2=[])\/(0<=r.aB/\∃c,k.decl.aM[r.aB.toNat]? =some c/\ou c/\((c.type=1/\r.kind=11/\y.2.2.length=1/\∀x∈y.2.2,0<=x/\x<=(k.decl.symbols.length:Int) - 1)\/(c.type=2/\(r.kind=2\/r.kind=3)/\y.2.2.length=1/\∀x∈y.2.2,0<=x/\x<=65536)\/
   (c.type=3/\r.kind=5/\y.2.2.length<=8/\∀x∈y.2.2,1<=x/\x<=256))):=by
 obtain⟨h1,h2⟩:=xM.1 hy;rcases h2 with h2|⟨h2,h3⟩
 ·exact .inl h2
 right;refine⟨h2,?_⟩;obtain⟨hk,c,c1,c2,c3,c4,c5,c6⟩:=h.cl h2;refine⟨c,c1,c3,?_⟩;obtain⟨g,g1,g2,g3,g4⟩:=(NI hQ).1 h3;obtain⟨c',l,a1,a2,a3,a4,a5,a6⟩:=hQ.right g g1;rw[g2,c1]at a2;cases a2;rw[g4]at a6;have hcp:=c3;unfold ou at hcp;have hn:∀x:Int,c.lo<=x/\x<=c.hi->c.type=2->0<=x/\x<=65536:=λx hx ht=>by omega
 rcases a6 with⟨b1,b2,b3⟩|⟨b1,b2,b3⟩|⟨b1,b2,b3,b4⟩
 ·exact .inl ⟨b1,by omega,b2,b3⟩
 ·exact .inr (.inl ⟨b1,by omega,b2,λx hx=>hn x (b3 x hx) b1⟩)
 ·exact .inr (.inr ⟨by omega,by omega,b3,b4⟩)
