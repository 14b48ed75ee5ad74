/-
  Meaning: what rules say.
-/
import Derived.Test.YtfakljdleblkoaaGreatLibJM
set_option linter.all false
set_option maxRecDepth 10000
set_option maxHeartbeats 4000000
namespace Go.Proofs.YtfakljdleblkoaaGreat
open Go.Ideal Kd Canon
structure lM(k:aU)(p:List Clue)(grid:List Int)(r:bV)(set other:Nat):Prop where
 s:mR k
 ps:oW p
 fP:F4 k
 D7:Gp k r
 right:∀g∈p,kY k g
 kH:zT grid
 cells:∀x∈fV k p r,zU grid x.1
 vals:Pv (gu k) grid
 bM:iX k.aA
 pO:grid.length=k.aA.length
 st:r.set=(set:Int)/\set<9223372036854775808
 ot:r.other=(other:Int)/\other<9223372036854775808
 kind:1<=r.kind/\r.kind<=11
 Qx:r.kind=2\/r.kind=3\/r.kind=11->∀x∈fV k p r,0<x.2.length
 few:∀x∈fV k p r,x.1.length<=4096
 one:r.kind=11->∀x∈fV k p r,0<x.1.length
def cA(grid:List Int)(x:List Int×List Int):Bool:=yu grid x.1
def cB(grid:List Int)(set:Nat)(op:Int)(x:List Int×List Int):Bool:=F6 (cnt grid set x.1:Int) op (x.2.getD 0 0)
def cC(vals grid:List Int)(op:Int)(x:List Int×List Int):Bool:=F6 (nW vals grid x.1) op (x.2.getD 0 0)
def cD(vals grid:List Int)(x:List Int×List Int):Bool:=yx vals grid x.1
def cE(grid:List Int)(set:Nat)(x:List Int×List Int):Bool:=decide (rn grid set 0 x.1=x.2)
def cK(grid:List Int)(x:List Int×List Int):Bool:=decide (aP grid (x.1.getD 0 0)=x.2.getD 0 0)
def nF(a b:Int):Bool:=decide (a≠b)
def nG(vals:List Int)(n a b:Int):Bool:=decide (n<=max (aP vals a - aP vals b) (aP vals b - aP vals a))
def nH(set other:Nat)(a b:Int):Bool:=!(set.testBit a.toNat)||!(other.testBit b.toNat)
noncomputable def oZ(k:aU)(p:List Clue)(grid:List Int)(r:bV)(set other:Nat):Bool:=
 if r.kind=1 then(fV k p r).all (cA grid)
 else if r.kind=2 then(fV k p r).all (cB grid set r.op)
 else if r.kind=3 then(fV k p r).all (cC (gu k) grid r.op)
 else if r.kind=4 then(fV k p r).all (cD (gu k) grid)
 else if r.kind=5 then(fV k p r).all (cE grid set)
 else if r.kind=6 then nU k.aA grid nF
 else if r.kind=7 then nU k.aA grid (nG (gu k) r.n)
 else if r.kind=8 then nU k.aA grid (nH set other)
 else if r.kind=9 then vH k.aA (lI grid set (upTo' grid.length)) false
 else if r.kind=10 then vH k.aA (lI grid set (upTo' grid.length)) true
 else(fV k p r).all (cK grid)
theorem K5(grid:List Int)(set:Nat):∀(cells:List Int) (n:Nat),(rn grid set n cells).length<=cells.length+1
 |[],n=>by unfold rn;split<;>simp
 |c::cs,n=>by
  unfold rn;split
  ·have:=K5 grid set cs (n+1);simp;omega
  ·split
   ·have:=K5 grid set cs 0;simp;omega
   ·have:=K5 grid set cs 0;simp;omega
theorem K6{l:List Int}{y:Int}(h:l[0]? =some y):l.getD 0 0=y:=fC h
section
variable {k:aU} {p:List Clue} {grid:List Int} {r:bV} {set other:Nat} {bv br:Nat} {vh vs vr vc vu gh gc vn vl vp vg vv v1 v2:Value}
theorem ajK(H:lM k p grid r set other)(x:List Int×List Int)(hx:x∈fV k p r):BJ Tryz.prog (.func 87) [] [ptr' bv] [bz bv 0 (lK k vh vs vr vc vu gh gc vn vl vp vg vv),ah ae vg grid] (cA grid) x:=by
 intro w1 w2;rw[bH];refine aK _ (aM 87) λB w0=>?_;refine go ?_;refine ak (ahm (grid:=grid) (cells:=x.1) H.kH (H.cells x hx)) (next:=λ_ _=>?_);refine go ?_;exact aj () (hv:=rfl) (hp:=trivial)
theorem ajL(H:lM k p grid r set other)(h0:∀x∈fV k p r,0<x.2.length)(x:List Int×List Int)(hx:x∈fV k p r):BJ Tryz.prog (.func 90) [] [ptr' bv,ptr' br] [bz bv 0 (lK k vh vs vr vc vu gh gc vn vl vp vg vv),bz br 0 (jG r v1 v2),ah ae vg grid] (cB grid set r.op) x:=by
 intro w1 w2;have hx0:=h0 x hx;rw[bH];refine aK _ (aM 90) λB w0=>?_;refine go ?_;intro _ _ y hy;rw[H.st.1];refine ak (ahk (grid:=grid) (cells:=x.1) (set:=set) H.kH (H.cells x hx) H.st.2) (next:=λ_ _=>?_);refine go ?_;refine ak (Yp (n:=(cnt grid set x.1:Int)) (op:=r.op) (b:=y)) (next:=λ_ _=>?_);refine go ?_;refine aj () (hv:=?_) (hp:=trivial);show _=Value.bool (cB grid set r.op x);unfold cB;rw[K6 hy];rfl
theorem ajM(H:lM k p grid r set other)(h0:∀x∈fV k p r,0<x.2.length)(x:List Int×List Int)(hx:x∈fV k p r):BJ Tryz.prog (.func 94) [] [ptr' bv,ptr' br] [bz bv 0 (lK k vh vs vr vc vu gh gc vn vl vp vg vv),bz br 0 (jG r v1 v2),ah ae vg grid,ah ae vv (gu k)] (cC (gu k) grid r.op) x:=by
 intro w1 w2;have hx0:=h0 x hx;rw[bH];refine aK _ (aM 94) λB w0=>?_;refine go ?_;intro _ _ y hy;refine ak (ahl (values:=gu k) (grid:=grid) (cells:=x.1) H.kH (H.cells x hx) H.vals) (next:=λ_ _=>?_);refine go ?_;refine ak (Yp (n:=nW (gu k) grid x.1) (op:=r.op) (b:=y)) (next:=λ_ _=>?_);refine go ?_;refine aj () (hv:=?_) (hp:=trivial);show _=Value.bool (cC (gu k) grid r.op x);unfold cC;rw[K6 hy];rfl
theorem ajN(H:lM k p grid r set other)(x:List Int×List Int)(hx:x∈fV k p r):BJ Tryz.prog (.func 97) [] [ptr' bv] [bz bv 0 (lK k vh vs vr vc vu gh gc vn vl vp vg vv),ah ae vg grid,ah ae vv (gu k)] (cD (gu k) grid) x:=by
 intro w1 w2;rw[bH];refine aK _ (aM 97) λB w0=>?_;refine go ?_;refine ak (ahn (values:=gu k) (grid:=grid) (cells:=x.1) H.kH (H.cells x hx) H.vals) (next:=λ_ _=>?_);refine go ?_;exact aj () (hv:=rfl) (hp:=trivial)
theorem ajO(H:lM k p grid r set other)(x:List Int×List Int)(hx:x∈fV k p r):BJ Tryz.prog (.func 100) [] [ptr' bv,ptr' br] [bz bv 0 (lK k vh vs vr vc vu gh gc vn vl vp vg vv),bz br 0 (jG r v1 v2),ah ae vg grid] (cE grid set) x:=by
 intro w1 w2;have hcl:=H.few x hx;rw[bH];refine aK _ (aM 100) λB w0=>?_;refine go ?_;rw[H.st.1];refine ak (ahq (grid:=grid) (cells:=x.1) (set:=set)) (next:=λy _=>?_);dsimp only[List.cons_append,List.nil_append];have hrl:=K5 grid set x.1 0;refine go ?_;refine ak (ahs (ahp (b3:=y.1) (b4:=y.2.1) (b5:=y.2.2) (vg:=vg) (vc:=w1) (grid:=grid) (cells:=x.1) (set:=set) H.kH (H.cells x hx) H.st.2) (by omega)) (next:=λv _=>?_);refine go ?_;refine ak (sF (xs:=rn grid set 0 x.1) (ys:=x.2) (by omega)) (next:=λ_ _=>?_);refine go ?_;exact aj () (hv:=rfl) (hp:=trivial)
theorem ajP(H:lM k p grid r set other)(h0:∀x∈fV k p r,0<x.2.length)(h1:∀x∈fV k p r,0<x.1.length)(x:List Int×List Int)(hx:x∈fV k p r):BJ Tryz.prog (.func 117) [] [ptr' bv] [bz bv 0 (lK k vh vs vr vc vu gh gc vn vl vp vg vv),ah ae vg grid] (cK grid) x:=by
 intro w1 w2;have hx0:=h0 x hx;have hx1:=h1 x hx;rw[bH];refine aK _ (aM 117) λB w0=>?_;refine go ?_;intro _ _ c hc;have hcc:=(H.cells x hx).cell c (aR hc);obtain⟨cn,rfl⟩:=eO hcc.1;refine go ?_;intro _ _ z hz _ _ y hy;refine go ?_;refine aj () (hv:=?_) (hp:=trivial);show _=Value.bool (cK grid x);unfold cK;rw[K6 hy,K6 hc,jJ hz];rfl
theorem ajQ{a b:Int}:BK Tryz.prog (.func 105) [] [] [] nF a b:=by
 unfold BK;rw[bH];refine aK _ (aM 105) λB w0=>?_;refine go ?_;exact aj () (hv:=rfl) (hp:=trivial)
theorem ajR(H:lM k p grid r set other){a b:Int}(ha:a∈grid)(hb:b∈grid):BK Tryz.prog (.func 107) [] [ptr' bv,ptr' br] [bz bv 0 (lK k vh vs vr vc vu gh gc vn vl vp vg vv),bz br 0 (jG r v1 v2),ah ae vv (gu k)] (nG (gu k) r.n) a b:=by
 unfold BK;rw[bH];obtain⟨a0,a1⟩:=H.kH.iJ a ha;obtain⟨b0,b1⟩:=H.kH.iJ b hb;have a2:=H.vals.iJ a ha;have b2:=H.vals.iJ b hb;obtain⟨an,rfl⟩:=eO a0;obtain⟨bn,rfl⟩:=eO b0;refine aK _ (aM 107) λB w0=>?_;refine go ?_;intro _ _ x hx _ _ y hy;have hxv:=H.vals.val x (aR hx);have hyv:=H.vals.val y (aR hy);refine go ?_;refine ak (aho (a:=x) (b:=y) (n:=r.n) (by omega) (by omega)) (next:=λ_ _=>?_);refine go ?_;refine aj () (hv:=?_) (hp:=trivial);show _=Value.bool (nG (gu k) r.n an bn);unfold nG;rw[jJ hx,jJ hy];rfl
theorem ajS(H:lM k p grid r set other){a b:Int}(ha:a∈grid)(hb:b∈grid):BK Tryz.prog (.func 110) [] [ptr' br] [bz br 0 (jG r v1 v2)] (nH set other) a b:=by
 unfold BK;rw[bH];obtain⟨a0,a1⟩:=H.kH.iJ a ha;obtain⟨b0,b1⟩:=H.kH.iJ b hb;obtain⟨an,rfl⟩:=eO a0;obtain⟨bn,rfl⟩:=eO b0;refine aK _ (aM 110) λB w0=>?_;refine go ?_;rw[H.st.1];refine ak (DI (set:=set) (iJ:=an) H.st.2 (by omega)) (next:=λ_ _=>?_);refine go ?_;cases hs:set.testBit an with
 |false=>
  refine go ?_;refine aj () (hv:=?_) (hp:=trivial);show _=Value.bool (nH set other an bn);unfold nH;rw[eX,hs];rfl
 |true=>
  refine go ?_;rw[H.ot.1];refine ak (DI (set:=other) (iJ:=bn) H.ot.2 (by omega)) (next:=λ_ _=>?_);refine go ?_;refine aj () (hv:=?_) (hp:=trivial);show _=Value.bool (nH set other an bn);unfold nH;rw[eX,eX,hs];show _=Value.bool (false||!other.testBit bn);rw[Bool.false_or];rfl
abbrev vK(k:aU)(p:List Clue)(grid:List Int)(r:bV)(bv br:Nat)(vh vs vr vc vu gh gc vn vl vp vg vv v1 v2:Value):List aD:=
 [bz bv 0 (lK k vh vs vr vc vu gh gc vn vl vp vg vv),bz br 0 (jG r v1 v2),ah (aB (aB ae)) vl k.lists,ah dX vc k.decl.bI,ah bG vp p,ah ae vg grid,ah ae vv (gu k),ah (aB ae) vn k.aA]
abbrev vM(P:Program)(f:FuncId)(cap:List Value)(F:List aD)(b:Bool):Prop:=aQ P (.func f) [] cap [] F (λ_:Unit=>.bool b) (λ_=>[]) (λ_=>[]) (λ_=>True)
theorem ajT(H:lM k p grid r set other):vM Tryz.prog 85 [ptr' bv,ptr' br] (vK k p grid r bv br vh vs vr vc vu gh gc vn vl vp vg vv v1 v2) ((fV k p r).all (cA grid)):=by
 refine aK _ (aM 85) λB w0=>?_;refine go ?_;refine ak (D6 (k:=k) (p:=p) (r:=r) (vh:=vh) (vs:=vs) (vr:=vr) (vc:=vc) (vu:=vu) (gh:=gh) (gc:=gc) (vn:=vn) (vl:=vl) (vp:=vp) (vg:=vg) (vv:=vv) (v1:=v1) (v2:=v2) (fn:=.func 87) (first:=[]) (cap:=[ptr' bv]) (F1:=[bz bv 0 (lK k vh vs vr vc vu gh gc vn vl vp vg vv),ah ae vg grid]) (c:=cA grid) H.s H.ps H.fP H.D7 H.right (λx hx=>ajK H x hx)) (next:=λ_ _=>?_);refine go ?_;exact aj () (hv:=rfl) (hp:=trivial)
theorem ajU(H:lM k p grid r set other)(h0:∀x∈fV k p r,0<x.2.length):vM Tryz.prog 89 [ptr' bv,ptr' br] (vK k p grid r bv br vh vs vr vc vu gh gc vn vl vp vg vv v1 v2) ((fV k p r).all (cB grid set r.op)):=by
 refine aK _ (aM 89) λB w0=>?_;refine go ?_;refine ak (D6 (k:=k) (p:=p) (r:=r) (vh:=vh) (vs:=vs) (vr:=vr) (vc:=vc) (vu:=vu) (gh:=gh) (gc:=gc) (vn:=vn) (vl:=vl) (vp:=vp) (vg:=vg) (vv:=vv) (v1:=v1) (v2:=v2) (fn:=.func 90) (first:=[]) (cap:=[ptr' bv,ptr' br]) (F1:=[bz bv 0 (lK k vh vs vr vc vu gh gc vn vl vp vg vv),bz br 0 (jG r v1 v2),ah ae vg grid]) (c:=cB grid set r.op) H.s H.ps H.fP H.D7 H.right (λx hx=>ajL H h0 x hx)) (next:=λ_ _=>?_);refine go ?_;exact aj () (hv:=rfl) (hp:=trivial)
theorem ajV(H:lM k p grid r set other)(h0:∀x∈fV k p r,0<x.2.length):vM Tryz.prog 93 [ptr' bv,ptr' br] (vK k p grid r bv br vh vs vr vc vu gh gc vn vl vp vg vv v1 v2) ((fV k p r).all (cC (gu k) grid r.op)):=by
 refine aK _ (aM 93) λB w0=>?_;refine go ?_;refine ak (D6 (k:=k) (p:=p) (r:=r) (vh:=vh) (vs:=vs) (vr:=vr) (vc:=vc) (vu:=vu) (gh:=gh) (gc:=gc) (vn:=vn) (vl:=vl) (vp:=vp) (vg:=vg) (vv:=vv) (v1:=v1) (v2:=v2) (fn:=.func 94) (first:=[]) (cap:=[ptr' bv,ptr' br]) (F1:=[bz bv 0 (lK k vh vs vr vc vu gh gc vn vl vp vg vv),bz br 0 (jG r v1 v2),ah ae vg grid,ah ae vv (gu k)]) (c:=cC (gu k) grid r.op) H.s H.ps H.fP H.D7 H.right (λx hx=>ajM H h0 x hx)) (next:=λ_ _=>?_);refine go ?_;exact aj () (hv:=rfl) (hp:=trivial)
theorem ajW(H:lM k p grid r set other):vM Tryz.prog 96 [ptr' bv,ptr' br] (vK k p grid r bv br vh vs vr vc vu gh gc vn vl vp vg vv v1 v2) ((fV k p r).all (cD (gu k) grid)):=by
 refine aK _ (aM 96) λB w0=>?_;refine go ?_;refine ak (D6 (k:=k) (p:=p) (r:=r) (vh:=vh) (vs:=vs) (vr:=vr) (vc:=vc) (vu:=vu) (gh:=gh) (gc:=gc) (vn:=vn) (vl:=vl) (vp:=vp) (vg:=vg) (vv:=vv) (v1:=v1) (v2:=v2) (fn:=.func 97) (first:=[]) (cap:=[ptr' bv]) (F1:=[bz bv 0 (lK k vh vs vr vc vu gh gc vn vl vp vg vv),ah ae vg grid,ah ae vv (gu k)]) (c:=cD (gu k) grid) H.s H.ps H.fP H.D7 H.right (λx hx=>ajN H x hx)) (next:=λ_ _=>?_);refine go ?_;exact aj () (hv:=rfl) (hp:=trivial)
theorem ajX(H:lM k p grid r set other):vM Tryz.prog 99 [ptr' bv,ptr' br] (vK k p grid r bv br vh vs vr vc vu gh gc vn vl vp vg vv v1 v2) ((fV k p r).all (cE grid set)):=by
 refine aK _ (aM 99) λB w0=>?_;refine go ?_;refine ak (D6 (k:=k) (p:=p) (r:=r) (vh:=vh) (vs:=vs) (vr:=vr) (vc:=vc) (vu:=vu) (gh:=gh) (gc:=gc) (vn:=vn) (vl:=vl) (vp:=vp) (vg:=vg) (vv:=vv) (v1:=v1) (v2:=v2) (fn:=.func 100) (first:=[]) (cap:=[ptr' bv,ptr' br]) (F1:=[bz bv 0 (lK k vh vs vr vc vu gh gc vn vl vp vg vv),bz br 0 (jG r v1 v2),ah ae vg grid]) (c:=cE grid set) H.s H.ps H.fP H.D7 H.right (λx hx=>ajO H x hx)) (next:=λ_ _=>?_);refine go ?_;exact aj () (hv:=rfl) (hp:=trivial)
theorem ajY(H:lM k p grid r set other)(h0:∀x∈fV k p r,0<x.2.length)(h1:∀x∈fV k p r,0<x.1.length):vM Tryz.prog 116 [ptr' bv,ptr' br] (vK k p grid r bv br vh vs vr vc vu gh gc vn vl vp vg vv v1 v2) ((fV k p r).all (cK grid)):=by
 refine aK _ (aM 116) λB w0=>?_;refine go ?_;refine ak (D6 (k:=k) (p:=p) (r:=r) (vh:=vh) (vs:=vs) (vr:=vr) (vc:=vc) (vu:=vu) (gh:=gh) (gc:=gc) (vn:=vn) (vl:=vl) (vp:=vp) (vg:=vg) (vv:=vv) (v1:=v1) (v2:=v2) (fn:=.func 117) (first:=[]) (cap:=[ptr' bv]) (F1:=[bz bv 0 (lK k vh vs vr vc vu gh gc vn vl vp vg vv),ah ae vg grid]) (c:=cK grid) H.s H.ps H.fP H.D7 H.right (λx hx=>ajP H h0 h1 x hx)) (next:=λ_ _=>?_);refine go ?_;exact aj () (hv:=rfl) (hp:=trivial)
theorem lM.aA(H:lM k p grid r set other):∀l∈k.aA,∀b∈l,0<=b/\b<grid.length:=by
 intro l hl b hb;obtain⟨i,hi⟩:=jm hl;obtain⟨j,hj⟩:=jm hb;have:=H.bM.ok i l hi j b hj;have:=H.pO;omega
theorem ajZ(H:lM k p grid r set other):vM Tryz.prog 103 [ptr' bv] (vK k p grid r bv br vh vs vr vc vu gh gc vn vl vp vg vv v1 v2) (nU k.aA grid (nF)):=by
 have hgl:=H.kH.len;have hnl:=H.pO;refine aK _ (aM 103) λB w0=>?_;refine go ?_;refine ak (Qw (k:=k) (grid:=grid) (vh:=vh) (vs:=vs) (vr:=vr) (vc:=vc) (vu:=vu) (gh:=gh) (gc:=gc) (vn:=vn) (vl:=vl) (vp:=vp) (vg:=vg) (vv:=vv) (fn:=.func 105) (first:=[]) (cap:=[]) (F1:=[]) (c:=nF) (by omega) hgl (λl hl=>⟨H.s.aA.2 l hl,λb hb=>H.aA l hl b hb⟩) (λa ha b hb=>ajQ)) (next:=λ_ _=>?_);refine go ?_;exact aj () (hv:=rfl) (hp:=trivial)
theorem aj0(H:lM k p grid r set other):vM Tryz.prog 106 [ptr' bv,ptr' br] (vK k p grid r bv br vh vs vr vc vu gh gc vn vl vp vg vv v1 v2) (nU k.aA grid (nG (gu k) r.n)):=by
 have hgl:=H.kH.len;have hnl:=H.pO;refine aK _ (aM 106) λB w0=>?_;refine go ?_;refine ak (Qw (k:=k) (grid:=grid) (vh:=vh) (vs:=vs) (vr:=vr) (vc:=vc) (vu:=vu) (gh:=gh) (gc:=gc) (vn:=vn) (vl:=vl) (vp:=vp) (vg:=vg) (vv:=vv) (fn:=.func 107) (first:=[]) (cap:=[ptr' bv,ptr' br]) (F1:=[bz bv 0 (lK k vh vs vr vc vu gh gc vn vl vp vg vv),bz br 0 (jG r v1 v2),ah ae vv (gu k)]) (c:=nG (gu k) r.n) (by omega) hgl (λl hl=>⟨H.s.aA.2 l hl,λb hb=>H.aA l hl b hb⟩) (λa ha b hb=>ajR H ha hb)) (next:=λ_ _=>?_);refine go ?_;exact aj () (hv:=rfl) (hp:=trivial)
theorem aj1(H:lM k p grid r set other):vM Tryz.prog 109 [ptr' bv,ptr' br] (vK k p grid r bv br vh vs vr vc vu gh gc vn vl vp vg vv v1 v2) (nU k.aA grid (nH set other)):=by
 have hgl:=H.kH.len;have hnl:=H.pO;refine aK _ (aM 109) λB w0=>?_;refine go ?_;refine ak (Qw (k:=k) (grid:=grid) (vh:=vh) (vs:=vs) (vr:=vr) (vc:=vc) (vu:=vu) (gh:=gh) (gc:=gc) (vn:=vn) (vl:=vl) (vp:=vp) (vg:=vg) (vv:=vv) (fn:=.func 110) (first:=[]) (cap:=[ptr' br]) (F1:=[bz br 0 (jG r v1 v2)]) (c:=nH set other) (by omega) hgl (λl hl=>⟨H.s.aA.2 l hl,λb hb=>H.aA l hl b hb⟩) (λa ha b hb=>ajS H ha hb)) (next:=λ_ _=>?_);refine go ?_;exact aj () (hv:=rfl) (hp:=trivial)
theorem Yr{grid:List Int}(h:grid.length<=1000000):zU grid (upTo' grid.length):=by
 refine⟨by rw[wI];exact h,λc hc=>?_⟩;unfold upTo' at hc;obtain⟨i,hi,rfl⟩:=cZ.1 hc;have:=o9.1 hi;omega
theorem aj2(H:lM k p grid r set other):vM Tryz.prog 112 [ptr' bv,ptr' br] (vK k p grid r bv br vh vs vr vc vu gh gc vn vl vp vg vv v1 v2) (vH k.aA (lI grid set (upTo' grid.length)) false):=by
 have hgl:=H.kH.len;have BB:=wI grid.length;refine aK _ (aM 112) λB w0=>?_;refine bY (E:=ae) (v:=vg) (xs:=grid) (by simp) λag cg eg=>?_;subst eg;refine go ?_;refine ak (Yq (n:=grid.length) hgl) (next:=λv _=>?_);dsimp only[List.cons_append,List.nil_append];refine go ?_;rw[H.st.1];refine ak (Xq (aA:=k.aA) (grid:=grid) (cells:=upTo' grid.length) (set:=set) (loop:=false) H.bM H.s.aA.2 H.pO H.kH (Yr hgl) H.st.2) (next:=λ_ _=>?_);refine go ?_;exact aj () (hv:=rfl) (hp:=trivial)
theorem aj3(H:lM k p grid r set other):vM Tryz.prog 115 [ptr' bv,ptr' br] (vK k p grid r bv br vh vs vr vc vu gh gc vn vl vp vg vv v1 v2) (vH k.aA (lI grid set (upTo' grid.length)) true):=by
 have hgl:=H.kH.len;have BB:=wI grid.length;refine aK _ (aM 115) λB w0=>?_;refine bY (E:=ae) (v:=vg) (xs:=grid) (by simp) λag cg eg=>?_;subst eg;refine go ?_;refine ak (Yq (n:=grid.length) hgl) (next:=λv _=>?_);dsimp only[List.cons_append,List.nil_append];refine go ?_;rw[H.st.1];refine ak (Xq (aA:=k.aA) (grid:=grid) (cells:=upTo' grid.length) (set:=set) (loop:=true) H.bM H.s.aA.2 H.pO H.kH (Yr hgl) H.st.2) (next:=λ_ _=>?_);refine go ?_;exact aj () (hv:=rfl) (hp:=trivial)
theorem aj4(H:lM k p grid r set other):aQ Tryz.prog (.func 53) [.agg ⟨lK k vh vs vr vc vu gh gc vn vl vp vg vv⟩,.agg ⟨jG r v1 v2⟩] [] [] [ah (aB (aB ae)) vl k.lists,ah dX vc k.decl.bI,ah bG vp p,ah ae vg grid,ah ae vv (gu k),ah (aB ae) vn k.aA] (λ_:Unit=>.bool (oZ k p grid r set other)) (λ_=>[]) (λ_=>[]) (λ_=>True):=by
 have hcs:r.kind=1\/r.kind=2\/r.kind=3\/r.kind=4\/r.kind=5\/r.kind=6\/r.kind=7\/r.kind=8\/r.kind=9\/r.kind=10\/r.kind=11:=by have:=H.kind;omega
 refine aK _ (aM 53) λB w0=>?_;refine go ?_;intro b2 b3 b5;refine aZ (dH (b:=b2)) (h:=?_);refine aZ (dH (b:=b3)) (h:=?_);refine go ?_;rcases hcs with h|h|h|h|h|h|h|h|h|h|h
 ·rw[h];refine go ?_;refine ak (ajT (bv:=b2) (br:=b3) (vh:=vh) (vs:=vs) (vr:=vr) (vc:=vc) (vu:=vu) (gh:=gh) (gc:=gc) (vn:=vn) (vl:=vl) (vp:=vp) (vg:=vg) (vv:=vv) (v1:=v1) (v2:=v2) H) (next:=λ_ _=>?_);refine go ?_;refine aj () (hv:=?_) (hp:=trivial);show Value.bool _=Value.bool _;unfold oZ;rw[h];rfl
 ·rw[h];refine go ?_;refine ak (ajU (bv:=b2) (br:=b3) (vh:=vh) (vs:=vs) (vr:=vr) (vc:=vc) (vu:=vu) (gh:=gh) (gc:=gc) (vn:=vn) (vl:=vl) (vp:=vp) (vg:=vg) (vv:=vv) (v1:=v1) (v2:=v2) H (H.Qx (.inl h))) (next:=λ_ _=>?_);refine go ?_;refine aj () (hv:=?_) (hp:=trivial);show Value.bool _=Value.bool _;unfold oZ;rw[h];rfl
 ·rw[h];refine go ?_;refine ak (ajV (bv:=b2) (br:=b3) (vh:=vh) (vs:=vs) (vr:=vr) (vc:=vc) (vu:=vu) (gh:=gh) (gc:=gc) (vn:=vn) (vl:=vl) (vp:=vp) (vg:=vg) (vv:=vv) (v1:=v1) (v2:=v2) H (H.Qx (.inr (.inl h)))) (next:=λ_ _=>?_);refine go ?_;refine aj () (hv:=?_) (hp:=trivial);show Value.bool _=Value.bool _;unfold oZ;rw[h];rfl
 ·rw[h];refine go ?_;refine ak (ajW (bv:=b2) (br:=b3) (vh:=vh) (vs:=vs) (vr:=vr) (vc:=vc) (vu:=vu) (gh:=gh) (gc:=gc) (vn:=vn) (vl:=vl) (vp:=vp) (vg:=vg) (vv:=vv) (v1:=v1) (v2:=v2) H) (next:=λ_ _=>?_);refine go ?_;refine aj () (hv:=?_) (hp:=trivial);show Value.bool _=Value.bool _;unfold oZ;rw[h];rfl
 ·rw[h];refine go ?_;refine ak (ajX (bv:=b2) (br:=b3) (vh:=vh) (vs:=vs) (vr:=vr) (vc:=vc) (vu:=vu) (gh:=gh) (gc:=gc) (vn:=vn) (vl:=vl) (vp:=vp) (vg:=vg) (vv:=vv) (v1:=v1) (v2:=v2) H) (next:=λ_ _=>?_);refine go ?_;refine aj () (hv:=?_) (hp:=trivial);show Value.bool _=Value.bool _;unfold oZ;rw[h];rfl
 ·rw[h];refine go ?_;refine ak (ajZ (bv:=b2) (br:=b3) (vh:=vh) (vs:=vs) (vr:=vr) (vc:=vc) (vu:=vu) (gh:=gh) (gc:=gc) (vn:=vn) (vl:=vl) (vp:=vp) (vg:=vg) (vv:=vv) (v1:=v1) (v2:=v2) H) (next:=λ_ _=>?_);refine go ?_;refine aj () (hv:=?_) (hp:=trivial);show Value.bool _=Value.bool _;unfold oZ;rw[h];rfl
 ·rw[h];refine go ?_;refine ak (aj0 (bv:=b2) (br:=b3) (vh:=vh) (vs:=vs) (vr:=vr) (vc:=vc) (vu:=vu) (gh:=gh) (gc:=gc) (vn:=vn) (vl:=vl) (vp:=vp) (vg:=vg) (vv:=vv) (v1:=v1) (v2:=v2) H) (next:=λ_ _=>?_);refine go ?_;refine aj () (hv:=?_) (hp:=trivial);show Value.bool _=Value.bool _;unfold oZ;rw[h];rfl
 ·rw[h];refine go ?_;refine ak (aj1 (bv:=b2) (br:=b3) (vh:=vh) (vs:=vs) (vr:=vr) (vc:=vc) (vu:=vu) (gh:=gh) (gc:=gc) (vn:=vn) (vl:=vl) (vp:=vp) (vg:=vg) (vv:=vv) (v1:=v1) (v2:=v2) H) (next:=λ_ _=>?_);refine go ?_;refine aj () (hv:=?_) (hp:=trivial);show Value.bool _=Value.bool _;unfold oZ;rw[h];rfl
 ·rw[h];refine go ?_;refine ak (aj2 (bv:=b2) (br:=b3) (vh:=vh) (vs:=vs) (vr:=vr) (vc:=vc) (vu:=vu) (gh:=gh) (gc:=gc) (vn:=vn) (vl:=vl) (vp:=vp) (vg:=vg) (vv:=vv) (v1:=v1) (v2:=v2) H) (next:=λ_ _=>?_);refine go ?_;refine aj () (hv:=?_) (hp:=trivial);show Value.bool _=Value.bool _;unfold oZ;rw[h];rfl
 ·rw[h];refine go ?_;refine ak (aj3 (bv:=b2) (br:=b3) (vh:=vh) (vs:=vs) (vr:=vr) (vc:=vc) (vu:=vu) (gh:=gh) (gc:=gc) (vn:=vn) (vl:=vl) (vp:=vp) (vg:=vg) (vv:=vv) (v1:=v1) (v2:=v2) H) (next:=λ_ _=>?_);refine go ?_;refine aj () (hv:=?_) (hp:=trivial);show Value.bool _=Value.bool _;unfold oZ;rw[h];rfl
 ·rw[h];refine go ?_;refine ak (ajY (bv:=b2) (br:=b3) (vh:=vh) (vs:=vs) (vr:=vr) (vc:=vc) (vu:=vu) (gh:=gh) (gc:=gc) (vn:=vn) (vl:=vl) (vp:=vp) (vg:=vg) (vv:=vv) (v1:=v1) (v2:=v2) H (H.Qx (.inr (.inr h))) (H.one h)) (next:=λ_ _=>?_);refine go ?_;refine aj () (hv:=?_) (hp:=trivial);show Value.bool _=Value.bool _;unfold oZ;rw[h];rfl
end
end Go.Proofs.YtfakljdleblkoaaGreat
namespace Go.Proofs.YtfakljdleblkoaaGreat
open Go.Ideal Kd Canon
noncomputable def BL(k:aU)(p:List Clue)(grid:List Int)(r:bV):Bool:=oZ k p grid r r.set.toNat r.other.toNat
noncomputable def kw(k:aU)(p:List Clue)(grid:List Int)(rs:List bV):List Int:=rs.zipIdx.filterMap λx=>if BL k p grid x.1 then none else some (x.2:Int)
theorem aj5{k:aU}{p:List Clue}{grid:List Int}{rs:List bV}{j:Nat}{r:bV}(h:rs[j]? =some r):kw k p grid (rs.take (j+1))=kw k p grid (rs.take j)++if BL k p grid r then[]else[(j:Int)]:=by
 have hk:=(aW.1 h).1;unfold kw;rw[gZ h,GN,List.filterMap_append,iL,w9 (by omega)];congr 1;rw[LG,List.zipIdx_nil,fw];cases h2:BL k p grid r<;>simp[h2]
theorem Yt(k:aU)(p:List Clue)(grid:List Int)(rs:List bV):(kw k p grid rs).length<=rs.length:=by
 unfold kw;refine qD (ZC _ _) ?_;simp
def Yu(k:aU)(p:List Clue)(grid:List Int):Prop:=bF k->jf k grid->iQ k p->∀r∈k.decl.rules,lM k p grid r r.set.toNat r.other.toNat
theorem Yv{k:aU}{p:List Clue}{grid:List Int}{vh vs vr vc vu gh gc vn vl vp vg:Value}(hS:mR k)(hP:oW p)(hl:grid.length<9223372036854775808)(hA:Yu k p grid):
 aQ Tryz.prog (.func 27) [.agg ⟨kG k vh vs vr vc vu gh gc vn vl⟩,.agg ⟨[vp]⟩,vg] [] [] (ah bG vp p::ah ae vg grid::je k vh vs vr vc vu gh gc vn vl []) DW (λ_=>[])
  (λy=>[iT (y.e=0) (ah ae y.v (kw k p grid k.decl.rules))]) (λy=>Yo k p grid y.e/\(y.e≠0->y.v=.slice none 0 0)):=by
 have BB:=hS.d.s.nX;refine aK _ (aM 27) λB w0=>?_;dsimp only[je];refine go ?_;intro b3 b4;refine go ?_;refine ak (ajG (k:=k) (p:=p) (grid:=grid) (vh:=vh) (vs:=vs) (vr:=vr) (vc:=vc) (vu:=vu) (gh:=gh) (gc:=gc) (vn:=vn) (vl:=vl) hS hP hl) (next:=λe he=>?_);refine go ?_;refine aJ rfl (λhne=>?_) (λhz=>?_)
 ·refine go ?_;refine nZ (c:=e=0) (f:=ah ae (.slice none 0 0) (kw k p grid k.decl.rules)) hne ?_;exact aj ⟨.slice none 0 0,e⟩ (hv:=rfl) (hp:=⟨he,λ_=>rfl⟩)
 have hz:e=0:=jo.1 hz;subst hz;have hK:bF k:=Classical.byContradiction λh=>by have:=he.nk h;omega
 have hF:jf k grid:=Classical.byContradiction λh=>by have:=he.nf hK h;omega
 have hQ:iQ k p:=Classical.byContradiction λh=>by have:=he.np hK hF h;omega
 have Oo:=hA hK hF hQ;refine go ?_;refine ak (look_ok (p:=p) (k:=k) (grid:=grid) (vh:=vh) (vs:=vs) (vr:=vr) (vc:=vc) (vu:=vu) (gh:=gh) (gc:=gc) (vn:=vn) (vl:=vl) (vp:=vp) hS.d.s.eY) (next:=λvv _=>?_);refine go ?_;intro b8;refine go ?_;refine lY ae ?_;refine bQ (λy:Nat×Value=>k.decl.rules.length - y.1) (λy=>[(26,.int .i64 (y.1:Int)),(6,y.2)]) (λy=>[ap ae y.2 (kw k p grid (k.decl.rules.take y.1))]) (λ_=>[]) (λy=>y.1<=k.decl.rules.length) (0,.slice none 0 0) (dK _) (hk:=by repeat (first|exact aO.nil|(apply aO.cons;(focus (repeat (first|exact az.here|apply az.there)))))) (body:=?_);rintro⟨j,v6⟩ hj;dsimp only at hj⊢;have hbl:=Yt k p grid (k.decl.rules.take j);rw[iL]at hbl;refine go ?_;refine aJ rfl (λh1=>?_) (λh1=>?_)
 ·refine go ?_;refine bZ bT (xs:=k.decl.rules) (next:=λ_ _ r (w:Value×Value) hr=>?_);have hrH:=Oo r (aR hr);have hsu:=aj5 (k:=k) (p:=p) (grid:=grid) hr;refine go ?_;intro b10;refine go ?_;refine ak (aj4 (k:=k) (p:=p) (grid:=grid) (r:=r) (vh:=vh) (vs:=vs) (vr:=vr) (vc:=vc) (vu:=vu) (gh:=gh) (gc:=gc) (vn:=vn) (vl:=vl) (vp:=vp) (vg:=vg) (vv:=vv) (v1:=w.1) (v2:=w.2) hrH) (next:=λ_ _=>?_);rw[show oZ k p grid r r.set.toNat r.other.toNat=BL k p grid r from rfl];generalize BL k p grid r=hr2 at hsu⊢;cases hr2 with
  |true=>
   have hu2:kw k p grid (k.decl.rules.take (j+1))=kw k p grid (k.decl.rules.take j):=by rw[hsu];simp
   rw[<- hu2];refine go ?_;exact bi (j+1,v6) (by show k.decl.rules.length - (j+1)<k.decl.rules.length - j;omega) (by show j+1<=_;omega)
  |false=>
   have hu2:kw k p grid (k.decl.rules.take (j+1))=kw k p grid (k.decl.rules.take j)++[(j:Int)]:=by rw[hsu];simp
   refine go ?_;intro b37;refine go ?_;refine jO (xs:=kw k p grid (k.decl.rules.take j)) ae (j:Int) () (by omega) (next:=λad=>?_);rw[<- hu2];refine go ?_;exact bi (j+1,.slice ad ((kw k p grid (k.decl.rules.take j)).length+1) ((kw k p grid (k.decl.rules.take j)).length+1)) (by show k.decl.rules.length - (j+1)<k.decl.rules.length - j;omega) (by show j+1<=_;omega)
 have iM:j=k.decl.rules.length:=by omega
 subst iM;rw[eH];refine aZ (jk (E:=ae) (v:=v6) (xs:=kw k p grid k.decl.rules)) (h:=?_);refine go ?_;refine qy (c:=(0:Int)=0) (f:=ah ae v6 (kw k p grid k.decl.rules)) (by simp) ?_;exact aj ⟨v6,0⟩ (hv:=rfl) (hp:=⟨he,λh=>absurd rfl h⟩)
end Go.Proofs.YtfakljdleblkoaaGreat
namespace Go.Proofs.YtfakljdleblkoaaGreat
open Go.Ideal Kd Canon
structure BM(k:aU):Prop where
 dw:lD k.decl.w
 dh:lD k.decl.h
 gw:lD k.grid.w
 gh:lD k.grid.h
 holes:k.decl.holes.length<9223372036854775808
 eY:k.decl.symbols.length<9223372036854775808
 regs:k.decl.regions.length<9223372036854775808
 DR:∀r∈k.decl.regions,r.lists.length<9223372036854775808/\∀l∈r.lists,l.length<9223372036854775808
 mE:k.decl.bI.length<9223372036854775808
 nX:k.decl.rules.length<9223372036854775808
 DN:∀r∈k.decl.rules,r.names.length<9223372036854775808/\r.others.length<9223372036854775808
 Yw:k.grid.holes.length<9223372036854775808
 cells:k.grid.cells.length<9223372036854775808
 aA:k.aA.length<9223372036854775808/\∀l∈k.aA,l.length<9223372036854775808
 lists:k.lists.length<9223372036854775808/\∀l∈k.lists,l.length<9223372036854775808/\∀m∈l,m.length<9223372036854775808
structure Qy(k:aU):Prop where
 cells:k.grid.cells.length<=16
 Yw:k.grid.holes.length<=256
 aA:k.aA.length<=20
 lists:k.lists.length<=12
 eY:k.decl.symbols.length<=6
 regs:k.decl.regions.length<=6
 mE:k.decl.bI.length<=6
 nX:k.decl.rules.length<=10
 holes:k.decl.holes.length<=256
 each:∀l∈k.lists,l.length<=40
 reg:∀r∈k.decl.regions,r.lists.length<=20
theorem mR.of{k:aU}(hB:BM k)(hF:Qy k):mR k:=by
 have f1:=hF.cells;have f2:=hF.Yw;have f5:=hF.eY;have f6:=hF.regs;have f7:=hF.mE;have f8:=hF.nX;have f9:=hF.holes;exact⟨⟨⟨by omega,by omega,by omega,by omega,hB.DN,hB.holes,hB.DR⟩,hB.dw,hB.dh,by omega⟩,⟨hB.gw,hB.gh,by omega,by omega⟩,hB.aA,hB.lists⟩
theorem aj7{k:aU}{vh vs vr vc vu gh gc vn vl:Value}(hB:BM k):aQ Tryz.prog (.func 11) [.agg ⟨kG k vh vs vr vc vu gh gc vn vl⟩] [] [] (je k vh vs vr vc vu gh gc vn vl []) (λb:Bool=>.bool b) (λ_=>[]) (λ_=>[]) (λb=>b=true->Qy k):=by
 refine aK _ (aM 11) λB w0=>?_;dsimp only[je];refine go ?_;intro b1;refine go ?_;refine gG (λh1=>?_) (λh1=>?_)
 rotate_left
 ·refine go ?_;exact aj false (hv:=rfl) (hp:=λh=>by cases h)
 refine go ?_;refine gG (λh2=>?_) (λh2=>?_)
 rotate_left
 ·refine go ?_;exact aj false (hv:=rfl) (hp:=λh=>by cases h)
 refine go ?_;refine gG (λh3=>?_) (λh3=>?_)
 rotate_left
 ·refine go ?_;exact aj false (hv:=rfl) (hp:=λh=>by cases h)
 refine go ?_;refine gG (λh4=>?_) (λh4=>?_)
 rotate_left
 ·refine go ?_;exact aj false (hv:=rfl) (hp:=λh=>by cases h)
 refine go ?_;refine gG (λh5=>?_) (λh5=>?_)
 rotate_left
 ·refine go ?_;exact aj false (hv:=rfl) (hp:=λh=>by cases h)
 refine go ?_;refine gG (λh6=>?_) (λh6=>?_)
 rotate_left
 ·refine go ?_;exact aj false (hv:=rfl) (hp:=λh=>by cases h)
 refine go ?_;refine gG (λh7=>?_) (λh7=>?_)
 rotate_left
 ·refine go ?_;exact aj false (hv:=rfl) (hp:=λh=>by cases h)
 refine go ?_;refine gG (λh8=>?_) (λh8=>?_)
 rotate_left
 ·refine go ?_;exact aj false (hv:=rfl) (hp:=λh=>by cases h)
 refine go ?_;refine aJ rfl (λh9=>?_) (λh9=>?_)
 ·refine go ?_;exact aj false (hv:=rfl) (hp:=λh=>by cases h)
 refine go ?_;refine bQ (λj:Nat=>k.lists.length - j) (λj=>[(3,.int .i64 (j:Int))]) (λ_=>[]) (λ_=>[]) (λj=>j<=k.lists.length/\∀l∈k.lists.take j,l.length<=40) 0 ⟨dK _,by simp⟩ (body:=?_);rintro j ⟨hj,hall⟩;refine go ?_;refine aJ rfl (λa1=>?_) (λa1=>?_)
 ·refine go ?_;refine bZ (aB (aB ae)) (xs:=k.lists) (next:=λ_ _ l (uA:Value) hl=>?_);refine go ?_;refine aJ rfl (λa2=>?_) (λa2=>?_)
  ·refine go ?_;exact aj false (hv:=rfl) (hp:=λh=>by cases h)
  ·refine go ?_;refine bi (j+1) (by show k.lists.length - (j+1)<k.lists.length - j;omega) ⟨by omega,?_⟩;rw[gZ hl];intro x hx;rcases gH.1 hx with hx|hx
   ·exact hall x hx
   ·rw[bO.1 hx];omega
 have iM:j=k.lists.length:=by omega
 subst iM;rw[eH]at hall;refine go ?_;refine bQ (λj:Nat=>k.decl.regions.length - j) (λj=>[(4,.int .i64 (j:Int))]) (λ_=>[]) (λ_=>[]) (λj=>j<=k.decl.regions.length/\∀r∈k.decl.regions.take j,r.lists.length<=20) 0 ⟨dK _,by simp⟩ (body:=?_);rintro j ⟨hj,rz⟩;refine go ?_;refine aJ rfl (λa1=>?_) (λa1=>?_)
 ·have hr:k.decl.regions[j]? =some (k.decl.regions[j]'(by omega)):=bC _;generalize k.decl.regions[j]'(by omega)=r at hr;refine go ?_;refine bZ kW (xs:=k.decl.regions) (next:=λ_ _ r2 (uA:Value) hr2=>?_);rw[hr]at hr2;obtain rfl:r=r2:=Option.some.inj hr2;refine go ?_;refine aJ rfl (λa2=>?_) (λa2=>?_)
  ·refine go ?_;exact aj false (hv:=rfl) (hp:=λh=>by cases h)
  ·refine go ?_;refine bi (j+1) (by show k.decl.regions.length - (j+1)<k.decl.regions.length - j;omega) ⟨by omega,?_⟩;rw[gZ hr];intro x hx;rcases gH.1 hx with hx|hx
   ·exact rz x hx
   ·rw[bO.1 hx];omega
 have iM:j=k.decl.regions.length:=by omega
 subst iM;rw[eH]at rz;refine go ?_;exact aj true (hv:=rfl) (hp:=λ_=>⟨by omega,by omega,by omega,by omega,by omega,by omega,by omega,by omega,by omega,hall,rz⟩)
theorem Qz{k:aU}{p:List Clue}{grid:List Int}{vh vs vr vc vu gh gc vn vl vp vg:Value}(hB:BM k):
 aQ Tryz.prog (.func 20) [.agg ⟨kG k vh vs vr vc vu gh gc vn vl⟩,.agg ⟨[vp]⟩,vg] [] [] (ah bG vp p::ah ae vg grid::je k vh vs vr vc vu gh gc vn vl []) (λb:Bool=>.bool b) (λ_=>[]) (λ_=>[]) (λb=>b=true->Qy k/\p.length<=60/\grid.length<=20):=by
 refine aK _ (aM 20) λB w0=>?_;dsimp only[je];refine go ?_;intro b3 b4;refine go ?_;refine ak (aj7 (k:=k) (vh:=vh) (vs:=vs) (vr:=vr) (vc:=vc) (vu:=vu) (gh:=gh) (gc:=gc) (vn:=vn) (vl:=vl) hB) (next:=λb hb=>?_);cases b with
 |false=>
  refine go ?_;exact aj false (hv:=rfl) (hp:=λh=>by cases h)
 |true=>
 have hk:=hb rfl;refine go ?_;refine gG (λh1=>?_) (λh1=>?_)
 ·refine go ?_;exact aj false (hv:=rfl) (hp:=λh=>by cases h)
 refine go ?_;refine aj (decide ((grid.length:Int)<=20)) (hv:=rfl) (hp:=λh=>?_);have h:=jg h;exact⟨hk,by omega,by omega⟩
end Go.Proofs.YtfakljdleblkoaaGreat
namespace Go.Proofs.YtfakljdleblkoaaGreat
open Go.Ideal Kd Canon
theorem Yx{k:Int}(h:(ic k).read=true):1<=k/\k<=11:=by
 apply Classical.byContradiction;intro hn;have hc:(k<0\/14<=k)\/k=0\/k=12\/k=13:=by omega
 rcases hc with hc|rfl|rfl|rfl
 ·rw[KU hc]at h;cases h
 ·cases h
 ·cases h
 ·cases h
theorem K7{eY:List ByteArray}(hs:eY.length<=16):∀(l:List ByteArray),(∀s∈l,s∈eY)->jX eY l<2^16:=by
 have h:∀(l:List ByteArray) (m:Nat),m<2^16->(∀s∈l,s∈eY)->l.foldl (λm s=>m|||1<<<jB s eY) m<2^16:=by
  intro l;induction l with
  |nil=>intro m hm _;exact hm
  |cons s l ih=>
   intro m hm hl;rw[sN];refine ih _ (Ru hm ?_) (λt ht=>hl t (bU _ ht));have:=Bq (hl s (bR ..));rw[Nat.one_shiftLeft];exact RI (by omega) (by omega)
 intro l hl;exact h l 0 (by decide) hl
theorem bF.oO{k:aU}(h:bF k){r:bV}(hr:r∈k.decl.rules):∃q∈k.decl.rules,r=vB (gY k.decl) (gM k.decl) (kX k.decl) q:=by
 have h1:r∈(Kd.dV k.decl).rules:=by rw[<- h.decl];exact hr
 obtain⟨q,hq,e⟩:=cZ.1 (show r∈k.decl.rules.map (vB (gY k.decl) (gM k.decl) (kX k.decl))from h1);exact⟨q,hq,e.symm⟩
theorem bF.iG{k:aU}(h:bF k):k.lists.length=8+k.decl.regions.length:=by
 rw[h.lists];unfold nT;rw[gP,bJ,bJ,uH]
theorem bF.bM{k:aU}(h:bF k):ik (bE k.decl):=⟨h.typ.KX,rfl⟩
theorem bF.inr{k:aU}(h:bF k){r:bV}(hr:r∈k.decl.rules):Gp k r:=by
 obtain⟨q,hq,rfl⟩:=h.oO hr;have hro:=h.b.rs.oO q hq;have hl:=h.iG;have hfl:(gM k.decl).length=8+k.decl.regions.length:=by
  unfold gM;rw[gP,bJ];rfl
 refine⟨?_,?_⟩
 ·show 0<=(if q.on=⟨⟨[]⟩⟩then(0:Int)else(jB q.on (gM k.decl):Int))/\(if q.on=⟨⟨[]⟩⟩then(0:Int)else(jB q.on (gM k.decl):Int))<_;by_cases e:q.on=⟨⟨[]⟩⟩
  ·rw[if_pos e];omega
  ·rw[if_neg e];have:=Bq (hro.on.resolve_left e);omega
 ·show(if q.iZ=⟨⟨[]⟩⟩then(-1:Int)else(jB q.iZ (kX k.decl):Int))<_;by_cases e:q.iZ=⟨⟨[]⟩⟩
  ·rw[if_pos e];omega
  ·rw[if_neg e];have h1:=Bq (hro.iZ.resolve_left e);have h2:(kX k.decl).length=k.decl.bI.length:=by unfold kX;rw[bJ]
   omega
theorem aj8{k:aU}{p:List Clue}{r:bV}(hr:Gp k r)(hp:∀g∈p,kY k g){x:List Int×List Int}(hx:x∈fV k p r):∃l∈k.lists,x.1∈l:=by
 unfold fV at hx;obtain⟨hf0,hf1⟩:=hr.fP;split at hx
 ·have hl:k.lists[r.family.toNat]? =some (k.lists[r.family.toNat]'(by omega)):=bC _;rw[fC hl]at hx;obtain⟨l,hl2,rfl⟩:=cZ.1 hx;exact⟨_,uC _,hl2⟩
 ·obtain⟨g,hg,rfl⟩:=cZ.1 hx;obtain⟨c,l,ps,h1,h2,h3,_,_,_,h4⟩:=(hp g (mW.1 hg).1).cells;exact⟨l,aR h2,by rw[h4];exact aR h3⟩
theorem Yy{k:aU}{p:List Clue}{grid:List Int}(hS:mR k)(hP:oW p)(hgl:grid.length<=1000000):Yu k p grid:=by
 intro hK aj9 hQ r hr;have hty:=hK.typ;have hgo:=hK.bM;have hin:=hK.inr hr;obtain⟨q,hq,hre⟩:=hK.oO hr;have hro:=hK.b.rs.oO q hq;have hrx:=hty.form.nX r hr;have hsl:=hty.lim.s1;have hkd:1<=r.kind/\r.kind<=11:=by
  refine Yx ?_;have:=hty.read;unfold l8 at this;rw[List.filterMap_eq_nil_iff]at this;obtain⟨j,hj⟩:=jm hr;have:=this (r,j) (vV.2 hj);cases h:(ic r.kind).read with
  |true=>rfl
  |false=>simp[h]at this
 have hgc:k.grid.cells.length=(bE k.decl).cells.length:=by rw[hK.grid]
 obtain⟨hf1,hf2⟩:=aj9;have hlin:∀l∈k.lists,∀ps∈l,zR (bE k.decl).cells.length ps:=by
  rw[hK.lists];exact O0 hgo (λr hr=>(hty.BH r hr).1.2)
 have QA:∀x∈fV k p r,zR (bE k.decl).cells.length x.1:=λx hx=>by
  obtain⟨l,hl,hxl⟩:=aj8 hin hQ.right hx;exact hlin l hl _ hxl
 have Gq:r.set=((jX (gY k.decl) q.names:Nat):Int):=by rw[hre];rfl
 have Gr:r.other=((jX (gY k.decl) q.others:Nat):Int):=by rw[hre];rfl
 have hsn:(gY k.decl).length<=16:=by unfold gY;rw[bJ];exact hsl
 have hl1:=K7 hsn q.names hro.names;have hl2:=K7 hsn q.others hro.others;have K8:∀need:Int,need≠0->(∀n2:Int,n2=(if(ic r.kind).op=true/\r.iZ≠BG then 2 else(ic r.kind).aN)->n2=0\/n2=need)->0<=r.aN->∃c,k.decl.bI[r.aN.toNat]? =some c/\c.type=need:=by
  intro need hn h2 hc;rcases hrx.Qc _ rfl with⟨a1,_,a2⟩|⟨a1,_,_,c,a2,a3,_⟩
  ·omega
  ·rcases h2 _ rfl with h|h
   ·exact absurd h a1
   ·exact⟨c,a2,by rw[a3];exact h⟩
 have aka:r.kind=2\/r.kind=3\/r.kind=11->0<=r.aN->∃c,k.decl.bI[r.aN.toNat]? =some c/\(c.type=1\/c.type=2):=by
  intro h hc;rcases h with h|h|h
  ·obtain⟨c,h1,h2⟩:=K8 2 (by omega) (λn2 hn2=>by rw[h]at hn2;rw[hn2];split;exact .inr rfl;exact .inl rfl) hc;exact⟨c,h1,.inr h2⟩
  ·obtain⟨c,h1,h2⟩:=K8 2 (by omega) (λn2 hn2=>by rw[h]at hn2;rw[hn2];split;exact .inr rfl;exact .inl rfl) hc;exact⟨c,h1,.inr h2⟩
  ·obtain⟨c,h1,h2⟩:=K8 1 (by omega) (λn2 hn2=>by
    rw[h]at hn2;have e:(ic 11).op=false:=rfl;rw[e,if_neg (by simp)]at hn2;exact .inr hn2) hc
   exact⟨c,h1,.inl h2⟩
 refine⟨hS,hP,hK.fP,hin,hQ.right,⟨hgl,λx hx=>?_⟩,λx hx=>⟨?_,λc hc=>?_⟩,⟨λv hv=>?_,λx hx=>?_⟩,?_,?_,⟨by rw[Gq];omega,by rw[Gq];omega⟩,⟨by rw[Gr];omega,by rw[Gr];omega⟩,hkd,λhk x hx=>?_,λx hx=>(QA x hx).1,λhk x hx=>?_⟩
 ·have:=hf2 x hx;omega
 ·have:=(QA x hx).1;omega
 ·have:=(QA x hx).2 c hc;omega
 ·obtain⟨s,hs,rfl⟩:=cZ.1 hv;exact hty.form.eY s hs
 ·have:=hf2 x hx;have:(gu k).length=k.decl.symbols.length:=by unfold gu;rw[bJ]
  omega
 ·rw[hK.aA];refine⟨by rw[wH];exact hgo.len,λi l hl j n hn=>?_⟩;exact Wu hgo i l hl j n hn
 ·rw[hK.aA,wH];omega
 ·unfold fV at hx;by_cases hc:r.aN<0
  ·rw[if_pos hc]at hx;obtain⟨l,_,rfl⟩:=cZ.1 hx;simp
  ·rw[if_neg hc]at hx;obtain⟨g,hg,rfl⟩:=cZ.1 hx;obtain⟨hg1,hg2⟩:=mW.1 hg;have hg2:=jg hg2;obtain⟨c,h1,h2⟩:=aka hk (by omega);obtain⟨c',l,_,b1,_,_,_,b2⟩:=hQ.right g hg1;rw[hg2,h1]at b1;cases b1;show 0<g.values.length;rcases b2 with b2|b2|b2
   ·omega
   ·omega
   ·rcases h2 with h2|h2
    ·exact absurd h2 b2.1
    ·exact absurd h2 b2.2.1
 ·have hc:0<=r.aN:=by
   rcases hrx.Qc _ rfl with⟨a1,_,_⟩|⟨_,a,_⟩
   ·rw[hk]at a1;have e:(ic 11).op=false:=rfl;rw[e,if_neg (by simp)]at a1;cases a1
   ·exact a
  obtain⟨c,h1,h2⟩:=K8 1 (by omega) (λn2 hn2=>by
   rw[hk]at hn2;have e:(ic 11).op=false:=rfl;rw[e,if_neg (by simp)]at hn2;exact .inr hn2) hc
  have hcp:=(hty.form.mE _ c h1).2;have QB:c.family=0:=by unfold wP at hcp;omega
  unfold fV at hx;rw[if_neg (by omega)]at hx;obtain⟨g,hg,rfl⟩:=cZ.1 hx;obtain⟨hg1,hg2⟩:=mW.1 hg;have hg2:=jg hg2;obtain⟨c',l,ps,b1,b2,b3,_,_,_,b4⟩:=(hQ.right g hg1).cells;rw[hg2,h1]at b1;cases b1;rw[QB,hK.lists]at b2;have hl0:(nT k.decl)[(0:Int).toNat]? =some (gN (bE k.decl) 0):=rfl;rw[hl0]at b2;cases b2;show 0<(jv k g).length;rw[b4];have hps:=aR b3;have:gN (bE k.decl) 0=lH (bE k.decl).cells.length:=by simp[gN]
  rw[this]at hps;unfold lH at hps;obtain⟨i,_,rfl⟩:=cZ.1 hps;simp
