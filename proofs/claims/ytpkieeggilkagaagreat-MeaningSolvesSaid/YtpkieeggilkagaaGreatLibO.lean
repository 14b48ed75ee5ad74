/-
  Meaning: what rules say.
-/
import Derived.Test.YtpkieeggilkagaaGreatLibN
set_option linter.unusedSimpArgs false
set_option linter.unusedVariables false
set_option maxRecDepth 10000
set_option maxHeartbeats 4000000
namespace Go.Proofs.YtpkieeggilkagaaGreat
open Go.Ideal Kd Canon
structure zEL(k:Knd)(p:List zm)(grid:List Int)(r:Rul)(set other:Nat):Prop where
 s:zHH k
 ps:zLH p
 fam:zLv k
 rin:zNo k r
 right:∀g∈p,zCL k g
 gri:zDJ grid
 cells:∀x∈rlsOf k p r,zCA grid x.1
 vals:zJg (zh k) grid
 gok:GOK k.nbs
 nlen:grid.length=k.nbs.length
 st:r.set=(set:Int)∧set<9223372036854775808
 ot:r.other=(other:Int)∧other<9223372036854775808
 kind:1≤r.kind∧r.kind≤11
 giv:r.kind=2∨r.kind=3∨r.kind=11→∀x∈rlsOf k p r,0<x.2.length
 few:∀x∈rlsOf k p r,x.1.length≤4096
 one:r.kind=11→∀x∈rlsOf k p r,0<x.1.length
def cA(grid:List Int)(x:List Int×List Int):Bool:=dif grid x.1
def cB(grid:List Int)(set:Nat)(op:Int)(x:List Int×List Int):Bool:=obB (cnt grid set x.1:Int) op (x.2.getD 0 0)
def cC(vals grid:List Int)(op:Int)(x:List Int×List Int):Bool:=obB (smm vals grid x.1) op (x.2.getD 0 0)
def cD(vals grid:List Int)(x:List Int×List Int):Bool:=ris vals grid x.1
def cE(grid:List Int)(set:Nat)(x:List Int×List Int):Bool:=decide (rn grid set 0 x.1=x.2)
def cK(grid:List Int)(x:List Int×List Int):Bool:=decide (gAt grid (x.1.getD 0 0)=x.2.getD 0 0)
def nF(a b:Int):Bool:=decide (a≠b)
def nG(vals:List Int)(n a b:Int):Bool:=decide (n≤max (gAt vals a - gAt vals b) (gAt vals b - gAt vals a))
def nH(set other:Nat)(a b:Int):Bool:=!(set.testBit a.toNat)||!(other.testBit b.toNat)
noncomputable def za(k:Knd)(p:List zm)(grid:List Int)(r:Rul)(set other:Nat):Bool:=
 if r.kind=1 then(rlsOf k p r).all (cA grid)
 else if r.kind=2 then(rlsOf k p r).all (cB grid set r.op)
 else if r.kind=3 then(rlsOf k p r).all (cC (zh k) grid r.op)
 else if r.kind=4 then(rlsOf k p r).all (cD (zh k) grid)
 else if r.kind=5 then(rlsOf k p r).all (cE grid set)
 else if r.kind=6 then zGS k.nbs grid nF
 else if r.kind=7 then zGS k.nbs grid (nG (zh k) r.n)
 else if r.kind=8 then zGS k.nbs grid (nH set other)
 else if r.kind=9 then zD4 k.nbs (mkd grid set (upTo' grid.length)) false
 else if r.kind=10 then zD4 k.nbs (mkd grid set (upTo' grid.length)) true
 else(rlsOf k p r).all (cK grid)
theorem zHK(grid:List Int)(set:Nat):∀(cells:List Int) (n:Nat),(rn grid set n cells).length≤cells.length+1
 |[],n=>by unfold rn;split<;>simp
 |c::cs,n=>by
  unfold rn;split
  ·have:=zHK grid set cs (n+1);simp;omega
  ·split
   ·have:=zHK grid set cs 0;simp;omega
   ·have:=zHK grid set cs 0;simp;omega
theorem zSC{l:List Int}{y:Int}(h:l[0]? =some y):l.getD 0 0=y:=zAl h
section
variable {k:Knd} {p:List zm} {grid:List Int} {r:Rul} {set other:Nat} {bv br:Nat} {vh vs vr vc vu gh gc vn vl vp vg vv v1 v2:Value}
theorem zSy(H:zEL k p grid r set other)(x:List Int×List Int)(hx:x∈rlsOf k p r):FnE Tryz.prog (.func 59) [] [ptr' bv] [fRaw bv 0 (vwL k vh vs vr vc vu gh gc vn vl vp vg vv),fSl intE vg grid] (cA grid) x:=by
 intro w1 w2;rw[List.nil_append];refine zE _ (isC 59) fun B w0=>?_;refine go ?_;refine zA (zJM (grid:=grid) (cells:=x.1) H.gri (H.cells x hx)) (next:=fun _ _=>?_);refine go ?_;exact q_fin () (hv:=rfl) (hp:=trivial)
theorem zSL(H:zEL k p grid r set other)(h0:∀x∈rlsOf k p r,0<x.2.length)(x:List Int×List Int)(hx:x∈rlsOf k p r):FnE Tryz.prog (.func 62) [] [ptr' bv,ptr' br] [fRaw bv 0 (vwL k vh vs vr vc vu gh gc vn vl vp vg vv),fRaw br 0 (zCG r v1 v2),fSl intE vg grid] (cB grid set r.op) x:=by
 intro w1 w2;have hx0:=h0 x hx;rw[List.nil_append];refine zE _ (isC 62) fun B w0=>?_;refine go ?_;intro _ _ y hy;rw[H.st.1];refine zA (zHi (grid:=grid) (cells:=x.1) (set:=set) H.gri (H.cells x hx) H.st.2) (next:=fun _ _=>?_);refine go ?_;refine zA (zKB (n:=(cnt grid set x.1:Int)) (op:=r.op) (b:=y)) (next:=fun _ _=>?_);refine go ?_;refine q_fin () (hv:=?_) (hp:=trivial);show _=Value.bool (cB grid set r.op x);unfold cB;rw[zSC hy];rfl
theorem zS4(H:zEL k p grid r set other)(h0:∀x∈rlsOf k p r,0<x.2.length)(x:List Int×List Int)(hx:x∈rlsOf k p r):FnE Tryz.prog (.func 66) [] [ptr' bv,ptr' br] [fRaw bv 0 (vwL k vh vs vr vc vu gh gc vn vl vp vg vv),fRaw br 0 (zCG r v1 v2),fSl intE vg grid,fSl intE vv (zh k)] (cC (zh k) grid r.op) x:=by
 intro w1 w2;have hx0:=h0 x hx;rw[List.nil_append];refine zE _ (isC 66) fun B w0=>?_;refine go ?_;intro _ _ y hy;refine zA (zMG (values:=zh k) (grid:=grid) (cells:=x.1) H.gri (H.cells x hx) H.vals) (next:=fun _ _=>?_);refine go ?_;refine zA (zKB (n:=smm (zh k) grid x.1) (op:=r.op) (b:=y)) (next:=fun _ _=>?_);refine go ?_;refine q_fin () (hv:=?_) (hp:=trivial);show _=Value.bool (cC (zh k) grid r.op x);unfold cC;rw[zSC hy];rfl
theorem zSo(H:zEL k p grid r set other)(x:List Int×List Int)(hx:x∈rlsOf k p r):FnE Tryz.prog (.func 69) [] [ptr' bv] [fRaw bv 0 (vwL k vh vs vr vc vu gh gc vn vl vp vg vv),fSl intE vg grid,fSl intE vv (zh k)] (cD (zh k) grid) x:=by
 intro w1 w2;rw[List.nil_append];refine zE _ (isC 69) fun B w0=>?_;refine go ?_;refine zA (zJN (values:=zh k) (grid:=grid) (cells:=x.1) H.gri (H.cells x hx) H.vals) (next:=fun _ _=>?_);refine go ?_;exact q_fin () (hv:=rfl) (hp:=trivial)
theorem zSX(H:zEL k p grid r set other)(x:List Int×List Int)(hx:x∈rlsOf k p r):FnE Tryz.prog (.func 72) [] [ptr' bv,ptr' br] [fRaw bv 0 (vwL k vh vs vr vc vu gh gc vn vl vp vg vv),fRaw br 0 (zCG r v1 v2),fSl intE vg grid] (cE grid set) x:=by
 intro w1 w2;have hcl:=H.few x hx;rw[List.nil_append];refine zE _ (isC 72) fun B w0=>?_;refine go ?_;rw[H.st.1];refine zA (zJp (grid:=grid) (cells:=x.1) (set:=set)) (next:=fun y _=>?_);dsimp only[List.cons_append,List.nil_append];have hrl:=zHK grid set x.1 0;refine go ?_;refine zA (zGT (zHm (b3:=y.1) (b4:=y.2.1) (b5:=y.2.2) (vg:=vg) (vc:=w1) (grid:=grid) (cells:=x.1) (set:=set) H.gri (H.cells x hx) H.st.2) (by omega)) (next:=fun v _=>?_);refine go ?_;refine zA (zB2 (xs:=rn grid set 0 x.1) (ys:=x.2) (by omega)) (next:=fun _ _=>?_);refine go ?_;exact q_fin () (hv:=rfl) (hp:=trivial)
theorem zTB(H:zEL k p grid r set other)(h0:∀x∈rlsOf k p r,0<x.2.length)(h1:∀x∈rlsOf k p r,0<x.1.length)(x:List Int×List Int)(hx:x∈rlsOf k p r):FnE Tryz.prog (.func 90) [] [ptr' bv] [fRaw bv 0 (vwL k vh vs vr vc vu gh gc vn vl vp vg vv),fSl intE vg grid] (cK grid) x:=by
 intro w1 w2;have hx0:=h0 x hx;have hx1:=h1 x hx;rw[List.nil_append];refine zE _ (isC 90) fun B w0=>?_;refine go ?_;intro _ _ c hc;have hcc:=(H.cells x hx).cell c (List.mem_of_getElem? hc);obtain⟨cn,rfl⟩:=Int.eq_ofNat_of_zero_le hcc.1;refine go ?_;intro _ _ z hz _ _ y hy;refine go ?_;refine q_fin () (hv:=?_) (hp:=trivial);show _=Value.bool (cK grid x);unfold cK;rw[zSC hy,zSC hc,zIO hz];rfl
theorem zTR{a b:Int}:FnN Tryz.prog (.func 78) [] [] [] nF a b:=by
 unfold FnN;rw[List.nil_append];refine zE _ (isC 78) fun B w0=>?_;refine go ?_;exact q_fin () (hv:=rfl) (hp:=trivial)
theorem zSE(H:zEL k p grid r set other){a b:Int}(ha:a∈grid)(hb:b∈grid):FnN Tryz.prog (.func 80) [] [ptr' bv,ptr' br] [fRaw bv 0 (vwL k vh vs vr vc vu gh gc vn vl vp vg vv),fRaw br 0 (zCG r v1 v2),fSl intE vv (zh k)] (nG (zh k) r.n) a b:=by
 unfold FnN;rw[List.nil_append];obtain⟨a0,a1⟩:=H.gri.sym a ha;obtain⟨b0,b1⟩:=H.gri.sym b hb;have a2:=H.vals.sym a ha;have b2:=H.vals.sym b hb;obtain⟨an,rfl⟩:=Int.eq_ofNat_of_zero_le a0;obtain⟨bn,rfl⟩:=Int.eq_ofNat_of_zero_le b0;refine zE _ (isC 80) fun B w0=>?_;refine go ?_;intro _ _ x hx _ _ y hy;have hxv:=H.vals.val x (List.mem_of_getElem? hx);have hyv:=H.vals.val y (List.mem_of_getElem? hy);refine go ?_;refine zA (zIJ (a:=x) (b:=y) (n:=r.n) (by omega) (by omega)) (next:=fun _ _=>?_);refine go ?_;refine q_fin () (hv:=?_) (hp:=trivial);show _=Value.bool (nG (zh k) r.n an bn);unfold nG;rw[zIO hx,zIO hy];rfl
theorem zS7(H:zEL k p grid r set other){a b:Int}(ha:a∈grid)(hb:b∈grid):FnN Tryz.prog (.func 83) [] [ptr' br] [fRaw br 0 (zCG r v1 v2)] (nH set other) a b:=by
 unfold FnN;rw[List.nil_append];obtain⟨a0,a1⟩:=H.gri.sym a ha;obtain⟨b0,b1⟩:=H.gri.sym b hb;obtain⟨an,rfl⟩:=Int.eq_ofNat_of_zero_le a0;obtain⟨bn,rfl⟩:=Int.eq_ofNat_of_zero_le b0;refine zE _ (isC 83) fun B w0=>?_;refine go ?_;rw[H.st.1];refine zA (zCE (set:=set) (sym:=an) H.st.2 (by omega)) (next:=fun _ _=>?_);refine go ?_;cases hs:set.testBit an with
 |false=>
  refine go ?_;refine q_fin () (hv:=?_) (hp:=trivial);show _=Value.bool (nH set other an bn);unfold nH;rw[Int.toNat_natCast,hs];rfl
 |true=>
  refine go ?_;rw[H.ot.1];refine zA (zCE (set:=other) (sym:=bn) H.ot.2 (by omega)) (next:=fun _ _=>?_);refine go ?_;refine q_fin () (hv:=?_) (hp:=trivial);show _=Value.bool (nH set other an bn);unfold nH;rw[Int.toNat_natCast,Int.toNat_natCast,hs];show _=Value.bool (false||!other.testBit bn);rw[Bool.false_or];rfl
abbrev hoF(k:Knd)(p:List zm)(grid:List Int)(r:Rul)(bv br:Nat)(vh vs vr vc vu gh gc vn vl vp vg vv v1 v2:Value):List zJ:=
 [fRaw bv 0 (vwL k vh vs vr vc vu gh gc vn vl vp vg vv),fRaw br 0 (zCG r v1 v2),fSl (slE (slE intE)) vl k.lists,fSl zAS vc k.decl.clues,fSl gvnE vp p,fSl intE vg grid,fSl intE vv (zh k),fSl (slE intE) vn k.nbs]
abbrev FnH(P:Program)(f:FuncId)(cap:List Value)(F:List zJ)(b:Bool):Prop:=FnC P (.func f) [] cap [] F (fun _:Unit=>.bool b) (fun _=>[]) (fun _=>[]) (fun _=>True)
theorem zUi(H:zEL k p grid r set other):FnH Tryz.prog 57 [ptr' bv,ptr' br] (hoF k p grid r bv br vh vs vr vc vu gh gc vn vl vp vg vv v1 v2) ((rlsOf k p r).all (cA grid)):=by
 refine zE _ (isC 57) fun B w0=>?_;refine go ?_;refine zA (zCp (k:=k) (p:=p) (r:=r) (vh:=vh) (vs:=vs) (vr:=vr) (vc:=vc) (vu:=vu) (gh:=gh) (gc:=gc) (vn:=vn) (vl:=vl) (vp:=vp) (vg:=vg) (vv:=vv) (v1:=v1) (v2:=v2) (fn:=.func 59) (first:=[]) (cap:=[ptr' bv]) (F1:=[fRaw bv 0 (vwL k vh vs vr vc vu gh gc vn vl vp vg vv),fSl intE vg grid]) (c:=cA grid) H.s H.ps H.fam H.rin H.right (fun x hx=>zSy H x hx)) (next:=fun _ _=>?_);refine go ?_;exact q_fin () (hv:=rfl) (hp:=trivial)
theorem zT7(H:zEL k p grid r set other)(h0:∀x∈rlsOf k p r,0<x.2.length):FnH Tryz.prog 61 [ptr' bv,ptr' br] (hoF k p grid r bv br vh vs vr vc vu gh gc vn vl vp vg vv v1 v2) ((rlsOf k p r).all (cB grid set r.op)):=by
 refine zE _ (isC 61) fun B w0=>?_;refine go ?_;refine zA (zCp (k:=k) (p:=p) (r:=r) (vh:=vh) (vs:=vs) (vr:=vr) (vc:=vc) (vu:=vu) (gh:=gh) (gc:=gc) (vn:=vn) (vl:=vl) (vp:=vp) (vg:=vg) (vv:=vv) (v1:=v1) (v2:=v2) (fn:=.func 62) (first:=[]) (cap:=[ptr' bv,ptr' br]) (F1:=[fRaw bv 0 (vwL k vh vs vr vc vu gh gc vn vl vp vg vv),fRaw br 0 (zCG r v1 v2),fSl intE vg grid]) (c:=cB grid set r.op) H.s H.ps H.fam H.rin H.right (fun x hx=>zSL H h0 x hx)) (next:=fun _ _=>?_);refine go ?_;exact q_fin () (hv:=rfl) (hp:=trivial)
theorem zTz(H:zEL k p grid r set other)(h0:∀x∈rlsOf k p r,0<x.2.length):FnH Tryz.prog 65 [ptr' bv,ptr' br] (hoF k p grid r bv br vh vs vr vc vu gh gc vn vl vp vg vv v1 v2) ((rlsOf k p r).all (cC (zh k) grid r.op)):=by
 refine zE _ (isC 65) fun B w0=>?_;refine go ?_;refine zA (zCp (k:=k) (p:=p) (r:=r) (vh:=vh) (vs:=vs) (vr:=vr) (vc:=vc) (vu:=vu) (gh:=gh) (gc:=gc) (vn:=vn) (vl:=vl) (vp:=vp) (vg:=vg) (vv:=vv) (v1:=v1) (v2:=v2) (fn:=.func 66) (first:=[]) (cap:=[ptr' bv,ptr' br]) (F1:=[fRaw bv 0 (vwL k vh vs vr vc vu gh gc vn vl vp vg vv),fRaw br 0 (zCG r v1 v2),fSl intE vg grid,fSl intE vv (zh k)]) (c:=cC (zh k) grid r.op) H.s H.ps H.fam H.rin H.right (fun x hx=>zS4 H h0 x hx)) (next:=fun _ _=>?_);refine go ?_;exact q_fin () (hv:=rfl) (hp:=trivial)
theorem zUR(H:zEL k p grid r set other):FnH Tryz.prog 68 [ptr' bv,ptr' br] (hoF k p grid r bv br vh vs vr vc vu gh gc vn vl vp vg vv v1 v2) ((rlsOf k p r).all (cD (zh k) grid)):=by
 refine zE _ (isC 68) fun B w0=>?_;refine go ?_;refine zA (zCp (k:=k) (p:=p) (r:=r) (vh:=vh) (vs:=vs) (vr:=vr) (vc:=vc) (vu:=vu) (gh:=gh) (gc:=gc) (vn:=vn) (vl:=vl) (vp:=vp) (vg:=vg) (vv:=vv) (v1:=v1) (v2:=v2) (fn:=.func 69) (first:=[]) (cap:=[ptr' bv]) (F1:=[fRaw bv 0 (vwL k vh vs vr vc vu gh gc vn vl vp vg vv),fSl intE vg grid,fSl intE vv (zh k)]) (c:=cD (zh k) grid) H.s H.ps H.fam H.rin H.right (fun x hx=>zSo H x hx)) (next:=fun _ _=>?_);refine go ?_;exact q_fin () (hv:=rfl) (hp:=trivial)
theorem zT6(H:zEL k p grid r set other):FnH Tryz.prog 71 [ptr' bv,ptr' br] (hoF k p grid r bv br vh vs vr vc vu gh gc vn vl vp vg vv v1 v2) ((rlsOf k p r).all (cE grid set)):=by
 refine zE _ (isC 71) fun B w0=>?_;refine go ?_;refine zA (zCp (k:=k) (p:=p) (r:=r) (vh:=vh) (vs:=vs) (vr:=vr) (vc:=vc) (vu:=vu) (gh:=gh) (gc:=gc) (vn:=vn) (vl:=vl) (vp:=vp) (vg:=vg) (vv:=vv) (v1:=v1) (v2:=v2) (fn:=.func 72) (first:=[]) (cap:=[ptr' bv,ptr' br]) (F1:=[fRaw bv 0 (vwL k vh vs vr vc vu gh gc vn vl vp vg vv),fRaw br 0 (zCG r v1 v2),fSl intE vg grid]) (c:=cE grid set) H.s H.ps H.fam H.rin H.right (fun x hx=>zSX H x hx)) (next:=fun _ _=>?_);refine go ?_;exact q_fin () (hv:=rfl) (hp:=trivial)
theorem zT0(H:zEL k p grid r set other)(h0:∀x∈rlsOf k p r,0<x.2.length)(h1:∀x∈rlsOf k p r,0<x.1.length):FnH Tryz.prog 89 [ptr' bv,ptr' br] (hoF k p grid r bv br vh vs vr vc vu gh gc vn vl vp vg vv v1 v2) ((rlsOf k p r).all (cK grid)):=by
 refine zE _ (isC 89) fun B w0=>?_;refine go ?_;refine zA (zCp (k:=k) (p:=p) (r:=r) (vh:=vh) (vs:=vs) (vr:=vr) (vc:=vc) (vu:=vu) (gh:=gh) (gc:=gc) (vn:=vn) (vl:=vl) (vp:=vp) (vg:=vg) (vv:=vv) (v1:=v1) (v2:=v2) (fn:=.func 90) (first:=[]) (cap:=[ptr' bv]) (F1:=[fRaw bv 0 (vwL k vh vs vr vc vu gh gc vn vl vp vg vv),fSl intE vg grid]) (c:=cK grid) H.s H.ps H.fam H.rin H.right (fun x hx=>zTB H h0 h1 x hx)) (next:=fun _ _=>?_);refine go ?_;exact q_fin () (hv:=rfl) (hp:=trivial)
theorem zEL.nbs(H:zEL k p grid r set other):∀l∈k.nbs,∀b∈l,0≤b∧b<grid.length:=by
 intro l hl b hb;obtain⟨i,hi⟩:=List.getElem?_of_mem hl;obtain⟨j,hj⟩:=List.getElem?_of_mem hb;have:=H.gok.ok i l hi j b hj;have:=H.nlen;omega
theorem zT2(H:zEL k p grid r set other):FnH Tryz.prog 76 [ptr' bv] (hoF k p grid r bv br vh vs vr vc vu gh gc vn vl vp vg vv v1 v2) (zGS k.nbs grid (nF)):=by
 have hgl:=H.gri.len;have hnl:=H.nlen;refine zE _ (isC 76) fun B w0=>?_;refine go ?_;refine zA (zE2 (k:=k) (grid:=grid) (vh:=vh) (vs:=vs) (vr:=vr) (vc:=vc) (vu:=vu) (gh:=gh) (gc:=gc) (vn:=vn) (vl:=vl) (vp:=vp) (vg:=vg) (vv:=vv) (fn:=.func 78) (first:=[]) (cap:=[]) (F1:=[]) (c:=nF) (by omega) hgl (fun l hl=>⟨H.s.nbs.2 l hl,fun b hb=>H.nbs l hl b hb⟩) (fun a ha b hb=>zTR)) (next:=fun _ _=>?_);refine go ?_;exact q_fin () (hv:=rfl) (hp:=trivial)
theorem zUK(H:zEL k p grid r set other):FnH Tryz.prog 79 [ptr' bv,ptr' br] (hoF k p grid r bv br vh vs vr vc vu gh gc vn vl vp vg vv v1 v2) (zGS k.nbs grid (nG (zh k) r.n)):=by
 have hgl:=H.gri.len;have hnl:=H.nlen;refine zE _ (isC 79) fun B w0=>?_;refine go ?_;refine zA (zE2 (k:=k) (grid:=grid) (vh:=vh) (vs:=vs) (vr:=vr) (vc:=vc) (vu:=vu) (gh:=gh) (gc:=gc) (vn:=vn) (vl:=vl) (vp:=vp) (vg:=vg) (vv:=vv) (fn:=.func 80) (first:=[]) (cap:=[ptr' bv,ptr' br]) (F1:=[fRaw bv 0 (vwL k vh vs vr vc vu gh gc vn vl vp vg vv),fRaw br 0 (zCG r v1 v2),fSl intE vv (zh k)]) (c:=nG (zh k) r.n) (by omega) hgl (fun l hl=>⟨H.s.nbs.2 l hl,fun b hb=>H.nbs l hl b hb⟩) (fun a ha b hb=>zSE H ha hb)) (next:=fun _ _=>?_);refine go ?_;exact q_fin () (hv:=rfl) (hp:=trivial)
theorem zUQ(H:zEL k p grid r set other):FnH Tryz.prog 82 [ptr' bv,ptr' br] (hoF k p grid r bv br vh vs vr vc vu gh gc vn vl vp vg vv v1 v2) (zGS k.nbs grid (nH set other)):=by
 have hgl:=H.gri.len;have hnl:=H.nlen;refine zE _ (isC 82) fun B w0=>?_;refine go ?_;refine zA (zE2 (k:=k) (grid:=grid) (vh:=vh) (vs:=vs) (vr:=vr) (vc:=vc) (vu:=vu) (gh:=gh) (gc:=gc) (vn:=vn) (vl:=vl) (vp:=vp) (vg:=vg) (vv:=vv) (fn:=.func 83) (first:=[]) (cap:=[ptr' br]) (F1:=[fRaw br 0 (zCG r v1 v2)]) (c:=nH set other) (by omega) hgl (fun l hl=>⟨H.s.nbs.2 l hl,fun b hb=>H.nbs l hl b hb⟩) (fun a ha b hb=>zS7 H ha hb)) (next:=fun _ _=>?_);refine go ?_;exact q_fin () (hv:=rfl) (hp:=trivial)
theorem zFS{grid:List Int}(h:grid.length≤1000000):zCA grid (upTo' grid.length):=by
 refine⟨by rw[zAr];exact h,fun c hc=>?_⟩;unfold upTo' at hc;obtain⟨i,hi,rfl⟩:=List.mem_map.1 hc;have:=List.mem_range.1 hi;omega
theorem zT1(H:zEL k p grid r set other):FnH Tryz.prog 85 [ptr' bv,ptr' br] (hoF k p grid r bv br vh vs vr vc vu gh gc vn vl vp vg vv v1 v2) (zD4 k.nbs (mkd grid set (upTo' grid.length)) false):=by
 have hgl:=H.gri.len;have hul:=zAr grid.length;refine zE _ (isC 85) fun B w0=>?_;refine zR (E:=intE) (v:=vg) (xs:=grid) (by simp) fun ag cg eg=>?_;subst eg;refine go ?_;refine zA (zMS (n:=grid.length) hgl) (next:=fun v _=>?_);dsimp only[List.cons_append,List.nil_append];refine go ?_;rw[H.st.1];refine zA (zFY (nbs:=k.nbs) (grid:=grid) (cells:=upTo' grid.length) (set:=set) (loop:=false) H.gok H.s.nbs.2 H.nlen H.gri (zFS hgl) H.st.2) (next:=fun _ _=>?_);refine go ?_;exact q_fin () (hv:=rfl) (hp:=trivial)
theorem zTs(H:zEL k p grid r set other):FnH Tryz.prog 88 [ptr' bv,ptr' br] (hoF k p grid r bv br vh vs vr vc vu gh gc vn vl vp vg vv v1 v2) (zD4 k.nbs (mkd grid set (upTo' grid.length)) true):=by
 have hgl:=H.gri.len;have hul:=zAr grid.length;refine zE _ (isC 88) fun B w0=>?_;refine zR (E:=intE) (v:=vg) (xs:=grid) (by simp) fun ag cg eg=>?_;subst eg;refine go ?_;refine zA (zMS (n:=grid.length) hgl) (next:=fun v _=>?_);dsimp only[List.cons_append,List.nil_append];refine go ?_;rw[H.st.1];refine zA (zFY (nbs:=k.nbs) (grid:=grid) (cells:=upTo' grid.length) (set:=set) (loop:=true) H.gok H.s.nbs.2 H.nlen H.gri (zFS hgl) H.st.2) (next:=fun _ _=>?_);refine go ?_;exact q_fin () (hv:=rfl) (hp:=trivial)
theorem zKH(H:zEL k p grid r set other):FnC Tryz.prog (.func 36) [.agg ⟨vwL k vh vs vr vc vu gh gc vn vl vp vg vv⟩,.agg ⟨zCG r v1 v2⟩] [] [] [fSl (slE (slE intE)) vl k.lists,fSl zAS vc k.decl.clues,fSl gvnE vp p,fSl intE vg grid,fSl intE vv (zh k),fSl (slE intE) vn k.nbs] (fun _:Unit=>.bool (za k p grid r set other)) (fun _=>[]) (fun _=>[]) (fun _=>True):=by
 have hcs:r.kind=1∨r.kind=2∨r.kind=3∨r.kind=4∨r.kind=5∨r.kind=6∨r.kind=7∨r.kind=8∨r.kind=9∨r.kind=10∨r.kind=11:=by have:=H.kind;omega
 refine zE _ (isC 36) fun B w0=>?_;refine go ?_;intro b2 b3 b5;refine zK (zN (b:=b2)) (h:=?_);refine zK (zN (b:=b3)) (h:=?_);refine go ?_;rcases hcs with h|h|h|h|h|h|h|h|h|h|h
 ·have hq:=zUi (bv:=b2) (br:=b3) (vh:=vh) (vs:=vs) (vr:=vr) (vc:=vc) (vu:=vu) (gh:=gh) (gc:=gc) (vn:=vn) (vl:=vl) (vp:=vp) (vg:=vg) (vv:=vv) (v1:=v1) (v2:=v2) H;rw[h];refine go ?_;refine zA hq (next:=fun _ _=>?_);refine go ?_;refine q_fin () (hv:=?_) (hp:=trivial);show Value.bool _=Value.bool _;unfold za;rw[h];rfl
 ·have hq:=zT7 (bv:=b2) (br:=b3) (vh:=vh) (vs:=vs) (vr:=vr) (vc:=vc) (vu:=vu) (gh:=gh) (gc:=gc) (vn:=vn) (vl:=vl) (vp:=vp) (vg:=vg) (vv:=vv) (v1:=v1) (v2:=v2) H (H.giv (.inl h));rw[h];refine go ?_;refine zA hq (next:=fun _ _=>?_);refine go ?_;refine q_fin () (hv:=?_) (hp:=trivial);show Value.bool _=Value.bool _;unfold za;rw[h];rfl
 ·have hq:=zTz (bv:=b2) (br:=b3) (vh:=vh) (vs:=vs) (vr:=vr) (vc:=vc) (vu:=vu) (gh:=gh) (gc:=gc) (vn:=vn) (vl:=vl) (vp:=vp) (vg:=vg) (vv:=vv) (v1:=v1) (v2:=v2) H (H.giv (.inr (.inl h)));rw[h];refine go ?_;refine zA hq (next:=fun _ _=>?_);refine go ?_;refine q_fin () (hv:=?_) (hp:=trivial);show Value.bool _=Value.bool _;unfold za;rw[h];rfl
 ·have hq:=zUR (bv:=b2) (br:=b3) (vh:=vh) (vs:=vs) (vr:=vr) (vc:=vc) (vu:=vu) (gh:=gh) (gc:=gc) (vn:=vn) (vl:=vl) (vp:=vp) (vg:=vg) (vv:=vv) (v1:=v1) (v2:=v2) H;rw[h];refine go ?_;refine zA hq (next:=fun _ _=>?_);refine go ?_;refine q_fin () (hv:=?_) (hp:=trivial);show Value.bool _=Value.bool _;unfold za;rw[h];rfl
 ·have hq:=zT6 (bv:=b2) (br:=b3) (vh:=vh) (vs:=vs) (vr:=vr) (vc:=vc) (vu:=vu) (gh:=gh) (gc:=gc) (vn:=vn) (vl:=vl) (vp:=vp) (vg:=vg) (vv:=vv) (v1:=v1) (v2:=v2) H;rw[h];refine go ?_;refine zA hq (next:=fun _ _=>?_);refine go ?_;refine q_fin () (hv:=?_) (hp:=trivial);show Value.bool _=Value.bool _;unfold za;rw[h];rfl
 ·have hq:=zT2 (bv:=b2) (br:=b3) (vh:=vh) (vs:=vs) (vr:=vr) (vc:=vc) (vu:=vu) (gh:=gh) (gc:=gc) (vn:=vn) (vl:=vl) (vp:=vp) (vg:=vg) (vv:=vv) (v1:=v1) (v2:=v2) H;rw[h];refine go ?_;refine zA hq (next:=fun _ _=>?_);refine go ?_;refine q_fin () (hv:=?_) (hp:=trivial);show Value.bool _=Value.bool _;unfold za;rw[h];rfl
 ·have hq:=zUK (bv:=b2) (br:=b3) (vh:=vh) (vs:=vs) (vr:=vr) (vc:=vc) (vu:=vu) (gh:=gh) (gc:=gc) (vn:=vn) (vl:=vl) (vp:=vp) (vg:=vg) (vv:=vv) (v1:=v1) (v2:=v2) H;rw[h];refine go ?_;refine zA hq (next:=fun _ _=>?_);refine go ?_;refine q_fin () (hv:=?_) (hp:=trivial);show Value.bool _=Value.bool _;unfold za;rw[h];rfl
 ·have hq:=zUQ (bv:=b2) (br:=b3) (vh:=vh) (vs:=vs) (vr:=vr) (vc:=vc) (vu:=vu) (gh:=gh) (gc:=gc) (vn:=vn) (vl:=vl) (vp:=vp) (vg:=vg) (vv:=vv) (v1:=v1) (v2:=v2) H;rw[h];refine go ?_;refine zA hq (next:=fun _ _=>?_);refine go ?_;refine q_fin () (hv:=?_) (hp:=trivial);show Value.bool _=Value.bool _;unfold za;rw[h];rfl
 ·have hq:=zT1 (bv:=b2) (br:=b3) (vh:=vh) (vs:=vs) (vr:=vr) (vc:=vc) (vu:=vu) (gh:=gh) (gc:=gc) (vn:=vn) (vl:=vl) (vp:=vp) (vg:=vg) (vv:=vv) (v1:=v1) (v2:=v2) H;rw[h];refine go ?_;refine zA hq (next:=fun _ _=>?_);refine go ?_;refine q_fin () (hv:=?_) (hp:=trivial);show Value.bool _=Value.bool _;unfold za;rw[h];rfl
 ·have hq:=zTs (bv:=b2) (br:=b3) (vh:=vh) (vs:=vs) (vr:=vr) (vc:=vc) (vu:=vu) (gh:=gh) (gc:=gc) (vn:=vn) (vl:=vl) (vp:=vp) (vg:=vg) (vv:=vv) (v1:=v1) (v2:=v2) H;rw[h];refine go ?_;refine zA hq (next:=fun _ _=>?_);refine go ?_;refine q_fin () (hv:=?_) (hp:=trivial);show Value.bool _=Value.bool _;unfold za;rw[h];rfl
 ·have hq:=zT0 (bv:=b2) (br:=b3) (vh:=vh) (vs:=vs) (vr:=vr) (vc:=vc) (vu:=vu) (gh:=gh) (gc:=gc) (vn:=vn) (vl:=vl) (vp:=vp) (vg:=vg) (vv:=vv) (v1:=v1) (v2:=v2) H (H.giv (.inr (.inr h))) (H.one h);rw[h];refine go ?_;refine zA hq (next:=fun _ _=>?_);refine go ?_;refine q_fin () (hv:=?_) (hp:=trivial);show Value.bool _=Value.bool _;unfold za;rw[h];rfl
end
end Go.Proofs.YtpkieeggilkagaaGreat
namespace Go.Proofs.YtpkieeggilkagaaGreat
open Go.Ideal Kd Canon
noncomputable def holdsR(k:Knd)(p:List zm)(grid:List Int)(r:Rul):Bool:=za k p grid r r.set.toNat r.other.toNat
noncomputable def zAy(k:Knd)(p:List zm)(grid:List Int)(rs:List Rul):List Int:=rs.zipIdx.filterMap fun x=>if holdsR k p grid x.1 then none else some (x.2:Int)
theorem zK4{k:Knd}{p:List zm}{grid:List Int}{rs:List Rul}{j:Nat}{r:Rul}(h:rs[j]? =some r):zAy k p grid (rs.take (j+1))=zAy k p grid (rs.take j)++if holdsR k p grid r then[]else[(j:Int)]:=by
 have hk:=(List.getElem?_eq_some_iff.1 h).1;unfold zAy;rw[zP h,List.zipIdx_append,List.filterMap_append,List.length_take,Nat.min_eq_left (by omega)];congr 1;rw[List.zipIdx_cons,List.zipIdx_nil,Nat.zero_add];cases h2:holdsR k p grid r<;>simp[h2]
theorem zNK(k:Knd)(p:List zm)(grid:List Int)(rs:List Rul):(zAy k p grid rs).length≤rs.length:=by
 unfold zAy;refine Nat.le_trans (List.length_filterMap_le _ _) ?_;simp
theorem zIM{k:Knd}{p:List zm}{grid:List Int}{rs:List Rul}{x:Int}:x∈zAy k p grid rs↔∃(j:Nat) (r:Rul),rs[j]? =some r∧x=(j:Int)∧holdsR k p grid r=false:=by
 unfold zAy;rw[List.mem_filterMap];constructor
 ·rintro⟨⟨r,j⟩,h1,h2⟩;have h1:=List.mk_mem_zipIdx_iff_getElem?.1 h1;cases h3:holdsR k p grid r with
  |true=>simp[h3]at h2
  |false=>simp[h3]at h2;exact⟨j,r,h1,h2.symm,h3⟩
 ·rintro⟨j,r,h1,rfl,h2⟩;exact⟨(r,j),List.mk_mem_zipIdx_iff_getElem?.2 h1,by simp[h2]⟩
def zQy(k:Knd)(p:List zm)(grid:List Int):Prop:=zO k→zG5 k grid→zAM k p→∀r∈k.decl.rules,zEL k p grid r r.set.toNat r.other.toNat
theorem zMv{k:Knd}{p:List zm}{grid:List Int}{vh vs vr vc vu gh gc vn vl vp vg:Value}(hS:zHH k)(hP:zLH p)(hl:grid.length<9223372036854775808)(hA:zQy k p grid):
 FnC Tryz.prog (.func 15) [.agg ⟨zFl k vh vs vr vc vu gh gc vn vl⟩,.agg ⟨[vp]⟩,vg] [] [] (fSl gvnE vp p::fSl intE vg grid::zEs k vh vs vr vc vu gh gc vn vl []) lsV (fun _=>[])
  (fun y=>[fIf (y.e=0) (fSl intE y.v (zAy k p grid k.decl.rules))]) (fun y=>zUu k p grid y.e∧(y.e≠0→y.v=.slice none 0 0)):=by
 have hul:=hS.d.s.ruls;refine zE _ (isC 15) fun B w0=>?_;dsimp only[zEs];refine go ?_;intro b3 b4;refine go ?_;refine zA (zMp (k:=k) (p:=p) (grid:=grid) (vh:=vh) (vs:=vs) (vr:=vr) (vc:=vc) (vu:=vu) (gh:=gh) (gc:=gc) (vn:=vn) (vl:=vl) hS hP hl) (next:=fun e he=>?_);refine go ?_;refine if_d rfl (fun hne=>?_) (fun hz=>?_)
 ·refine go ?_;refine zGi (c:=e=0) (f:=fSl intE (.slice none 0 0) (zAy k p grid k.decl.rules)) hne ?_;exact q_fin ⟨.slice none 0 0,e⟩ (hv:=rfl) (hp:=⟨he,fun _=>rfl⟩)
 have hz:e=0:=Decidable.not_not.1 hz;subst hz;have hK:zO k:=Classical.byContradiction fun h=>by have:=he.nk h;omega
 have hF:zG5 k grid:=Classical.byContradiction fun h=>by have:=he.nf hK h;omega
 have hQ:zAM k p:=Classical.byContradiction fun h=>by have:=he.np hK hF h;omega
 have hask:=hA hK hF hQ;refine go ?_;refine zA (look_ok (p:=p) (k:=k) (grid:=grid) (vh:=vh) (vs:=vs) (vr:=vr) (vc:=vc) (vu:=vu) (gh:=gh) (gc:=gc) (vn:=vn) (vl:=vl) (vp:=vp) hS.d.s.syms) (next:=fun vv _=>?_);refine go ?_;intro b8;refine go ?_;refine zAd intE ?_;refine zH (fun y:Nat×Value=>k.decl.rules.length - y.1) (fun y=>[(26,.int .i64 (y.1:Int)),(6,y.2)]) (fun y=>[ap intE y.2 (zAy k p grid (k.decl.rules.take y.1))]) (fun _=>[]) (fun y=>y.1≤k.decl.rules.length) (0,.slice none 0 0) (Nat.zero_le _) (hk:=by repeat (first|exact SelL.nil|(apply SelL.cons;(focus (repeat (first|exact Sel.here|apply Sel.there)))))) (body:=?_);rintro⟨j,v6⟩ hj;dsimp only at hj⊢;have hbl:=zNK k p grid (k.decl.rules.take j);rw[List.length_take]at hbl;refine go ?_;refine if_d rfl (fun h1=>?_) (fun h1=>?_)
 ·refine go ?_;refine zV zn (xs:=k.decl.rules) (next:=fun _ _ r (w:Value×Value) hr=>?_);have hrH:=hask r (List.mem_of_getElem? hr);have hsu:=zK4 (k:=k) (p:=p) (grid:=grid) hr;refine go ?_;intro b10;refine go ?_;refine zA (zKH (k:=k) (p:=p) (grid:=grid) (r:=r) (vh:=vh) (vs:=vs) (vr:=vr) (vc:=vc) (vu:=vu) (gh:=gh) (gc:=gc) (vn:=vn) (vl:=vl) (vp:=vp) (vg:=vg) (vv:=vv) (v1:=w.1) (v2:=w.2) hrH) (next:=fun _ _=>?_);rw[show za k p grid r r.set.toNat r.other.toNat=holdsR k p grid r from rfl];generalize holdsR k p grid r=hr2 at hsu⊢;cases hr2 with
  |true=>
   have hu2:zAy k p grid (k.decl.rules.take (j+1))=zAy k p grid (k.decl.rules.take j):=by rw[hsu];simp
   rw[← hu2];refine go ?_;exact zB (j+1,v6) (by show k.decl.rules.length - (j+1)<k.decl.rules.length - j;omega) (by show j+1≤_;omega)
  |false=>
   have hu2:zAy k p grid (k.decl.rules.take (j+1))=zAy k p grid (k.decl.rules.take j)++[(j:Int)]:=by rw[hsu];simp
   refine go ?_;intro b37;refine go ?_;refine zAv (xs:=zAy k p grid (k.decl.rules.take j)) intE (j:Int) () (by omega) (next:=fun ad=>?_);rw[← hu2];refine go ?_;exact zB (j+1,.slice ad ((zAy k p grid (k.decl.rules.take j)).length+1) ((zAy k p grid (k.decl.rules.take j)).length+1)) (by show k.decl.rules.length - (j+1)<k.decl.rules.length - j;omega) (by show j+1≤_;omega)
 have hje:j=k.decl.rules.length:=by omega
 subst hje;rw[List.take_length];refine zK (z5 (E:=intE) (v:=v6) (xs:=zAy k p grid k.decl.rules)) (h:=?_);refine go ?_;refine zFd (c:=(0:Int)=0) (f:=fSl intE v6 (zAy k p grid k.decl.rules)) (by simp) ?_;exact q_fin ⟨v6,0⟩ (hv:=rfl) (hp:=⟨he,fun h=>absurd rfl h⟩)
end Go.Proofs.YtpkieeggilkagaaGreat
