/-
  The law MeaningSolves on the ideal machine.
-/
import Derived.Test.YtpkieeggilkagaaGreatLibP
import Derived.Test.YtpkieeggilkagaaGreatLibR
import Derived.Test.YtpkieeggilkagaaGreatSaneC
set_option linter.unusedSimpArgs false
set_option linter.unusedVariables false
set_option maxRecDepth 10000
set_option maxHeartbeats 4000000
namespace Go.Proofs.YtpkieeggilkagaaGreat
open Go.Ideal Kd Canon Gph
theorem zL6{k:Knd}{p:List zm}(hS:zHH k)(hm:(consOf k p).length≤4096)(hok:zAK (probOf k p)):zJG (probOf k p):=by
 have h1:=hok.vlen;have h2:=hok.symbols;refine⟨by omega,hS.nbs.2,by show(consOf k p).length<_;omega,fun c hc=>?_⟩;have h:=hok.fine c hc;have h3:=h.len;have h4:=hok.cells;have h5:=h.rlen;exact⟨by rcases h3 with h|h;omega;rw[h];simp,by omega⟩
theorem zHM{k:Knd}{p:List zm}{grid:List Int}(hK:zO k)(hQ:zAM k p)(hF:zG5 k grid)(hask:∀r∈k.decl.rules,zEL k p grid r r.set.toNat r.other.toNat){i:Nat}{r:Rul}(hr:k.decl.rules[i]? =some r):
 holdsR k p grid r=true↔∀c∈consOf k p,c.rule=(i:Int)→metB (probOf k p) c grid=true:=by
 have hrm:=List.mem_of_getElem? hr;have:=zMn (i:=i) (q:=probOf k p) hK hQ hrm (hask r hrm) (by have:=hF.1;omega) rfl rfl;refine Iff.trans this ?_;constructor
 ·intro h c hc e;obtain⟨j,r',h1,h2⟩:=zCc.1 hc;have:=zDm h2;have hj:j=i:=by omega
  subst hj;rw[hr]at h1;cases h1;exact h c h2
 ·intro h c hc;exact h c (zCc.2 ⟨i,r,hr,hc⟩) (zDm hc)
theorem zRQ{k:Knd}{p:List zm}{grid:List Int}(hK:zO k)(hQ:zAM k p)(hF:zG5 k grid)(hask:∀r∈k.decl.rules,zEL k p grid r r.set.toNat r.other.toNat):
 zAy k p grid k.decl.rules=[]↔∀c∈consOf k p,metB (probOf k p) c grid=true:=by
 constructor
 ·intro h c hc;obtain⟨j,r,h1,h2⟩:=zCc.1 hc;cases hh:holdsR k p grid r with
  |true=>exact(zHM hK hQ hF hask h1).1 hh c hc (zDm h2)
  |false=>
   have:((j:Nat):Int)∈zAy k p grid k.decl.rules:=zIM.2 ⟨j,r,h1,rfl,hh⟩;rw[h]at this;cases this
 ·intro h;rw[List.eq_nil_iff_forall_not_mem];intro x hx;obtain⟨j,r,h2,h1,h3⟩:=zIM.1 hx;have:=(zHM hK hQ hF hask h2).2 (fun c hc _=>h c hc);rw[this]at h3;cases h3
theorem zH6{k:Knd}{p:List zm}{grid:List Int}{vh vs vr vc vu gh gc vn vl vp vg:Value}(hB:zR8 k)(hP:zLH p)(hl:grid.length<9223372036854775808):
 FnP Tryz.prog 9 [.agg ⟨zFl k vh vs vr vc vu gh gc vn vl⟩,.agg ⟨[vp]⟩,vg] (fSl gvnE vp p::fSl intE vg grid::zEs k vh vs vr vc vu gh gc vn vl []) (.bool true):=by
 refine zE _ (isC 9) fun B w0=>?_;dsimp only[zEs];refine go ?_;intro b4 b5;refine go ?_;refine zA zNN (next:=fun _ _=>?_);refine go ?_;refine zA (zJl (k:=k) (p:=p) (grid:=grid) (vh:=vh) (vs:=vs) (vr:=vr) (vc:=vc) (vu:=vu) (gh:=gh) (gc:=gc) (vn:=vn) (vl:=vl) hB) (next:=fun b hb=>?_);cases b with
 |false=>
  refine go ?_;exact q_fin () (hv:=rfl) (hp:=trivial)
 |true=>
 obtain⟨hfk,hpl,hgl⟩:=hb rfl;clear hb;have hS:=zHH.of hB hfk;have hA:=zTD (grid:=grid) hS hP (by omega);refine go ?_;refine zA (zMv (k:=k) (p:=p) (grid:=grid) (vh:=vh) (vs:=vs) (vr:=vr) (vc:=vc) (vu:=vu) (gh:=gh) (gc:=gc) (vn:=vn) (vl:=vl) hS hP hl hA) (next:=fun y1 hy1=>?_);obtain⟨v9,e1⟩:=y1;obtain⟨hy1,hy1v⟩:=hy1;dsimp only at hy1 hy1v⊢;refine go ?_;refine zA (zFz (k:=k) (p:=p) (vh:=vh) (vs:=vs) (vr:=vr) (vc:=vc) (vu:=vu) (gh:=gh) (gc:=gc) (vn:=vn) (vl:=vl) (vp:=vp) hS hP) (next:=fun y2 hy2=>?_);obtain⟨ok2,e2,vv2,vc2⟩:=y2;by_cases hz:e1=0
 rotate_left
 ·have hv:=hy1v hz;subst hv;cases ok2<;>(dsimp only[cond];refine go ?_;intro b11;refine go ?_;refine if_d rfl (fun h2=>?_) (fun h2=>?_);refine go ?_;exact q_fin () (hv:=rfl) (hp:=trivial);exact absurd hz h2)
 subst hz;have hK:zO k:=Classical.byContradiction fun h=>by have:=hy1.nk h;omega
 have hF:zG5 k grid:=Classical.byContradiction fun h=>by have:=hy1.nf hK h;omega
 have hQ:zAM k p:=Classical.byContradiction fun h=>by have:=hy1.np hK hF h;omega
 have hask:=hA hK hF hQ;cases ok2 with
 |false=>
  have he2:e2=2:=by
   by_cases hm:(consOf k p).length≤4096
   ·have h1:e2=0:=hy2.ok hK hQ hm;have:=hy2.eq.2 h1;cases this
   ·exact hy2.nl hK hQ (by omega)
  subst he2;dsimp only[cond];refine go ?_;intro b11;refine go ?_;exact q_fin () (hv:=rfl) (hp:=trivial)
 |true=>
  have he2:e2=0:=hy2.eq.1 rfl;subst he2;have hm:(consOf k p).length≤4096:=Classical.byContradiction fun h=>by
   have:(0:Int)=2:=hy2.nl hK hQ (by omega);omega
  have hok:=zLp hK hQ hm;have hbn:=zRQ hK hQ hF hask;dsimp only[cond,zUj,zUZ,List.cons_append,List.nil_append];refine zX (fSl intE vv2 (probOf k p).values) (fun w hw=>hw (fSl intE vv2 (zh k)) (by simp)) ?_;refine zX (fSl consE vc2 (probOf k p).cons) (fun w hw=>hw (fSl consE vc2 (consOf k p)) (by simp)) ?_;refine zX (fSl (slE intE) vn (probOf k p).nbs) (fun w hw=>hw (fSl (slE intE) vn k.nbs) (by simp)) ?_;refine zX (fSl intE v9 (zAy k p grid k.decl.rules)) (fun w hw=>hw (fIf ((0:Int)=0) (fSl intE v9 (zAy k p grid k.decl.rules))) (by simp) rfl) ?_;refine go ?_;intro b11;refine go ?_;refine zA (zKT (q:=probOf k p) (grid:=grid) (zL6 hS hm hok) hl) (next:=fun y3 hy3=>?_);obtain⟨ok3,e3⟩:=y3;obtain⟨h3,h4⟩:=hy3.2.2 hok hF;dsimp only at h3 h4;subst h3;generalize hls:zAy k p grid k.decl.rules=l1 at hbn⊢;refine go ?_;refine q_fin () (hv:=?_) (hp:=trivial);have hlen:(l1.length=0)↔ok3=true:=by
   rw[h4,List.length_eq_zero_iff,hbn];exact Iff.rfl
  have hd:decide ((l1.length:Int)=0)=ok3:=by
   cases ok3 with
   |true=>exact decide_eq_true (by have:=hlen.2 rfl;omega)
   |false=>exact decide_eq_false (fun h=>by have:=hlen.1 (by omega);cases this)
  show Value.bool (ok3==decide ((l1.length:Int)=0))=Value.bool true;rw[hd,beq_self_eq_true]
end Go.Proofs.YtpkieeggilkagaaGreat
