/-
  The law MeaningConstraints on the ideal machine.
-/
import Derived.Test.YtpkieeggilkagaaGreatLawS
set_option linter.unusedSimpArgs false
set_option linter.unusedVariables false
set_option maxRecDepth 10000
set_option maxHeartbeats 4000000
namespace Go.Proofs.YtpkieeggilkagaaGreat
open Go.Ideal Kd Canon Gph
theorem zLB{k:Knd}{p:List zm}{grid:List Int}{rl:Int}{vh vs vr vc vu gh gc vn vl vp vg:Value}(hB:zR8 k)(hP:zLH p)(hl:grid.length<9223372036854775808):
 FnP Tryz.prog 10 [.agg ⟨zFl k vh vs vr vc vu gh gc vn vl⟩,.agg ⟨[vp]⟩,vg,.int .i64 rl] (fSl gvnE vp p::fSl intE vg grid::zEs k vh vs vr vc vu gh gc vn vl []) (.bool true):=by
 refine zE _ (isC 10) fun B w0=>?_;dsimp only[zEs];refine go ?_;intro b4 b5;refine go ?_;refine zA zNN (next:=fun _ _=>?_);refine go ?_;refine zA (zJl (k:=k) (p:=p) (grid:=grid) (vh:=vh) (vs:=vs) (vr:=vr) (vc:=vc) (vu:=vu) (gh:=gh) (gc:=gc) (vn:=vn) (vl:=vl) hB) (next:=fun b hb=>?_);cases b with
 |false=>
  refine go ?_;exact q_fin () (hv:=rfl) (hp:=trivial)
 |true=>
 obtain⟨hfk,hpl,hgl⟩:=hb rfl;clear hb;have hS:=zHH.of hB hfk;have hA:=zTD (grid:=grid) hS hP (by omega);refine go ?_;refine zA (zPt (k:=k) (p:=p) (grid:=grid) (i:=rl) (vh:=vh) (vs:=vs) (vr:=vr) (vc:=vc) (vu:=vu) (gh:=gh) (gc:=gc) (vn:=vn) (vl:=vl) hS hP hl hA) (next:=fun y1 hy1=>?_);obtain⟨hd,e1⟩:=y1;refine go ?_;refine zA (zFz (k:=k) (p:=p) (vh:=vh) (vs:=vs) (vr:=vr) (vc:=vc) (vu:=vu) (gh:=gh) (gc:=gc) (vn:=vn) (vl:=vl) (vp:=vp) hS hP) (next:=fun y2 hy2=>?_);obtain⟨ok2,e2,vv2,vc2⟩:=y2;have hdf:e1≠0→hd=false:=fun hz=>by
  by_cases hK:zO k
  ·by_cases hF:zG5 k grid
   ·by_cases hQ:zAM k p
    ·by_cases hr:rl<0∨(k.decl.rules.length:Int)≤rl
     ·exact congrArg Prod.fst (hy1.na hK hF hQ hr)
     ·obtain⟨n,rfl⟩:=Int.eq_ofNat_of_zero_le (show 0≤rl by omega);have:=hy1.ok hK hF hQ n _ rfl (List.getElem?_eq_getElem (show n<k.decl.rules.length by omega));exact absurd (congrArg Prod.snd this) hz
    ·exact congrArg Prod.fst (hy1.np hK hF hQ)
   ·exact congrArg Prod.fst (hy1.nf hK hF)
  ·exact congrArg Prod.fst (hy1.nk hK)
 by_cases hz:e1=0
 rotate_left
 ·have hv:=hdf hz;subst hv;cases ok2<;>(dsimp only[cond];refine go ?_;intro b11;refine go ?_;refine if_d rfl (fun h2=>?_) (fun h2=>?_);refine go ?_;exact q_fin () (hv:=rfl) (hp:=trivial);exact absurd hz h2)
 subst hz;have hsn:∀{b:Bool} {n:Int},(hd,(0:Int))=(b,n)→n=0:=fun h=>(congrArg Prod.snd h).symm;have hK:zO k:=Classical.byContradiction fun h=>by have:=hsn (hy1.nk h);omega
 have hF:zG5 k grid:=Classical.byContradiction fun h=>by have:=hsn (hy1.nf hK h);omega
 have hQ:zAM k p:=Classical.byContradiction fun h=>by have:=hsn (hy1.np hK hF h);omega
 have hra:¬(rl<0∨(k.decl.rules.length:Int)≤rl):=fun h=>by have:=hsn (hy1.na hK hF hQ h);omega
 obtain⟨n,rfl⟩:=Int.eq_ofNat_of_zero_le (show 0≤rl by omega);have hr:k.decl.rules[n]? =some (k.decl.rules[n]'(by omega)):=List.getElem?_eq_getElem _;generalize k.decl.rules[n]'(by omega)=r at hr;have hdv:hd=holdsR k p grid r:=congrArg Prod.fst (hy1.ok hK hF hQ n r rfl hr);have hask:=hA hK hF hQ;have hmet:=zHM hK hQ hF hask hr;rw[← hdv]at hmet;cases ok2 with
 |false=>
  have he2:e2=2:=by
   by_cases hm:(consOf k p).length≤4096
   ·have h1:e2=0:=hy2.ok hK hQ hm;have:=hy2.eq.2 h1;cases this
   ·exact hy2.nl hK hQ (by omega)
  subst he2;dsimp only[cond];refine go ?_;intro b11;refine go ?_;exact q_fin () (hv:=rfl) (hp:=trivial)
 |true=>
  have he2:e2=0:=hy2.eq.1 rfl;subst he2;have hm:(consOf k p).length≤4096:=Classical.byContradiction fun h=>by
   have:(0:Int)=2:=hy2.nl hK hQ (by omega);omega
  have hok:=zLp hK hQ hm;have hps:=zL6 hS hm hok;dsimp only[cond,zUj,zUZ,List.cons_append,List.nil_append];refine zX (fSl intE vv2 (probOf k p).values) (fun w hw=>hw (fSl intE vv2 (zh k)) (by simp)) ?_;refine zX (fSl consE vc2 (probOf k p).cons) (fun w hw=>hw (fSl consE vc2 (consOf k p)) (by simp)) ?_;refine zX (fSl (slE intE) vn (probOf k p).nbs) (fun w hw=>hw (fSl (slE intE) vn k.nbs) (by simp)) ?_;refine go ?_;intro b11;refine go ?_;refine zH (fun y:Nat×Bool=>(consOf k p).length - y.1) (fun y=>[(14,.int .i64 (y.1:Int)),(13,.bool y.2)]) (fun _=>[pt b11 (.cells (zBW (probOf k p) vv2 vn vc2))]) (fun _=>[]) (fun y=>y.1≤(consOf k p).length∧(y.2=true↔∀c∈(consOf k p).take y.1,c.rule=(n:Int)→metB (probOf k p) c grid=true)) (0,true) ⟨Nat.zero_le _,by simp⟩ (hk:=by repeat (first|exact SelL.nil|(apply SelL.cons;(focus (repeat (first|exact Sel.here|apply Sel.there)))))) (body:=?_);rintro⟨j,mt⟩ ⟨hj,hmt⟩;dsimp only at hj hmt⊢;refine go ?_;refine if_d rfl (fun a1=>?_) (fun a1=>?_)
  ·have a1:(j:Int)<((consOf k p).length:Int):=a1;have hc:(consOf k p)[j]? =some ((consOf k p)[j]'(by omega)):=List.getElem?_eq_getElem _;generalize(consOf k p)[j]'(by omega)=c at hc;refine go ?_;refine zA (zMQ (q:=probOf k p) (grid:=grid) (i:=(j:Int)) hps hl) (next:=fun y3 hy3=>?_);obtain⟨ok3,e3⟩:=y3;have h3:=(hy3.2.2 hok hF).2 j c rfl hc;cases h3;have htk:∀b:Bool,(b=true↔((mt=true)∧(c.rule=(n:Int)→metB (probOf k p) c grid=true)))→(b=true↔∀x∈(consOf k p).take (j+1),x.rule=(n:Int)→metB (probOf k p) x grid=true):=fun b hb=>by
    rw[hb,hmt,zr hc];constructor
    ·rintro⟨h1,h2⟩ x hx;rcases List.mem_append.1 hx with hx|hx
     ·exact h1 x hx
     ·rw[List.mem_singleton.1 hx];exact h2
    ·intro h;exact⟨fun x hx=>h x (List.mem_append_left _ hx),h c (by simp)⟩
   have hmj:(consOf k p).length - (j+1)<(consOf k p).length - j:=by omega
   clear hy3;generalize metB (probOf k p) c grid=mb at htk⊢;cases mt with
   |false=>
    refine go ?_;exact zB (j+1,false) hmj ⟨by show j+1≤_;omega,htk false (by simp)⟩
   |true=>
    cases mb with
    |true=>
     refine go ?_;exact zB (j+1,true) hmj ⟨by show j+1≤_;omega,htk true (by simp)⟩
    |false=>
     refine go ?_;refine zV consE (xs:=(probOf k p).cons) (next:=fun _ _ c2 (w:Value×Value) hc2=>?_);have hc2:(consOf k p)[j]? =some c2:=hc2;rw[hc]at hc2;obtain rfl:c=c2:=Option.some.inj hc2;refine go ?_;exact zB (j+1,decide (c.rule≠(n:Int))) hmj ⟨by show j+1≤_;omega,htk _ (by rw[decide_eq_true_iff];simp)⟩
  have hje:j=(consOf k p).length:=by
   have a1:¬(j:Int)<((consOf k p).length:Int):=a1;omega
  subst hje;rw[List.take_length]at hmt;have heq:mt=hd:=by
   cases mt with
   |true=>exact(hmet.2 (hmt.1 rfl)).symm
   |false=>
    cases hh:hd with
    |false=>rfl
    |true=>
     have:=hmt.2 (hmet.1 hh);cases this
  refine go ?_;refine q_fin () (hv:=?_) (hp:=trivial);show Value.bool (mt==hd)=Value.bool true;rw[heq,beq_self_eq_true]
end Go.Proofs.YtpkieeggilkagaaGreat
