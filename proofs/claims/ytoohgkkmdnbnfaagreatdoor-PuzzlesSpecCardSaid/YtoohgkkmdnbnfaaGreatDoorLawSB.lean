/-
  The law PuzzlesSpec on the ideal machine.
-/
import Derived.Test.YtoohgkkmdnbnfaaGreatDoorLibVB
import Derived.Test.YtoohgkkmdnbnfaaGreatDoorSaneEB
set_option linter.all false
set_option maxRecDepth 10000
set_option maxHeartbeats 4000000
namespace Go.Proofs.YtoohgkkmdnbnfaaGreatDoor
open Go.Ideal Kd Canon
theorem afO{p:List Clue}{n e:Int}(h:short p):short (ol p n e):=by
 intro g hg;unfold ol LU at hg;split at hg
 ·rcases dZ.1 hg with hg|hg
  ·exact h g (G9 hg)
  ·exact h g (List.mem_of_mem_drop hg)
 ·cases hg
theorem afP{p:List Clue}{n e:Int}:(ol p n e).length<=p.length+p.length:=by
 unfold ol LU;split
 ·rw[gB,gM,lX];omega
 ·exact bX _
theorem afQ{k:eT}{p q:List Clue}{at_:Int}{vh vs vr vc vu gh gc vn vl vp vq:Value}(hB:Bb k)(hP:zl p)(hQ:zl q):
 bY Tryz.prog 3 [.agg ⟨mD k vh vs vr vc vu gh gc vn vl⟩,.agg ⟨[vp]⟩,.agg ⟨[vq]⟩,.int .i64 at_] (F9 6::ah bU vp p::ah bU vq q::lH k vh vs vr vc vu gh gc vn vl []) (.bool true):=by
 refine aG _ (aM 3) λB w0=>?_;dsimp only[lH];refine go ?_;intro b4 b5 b6;refine go ?_;refine ak acy (next:=λ_ _=>?_);refine go ?_;refine ak (adX (k:=k) (p:=p) (vh:=vh) (vs:=vs) (vr:=vr) (vc:=vc) (vu:=vu) (gh:=gh) (gc:=gc) (vn:=vn) (vl:=vl) (vp:=vp) hB hP.len) (next:=λb hb=>?_);cases b with
 |false=>
  refine go ?_;exact aa () (hv:=rfl) (hp:=trivial)
 |true=>
 obtain⟨hfk,_,hpl,hpv⟩:=hb rfl;clear hb;have hS:=nZ.ofE hB hfk;have hsp:short p:=λg hg=>by have:=hpv g hg;omega
 refine go ?_;refine ak (SE (xs:=q) (va:=vq) hQ.len) (next:=λb hb=>?_);cases b with
 |false=>
  refine go ?_;exact aa () (hv:=rfl) (hp:=trivial)
 |true=>
 obtain⟨hql,hqv⟩:=hb rfl;clear hb;have rE:short q:=λg hg=>by have:=hqv g hg;omega
 refine go ?_;refine ak (afo (p:=p) (at_:=at_) (vp:=vp) (by omega)) (next:=λy1 hy1=>?_);obtain⟨v1,e1⟩:=y1;have hy1:=hy1.eq;dsimp only at hy1⊢;refine go ?_;intro b7;refine go ?_;refine ak (afp (p:=p) (at_:=at_) (vp:=vp) (by omega)) (next:=λy2 hy2=>?_);obtain⟨v2,e2⟩:=y2;have hy2:=hy2.eq;dsimp only at hy2⊢;have he:e1=e2:=hy1.trans hy2.symm;clear hy1 hy2;subst he;have hwl:=afP (p:=p) (n:=at_) (e:=e1);have hws:=afO (n:=at_) (e:=e1) hsp;refine go ?_;intro b8;refine go ?_;refine ak (adN (k:=k) (p:=p) (vh:=vh) (vs:=vs) (vr:=vr) (vc:=vc) (vu:=vu) (gh:=gh) (gc:=gc) (vn:=vn) (vl:=vl) (vp:=vp) hS hP) (next:=λc1 hc1=>?_);refine go ?_;refine ak (afn (k:=k) (p:=p) (vh:=vh) (vs:=vs) (vr:=vr) (vc:=vc) (vu:=vu) (gh:=gh) (gc:=gc) (vn:=vn) (vl:=vl) (vp:=vp) hS hP) (next:=λc2 hc2=>?_);have hce:c1=c2:=by
  by_cases h1:gP k
  ·by_cases h2:sI k p
   ·rw[hc1.2.2 h1 h2,hc2.2.2 h1 h2]
   ·rw[hc1.2.1 h1 h2,hc2.2.1 h1 h2]
  ·rw[hc1.1 h1,hc2.1 h1]
 clear hc1 hc2;subst hce;refine go ?_;first|with_reducible refine aL (λg1=>?_) (λg1=>?_)|with_reducible refine aK (λg1=>?_) (λg1=>?_)|with_reducible refine aI (λg1=>?_) (λg1=>?_)
 ·exact absurd rfl g1
 refine go ?_;refine ak (SC (xs:=ol p at_ e1) (ys:=ol p at_ e1) (by omega) hws hws) (next:=λ_ _=>?_);rw[eB rfl];refine go ?_;first|with_reducible refine aL (λg2=>?_) (λg2=>?_)|with_reducible refine aK (λg2=>?_) (λg2=>?_)|with_reducible refine aI (λg2=>?_) (λg2=>?_)
 ·exact absurd rfl g2
 refine go ?_;refine ak (Ty (xs:=p) (ys:=q) (by omega) hsp rE) (next:=λ_ _=>?_);refine go ?_;refine ak (SC (xs:=p) (ys:=q) (by omega) hsp rE) (next:=λ_ _=>?_);generalize decide (p=q)=bb;refine go ?_;cases bb<;>
 ·refine go ?_;refine ak (Ty (xs:=p) (ys:=p) (by omega) hsp hsp) (next:=λ_ _=>?_);rw[eB rfl];refine go ?_;exact aa () (hv:=rfl) (hp:=trivial)
