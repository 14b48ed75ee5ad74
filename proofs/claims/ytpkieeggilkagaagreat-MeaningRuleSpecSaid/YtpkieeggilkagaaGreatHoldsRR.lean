/-
  Part HoldsRR.
-/
import Derived.Test.YtpkieeggilkagaaGreatRows
import Derived.Test.YtpkieeggilkagaaGreatLawRR
import Derived.Test.YtpkieeggilkagaaGreatRepR
set_option linter.all false
set_option maxHeartbeats 1000000
namespace Go.Proofs.YtpkieeggilkagaaGreat
open Go.Ideal Go.ChangeShapes Go.WideShapes Go.ChangeAt Go.RowKit Kd Canon
set_option maxRecDepth 100000 in
theorem ajw(os:Os)(started:os.Started)(H:Type)(enc:TypeId×Value->H):
 ReturnsInHanded {} Tryz.checked os 3 .any (Rows.meaningRuleSpecSpec.pre6 enc Tryz.prog Tryz.f3 Rows.meaningRuleSpecRow.domain false) (Rows.meaningRuleSpecSpec.post enc Tryz.prog Tryz.f3 false true false false):=by
 refine returnsInHanded_of_change (C:=Tryz.checked) ai5 started (by kernel_rfl) Tryz.func3
  (ChangeSpec.witness6 (enc:=enc) (C:=Tryz.checked) false ⟨#[], #[.agg #[.string ⟨#[]⟩,.int .i64 0,.int .i64 0,.int .i64 0,.int .i64 0,.slice none 0 0,.slice none 0 0,.slice none 0 0,.slice none 0 0,.slice none 0 0,.int .i64 0,.int .i64 0,.int .i64 0,.slice none 0 0,.slice none 0 0,.slice none 0 0,.slice none 0 0],.agg #[.slice none 0 0],.slice none 0 0,.int .i64 0],[]⟩ 3 (by kernel_rfl) (by kernel_rfl) (by kernel_rfl) (by kernel_rfl)) ?_
 intro W base args ds gs before hval0 hW _ _;have hval:∀(j:Nat) t v,Tryz.f3.params[j]? =some t->args[j]? =some v->Value.okWide Tryz.prog W .any base t v:=hval0;have hW':=hW;obtain⟨p,q,LM,hV,rfl,hfz,_⟩:=hW;have hA:DataW.TrodAll enc Tryz.prog W 0 (λ_=>true) true Tryz.f3.params.toList args.toList ds p:=LM;have hAk:=hA;rw[Tryz.params3]at hA hval;obtain⟨rfl,rfl⟩:=trodVars_none hV;obtain⟨la,ld⟩:=Sc hA;obtain⟨d0,d1,d2,d3,rfl⟩:=Sd ld;have hc:Calls Tryz.prog 3 args W (λe w'=>e=.returned (.bool true)/\Below W.heap.size W w'):=by
  refine abW follows globals Tryz.f3 Tryz.func3 (by kernel_rfl) (by kernel_rfl) (K:=(·∈Bt)) ai8 (ts:=[34,37,22,3]) (ds:=[d0,d1,d2,d3]) (by simp[Bt]) (λj t v hj hv=>?_) hA ?_
  ·exact hval j t v (by rw[<- hj];simp) (by rw[<- hv];simp)
  ·intro w vs hz hlen Ka;obtain⟨v0,v1,v2,v3,rfl⟩:=Sd (hlen.trans la);obtain⟨a0,y0,rfl,f0,g0⟩:=(Ka 0 34 v0 d0 rfl rfl rfl).Sl hz aja ajs;obtain⟨a1,y1,rfl,f1,g1⟩:=(Ka 1 37 v1 d1 rfl rfl rfl).Sl hz ajb ajv;obtain⟨a2,y2,e2,f2,g2⟩:=(Ka 2 22 v2 d2 rfl rfl rfl).oneG hz ajc Dv;obtain rfl:y2=v2:=by injection e2
   obtain⟨a3,y3,e3,f3,g3⟩:=(Ka 3 3 v3 d3 rfl rfl rfl).oneG hz ajd lM;obtain rfl:Value.int .i64 a3=v3:=by injection e3
   refine⟨_,?_,ai3 (k:=a0) (p:=a1) (grid:=a2) (rl:=a3) g0 g1 g2.1⟩;intro f hf;rcases dG.1 hf with rfl|hf
   ·exact f1 _ (bM.2 rfl)
   rcases dG.1 hf with rfl|hf
   ·exact f2 _ (bM.2 rfl)
   ·exact f0 f hf
 refine hc.mono λe W' ⟨he,hb⟩=>?_;subst he;exact⟨_,rfl,aaL (pv:=[]) hW' (λ_ _ _=>trodAll_mk1 (shut_bool Tryz.underlying4 _))
  (λsp hsp=>RG ai6 (λ{t e}=>ai7 t e) hb (by rw[Tryz.params3];intro t ht;exact ai9 t ((by decide:∀t∈([34,37,22,3]:List TypeId),t∈Bt) t ht)) hAk (λp hp=>hsp p (by simpa using hp)))
  (λ_ _=>rfl) (by simp) hb (ok_one (by kernel_rfl) rfl (okWide_bool_mk Tryz.underlying4 _))⟩
theorem ajx:Tryz.pinned.checked.prog.funcNamed Rows.meaningRuleSpecRow.func=some 3:=by kernel_rfl
theorem ajy:(Rows.meaningRuleSpecRow.inPlace==Tryz.pinned.checked.prog.inPlace 3)=true:=by kernel_rfl
theorem ajz:(Rows.meaningRuleSpecRow.unfollowed==Tryz.pinned.checked.prog.unfollowed 3)=true:=by kernel_rfl
theorem ajA:(Rows.meaningRuleSpecRow.recurses==Tryz.pinned.checked.prog.recurses 3)=true:=by kernel_rfl
theorem ajB:(Rows.meaningRuleSpecRow.named==Tryz.pinned.checked.prog.varsNamed 3)=true:=by kernel_rfl
theorem ajC:joinedFacts Tryz.pinned.checked.prog 3 Tryz.f3 Rows.meaningRuleSpecSpec Rows.meaningRuleSpecRow=true:=by
 unfold joinedFacts;rw[ajy,ajz,ajA,ajB]
 kernel_rfl
theorem ajD:Tryz.f3.isInstance Tryz.pinned.checked.prog Rows.meaningRuleSpecRow.origin Rows.meaningRuleSpecRow.targs:=iw (by kernel_rfl)
theorem ajE:Tryz.f3.isWrapper Tryz.pinned.checked.prog Rows.meaningRuleSpecRow.wrapper Rows.meaningRuleSpecRow.mainSum:=by
 unfold Func.isWrapper;first|(rw[if_pos (by decide+kernel)];kernel_rfl)|(rw[if_neg (by decide+kernel)];exact⟨rfl,rfl⟩)
theorem meaningRuleSpec_holds:Rows.MeaningRuleSpecSaid:=
 OpenClaim.holds_of_wide 3 Tryz.f3 rfl rfl rfl rfl rfl rfl rfl ⟨rfl,rfl,rfl,rfl,rfl⟩ rfl rfl rfl rfl rfl ajx Tryz.func3 ajC ajD ajE
  (λos started H enc _=>ajw os started H enc)
#print axioms meaningRuleSpec_holds
