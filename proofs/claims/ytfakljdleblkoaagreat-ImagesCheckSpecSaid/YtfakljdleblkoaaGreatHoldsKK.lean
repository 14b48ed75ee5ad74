/-
  Part HoldsKK.
-/
import Derived.Test.YtfakljdleblkoaaGreatRows
import Derived.Test.YtfakljdleblkoaaGreatLawKK
import Derived.Test.YtfakljdleblkoaaGreatRepK
set_option linter.all false
set_option maxHeartbeats 1000000
namespace Go.Proofs.YtfakljdleblkoaaGreat
open Go.Ideal Go.ChangeShapes Go.WideShapes Go.ChangeAt Go.RowKit Kd Canon
set_option maxRecDepth 100000 in
theorem aiR(os:Os)(started:os.Started)(H:Type)(enc:TypeId×Value->H):
 ReturnsInHanded {} Tryz.checked os 3 .any (Rows.imagesCheckSpecSpec.pre6 enc Tryz.prog Tryz.f3 Rows.imagesCheckSpecRow.domain false) (Rows.imagesCheckSpecSpec.post enc Tryz.prog Tryz.f3 false true false false):=by
 refine returnsInHanded_of_change (C:=Tryz.checked) ais started (by kernel_rfl) Tryz.func3
  (ChangeSpec.witness6 (enc:=enc) (C:=Tryz.checked) false ⟨#[], #[.agg #[.string ⟨#[]⟩,.int .i64 0,.int .i64 0,.int .i64 0,.int .i64 0,.slice none 0 0,.slice none 0 0,.slice none 0 0,.slice none 0 0,.slice none 0 0,.int .i64 0,.int .i64 0,.int .i64 0,.slice none 0 0,.slice none 0 0,.slice none 0 0,.slice none 0 0],.agg #[.slice none 0 0,.slice none 0 0]],[]⟩ 3 (by kernel_rfl) (by kernel_rfl) (by kernel_rfl) (by kernel_rfl)) ?_
 intro W base args ds gs before hval0 hW _ _;have hval:∀(j:Nat) t v,Tryz.f3.params[j]? =some t->args[j]? =some v->Value.okWide Tryz.prog W .any base t v:=hval0;have hW':=hW;obtain⟨p,q,La,hV,rfl,hfz,_⟩:=hW;have hA:DataW.TrodAll enc Tryz.prog W 0 (λ_=>true) true Tryz.f3.params.toList args.toList ds p:=La;have hAk:=hA;rw[Tryz.params3]at hA hval;obtain⟨rfl,rfl⟩:=trodVars_none hV;obtain⟨la,ld⟩:=Rs hA;obtain⟨d0,d1,rfl⟩:=Rt ld;have hc:Calls Tryz.prog 3 args W (λe w'=>e=.returned (.bool true)/\Below W.heap.size W w'):=by
  refine abN follows globals Tryz.f3 Tryz.func3 (by kernel_rfl) (by kernel_rfl) (K:=(·∈AQ)) aiL (ts:=[34,36]) (ds:=[d0,d1]) (by simp[AQ]) (λj t v hj hv=>?_) hA ?_
  ·exact hval j t v (by rw[<- hj];simp) (by rw[<- hv];simp)
  ·intro w vs hz hlen WB;obtain⟨v0,v1,rfl⟩:=Rt (hlen.trans la);obtain⟨a0,y0,rfl,f0,g0⟩:=(WB 0 34 v0 d0 rfl rfl rfl).Rz hz aiv aiK;obtain⟨a1,y1,rfl,f1,g1⟩:=(WB 1 36 v1 d1 rfl rfl rfl).Rz hz aiN rSy;refine⟨_,?_,air (k:=a0) (s:=a1.1) (t:=a1.2) g0 g1.1 g1.2⟩;intro f hf;rcases dH.1 hf with rfl|hf
   ·exact f1 _ (cZ ..)
   rcases dH.1 hf with rfl|hf
   ·exact f1 _ (dA _ (bK.2 rfl))
   exact f0 f hf
 refine hc.mono λe W' ⟨he,hb⟩=>?_;subst he;exact⟨_,rfl,aaE (pv:=[]) hW' (λ_ _ _=>trodAll_mk1 (shut_bool Tryz.underlying4 _))
  (λsp hsp=>QZ ait (λ{t e}=>aiu t e) hb (by rw[Tryz.params3];intro t ht;exact aiM t ((by decide:∀t∈([34,36]:List TypeId),t∈AQ) t ht)) hAk (λp hp=>hsp p (by simpa using hp)))
  (λ_ _=>rfl) (by simp) hb (ok_one (by kernel_rfl) rfl (okWide_bool_mk Tryz.underlying4 _))⟩
theorem aiS:Tryz.pinned.checked.prog.funcNamed Rows.imagesCheckSpecRow.func=some 3:=by kernel_rfl
theorem aiT:(Rows.imagesCheckSpecRow.inPlace==Tryz.pinned.checked.prog.inPlace 3)=true:=by kernel_rfl
theorem aiU:(Rows.imagesCheckSpecRow.unfollowed==Tryz.pinned.checked.prog.unfollowed 3)=true:=by kernel_rfl
theorem aiV:(Rows.imagesCheckSpecRow.recurses==Tryz.pinned.checked.prog.recurses 3)=true:=by kernel_rfl
theorem aiW:(Rows.imagesCheckSpecRow.named==Tryz.pinned.checked.prog.varsNamed 3)=true:=by kernel_rfl
theorem aiX:joinedFacts Tryz.pinned.checked.prog 3 Tryz.f3 Rows.imagesCheckSpecSpec Rows.imagesCheckSpecRow=true:=by
 unfold joinedFacts;rw[aiT,aiU,aiV,aiW]
 kernel_rfl
theorem aiY:Tryz.f3.isInstance Tryz.pinned.checked.prog Rows.imagesCheckSpecRow.origin Rows.imagesCheckSpecRow.targs:=gQ (by kernel_rfl)
theorem aiZ:Tryz.f3.isWrapper Tryz.pinned.checked.prog Rows.imagesCheckSpecRow.wrapper Rows.imagesCheckSpecRow.mainSum:=by
 unfold Func.isWrapper;first|(rw[if_pos (by decide+kernel)];kernel_rfl)|(rw[if_neg (by decide+kernel)];exact⟨rfl,rfl⟩)
theorem imagesCheckSpec_holds:Rows.ImagesCheckSpecSaid:=
 OpenClaim.holds_of_wide 3 Tryz.f3 rfl rfl rfl rfl rfl rfl rfl ⟨rfl,rfl,rfl,rfl,rfl⟩ rfl rfl rfl rfl rfl aiS Tryz.func3 aiX aiY aiZ
  (λos started H enc _=>aiR os started H enc)
#print axioms imagesCheckSpec_holds
