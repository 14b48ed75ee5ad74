/-
  Part HoldsIW.
-/
import Derived.Test.YtfakljdleblkoaaGreatRows
import Derived.Test.YtfakljdleblkoaaGreatLawSW
import Derived.Test.YtfakljdleblkoaaGreatRepW
set_option linter.all false
set_option maxHeartbeats 1000000
namespace Go.Proofs.YtfakljdleblkoaaGreat
open Go.Ideal Go.ChangeShapes Go.WideShapes Go.ChangeAt Go.RowKit Kd Canon
set_option maxRecDepth 100000 in
theorem anw(os:Os)(started:os.Started)(H:Type)(enc:TypeId×Value->H):
 ReturnsInHanded {} Tryz.checked os 5 .any (Rows.imagesSpecSpec.pre6 enc Tryz.prog Tryz.f5 Rows.imagesSpecRow.domain false) (Rows.imagesSpecSpec.post enc Tryz.prog Tryz.f5 false true false false):=by
 refine returnsInHanded_of_change (C:=Tryz.checked) ais started (by kernel_rfl) Tryz.func5
  (ChangeSpec.witness6 (enc:=enc) (C:=Tryz.checked) false ⟨#[], #[.agg #[.string ⟨#[]⟩,.int .i64 0,.int .i64 0,.int .i64 0,.int .i64 0,.slice none 0 0,.slice none 0 0,.slice none 0 0,.slice none 0 0,.slice none 0 0,.int .i64 0,.int .i64 0,.int .i64 0,.slice none 0 0,.slice none 0 0,.slice none 0 0,.slice none 0 0],.agg #[.slice none 0 0,.slice none 0 0],.agg #[.slice none 0 0],.slice none 0 0],[]⟩ 5 (by kernel_rfl) (by kernel_rfl) (by kernel_rfl) (by kernel_rfl)) ?_
 intro W base args ds gs before hval0 hW _ _;have hval:∀(j:Nat) t v,Tryz.f5.params[j]? =some t->args[j]? =some v->Value.okWide Tryz.prog W .any base t v:=hval0;have hW':=hW;obtain⟨p,q,La,hV,rfl,hfz,_⟩:=hW;have hA:DataW.TrodAll enc Tryz.prog W 0 (λ_=>true) true Tryz.f5.params.toList args.toList ds p:=La;have hAk:=hA;rw[Tryz.params5]at hA hval;obtain⟨rfl,rfl⟩:=trodVars_none hV;obtain⟨la,ld⟩:=Rs hA;obtain⟨d0,d1,d2,d3,rfl⟩:=aki ld;have hc:Calls Tryz.prog 5 args W (λe w'=>e=.returned (.bool true)/\Below W.heap.size W w'):=by
  refine abN follows globals Tryz.f5 Tryz.func5 (by kernel_rfl) (by kernel_rfl) (K:=(·∈AQ)) aiL (ts:=[34,36,49,22]) (ds:=[d0,d1,d2,d3]) (by simp[AQ]) (λj t v hj hv=>?_) hA ?_
  ·exact hval j t v (by rw[<- hj];simp) (by rw[<- hv];simp)
  ·intro w vs hz hlen WB;obtain⟨v0,v1,v2,v3,rfl⟩:=aki (hlen.trans la);obtain⟨a0,y0,rfl,f0,g0⟩:=(WB 0 34 v0 d0 rfl rfl rfl).Rz hz aiv aiK;obtain⟨a1,y1,rfl,f1,g1⟩:=(WB 1 36 v1 d1 rfl rfl rfl).Rz hz aiN rSy;obtain⟨a2,y2,rfl,f2,g2⟩:=(WB 2 49 v2 d2 rfl rfl rfl).Rz hz anp anu;obtain⟨a3,y3,e3,f3,g3⟩:=(WB 3 22 v3 d3 rfl rfl rfl).oneG hz anq CO;obtain rfl:y3=v3:=by injection e3
   refine⟨_,?_,ann (k:=a0) (s:=a1.1) (t:=a1.2) (p:=a2) (grid:=a3) g0 g2 g1.1 g1.2 g3.1⟩;intro f hf;rcases dH.1 hf with rfl|hf
   ·exact f2 _ (bK.2 rfl)
   rcases dH.1 hf with rfl|hf
   ·exact f3 _ (bK.2 rfl)
   rcases dH.1 hf with rfl|hf
   ·exact f1 _ (cZ ..)
   rcases dH.1 hf with rfl|hf
   ·exact f1 _ (dA _ (bK.2 rfl))
   exact f0 f hf
 refine hc.mono λe W' ⟨he,hb⟩=>?_;subst he;exact⟨_,rfl,aaE (pv:=[]) hW' (λ_ _ _=>trodAll_mk1 (shut_bool Tryz.underlying4 _))
  (λsp hsp=>QZ ait (λ{t e}=>aiu t e) hb (by rw[Tryz.params5];intro t ht;exact aiM t ((by decide:∀t∈([34,36,49,22]:List TypeId),t∈AQ) t ht)) hAk (λp hp=>hsp p (by simpa using hp)))
  (λ_ _=>rfl) (by simp) hb (ok_one (by kernel_rfl) rfl (okWide_bool_mk Tryz.underlying4 _))⟩
theorem anx:Tryz.pinned.checked.prog.funcNamed Rows.imagesSpecRow.func=some 5:=by kernel_rfl
theorem anz:(Rows.imagesSpecRow.inPlace==Tryz.pinned.checked.prog.inPlace 5)=true:=by kernel_rfl
theorem anA:(Rows.imagesSpecRow.unfollowed==Tryz.pinned.checked.prog.unfollowed 5)=true:=by kernel_rfl
theorem anB:(Rows.imagesSpecRow.recurses==Tryz.pinned.checked.prog.recurses 5)=true:=by kernel_rfl
theorem anC:(Rows.imagesSpecRow.named==Tryz.pinned.checked.prog.varsNamed 5)=true:=by kernel_rfl
theorem anD:joinedFacts Tryz.pinned.checked.prog 5 Tryz.f5 Rows.imagesSpecSpec Rows.imagesSpecRow=true:=by
 unfold joinedFacts;rw[anz,anA,anB,anC]
 kernel_rfl
theorem anE:Tryz.f5.isInstance Tryz.pinned.checked.prog Rows.imagesSpecRow.origin Rows.imagesSpecRow.targs:=gQ (by kernel_rfl)
theorem anF:Tryz.f5.isWrapper Tryz.pinned.checked.prog Rows.imagesSpecRow.wrapper Rows.imagesSpecRow.mainSum:=by
 unfold Func.isWrapper;first|(rw[if_pos (by decide+kernel)];kernel_rfl)|(rw[if_neg (by decide+kernel)];exact⟨rfl,rfl⟩)
theorem imagesSpec_holds:Rows.ImagesSpecSaid:=
 OpenClaim.holds_of_wide 5 Tryz.f5 rfl rfl rfl rfl rfl rfl rfl ⟨rfl,rfl,rfl,rfl,rfl⟩ rfl rfl rfl rfl rfl anx Tryz.func5 anD anE anF
  (λos started H enc _=>anw os started H enc)
#print axioms imagesSpec_holds
