/-
  Part HoldsNX.
-/
import Derived.Test.YtoilpafpgndilaaGreatRows
import Derived.Test.YtoilpafpgndilaaGreatLawNX
import Derived.Test.YtoilpafpgndilaaGreatRepX
set_option linter.all false
set_option maxHeartbeats 1000000
namespace Go.Proofs.YtoilpafpgndilaaGreat
open Go.Ideal Go.ChangeShapes Go.WideShapes Go.ChangeAt Go.RowKit Kd Canon
set_option maxRecDepth 100000 in
theorem aj8(os:Os)(started:os.Started)(H:Type)(enc:TypeId×Value->H):
 ReturnsInHanded {} Tryz.checked os 6 .any (Rows.canonRenamedSpec.pre6 enc Tryz.prog Tryz.f6 Rows.canonRenamedRow.domain false) (Rows.canonRenamedSpec.post enc Tryz.prog Tryz.f6 false true false false):=by
 refine returnsInHanded_of_change (C:=Tryz.checked) Xv started (by kernel_rfl) Tryz.func6
  (ChangeSpec.witness6 (enc:=enc) (C:=Tryz.checked) false ⟨#[], #[.agg #[.string ⟨#[]⟩,.int .i64 0,.int .i64 0,.int .i64 0,.int .i64 0,.slice none 0 0,.slice none 0 0,.slice none 0 0,.slice none 0 0,.slice none 0 0,.int .i64 0,.int .i64 0,.int .i64 0,.slice none 0 0,.slice none 0 0,.slice none 0 0,.slice none 0 0],.slice none 0 0,.agg #[.slice none 0 0],.slice none 0 0],[]⟩ 5 (by kernel_rfl) (by kernel_rfl) (by kernel_rfl) (by kernel_rfl)) ?_
 intro W base args ds gs before hval0 hW _ _;have hval:∀(j:Nat) t v,Tryz.f6.params[j]? =some t->args[j]? =some v->Value.okWide Tryz.prog W .any base t v:=hval0;have hW':=hW;obtain⟨p,q,EA,hV,rfl,hfz,_⟩:=hW;have hA:DataW.TrodAll enc Tryz.prog W 0 (λ_=>true) true Tryz.f6.params.toList args.toList ds p:=EA;have hAk:=hA;rw[Tryz.params6]at hA hval;obtain⟨rfl,rfl⟩:=trodVars_none hV;obtain⟨la,ld⟩:=MI hA;obtain⟨d0,d1,d2,d3,rfl⟩:=Sr ld;have hc:Calls Tryz.prog 6 args W (λe w'=>e=.returned (.bool true)/\Below W.heap.size W w'):=by
  refine Su follows globals Tryz.f6 Tryz.func6 (by kernel_rfl) (by kernel_rfl) (K:=(·∈BH)) ajU (ts:=[41,29,24,57]) (ds:=[d0,d1,d2,d3]) (by simp[BH]) (λj t v hj hv=>?_) hA ?_
  ·exact hval j t v (by rw[<- hj];simp) (by rw[<- hv];simp)
  ·intro w vs hz hlen zK;obtain⟨v0,v1,v2,v3,rfl⟩:=Sr (hlen.trans la);obtain⟨a0,y0,rfl,f0,g0⟩:=(zK 0 41 v0 d0 rfl rfl rfl).IL hz Xy XC;obtain⟨a1,y1,e1,f1,g1⟩:=(zK 1 29 v1 d1 rfl rfl rfl).oneG hz XA BG;obtain rfl:y1=v1:=by injection e1
   obtain⟨a2,y2,rfl,f2,g2⟩:=(zK 2 24 v2 d2 rfl rfl rfl).IL hz Xz XE;obtain⟨a3,y3,e3,f3,g3⟩:=(zK 3 57 v3 d3 rfl rfl rfl).oneG hz ajW ajY;obtain rfl:y3=v3:=by injection e3
   refine⟨_,?_,ajy (k:=a0) (cl:=a1) (p:=a2) (turn:=a3) g0 g2 g1.1 g3.2⟩;intro f hf;rcases dx.1 hf with rfl|hf
   ·exact f1 _ (bM.2 rfl)
   rcases dx.1 hf with rfl|hf
   ·exact f2 _ (bM.2 rfl)
   rcases dx.1 hf with rfl|hf
   ·exact f3 _ (bM.2 rfl)
   exact f0 f hf
 refine hc.mono λe W' ⟨he,hb⟩=>?_;subst he;exact⟨_,rfl,RQ (pv:=[]) hW' (λ_ _ _=>trodAll_mk1 (shut_bool Tryz.underlying4 _))
  (λsp hsp=>Mm Xw (λ{t e}=>Xx t e) hb (by rw[Tryz.params6];intro t ht;exact ajV t ((by decide:∀t∈([41,29,24,57]:List TypeId),t∈BH) t ht)) hAk (λp hp=>hsp p (by simpa using hp)))
  (λ_ _=>rfl) (by simp) hb (ok_one (by kernel_rfl) rfl (okWide_bool_mk Tryz.underlying4 _))⟩
theorem aj9:Tryz.pinned.checked.prog.funcNamed Rows.canonRenamedRow.func=some 6:=by kernel_rfl
theorem aka:(Rows.canonRenamedRow.inPlace==Tryz.pinned.checked.prog.inPlace 6)=true:=by kernel_rfl
theorem akb:(Rows.canonRenamedRow.unfollowed==Tryz.pinned.checked.prog.unfollowed 6)=true:=by kernel_rfl
theorem akc:(Rows.canonRenamedRow.recurses==Tryz.pinned.checked.prog.recurses 6)=true:=by kernel_rfl
theorem akd:(Rows.canonRenamedRow.named==Tryz.pinned.checked.prog.varsNamed 6)=true:=by kernel_rfl
theorem ake:joinedFacts Tryz.pinned.checked.prog 6 Tryz.f6 Rows.canonRenamedSpec Rows.canonRenamedRow=true:=by
 unfold joinedFacts;rw[aka,akb,akc,akd]
 kernel_rfl
theorem akf:Tryz.f6.isInstance Tryz.pinned.checked.prog Rows.canonRenamedRow.origin Rows.canonRenamedRow.targs:=iI (by kernel_rfl)
theorem akg:Tryz.f6.isWrapper Tryz.pinned.checked.prog Rows.canonRenamedRow.wrapper Rows.canonRenamedRow.mainSum:=by
 unfold Func.isWrapper;first|(rw[if_pos (by decide+kernel)];kernel_rfl)|(rw[if_neg (by decide+kernel)];exact⟨rfl,rfl⟩)
theorem canonRenamed_holds:Rows.CanonRenamedSaid:=
 OpenClaim.holds_of_wide 6 Tryz.f6 rfl rfl rfl rfl rfl rfl rfl ⟨rfl,rfl,rfl,rfl,rfl⟩ rfl rfl rfl rfl rfl aj9 Tryz.func6 ake akf akg
  (λos started H enc _=>aj8 os started H enc)
#print axioms canonRenamed_holds
