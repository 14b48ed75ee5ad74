/-
  Part HoldsRX.
-/
import Derived.Test.YtoilpafpgndilaaGreatRows
import Derived.Test.YtoilpafpgndilaaGreatLawRX
import Derived.Test.YtoilpafpgndilaaGreatRepX
set_option linter.all false
set_option maxHeartbeats 1000000
namespace Go.Proofs.YtoilpafpgndilaaGreat
open Go.Ideal Go.ChangeShapes Go.WideShapes Go.ChangeAt Go.RowKit Kd Canon
set_option maxRecDepth 100000 in
theorem ajZ(os:Os)(started:os.Started)(H:Type)(enc:TypeId×Value->H):
 ReturnsInHanded {} Tryz.checked os 4 .any (Rows.canonRenameSpecSpec.pre6 enc Tryz.prog Tryz.f4 Rows.canonRenameSpecRow.domain false) (Rows.canonRenameSpecSpec.post enc Tryz.prog Tryz.f4 false true false false):=by
 refine returnsInHanded_of_change (C:=Tryz.checked) Xv started (by kernel_rfl) Tryz.func4
  (ChangeSpec.witness6 (enc:=enc) (C:=Tryz.checked) false ⟨#[], #[.agg #[.string ⟨#[]⟩,.int .i64 0,.int .i64 0,.int .i64 0,.int .i64 0,.slice none 0 0,.slice none 0 0,.slice none 0 0,.slice none 0 0,.slice none 0 0,.int .i64 0,.int .i64 0,.int .i64 0,.slice none 0 0,.slice none 0 0,.slice none 0 0,.slice none 0 0],.slice none 0 0,.agg #[.slice none 0 0]],[]⟩ 4 (by kernel_rfl) (by kernel_rfl) (by kernel_rfl) (by kernel_rfl)) ?_
 intro W base args ds gs before hval0 hW _ _;have hval:∀(j:Nat) t v,Tryz.f4.params[j]? =some t->args[j]? =some v->Value.okWide Tryz.prog W .any base t v:=hval0;have hW':=hW;obtain⟨p,q,EA,hV,rfl,hfz,_⟩:=hW;have hA:DataW.TrodAll enc Tryz.prog W 0 (λ_=>true) true Tryz.f4.params.toList args.toList ds p:=EA;have hAk:=hA;rw[Tryz.params4]at hA hval;obtain⟨rfl,rfl⟩:=trodVars_none hV;obtain⟨la,ld⟩:=MI hA;obtain⟨d0,d1,d2,rfl⟩:=Sq ld;have hc:Calls Tryz.prog 4 args W (λe w'=>e=.returned (.bool true)/\Below W.heap.size W w'):=by
  refine Su follows globals Tryz.f4 Tryz.func4 (by kernel_rfl) (by kernel_rfl) (K:=(·∈BF)) ajC (ts:=[41,29,24]) (ds:=[d0,d1,d2]) (by simp[BF]) (λj t v hj hv=>?_) hA ?_
  ·exact hval j t v (by rw[<- hj];simp) (by rw[<- hv];simp)
  ·intro w vs hz hlen zK;obtain⟨v0,v1,v2,rfl⟩:=Sq (hlen.trans la);obtain⟨a0,y0,rfl,f0,g0⟩:=(zK 0 41 v0 d0 rfl rfl rfl).IL hz Xy XC;obtain⟨a1,y1,e1,f1,g1⟩:=(zK 1 29 v1 d1 rfl rfl rfl).oneG hz XA BG;obtain rfl:y1=v1:=by injection e1
   obtain⟨a2,y2,rfl,f2,g2⟩:=(zK 2 24 v2 d2 rfl rfl rfl).IL hz Xz XE;refine⟨_,?_,ajx (k:=a0) (cl:=a1) (p:=a2) g0 g2 g1.1⟩;intro f hf;rcases dx.1 hf with rfl|hf
   ·exact f1 _ (bM.2 rfl)
   rcases dx.1 hf with rfl|hf
   ·exact f2 _ (bM.2 rfl)
   exact f0 f hf
 refine hc.mono λe W' ⟨he,hb⟩=>?_;subst he;exact⟨_,rfl,RQ (pv:=[]) hW' (λ_ _ _=>trodAll_mk1 (shut_bool Tryz.underlying4 _))
  (λsp hsp=>Mm Xw (λ{t e}=>Xx t e) hb (by rw[Tryz.params4];intro t ht;exact ajD t ((by decide:∀t∈([41,29,24]:List TypeId),t∈BF) t ht)) hAk (λp hp=>hsp p (by simpa using hp)))
  (λ_ _=>rfl) (by simp) hb (ok_one (by kernel_rfl) rfl (okWide_bool_mk Tryz.underlying4 _))⟩
theorem aj0:Tryz.pinned.checked.prog.funcNamed Rows.canonRenameSpecRow.func=some 4:=by kernel_rfl
theorem aj1:(Rows.canonRenameSpecRow.inPlace==Tryz.pinned.checked.prog.inPlace 4)=true:=by kernel_rfl
theorem aj2:(Rows.canonRenameSpecRow.unfollowed==Tryz.pinned.checked.prog.unfollowed 4)=true:=by kernel_rfl
theorem aj3:(Rows.canonRenameSpecRow.recurses==Tryz.pinned.checked.prog.recurses 4)=true:=by kernel_rfl
theorem aj4:(Rows.canonRenameSpecRow.named==Tryz.pinned.checked.prog.varsNamed 4)=true:=by kernel_rfl
theorem aj5:joinedFacts Tryz.pinned.checked.prog 4 Tryz.f4 Rows.canonRenameSpecSpec Rows.canonRenameSpecRow=true:=by
 unfold joinedFacts;rw[aj1,aj2,aj3,aj4]
 kernel_rfl
theorem aj6:Tryz.f4.isInstance Tryz.pinned.checked.prog Rows.canonRenameSpecRow.origin Rows.canonRenameSpecRow.targs:=iI (by kernel_rfl)
theorem aj7:Tryz.f4.isWrapper Tryz.pinned.checked.prog Rows.canonRenameSpecRow.wrapper Rows.canonRenameSpecRow.mainSum:=by
 unfold Func.isWrapper;first|(rw[if_pos (by decide+kernel)];kernel_rfl)|(rw[if_neg (by decide+kernel)];exact⟨rfl,rfl⟩)
theorem canonRenameSpec_holds:Rows.CanonRenameSpecSaid:=
 OpenClaim.holds_of_wide 4 Tryz.f4 rfl rfl rfl rfl rfl rfl rfl ⟨rfl,rfl,rfl,rfl,rfl⟩ rfl rfl rfl rfl rfl aj0 Tryz.func4 aj5 aj6 aj7
  (λos started H enc _=>ajZ os started H enc)
#print axioms canonRenameSpec_holds
