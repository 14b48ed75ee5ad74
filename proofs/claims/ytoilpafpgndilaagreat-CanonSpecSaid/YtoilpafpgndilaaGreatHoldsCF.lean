/- Part. -/
import Derived.Test.YtoilpafpgndilaaGreatRows
import Derived.Test.YtoilpafpgndilaaGreatLawCF
import Derived.Test.YtoilpafpgndilaaGreatRepF
set_option linter.all false
set_option maxHeartbeats 1000000
namespace Go.Proofs.YtoilpafpgndilaaGreat
open Go.Ideal Go.ChangeShapes Go.WideShapes Go.ChangeAt Go.RowKit Kd Canon
set_option maxRecDepth 100000 in
theorem aso(os:Os)(started:os.Started)(H:Type)(enc:adH×vI->H):
 ReturnsInHanded {} Tryz.checked os 5 .any (Rows.canonSpecSpec.pre6 enc Tryz.prog Tryz.f5 Rows.canonSpecRow.domain false) (Rows.canonSpecSpec.post enc Tryz.prog Tryz.f5 false true false false):=by
 refine returnsInHanded_of_change (C:=Tryz.checked) Xv started (by kernel_rfl) Tryz.func5
  (ChangeSpec.witness6 (enc:=enc) (C:=Tryz.checked) false ⟨#[], #[.agg #[.string ⟨#[]⟩,.int .i64 0,.int .i64 0,.int .i64 0,.int .i64 0,.slice none 0 0,.slice none 0 0,.slice none 0 0,.slice none 0 0,.slice none 0 0,.int .i64 0,.int .i64 0,.int .i64 0,.slice none 0 0,.slice none 0 0,.slice none 0 0,.slice none 0 0],.agg #[.slice none 0 0,.slice none 0 0],.agg #[.slice none 0 0]],[]⟩ 4 (by kernel_rfl) (by kernel_rfl) (by kernel_rfl) (by kernel_rfl)) ?_
 intro W base args ds gs before hval0 hW _ _;have hval:∀(j:Nat) t v,Tryz.f5.params[j]? =some t->args[j]? =some v->Value.okWide Tryz.prog W .any base t v:=hval0;have hW':=hW;obtain⟨p,q,EA,hV,rfl,hfz,_⟩:=hW;have hA:DataW.TrodAll enc Tryz.prog W 0 (λ_=>true) true Tryz.f5.params.toList args.toList ds p:=EA;have hAk:=hA;rw[Tryz.params5]at hA hval;obtain⟨rfl,rfl⟩:=trodVars_none hV;obtain⟨la,ld⟩:=MI hA;obtain⟨d0,d1,d2,rfl⟩:=Sq ld;have hc:Calls Tryz.prog 5 args W (λe w'=>e=.returned (.bool true)/\Below W.heap.size W w'):=by
  refine Su follows globals Tryz.f5 Tryz.func5 (by kernel_rfl) (by kernel_rfl) (K:=(·∈alF)) asf (ts:=[41,49,24]) (ds:=[d0,d1,d2]) (by simp[alF]) (λj t v hj hv=>?_) hA ?_
  .exact hval j t v (by rw[<- hj];simp) (by rw[<- hv];simp)
  .intro w vs hz hlen zK;obtain⟨v0,v1,v2,rfl⟩:=Sq (hlen.trans la);obtain⟨a0,y0,rfl,f0,g0⟩:=(zK 0 41 v0 d0 rfl rfl rfl).IL hz Xy XC;obtain⟨a1,y1,rfl,f1,g1⟩:=(zK 1 49 v1 d1 rfl rfl rfl).IL hz asi asn;obtain⟨a2,y2,rfl,f2,g2⟩:=(zK 2 24 v2 d2 rfl rfl rfl).IL hz Xz XE;refine⟨_,?_,asa (k:=a0) (L:=a1.1) (cl:=a1.2) (p:=a2) g0 g2 g1.NN g1.len g1.lens⟩;intro f hf;rcases dx.1 hf with rfl|hf
   .exact f1 _ (cB ..)
   rcases dx.1 hf with rfl|hf
   .exact f1 _ (cO _ (bM.2 rfl))
   rcases dx.1 hf with rfl|hf
   .exact f2 _ (bM.2 rfl)
   exact f0 f hf
 refine hc.mono λe W' ⟨he,hb⟩=>?_;subst he;exact⟨_,rfl,RQ (pv:=[]) hW' (λ_ _ _=>trodAll_mk1 (shut_bool Tryz.underlying4 _))
  (λsp hsp=>Mm Xw (λ{t e}=>Xx t e) hb (by rw[Tryz.params5];intro t ht;exact ash t ((by decide:∀t∈([41,49,24]:kI adH),t∈alF) t ht)) hAk (λp hp=>hsp p (by simpa using hp)))
  (λ_ _=>rfl) (by simp) hb (ok_one (by kernel_rfl) rfl (okWide_bool_mk Tryz.underlying4 _))⟩
theorem asq:Tryz.pinned.checked.prog.funcNamed Rows.canonSpecRow.func=some 5:=by kernel_rfl
theorem asr:(Rows.canonSpecRow.inPlace==Tryz.pinned.checked.prog.inPlace 5)=true:=by kernel_rfl
theorem ass:(Rows.canonSpecRow.unfollowed==Tryz.pinned.checked.prog.unfollowed 5)=true:=by kernel_rfl
theorem asu:(Rows.canonSpecRow.recurses==Tryz.pinned.checked.prog.recurses 5)=true:=by kernel_rfl
theorem asv:(Rows.canonSpecRow.named==Tryz.pinned.checked.prog.varsNamed 5)=true:=by kernel_rfl
theorem asw:joinedFacts Tryz.pinned.checked.prog 5 Tryz.f5 Rows.canonSpecSpec Rows.canonSpecRow=true:=by
 unfold joinedFacts;rw[asr,ass,asu,asv]
 kernel_rfl
theorem asx:Tryz.f5.isInstance Tryz.pinned.checked.prog Rows.canonSpecRow.origin Rows.canonSpecRow.targs:=iI (by kernel_rfl)
theorem asy:Tryz.f5.isWrapper Tryz.pinned.checked.prog Rows.canonSpecRow.wrapper Rows.canonSpecRow.mainSum:=by
 unfold Func.isWrapper;first|(rw[if_pos (by decide+kernel)];kernel_rfl)|(rw[if_neg (by decide+kernel)];exact⟨rfl,rfl⟩)
theorem canonSpec_holds:Rows.CanonSpecSaid:=
 OpenClaim.holds_of_wide 5 Tryz.f5 rfl rfl rfl rfl rfl rfl rfl ⟨rfl,rfl,rfl,rfl,rfl⟩ rfl rfl rfl rfl rfl asq Tryz.func5 asw asx asy
  (λos started H enc _=>aso os started H enc)
#print axioms canonSpec_holds
