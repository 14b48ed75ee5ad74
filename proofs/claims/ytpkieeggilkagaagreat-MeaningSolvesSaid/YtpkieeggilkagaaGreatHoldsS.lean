/-
  MeaningSolves: for every input the law returns true, and its arguments read afterwards as they read before. No condition.
-/
import Derived.Test.YtpkieeggilkagaaGreatRows
import Derived.Test.YtpkieeggilkagaaGreatLawS
import Derived.Test.YtpkieeggilkagaaGreatRep
import Derived.ProofKit
set_option linter.unusedSimpArgs false
set_option linter.unusedVariables false
set_option maxHeartbeats 1000000
namespace Go.Proofs.YtpkieeggilkagaaGreat
open Go.Ideal Go.ChangeShapes Go.WideShapes Go.ChangeAt Go.RowKit Kd Canon
set_option maxRecDepth 100000 in
theorem zCq(os:Os)(started:os.Started)(H:Type)(enc:TypeId×Value→H):
 ReturnsInHanded {} Tryz.checked os 9 .any (Rows.meaningSolvesSpec.pre6 enc Tryz.prog Tryz.f9 Rows.meaningSolvesRow.domain false) (Rows.meaningSolvesSpec.post enc Tryz.prog Tryz.f9 false true false false):=by
 refine returnsInHanded_of_change (C:=Tryz.checked) zU5 started (by kernel_rfl) Tryz.func9
  (ChangeSpec.witness6 (enc:=enc) (C:=Tryz.checked) false ⟨#[], #[.agg #[.string ⟨#[]⟩,.int .i64 0,.int .i64 0,.int .i64 0,.int .i64 0,.slice none 0 0,.slice none 0 0,.slice none 0 0,.slice none 0 0,.slice none 0 0,.int .i64 0,.int .i64 0,.int .i64 0,.slice none 0 0,.slice none 0 0,.slice none 0 0,.slice none 0 0],.agg #[.slice none 0 0],.slice none 0 0],[]⟩ 9 (by kernel_rfl) (by kernel_rfl) (by kernel_rfl) (by kernel_rfl)) ?_
 intro W base args ds gs before hval0 hW _ _;have hval:∀(j:Nat) t v,Tryz.f9.params[j]? =some t→args[j]? =some v→Value.okWide Tryz.prog W .any base t v:=hval0;have hW':=hW;obtain⟨p,q,hA0,hV,rfl,hfz,_⟩:=hW;have hA:DataW.TrodAll enc Tryz.prog W 0 (fun _=>true) true Tryz.f9.params.toList args.toList ds p:=hA0;have hAk:=hA;rw[Tryz.params9]at hA hval;obtain⟨rfl,rfl⟩:=trodVars_none hV;obtain⟨la,ld⟩:=zDC hA;obtain⟨d0,d1,d2,rfl⟩:=zU2 ld;have hc:Calls Tryz.prog 9 args W (fun e w'=>e=.returned (.bool true)∧Below W.heap.size W w'):=by
  refine zHd follows globals Tryz.f9 Tryz.func9 (by kernel_rfl) (by kernel_rfl) (K:=(·∈kPlain)) zLx (ts:=[34,37,22]) (ds:=[d0,d1,d2]) (by simp[kPlain]) (fun j t v hj hv=>?_) hA ?_
  ·exact hval j t v (by rw[← hj];simp) (by rw[← hv];simp)
  ·intro w vs hz hlen harg;obtain⟨v0,v1,v2,rfl⟩:=zU2 (hlen.trans la);obtain⟨a0,y0,rfl,f0,g0⟩:=(harg 0 34 v0 d0 rfl rfl rfl).aggG hz zU3 zUx;obtain⟨a1,y1,rfl,f1,g1⟩:=(harg 1 37 v1 d1 rfl rfl rfl).aggG hz zSH zUz;obtain⟨a2,y2,e2,f2,g2⟩:=(harg 2 22 v2 d2 rfl rfl rfl).oneG hz zSv zIf;obtain rfl:y2=v2:=by injection e2
   refine⟨_,?_,zH6 (k:=a0) (p:=a1) (grid:=a2) g0 g1 g2.1⟩;intro f hf;rcases List.mem_cons.1 hf with rfl|hf
   ·exact f1 _ (List.mem_singleton.2 rfl)
   rcases List.mem_cons.1 hf with rfl|hf
   ·exact f2 _ (List.mem_singleton.2 rfl)
   ·exact f0 f hf
 refine hc.mono fun e W' ⟨he,hb⟩=>?_;subst he;exact⟨_,rfl,zKL (pv:=[]) hW' (fun _ _ _=>trodAll_mk1 (shut_bool Tryz.underlying4 _))
  (fun sp hsp=>zBz zSf (fun{t e}=>zTV t e) hb (by rw[Tryz.params9];intro t ht;exact kSmall t ((by decide:∀t∈([34,37,22]:List TypeId),t∈kPlain) t ht)) hAk (fun p hp=>hsp p (by simpa using hp)))
  (fun _ _=>rfl) (by simp) hb (ok_one (by kernel_rfl) rfl (okWide_bool_mk Tryz.underlying4 _))⟩
theorem zC8:Tryz.pinned.checked.prog.funcNamed Rows.meaningSolvesRow.func=some 9:=by kernel_rfl
theorem zDu:(Rows.meaningSolvesRow.inPlace==Tryz.pinned.checked.prog.inPlace 9)=true:=by kernel_rfl
theorem zEC:(Rows.meaningSolvesRow.unfollowed==Tryz.pinned.checked.prog.unfollowed 9)=true:=by kernel_rfl
theorem zDr:(Rows.meaningSolvesRow.recurses==Tryz.pinned.checked.prog.recurses 9)=true:=by kernel_rfl
theorem zDy:(Rows.meaningSolvesRow.named==Tryz.pinned.checked.prog.varsNamed 9)=true:=by kernel_rfl
theorem zCs:joinedFacts Tryz.pinned.checked.prog 9 Tryz.f9 Rows.meaningSolvesSpec Rows.meaningSolvesRow=true:=by
 unfold joinedFacts;rw[zDu,zEC,zDr,zDy]
 kernel_rfl
theorem zDX:Tryz.f9.isInstance Tryz.pinned.checked.prog Rows.meaningSolvesRow.origin Rows.meaningSolvesRow.targs:=of_decide_eq_true (by kernel_rfl)
theorem zDe:Tryz.f9.isWrapper Tryz.pinned.checked.prog Rows.meaningSolvesRow.wrapper Rows.meaningSolvesRow.mainSum:=by
 unfold Func.isWrapper;first|(rw[if_pos (by decide+kernel)];kernel_rfl)|(rw[if_neg (by decide+kernel)];exact⟨rfl,rfl⟩)
theorem meaningSolves_holds:Rows.MeaningSolvesSaid:=
 OpenClaim.holds_of_wide 9 Tryz.f9 rfl rfl rfl rfl rfl rfl rfl ⟨rfl,rfl,rfl,rfl,rfl⟩ rfl rfl rfl rfl rfl zC8 Tryz.func9 zCs zDX zDe
  (fun os started H enc _=>zCq os started H enc)
#print axioms meaningSolves_holds
end Go.Proofs.YtpkieeggilkagaaGreat
