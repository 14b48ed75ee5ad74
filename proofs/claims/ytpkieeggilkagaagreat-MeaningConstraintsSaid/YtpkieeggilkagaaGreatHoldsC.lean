/-
  MeaningConstraints: for every input the law returns true, and its arguments read afterwards as they read before. No condition.
-/
import Derived.Test.YtpkieeggilkagaaGreatRows
import Derived.Test.YtpkieeggilkagaaGreatLawC
import Derived.Test.YtpkieeggilkagaaGreatRep
import Derived.ProofKit
set_option linter.unusedSimpArgs false
set_option linter.unusedVariables false
set_option maxHeartbeats 1000000
namespace Go.Proofs.YtpkieeggilkagaaGreat
open Go.Ideal Go.ChangeShapes Go.WideShapes Go.ChangeAt Go.RowKit Kd Canon
set_option maxRecDepth 100000 in
theorem zBf(os:Os)(started:os.Started)(H:Type)(enc:TypeId×Value→H):
 ReturnsInHanded {} Tryz.checked os 10 .any (Rows.meaningConstraintsSpec.pre6 enc Tryz.prog Tryz.f10 Rows.meaningConstraintsRow.domain false) (Rows.meaningConstraintsSpec.post enc Tryz.prog Tryz.f10 false true false false):=by
 refine returnsInHanded_of_change (C:=Tryz.checked) zU5 started (by kernel_rfl) Tryz.func10
  (ChangeSpec.witness6 (enc:=enc) (C:=Tryz.checked) false ⟨#[], #[.agg #[.string ⟨#[]⟩,.int .i64 0,.int .i64 0,.int .i64 0,.int .i64 0,.slice none 0 0,.slice none 0 0,.slice none 0 0,.slice none 0 0,.slice none 0 0,.int .i64 0,.int .i64 0,.int .i64 0,.slice none 0 0,.slice none 0 0,.slice none 0 0,.slice none 0 0],.agg #[.slice none 0 0],.slice none 0 0,.int .i64 0],[]⟩ 10 (by kernel_rfl) (by kernel_rfl) (by kernel_rfl) (by kernel_rfl)) ?_
 intro W base args ds gs before hval0 hW _ _;have hval:∀(j:Nat) t v,Tryz.f10.params[j]? =some t→args[j]? =some v→Value.okWide Tryz.prog W .any base t v:=hval0;have hW':=hW;obtain⟨p,q,hA0,hV,rfl,hfz,_⟩:=hW;have hA:DataW.TrodAll enc Tryz.prog W 0 (fun _=>true) true Tryz.f10.params.toList args.toList ds p:=hA0;have hAk:=hA;rw[Tryz.params10]at hA hval;obtain⟨rfl,rfl⟩:=trodVars_none hV;obtain⟨la,ld⟩:=zDC hA;obtain⟨d0,d1,d2,d3,rfl⟩:=zUt ld;have hc:Calls Tryz.prog 10 args W (fun e w'=>e=.returned (.bool true)∧Below W.heap.size W w'):=by
  refine zHd follows globals Tryz.f10 Tryz.func10 (by kernel_rfl) (by kernel_rfl) (K:=(·∈kPlain)) zLx (ts:=[34,37,22,3]) (ds:=[d0,d1,d2,d3]) (by simp[kPlain]) (fun j t v hj hv=>?_) hA ?_
  ·exact hval j t v (by rw[← hj];simp) (by rw[← hv];simp)
  ·intro w vs hz hlen harg;obtain⟨v0,v1,v2,v3,rfl⟩:=zUt (hlen.trans la);obtain⟨a0,y0,rfl,f0,g0⟩:=(harg 0 34 v0 d0 rfl rfl rfl).aggG hz zU3 zUx;obtain⟨a1,y1,rfl,f1,g1⟩:=(harg 1 37 v1 d1 rfl rfl rfl).aggG hz zSH zUz;obtain⟨a2,y2,e2,f2,g2⟩:=(harg 2 22 v2 d2 rfl rfl rfl).oneG hz zSv zIf;obtain rfl:y2=v2:=by injection e2
   obtain⟨a3,y3,e3,f3,g3⟩:=(harg 3 3 v3 d3 rfl rfl rfl).oneG hz zTS zFO;obtain rfl:Value.int .i64 a3=v3:=by injection e3
   refine⟨_,?_,zLB (k:=a0) (p:=a1) (grid:=a2) (rl:=a3) g0 g1 g2.1⟩;intro f hf;rcases List.mem_cons.1 hf with rfl|hf
   ·exact f1 _ (List.mem_singleton.2 rfl)
   rcases List.mem_cons.1 hf with rfl|hf
   ·exact f2 _ (List.mem_singleton.2 rfl)
   ·exact f0 f hf
 refine hc.mono fun e W' ⟨he,hb⟩=>?_;subst he;exact⟨_,rfl,zKL (pv:=[]) hW' (fun _ _ _=>trodAll_mk1 (shut_bool Tryz.underlying4 _))
  (fun sp hsp=>zBz zSf (fun{t e}=>zTV t e) hb (by rw[Tryz.params10];intro t ht;exact kSmall t ((by decide:∀t∈([34,37,22,3]:List TypeId),t∈kPlain) t ht)) hAk (fun p hp=>hsp p (by simpa using hp)))
  (fun _ _=>rfl) (by simp) hb (ok_one (by kernel_rfl) rfl (okWide_bool_mk Tryz.underlying4 _))⟩
theorem zBs:Tryz.pinned.checked.prog.funcNamed Rows.meaningConstraintsRow.func=some 10:=by kernel_rfl
theorem zCI:(Rows.meaningConstraintsRow.inPlace==Tryz.pinned.checked.prog.inPlace 10)=true:=by kernel_rfl
theorem zCF:(Rows.meaningConstraintsRow.unfollowed==Tryz.pinned.checked.prog.unfollowed 10)=true:=by kernel_rfl
theorem zCH:(Rows.meaningConstraintsRow.recurses==Tryz.pinned.checked.prog.recurses 10)=true:=by kernel_rfl
theorem zCJ:(Rows.meaningConstraintsRow.named==Tryz.pinned.checked.prog.varsNamed 10)=true:=by kernel_rfl
theorem zBd:joinedFacts Tryz.pinned.checked.prog 10 Tryz.f10 Rows.meaningConstraintsSpec Rows.meaningConstraintsRow=true:=by
 unfold joinedFacts;rw[zCI,zCF,zCH,zCJ]
 kernel_rfl
theorem zB1:Tryz.f10.isInstance Tryz.pinned.checked.prog Rows.meaningConstraintsRow.origin Rows.meaningConstraintsRow.targs:=of_decide_eq_true (by kernel_rfl)
theorem zB9:Tryz.f10.isWrapper Tryz.pinned.checked.prog Rows.meaningConstraintsRow.wrapper Rows.meaningConstraintsRow.mainSum:=by
 unfold Func.isWrapper;first|(rw[if_pos (by decide+kernel)];kernel_rfl)|(rw[if_neg (by decide+kernel)];exact⟨rfl,rfl⟩)
theorem meaningConstraints_holds:Rows.MeaningConstraintsSaid:=
 OpenClaim.holds_of_wide 10 Tryz.f10 rfl rfl rfl rfl rfl rfl rfl ⟨rfl,rfl,rfl,rfl,rfl⟩ rfl rfl rfl rfl rfl zBs Tryz.func10 zBd zB1 zB9
  (fun os started H enc _=>zBf os started H enc)
#print axioms meaningConstraints_holds
end Go.Proofs.YtpkieeggilkagaaGreat
