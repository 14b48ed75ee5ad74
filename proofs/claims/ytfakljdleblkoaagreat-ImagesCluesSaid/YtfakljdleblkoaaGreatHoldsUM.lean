/-
  ImagesClues: for every input the law returns true, and its arguments read afterwards as they read before. No condition.
-/
import Derived.Test.YtfakljdleblkoaaGreatRows
import Derived.Test.YtfakljdleblkoaaGreatLawCM
import Derived.Test.YtfakljdleblkoaaGreatRepM
set_option linter.all false
set_option maxHeartbeats 1000000
namespace Go.Proofs.YtfakljdleblkoaaGreat
open Go.Ideal Go.ChangeShapes Go.WideShapes Go.ChangeAt Go.RowKit Kd Canon
set_option maxRecDepth 100000 in
theorem anM(os:Os)(started:os.Started)(H:Type)(enc:TypeId×Value->H):
 ReturnsInHanded {} Tryz.checked os 8 .any (Rows.imagesCluesSpec.pre6 enc Tryz.prog Tryz.f8 Rows.imagesCluesRow.domain false) (Rows.imagesCluesSpec.post enc Tryz.prog Tryz.f8 false true false false):=by
 refine returnsInHanded_of_change (C:=Tryz.checked) Q5 started (by kernel_rfl) Tryz.func8
  (ChangeSpec.witness6 (enc:=enc) (C:=Tryz.checked) false ⟨#[], #[.agg #[.string ⟨#[]⟩,.int .i64 0,.int .i64 0,.int .i64 0,.int .i64 0,.slice none 0 0,.slice none 0 0,.slice none 0 0,.slice none 0 0,.slice none 0 0,.int .i64 0,.int .i64 0,.int .i64 0,.slice none 0 0,.slice none 0 0,.slice none 0 0,.slice none 0 0],.agg #[.slice none 0 0,.slice none 0 0],.agg #[.slice none 0 0]],[]⟩ 8 (by kernel_rfl) (by kernel_rfl) (by kernel_rfl) (by kernel_rfl)) ?_
 intro W base args ds gs before hval0 hW _ _;have hval:∀(j:Nat) t v,Tryz.f8.params[j]? =some t->args[j]? =some v->Value.okWide Tryz.prog W .any base t v:=hval0;have hW':=hW;obtain⟨p,q,AZ,hV,rfl,hfz,_⟩:=hW;have hA:DataW.TrodAll enc Tryz.prog W 0 (λ_=>true) true Tryz.f8.params.toList args.toList ds p:=AZ;have hAk:=hA;rw[Tryz.params8]at hA hval;obtain⟨rfl,rfl⟩:=trodVars_none hV;obtain⟨la,ld⟩:=Jm hA;obtain⟨d0,d1,d2,rfl⟩:=ahF ld;have hc:Calls Tryz.prog 8 args W (λe w'=>e=.returned (.bool true)/\Below W.heap.size W w'):=by
  refine NT follows globals Tryz.f8 Tryz.func8 (by kernel_rfl) (by kernel_rfl) (K:=(·∈sK)) Ri (ts:=[34,36,49]) (ds:=[d0,d1,d2]) (by simp[sK]) (λj t v hj hv=>?_) hA ?_
  ·exact hval j t v (by rw[<- hj];simp) (by rw[<- hv];simp)
  ·intro w vs hz hlen qB;obtain⟨v0,v1,v2,rfl⟩:=ahF (hlen.trans la);obtain⟨a0,y0,rfl,f0,g0⟩:=(qB 0 34 v0 d0 rfl rfl rfl).wD hz Q8 Rf;obtain⟨a1,y1,rfl,f1,g1⟩:=(qB 1 36 v1 d1 rfl rfl rfl).wD hz LB LC;obtain⟨a2,y2,rfl,f2,g2⟩:=(qB 2 49 v2 d2 rfl rfl rfl).wD hz Q9 Rh;refine⟨_,?_,anI (k:=a0) (s:=a1.1) (t:=a1.2) (p:=a2) g0 g2 g1.1 g1.2⟩;intro f hf;rcases bN.1 hf with rfl|hf
   ·exact f2 _ (bO.2 rfl)
   rcases bN.1 hf with rfl|hf
   ·exact f1 _ (bR ..)
   rcases bN.1 hf with rfl|hf
   ·exact f1 _ (bU _ (bO.2 rfl))
   exact f0 f hf
 refine hc.mono λe W' ⟨he,hb⟩=>?_;subst he;exact⟨_,rfl,NG (pv:=[]) hW' (λ_ _ _=>trodAll_mk1 (shut_bool Tryz.underlying4 _))
  (λsp hsp=>Ir Q6 (λ{t e}=>Q7 t e) hb (by rw[Tryz.params8];intro t ht;exact Rj t ((by decide:∀t∈([34,36,49]:List TypeId),t∈sK) t ht)) hAk (λp hp=>hsp p (by simpa using hp)))
  (λ_ _=>rfl) (by simp) hb (ok_one (by kernel_rfl) rfl (okWide_bool_mk Tryz.underlying4 _))⟩
theorem anN:Tryz.pinned.checked.prog.funcNamed Rows.imagesCluesRow.func=some 8:=by kernel_rfl
theorem anO:(Rows.imagesCluesRow.inPlace==Tryz.pinned.checked.prog.inPlace 8)=true:=by kernel_rfl
theorem anP:(Rows.imagesCluesRow.unfollowed==Tryz.pinned.checked.prog.unfollowed 8)=true:=by kernel_rfl
theorem anQ:(Rows.imagesCluesRow.recurses==Tryz.pinned.checked.prog.recurses 8)=true:=by kernel_rfl
theorem anR:(Rows.imagesCluesRow.named==Tryz.pinned.checked.prog.varsNamed 8)=true:=by kernel_rfl
theorem anS:joinedFacts Tryz.pinned.checked.prog 8 Tryz.f8 Rows.imagesCluesSpec Rows.imagesCluesRow=true:=by
 unfold joinedFacts;rw[anO,anP,anQ,anR]
 kernel_rfl
theorem anT:Tryz.f8.isInstance Tryz.pinned.checked.prog Rows.imagesCluesRow.origin Rows.imagesCluesRow.targs:=jg (by kernel_rfl)
theorem anU:Tryz.f8.isWrapper Tryz.pinned.checked.prog Rows.imagesCluesRow.wrapper Rows.imagesCluesRow.mainSum:=by
 unfold Func.isWrapper;first|(rw[if_pos (by decide+kernel)];kernel_rfl)|(rw[if_neg (by decide+kernel)];exact⟨rfl,rfl⟩)
theorem imagesClues_holds:Rows.ImagesCluesSaid:=
 OpenClaim.holds_of_wide 8 Tryz.f8 rfl rfl rfl rfl rfl rfl rfl ⟨rfl,rfl,rfl,rfl,rfl⟩ rfl rfl rfl rfl rfl anN Tryz.func8 anS anT anU
  (λos started H enc _=>anM os started H enc)
#print axioms imagesClues_holds
