/-
  ImagesCompose: for every input the law returns true, and its arguments read afterwards as they read before. No condition.
-/
import Derived.Test.YtfakljdleblkoaaGreatRows
import Derived.Test.YtfakljdleblkoaaGreatLawBM
import Derived.Test.YtfakljdleblkoaaGreatRepM
set_option linter.all false
set_option maxHeartbeats 1000000
namespace Go.Proofs.YtfakljdleblkoaaGreat
open Go.Ideal Go.ChangeShapes Go.WideShapes Go.ChangeAt Go.RowKit Kd Canon
set_option maxRecDepth 100000 in
theorem amA(os:Os)(started:os.Started)(H:Type)(enc:TypeId×Value->H):
 ReturnsInHanded {} Tryz.checked os 7 .any (Rows.imagesComposeSpec.pre6 enc Tryz.prog Tryz.f7 Rows.imagesComposeRow.domain false) (Rows.imagesComposeSpec.post enc Tryz.prog Tryz.f7 false true false false):=by
 refine returnsInHanded_of_change (C:=Tryz.checked) Q5 started (by kernel_rfl) Tryz.func7
  (ChangeSpec.witness6 (enc:=enc) (C:=Tryz.checked) false ⟨#[], #[.agg #[.string ⟨#[]⟩,.int .i64 0,.int .i64 0,.int .i64 0,.int .i64 0,.slice none 0 0,.slice none 0 0,.slice none 0 0,.slice none 0 0,.slice none 0 0,.int .i64 0,.int .i64 0,.int .i64 0,.slice none 0 0,.slice none 0 0,.slice none 0 0,.slice none 0 0],.agg #[.slice none 0 0,.slice none 0 0],.agg #[.slice none 0 0,.slice none 0 0],.agg #[.slice none 0 0],.slice none 0 0],[]⟩ 7 (by kernel_rfl) (by kernel_rfl) (by kernel_rfl) (by kernel_rfl)) ?_
 intro W base args ds gs before hval0 hW _ _;have hval:∀(j:Nat) t v,Tryz.f7.params[j]? =some t->args[j]? =some v->Value.okWide Tryz.prog W .any base t v:=hval0;have hW':=hW;obtain⟨p,q,AZ,hV,rfl,hfz,_⟩:=hW;have hA:DataW.TrodAll enc Tryz.prog W 0 (λ_=>true) true Tryz.f7.params.toList args.toList ds p:=AZ;have hAk:=hA;rw[Tryz.params7]at hA hval;obtain⟨rfl,rfl⟩:=trodVars_none hV;obtain⟨la,ld⟩:=Jm hA;obtain⟨d0,d1,d2,d3,d4,rfl⟩:=Zt ld;have hc:Calls Tryz.prog 7 args W (λe w'=>e=.returned (.bool true)/\Below W.heap.size W w'):=by
  refine NT follows globals Tryz.f7 Tryz.func7 (by kernel_rfl) (by kernel_rfl) (K:=(·∈sK)) Ri (ts:=[34,36,36,49,22]) (ds:=[d0,d1,d2,d3,d4]) (by simp[sK]) (λj t v hj hv=>?_) hA ?_
  ·exact hval j t v (by rw[<- hj];simp) (by rw[<- hv];simp)
  ·intro w vs hz hlen qB;obtain⟨v0,v1,v2,v3,v4,rfl⟩:=Zt (hlen.trans la);obtain⟨a0,y0,rfl,f0,g0⟩:=(qB 0 34 v0 d0 rfl rfl rfl).wD hz Q8 Rf;obtain⟨a1,y1,rfl,f1,g1⟩:=(qB 1 36 v1 d1 rfl rfl rfl).wD hz LB LC;obtain⟨a2,y2,rfl,f2,g2⟩:=(qB 2 36 v2 d2 rfl rfl rfl).wD hz LB LC;obtain⟨a3,y3,rfl,f3,g3⟩:=(qB 3 49 v3 d3 rfl rfl rfl).wD hz Q9 Rh;obtain⟨a4,y4,e4,f4,g4⟩:=(qB 4 22 v4 d4 rfl rfl rfl).oneG hz Ra wU;obtain rfl:y4=v4:=by injection e4
   refine⟨_,?_,alX (k:=a0) (s:=a1.1) (t:=a1.2) (s2:=a2.1) (t2:=a2.2) (p:=a3) (grid:=a4) g0 g3 g1.1 g1.2 g2.1 g2.2 g4.1⟩;intro f hf;rcases bN.1 hf with rfl|hf
   ·exact f3 _ (bO.2 rfl)
   rcases bN.1 hf with rfl|hf
   ·exact f4 _ (bO.2 rfl)
   rcases bN.1 hf with rfl|hf
   ·exact f1 _ (bR ..)
   rcases bN.1 hf with rfl|hf
   ·exact f1 _ (bU _ (bO.2 rfl))
   rcases bN.1 hf with rfl|hf
   ·exact f2 _ (bR ..)
   rcases bN.1 hf with rfl|hf
   ·exact f2 _ (bU _ (bO.2 rfl))
   exact f0 f hf
 refine hc.mono λe W' ⟨he,hb⟩=>?_;subst he;exact⟨_,rfl,NG (pv:=[]) hW' (λ_ _ _=>trodAll_mk1 (shut_bool Tryz.underlying4 _))
  (λsp hsp=>Ir Q6 (λ{t e}=>Q7 t e) hb (by rw[Tryz.params7];intro t ht;exact Rj t ((by decide:∀t∈([34,36,36,49,22]:List TypeId),t∈sK) t ht)) hAk (λp hp=>hsp p (by simpa using hp)))
  (λ_ _=>rfl) (by simp) hb (ok_one (by kernel_rfl) rfl (okWide_bool_mk Tryz.underlying4 _))⟩
theorem amB:Tryz.pinned.checked.prog.funcNamed Rows.imagesComposeRow.func=some 7:=by kernel_rfl
theorem amC:(Rows.imagesComposeRow.inPlace==Tryz.pinned.checked.prog.inPlace 7)=true:=by kernel_rfl
theorem amD:(Rows.imagesComposeRow.unfollowed==Tryz.pinned.checked.prog.unfollowed 7)=true:=by kernel_rfl
theorem amE:(Rows.imagesComposeRow.recurses==Tryz.pinned.checked.prog.recurses 7)=true:=by kernel_rfl
theorem amF:(Rows.imagesComposeRow.named==Tryz.pinned.checked.prog.varsNamed 7)=true:=by kernel_rfl
theorem amG:joinedFacts Tryz.pinned.checked.prog 7 Tryz.f7 Rows.imagesComposeSpec Rows.imagesComposeRow=true:=by
 unfold joinedFacts;rw[amC,amD,amE,amF]
 kernel_rfl
theorem amH:Tryz.f7.isInstance Tryz.pinned.checked.prog Rows.imagesComposeRow.origin Rows.imagesComposeRow.targs:=jg (by kernel_rfl)
theorem amI:Tryz.f7.isWrapper Tryz.pinned.checked.prog Rows.imagesComposeRow.wrapper Rows.imagesComposeRow.mainSum:=by
 unfold Func.isWrapper;first|(rw[if_pos (by decide+kernel)];kernel_rfl)|(rw[if_neg (by decide+kernel)];exact⟨rfl,rfl⟩)
theorem imagesCompose_holds:Rows.ImagesComposeSaid:=
 OpenClaim.holds_of_wide 7 Tryz.f7 rfl rfl rfl rfl rfl rfl rfl ⟨rfl,rfl,rfl,rfl,rfl⟩ rfl rfl rfl rfl rfl amB Tryz.func7 amG amH amI
  (λos started H enc _=>amA os started H enc)
#print axioms imagesCompose_holds
