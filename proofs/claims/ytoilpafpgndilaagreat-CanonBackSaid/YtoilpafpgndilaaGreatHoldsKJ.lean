/- Part. -/
import Derived.Test.YtoilpafpgndilaaGreatRows
import Derived.Test.YtoilpafpgndilaaGreatLawKJ
import Derived.Test.YtoilpafpgndilaaGreatRepJ
set_option linter.all false
set_option maxHeartbeats 1000000
namespace Go.Proofs.YtoilpafpgndilaaGreat
open Go.Ideal Go.ChangeShapes Go.WideShapes Go.ChangeAt Go.RowKit Kd Canon
set_option maxRecDepth 100000 in
theorem asM(os:Os)(started:os.Started)(H:Type)(enc:aD×ah->H):
 ReturnsInHanded {} Tryz.checked os 9 .any (Rows.canonBackSpec.pre6 enc Tryz.prog Tryz.f9 Rows.canonBackRow.domain false) (Rows.canonBackSpec.post enc Tryz.prog Tryz.f9 false true false false):=by
 refine returnsInHanded_of_change (C:=Tryz.checked) Vz started (by kernel_rfl) Tryz.func9
  (ChangeSpec.witness6 (enc:=enc) (C:=Tryz.checked) false ⟨#[], #[.agg #[.string ⟨#[]⟩,.int .i64 0,.int .i64 0,.int .i64 0,.int .i64 0,.slice none 0 0,.slice none 0 0,.slice none 0 0,.slice none 0 0,.slice none 0 0,.int .i64 0,.int .i64 0,.int .i64 0,.slice none 0 0,.slice none 0 0,.slice none 0 0,.slice none 0 0],.agg #[.slice none 0 0],.agg #[.slice none 0 0]],[]⟩ 4 (by kernel_rfl) (by kernel_rfl) (by kernel_rfl) (by kernel_rfl)) ?_
 intro W base args ds gs before hval0 hW _ _;have hval:∀(j:Nat) t v,Tryz.f9.params[j]? =some t->args[j]? =some v->Value.okWide Tryz.prog W .any base t v:=hval0;have hW':=hW;obtain⟨p,q,Ee,hV,rfl,hfz,_⟩:=hW;have hA:DataW.TrodAll enc Tryz.prog W 0 (λ_=>true) true Tryz.f9.params.toList args.toList ds p:=Ee;have hAk:=hA;rw[Tryz.params9]at hA hval;obtain⟨rfl,rfl⟩:=trodVars_none hV;obtain⟨la,ld⟩:=MN hA;obtain⟨d0,d1,d2,rfl⟩:=Yx ld;have hc:Calls Tryz.prog 9 args W (λe w'=>e=.returned (.bool true)/\Below W.heap.size W w'):=by
  refine Ro follows globals Tryz.f9 Tryz.func9 (by kernel_rfl) (by kernel_rfl) (K:=(·∈E8)) ar2 (ts:=[41,24,24]) (ds:=[d0,d1,d2]) (by simp[E8]) (λj t v hj hv=>?_) hA ?_
  .exact hval j t v (by rw[<- hj];simp) (by rw[<- hv];simp)
  .intro w vs hz hlen wm;obtain⟨v0,v1,v2,rfl⟩:=Yx (hlen.trans la);obtain⟨a0,y0,rfl,f0,g0⟩:=(wm 0 41 v0 d0 rfl rfl rfl).Ep hz VC VG;obtain⟨a1,y1,rfl,f1,g1⟩:=(wm 1 24 v1 d1 rfl rfl rfl).Ep hz O8 O9;obtain⟨a2,y2,rfl,f2,g2⟩:=(wm 2 24 v2 d2 rfl rfl rfl).Ep hz O8 O9;refine⟨_,?_,arK (k:=a0) (p:=a1) (q:=a2) g0 g1 g2⟩;intro f hf;rcases bH.1 hf with rfl|hf
   .exact f1 _ (bA.2 rfl)
   rcases bH.1 hf with rfl|hf
   .exact f2 _ (bA.2 rfl)
   exact f0 f hf
 refine hc.mono λe W' ⟨he,hb⟩=>?_;subst he;exact⟨_,rfl,Q4 (pv:=[]) hW' (λ_ _ _=>trodAll_mk1 (shut_bool Tryz.underlying4 _))
  (λsp hsp=>LP VA (λ{t e}=>VB t e) hb (by rw[Tryz.params9];intro t ht;exact ar3 t ((by decide:∀t∈([41,24,24]:ae aD),t∈E8) t ht)) hAk (λp hp=>hsp p (by simpa using hp)))
  (λ_ _=>rfl) (by simp) hb (ok_one (by kernel_rfl) rfl (okWide_bool_mk Tryz.underlying4 _))⟩
theorem asN:Tryz.pinned.checked.prog.funcNamed Rows.canonBackRow.func=some 9:=by kernel_rfl
theorem asO:(Rows.canonBackRow.inPlace==Tryz.pinned.checked.prog.inPlace 9)=true:=by kernel_rfl
theorem asP:(Rows.canonBackRow.unfollowed==Tryz.pinned.checked.prog.unfollowed 9)=true:=by kernel_rfl
theorem asQ:(Rows.canonBackRow.recurses==Tryz.pinned.checked.prog.recurses 9)=true:=by kernel_rfl
theorem asR:(Rows.canonBackRow.named==Tryz.pinned.checked.prog.varsNamed 9)=true:=by kernel_rfl
theorem asS:joinedFacts Tryz.pinned.checked.prog 9 Tryz.f9 Rows.canonBackSpec Rows.canonBackRow=true:=by
 unfold joinedFacts;rw[asO,asP,asQ,asR]
 kernel_rfl
theorem asT:Tryz.f9.isInstance Tryz.pinned.checked.prog Rows.canonBackRow.origin Rows.canonBackRow.targs:=ko (by kernel_rfl)
theorem asU:Tryz.f9.isWrapper Tryz.pinned.checked.prog Rows.canonBackRow.wrapper Rows.canonBackRow.mainSum:=by
 unfold Func.isWrapper;first|(rw[if_pos (by decide+kernel)];kernel_rfl)|(rw[if_neg (by decide+kernel)];exact⟨rfl,rfl⟩)
theorem canonBack_holds:Rows.CanonBackSaid:=
 OpenClaim.holds_of_wide 9 Tryz.f9 rfl rfl rfl rfl rfl rfl rfl ⟨rfl,rfl,rfl,rfl,rfl⟩ rfl rfl rfl rfl rfl asN Tryz.func9 asS asT asU
  (λos started H enc _=>asM os started H enc)
#print axioms canonBack_holds
