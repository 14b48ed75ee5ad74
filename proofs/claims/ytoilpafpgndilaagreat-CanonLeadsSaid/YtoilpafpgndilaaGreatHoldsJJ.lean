/- Part. -/
import Derived.Test.YtoilpafpgndilaaGreatRows
import Derived.Test.YtoilpafpgndilaaGreatLawJJ
import Derived.Test.YtoilpafpgndilaaGreatRepJ
set_option linter.all false
set_option maxHeartbeats 1000000
namespace Go.Proofs.YtoilpafpgndilaaGreat
open Go.Ideal Go.ChangeShapes Go.WideShapes Go.ChangeAt Go.RowKit Kd Canon
set_option maxRecDepth 100000 in
theorem asD(os:Os)(started:os.Started)(H:Type)(enc:aD×ah->H):
 ReturnsInHanded {} Tryz.checked os 8 .any (Rows.canonLeadsSpec.pre6 enc Tryz.prog Tryz.f8 Rows.canonLeadsRow.domain false) (Rows.canonLeadsSpec.post enc Tryz.prog Tryz.f8 false true false false):=by
 refine returnsInHanded_of_change (C:=Tryz.checked) Vz started (by kernel_rfl) Tryz.func8
  (ChangeSpec.witness6 (enc:=enc) (C:=Tryz.checked) false ⟨#[], #[.agg #[.string ⟨#[]⟩,.int .i64 0,.int .i64 0,.int .i64 0,.int .i64 0,.slice none 0 0,.slice none 0 0,.slice none 0 0,.slice none 0 0,.slice none 0 0,.int .i64 0,.int .i64 0,.int .i64 0,.slice none 0 0,.slice none 0 0,.slice none 0 0,.slice none 0 0],.agg #[.slice none 0 0],.int .u16 0,.slice none 0 0],[]⟩ 5 (by kernel_rfl) (by kernel_rfl) (by kernel_rfl) (by kernel_rfl)) ?_
 intro W base args ds gs before hval0 hW _ _;have hval:∀(j:Nat) t v,Tryz.f8.params[j]? =some t->args[j]? =some v->Value.okWide Tryz.prog W .any base t v:=hval0;have hW':=hW;obtain⟨p,q,Ee,hV,rfl,hfz,_⟩:=hW;have hA:DataW.TrodAll enc Tryz.prog W 0 (λ_=>true) true Tryz.f8.params.toList args.toList ds p:=Ee;have hAk:=hA;rw[Tryz.params8]at hA hval;obtain⟨rfl,rfl⟩:=trodVars_none hV;obtain⟨la,ld⟩:=MN hA;obtain⟨d0,d1,d2,d3,rfl⟩:=MO ld;have hc:Calls Tryz.prog 8 args W (λe w'=>e=.returned (.bool true)/\Below W.heap.size W w'):=by
  refine Ro follows globals Tryz.f8 Tryz.func8 (by kernel_rfl) (by kernel_rfl) (K:=(·∈zX)) adI (ts:=[41,24,60,57]) (ds:=[d0,d1,d2,d3]) (by simp[zX,asq]) (λj t v hj hv=>?_) hA ?_
  .exact hval j t v (by rw[<- hj];simp) (by rw[<- hv];simp)
  .intro w vs hz hlen wm;obtain⟨v0,v1,v2,v3,rfl⟩:=MO (hlen.trans la);obtain⟨a0,y0,rfl,f0,g0⟩:=(wm 0 41 v0 d0 rfl rfl rfl).Ep hz VC VG;obtain⟨a1,y1,rfl,f1,g1⟩:=(wm 1 24 v1 d1 rfl rfl rfl).Ep hz O8 O9;obtain⟨a2,y2,e2,f2,g2⟩:=(wm 2 60 v2 d2 rfl rfl rfl).oneG hz adK adL;obtain rfl:v2=_:=by injection e2 with e2;exact e2.symm
   obtain⟨a3,y3,e3,f3,g3⟩:=(wm 3 57 v3 d3 rfl rfl rfl).oneG hz adG adH;obtain rfl:y3=v3:=by injection e3
   refine⟨_,?_,arG (k:=a0) (p:=a1) (pick:=a2) (turn:=a3) g0 g1 g2 g3.2⟩;intro f hf;rcases bH.1 hf with rfl|hf
   .exact f1 _ (bA.2 rfl)
   rcases bH.1 hf with rfl|hf
   .exact f3 _ (bA.2 rfl)
   exact f0 f hf
 refine hc.mono λe W' ⟨he,hb⟩=>?_;subst he;exact⟨_,rfl,Q4 (pv:=[]) hW' (λ_ _ _=>trodAll_mk1 (shut_bool Tryz.underlying4 _))
  (λsp hsp=>LP VA (λ{t e}=>VB t e) hb (by rw[Tryz.params8];intro t ht;exact adJ t ((by decide:∀t∈([41,24,60,57]:ae aD),t∈zX) t ht)) hAk (λp hp=>hsp p (by simpa using hp)))
  (λ_ _=>rfl) (by simp) hb (ok_one (by kernel_rfl) rfl (okWide_bool_mk Tryz.underlying4 _))⟩
theorem asE:Tryz.pinned.checked.prog.funcNamed Rows.canonLeadsRow.func=some 8:=by kernel_rfl
theorem asF:(Rows.canonLeadsRow.inPlace==Tryz.pinned.checked.prog.inPlace 8)=true:=by kernel_rfl
theorem asG:(Rows.canonLeadsRow.unfollowed==Tryz.pinned.checked.prog.unfollowed 8)=true:=by kernel_rfl
theorem asH:(Rows.canonLeadsRow.recurses==Tryz.pinned.checked.prog.recurses 8)=true:=by kernel_rfl
theorem asI:(Rows.canonLeadsRow.named==Tryz.pinned.checked.prog.varsNamed 8)=true:=by kernel_rfl
theorem asJ:joinedFacts Tryz.pinned.checked.prog 8 Tryz.f8 Rows.canonLeadsSpec Rows.canonLeadsRow=true:=by
 unfold joinedFacts;rw[asF,asG,asH,asI]
 kernel_rfl
theorem asK:Tryz.f8.isInstance Tryz.pinned.checked.prog Rows.canonLeadsRow.origin Rows.canonLeadsRow.targs:=ko (by kernel_rfl)
theorem asL:Tryz.f8.isWrapper Tryz.pinned.checked.prog Rows.canonLeadsRow.wrapper Rows.canonLeadsRow.mainSum:=by
 unfold Func.isWrapper;first|(rw[if_pos (by decide+kernel)];kernel_rfl)|(rw[if_neg (by decide+kernel)];exact⟨rfl,rfl⟩)
theorem canonLeads_holds:Rows.CanonLeadsSaid:=
 OpenClaim.holds_of_wide 8 Tryz.f8 rfl rfl rfl rfl rfl rfl rfl ⟨rfl,rfl,rfl,rfl,rfl⟩ rfl rfl rfl rfl rfl asE Tryz.func8 asJ asK asL
  (λos started H enc _=>asD os started H enc)
#print axioms canonLeads_holds
