/- Part. -/
import Derived.Test.YtoilpafpgndilaaGreatRows
import Derived.Test.YtoilpafpgndilaaGreatLawIJ
import Derived.Test.YtoilpafpgndilaaGreatRepJ
set_option linter.all false
set_option maxHeartbeats 1000000
namespace Go.Proofs.YtoilpafpgndilaaGreat
open Go.Ideal Go.ChangeShapes Go.WideShapes Go.ChangeAt Go.RowKit Kd Canon
set_option maxRecDepth 100000 in
theorem asu(os:Os)(started:os.Started)(H:Type)(enc:aD×ah->H):
 ReturnsInHanded {} Tryz.checked os 7 .any (Rows.canonImagesSpec.pre6 enc Tryz.prog Tryz.f7 Rows.canonImagesRow.domain false) (Rows.canonImagesSpec.post enc Tryz.prog Tryz.f7 false true false false):=by
 refine returnsInHanded_of_change (C:=Tryz.checked) Vz started (by kernel_rfl) Tryz.func7
  (ChangeSpec.witness6 (enc:=enc) (C:=Tryz.checked) false ⟨#[], #[.agg #[.string ⟨#[]⟩,.int .i64 0,.int .i64 0,.int .i64 0,.int .i64 0,.slice none 0 0,.slice none 0 0,.slice none 0 0,.slice none 0 0,.slice none 0 0,.int .i64 0,.int .i64 0,.int .i64 0,.slice none 0 0,.slice none 0 0,.slice none 0 0,.slice none 0 0],.agg #[.slice none 0 0],.int .u16 0,.slice none 0 0],[]⟩ 5 (by kernel_rfl) (by kernel_rfl) (by kernel_rfl) (by kernel_rfl)) ?_
 intro W base args ds gs before hval0 hW _ _;have hval:∀(j:Nat) t v,Tryz.f7.params[j]? =some t->args[j]? =some v->Value.okWide Tryz.prog W .any base t v:=hval0;have hW':=hW;obtain⟨p,q,Ee,hV,rfl,hfz,_⟩:=hW;have hA:DataW.TrodAll enc Tryz.prog W 0 (λ_=>true) true Tryz.f7.params.toList args.toList ds p:=Ee;have hAk:=hA;rw[Tryz.params7]at hA hval;obtain⟨rfl,rfl⟩:=trodVars_none hV;obtain⟨la,ld⟩:=MN hA;obtain⟨d0,d1,d2,d3,rfl⟩:=MO ld;have hc:Calls Tryz.prog 7 args W (λe w'=>e=.returned (.bool true)/\Below W.heap.size W w'):=by
  refine Ro follows globals Tryz.f7 Tryz.func7 (by kernel_rfl) (by kernel_rfl) (K:=(·∈zX)) adI (ts:=[41,24,60,57]) (ds:=[d0,d1,d2,d3]) (by simp[zX,asq]) (λj t v hj hv=>?_) hA ?_
  .exact hval j t v (by rw[<- hj];simp) (by rw[<- hv];simp)
  .intro w vs hz hlen wm;obtain⟨v0,v1,v2,v3,rfl⟩:=MO (hlen.trans la);obtain⟨a0,y0,rfl,f0,g0⟩:=(wm 0 41 v0 d0 rfl rfl rfl).Ep hz VC VG;obtain⟨a1,y1,rfl,f1,g1⟩:=(wm 1 24 v1 d1 rfl rfl rfl).Ep hz O8 O9;obtain⟨a2,y2,e2,f2,g2⟩:=(wm 2 60 v2 d2 rfl rfl rfl).oneG hz adK adL;obtain rfl:v2=_:=by injection e2 with e2;exact e2.symm
   obtain⟨a3,y3,e3,f3,g3⟩:=(wm 3 57 v3 d3 rfl rfl rfl).oneG hz adG adH;obtain rfl:y3=v3:=by injection e3
   refine⟨_,?_,arE (k:=a0) (p:=a1) (pick:=a2) (turn:=a3) g0 g1 g2 g3.2⟩;intro f hf;rcases bH.1 hf with rfl|hf
   .exact f1 _ (bA.2 rfl)
   rcases bH.1 hf with rfl|hf
   .exact f3 _ (bA.2 rfl)
   exact f0 f hf
 refine hc.mono λe W' ⟨he,hb⟩=>?_;subst he;exact⟨_,rfl,Q4 (pv:=[]) hW' (λ_ _ _=>trodAll_mk1 (shut_bool Tryz.underlying4 _))
  (λsp hsp=>LP VA (λ{t e}=>VB t e) hb (by rw[Tryz.params7];intro t ht;exact adJ t ((by decide:∀t∈([41,24,60,57]:ae aD),t∈zX) t ht)) hAk (λp hp=>hsp p (by simpa using hp)))
  (λ_ _=>rfl) (by simp) hb (ok_one (by kernel_rfl) rfl (okWide_bool_mk Tryz.underlying4 _))⟩
theorem asv:Tryz.pinned.checked.prog.funcNamed Rows.canonImagesRow.func=some 7:=by kernel_rfl
theorem asw:(Rows.canonImagesRow.inPlace==Tryz.pinned.checked.prog.inPlace 7)=true:=by kernel_rfl
theorem asx:(Rows.canonImagesRow.unfollowed==Tryz.pinned.checked.prog.unfollowed 7)=true:=by kernel_rfl
theorem asy:(Rows.canonImagesRow.recurses==Tryz.pinned.checked.prog.recurses 7)=true:=by kernel_rfl
theorem asz:(Rows.canonImagesRow.named==Tryz.pinned.checked.prog.varsNamed 7)=true:=by kernel_rfl
theorem asA:joinedFacts Tryz.pinned.checked.prog 7 Tryz.f7 Rows.canonImagesSpec Rows.canonImagesRow=true:=by
 unfold joinedFacts;rw[asw,asx,asy,asz]
 kernel_rfl
theorem asB:Tryz.f7.isInstance Tryz.pinned.checked.prog Rows.canonImagesRow.origin Rows.canonImagesRow.targs:=ko (by kernel_rfl)
theorem asC:Tryz.f7.isWrapper Tryz.pinned.checked.prog Rows.canonImagesRow.wrapper Rows.canonImagesRow.mainSum:=by
 unfold Func.isWrapper;first|(rw[if_pos (by decide+kernel)];kernel_rfl)|(rw[if_neg (by decide+kernel)];exact⟨rfl,rfl⟩)
theorem canonImages_holds:Rows.CanonImagesSaid:=
 OpenClaim.holds_of_wide 7 Tryz.f7 rfl rfl rfl rfl rfl rfl rfl ⟨rfl,rfl,rfl,rfl,rfl⟩ rfl rfl rfl rfl rfl asv Tryz.func7 asA asB asC
  (λos started H enc _=>asu os started H enc)
#print axioms canonImages_holds
