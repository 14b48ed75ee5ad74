/- Part. -/
import Derived.Test.YtgimfpcgbmpkhaaGreatRows
import Derived.Test.YtgimfpcgbmpkhaaGreatLawVV
import Derived.Test.YtgimfpcgbmpkhaaGreatRepV
set_option linter.all false
set_option maxHeartbeats 1000000
namespace Go.Proofs.YtgimfpcgbmpkhaaGreat
open Go.Ideal Go.ChangeShapes Go.WideShapes Go.ChangeAt Go.RowKit Kd Canon
theorem follows:Tryz.prog.follows .mixedOrders=true:=by kernel_rfl
theorem globals:Tryz.prog.globals.size=0:=by kernel_rfl
set_option maxRecDepth 100000 in
theorem aAS(os:Os)(started:os.Started)(H:Type)(enc:aM×ah->H):
 ReturnsInHanded {} Tryz.checked os 3 .any (Rows.topVerdictSpec.pre6 enc Tryz.prog Tryz.f3 Rows.topVerdictRow.domain false) (Rows.topVerdictSpec.post enc Tryz.prog Tryz.f3 false true false false):=by
 refine returnsInHanded_of_change (C:=Tryz.checked) atT started (by kernel_rfl) Tryz.func3
  (ChangeSpec.witness6 (enc:=enc) (C:=Tryz.checked) false ⟨#[], #[.agg #[.string ⟨#[]⟩,.int .i64 0,.int .i64 0,.int .i64 0,.int .i64 0,.slice none 0 0,.slice none 0 0,.slice none 0 0,.slice none 0 0,.slice none 0 0,.int .i64 0,.int .i64 0,.int .i64 0,.slice none 0 0,.slice none 0 0,.slice none 0 0,.slice none 0 0],.agg #[.slice none 0 0],.slice none 0 0,.int .i64 0],[]⟩ 5 (by kernel_rfl) (by kernel_rfl) (by kernel_rfl) (by kernel_rfl)) ?_
 intro W base args ds gs before hval0 hW _ _;have hval:∀(j:Nat) t v,Tryz.f3.params[j]? =some t->args[j]? =some v->Value.okWide Tryz.prog W .any base t v:=hval0;have hW':=hW;obtain⟨p,q,RZ,hV,rfl,hfz,_⟩:=hW;have hA:DataW.TrodAll enc Tryz.prog W 0 (λ_=>true) true Tryz.f3.params.toList args.toList ds p:=RZ;have hAk:=hA;rw[Tryz.params3]at hA hval;obtain⟨rfl,rfl⟩:=trodVars_none hV;obtain⟨la,ld⟩:=Ze hA;obtain⟨d0,d1,d2,d3,rfl⟩:=awc ld;have hc:Calls Tryz.prog 3 args W (λe w'=>e=.returned (.bool true)/\Below W.heap.size W w'):=by
  refine ajj follows globals Tryz.f3 Tryz.func3 (by kernel_rfl) (by kernel_rfl) (K:=(·∈Fy)) auo (ts:=[34,37,22,3]) (ds:=[d0,d1,d2,d3]) (by simp[Fy]) (λj t v hj hv=>?_) hA ?_
  .exact hval j t v (by rw[<- hj];simp) (by rw[<- hv];simp)
  .intro w vs hz hlen LY;obtain⟨v0,v1,v2,v3,rfl⟩:=awc (hlen.trans la);obtain⟨a0,y0,rfl,f0,g0⟩:=(LY 0 34 v0 d0 rfl rfl rfl).SX hz atW auk;obtain⟨a1,y1,rfl,f1,g1⟩:=(LY 1 37 v1 d1 rfl rfl rfl).SX hz atX aun;obtain⟨a2,y2,e2,f2,g2⟩:=(LY 2 22 v2 d2 rfl rfl rfl).oneG hz atY DN;obtain rfl:y2=v2:=by injection e2
   obtain⟨a3,y3,e3,f3,g3⟩:=(LY 3 3 v3 d3 rfl rfl rfl).oneG hz atZ nY;obtain rfl:v3=_:=by injection e3 with e3;exact e3.symm
   refine⟨_,?_,aAQ (k:=a0) (p:=a1) (grid:=a2) (fuel:=a3) g0 g1 g2.1⟩;intro f hf;rcases dm.1 hf with rfl|hf
   .exact f1 _ (eG.2 rfl)
   rcases dm.1 hf with rfl|hf
   .exact f2 _ (eG.2 rfl)
   exact f0 f hf
 refine hc.mono λe W' ⟨he,hb⟩=>?_;subst he;exact⟨_,rfl,aic (pv:=[]) hW' (λ_ _ _=>trodAll_mk1 (shut_bool Tryz.underlying4 _))
  (λsp hsp=>YP atU (λ{t e}=>atV t e) hb (by rw[Tryz.params3];intro t ht;exact aup t ((by decide:∀t∈([34,37,22,3]:ae aM),t∈Fy) t ht)) hAk (λp hp=>hsp p (by simpa using hp)))
  (λ_ _=>rfl) (by simp) hb (ok_one (by kernel_rfl) rfl (okWide_bool_mk Tryz.underlying4 _))⟩
theorem aAT:Tryz.pinned.checked.prog.funcNamed Rows.topVerdictRow.func=some 3:=by kernel_rfl
theorem aAU:(Rows.topVerdictRow.inPlace==Tryz.pinned.checked.prog.inPlace 3)=true:=by kernel_rfl
theorem aAV:(Rows.topVerdictRow.unfollowed==Tryz.pinned.checked.prog.unfollowed 3)=true:=by kernel_rfl
theorem aAW:(Rows.topVerdictRow.recurses==Tryz.pinned.checked.prog.recurses 3)=true:=by kernel_rfl
theorem aAX:(Rows.topVerdictRow.named==Tryz.pinned.checked.prog.varsNamed 3)=true:=by kernel_rfl
theorem aAY:joinedFacts Tryz.pinned.checked.prog 3 Tryz.f3 Rows.topVerdictSpec Rows.topVerdictRow=true:=by
 unfold joinedFacts;rw[aAU,aAV,aAW,aAX]
 kernel_rfl
theorem aAZ:Tryz.f3.isInstance Tryz.pinned.checked.prog Rows.topVerdictRow.origin Rows.topVerdictRow.targs:=jI (by kernel_rfl)
theorem aA0:Tryz.f3.isWrapper Tryz.pinned.checked.prog Rows.topVerdictRow.wrapper Rows.topVerdictRow.mainSum:=by
 unfold Func.isWrapper;first|(rw[if_pos (by decide+kernel)];kernel_rfl)|(rw[if_neg (by decide+kernel)];exact⟨rfl,rfl⟩)
theorem topVerdict_holds:Rows.TopVerdictSaid:=
 OpenClaim.holds_of_wide 3 Tryz.f3 rfl rfl rfl rfl rfl rfl rfl ⟨rfl,rfl,rfl,rfl,rfl⟩ rfl rfl rfl rfl rfl aAT Tryz.func3 aAY aAZ aA0
  (λos started H enc _=>aAS os started H enc)
#print axioms topVerdict_holds
