/- Part. -/
import Derived.Test.YtgimfpcgbmpkhaaGreatRows
import Derived.Test.YtgimfpcgbmpkhaaGreatLawTT
import Derived.Test.YtgimfpcgbmpkhaaGreatRepT
set_option linter.all false
set_option maxHeartbeats 1000000
namespace Go.Proofs.YtgimfpcgbmpkhaaGreat
open Go.Ideal Go.ChangeShapes Go.WideShapes Go.ChangeAt Go.RowKit Kd Canon
theorem follows:Tryz.prog.follows .mixedOrders=true:=by kernel_rfl
theorem globals:Tryz.prog.globals.size=0:=by kernel_rfl
set_option maxRecDepth 100000 in
theorem auu(os:Os)(started:os.Started)(H:Type)(enc:aM×ah->H):
 ReturnsInHanded {} Tryz.checked os 4 .any (Rows.topImagesSpec.pre6 enc Tryz.prog Tryz.f4 Rows.topImagesRow.domain false) (Rows.topImagesSpec.post enc Tryz.prog Tryz.f4 false true false false):=by
 refine returnsInHanded_of_change (C:=Tryz.checked) atT started (by kernel_rfl) Tryz.func4
  (ChangeSpec.witness6 (enc:=enc) (C:=Tryz.checked) false ⟨#[], #[.agg #[.string ⟨#[]⟩,.int .i64 0,.int .i64 0,.int .i64 0,.int .i64 0,.slice none 0 0,.slice none 0 0,.slice none 0 0,.slice none 0 0,.slice none 0 0,.int .i64 0,.int .i64 0,.int .i64 0,.slice none 0 0,.slice none 0 0,.slice none 0 0,.slice none 0 0],.agg #[.slice none 0 0],.slice none 0 0,.agg #[.slice none 0 0,.slice none 0 0],.int .i64 0],[]⟩ 6 (by kernel_rfl) (by kernel_rfl) (by kernel_rfl) (by kernel_rfl)) ?_
 intro W base args ds gs before hval0 hW _ _;have hval:∀(j:Nat) t v,Tryz.f4.params[j]? =some t->args[j]? =some v->Value.okWide Tryz.prog W .any base t v:=hval0;have hW':=hW;obtain⟨p,q,RZ,hV,rfl,hfz,_⟩:=hW;have hA:DataW.TrodAll enc Tryz.prog W 0 (λ_=>true) true Tryz.f4.params.toList args.toList ds p:=RZ;have hAk:=hA;rw[Tryz.params4]at hA hval;obtain⟨rfl,rfl⟩:=trodVars_none hV;obtain⟨la,ld⟩:=Ze hA;obtain⟨d0,d1,d2,d3,d4,rfl⟩:=aeM ld;have hc:Calls Tryz.prog 4 args W (λe w'=>e=.returned (.bool true)/\Below W.heap.size W w'):=by
  refine ajj follows globals Tryz.f4 Tryz.func4 (by kernel_rfl) (by kernel_rfl) (K:=(·∈Fy)) auo (ts:=[34,37,22,64,3]) (ds:=[d0,d1,d2,d3,d4]) (by simp[Fy]) (λj t v hj hv=>?_) hA ?_
  .exact hval j t v (by rw[<- hj];simp) (by rw[<- hv];simp)
  .intro w vs hz hlen LY;obtain⟨v0,v1,v2,v3,v4,rfl⟩:=aeM (hlen.trans la);obtain⟨a0,y0,rfl,f0,g0⟩:=(LY 0 34 v0 d0 rfl rfl rfl).SX hz atW auk;obtain⟨a1,y1,rfl,f1,g1⟩:=(LY 1 37 v1 d1 rfl rfl rfl).SX hz atX aun;obtain⟨a2,y2,e2,f2,g2⟩:=(LY 2 22 v2 d2 rfl rfl rfl).oneG hz atY DN;obtain rfl:y2=v2:=by injection e2
   obtain⟨a3,y3,rfl,f3,g3⟩:=(LY 3 64 v3 d3 rfl rfl rfl).SX hz auq rSy;obtain⟨a4,y4,e4,f4,g4⟩:=(LY 4 3 v4 d4 rfl rfl rfl).oneG hz atZ nY;obtain rfl:v4=_:=by injection e4 with e4;exact e4.symm
   refine⟨_,?_,atG (k:=a0) (p:=a1) (grid:=a2) (s:=a3.1) (t:=a3.2) (a:=a4) g0 g1 g3.1 g3.2 g2.1⟩;intro f hf;rcases dm.1 hf with rfl|hf
   .exact f1 _ (bR.2 rfl)
   rcases dm.1 hf with rfl|hf
   .exact f2 _ (bR.2 rfl)
   rcases dm.1 hf with rfl|hf
   .exact f3 _ (eX ..)
   rcases dm.1 hf with rfl|hf
   .exact f3 _ (fP _ (bR.2 rfl))
   exact f0 f hf
 refine hc.mono λe W' ⟨he,hb⟩=>?_;subst he;exact⟨_,rfl,aic (pv:=[]) hW' (λ_ _ _=>trodAll_mk1 (shut_bool Tryz.underlying4 _))
  (λsp hsp=>YP atU (λ{t e}=>atV t e) hb (by rw[Tryz.params4];intro t ht;exact aup t ((by decide:∀t∈([34,37,22,64,3]:ae aM),t∈Fy) t ht)) hAk (λp hp=>hsp p (by simpa using hp)))
  (λ_ _=>rfl) (by simp) hb (ok_one (by kernel_rfl) rfl (okWide_bool_mk Tryz.underlying4 _))⟩
theorem auv:Tryz.pinned.checked.prog.funcNamed Rows.topImagesRow.func=some 4:=by kernel_rfl
theorem auw:(Rows.topImagesRow.inPlace==Tryz.pinned.checked.prog.inPlace 4)=true:=by kernel_rfl
theorem auy:(Rows.topImagesRow.unfollowed==Tryz.pinned.checked.prog.unfollowed 4)=true:=by kernel_rfl
theorem auz:(Rows.topImagesRow.recurses==Tryz.pinned.checked.prog.recurses 4)=true:=by kernel_rfl
theorem auA:(Rows.topImagesRow.named==Tryz.pinned.checked.prog.varsNamed 4)=true:=by kernel_rfl
theorem auB:joinedFacts Tryz.pinned.checked.prog 4 Tryz.f4 Rows.topImagesSpec Rows.topImagesRow=true:=by
 unfold joinedFacts;rw[auw,auy,auz,auA]
 kernel_rfl
theorem auC:Tryz.f4.isInstance Tryz.pinned.checked.prog Rows.topImagesRow.origin Rows.topImagesRow.targs:=jI (by kernel_rfl)
theorem auD:Tryz.f4.isWrapper Tryz.pinned.checked.prog Rows.topImagesRow.wrapper Rows.topImagesRow.mainSum:=by
 unfold Func.isWrapper;first|(rw[if_pos (by decide+kernel)];kernel_rfl)|(rw[if_neg (by decide+kernel)];exact⟨rfl,rfl⟩)
theorem topImages_holds:Rows.TopImagesSaid:=
 OpenClaim.holds_of_wide 4 Tryz.f4 rfl rfl rfl rfl rfl rfl rfl ⟨rfl,rfl,rfl,rfl,rfl⟩ rfl rfl rfl rfl rfl auv Tryz.func4 auB auC auD
  (λos started H enc _=>auu os started H enc)
#print axioms topImages_holds
