/-
  RankingTight: for every input the law returns true, and its arguments read afterwards as they read before. Its card: the package variables that the row lists start as the program's text lays them.
-/
import Derived.Test.YtjmgkllpcidhjaaGreatDoorTie
import Derived.Test.YtjmgkllpcidhjaaGreatDoorLawTN
import Derived.SevenTiedAt
set_option linter.all false
set_option maxHeartbeats 1000000
namespace Go.Proofs.YtjmgkllpcidhjaaGreatDoor
open Go.Ideal Go.ChangeShapes Go.WideShapes Go.ChangeAt Go.RowKit
set_option maxRecDepth 100000 in
theorem aif(os:Os)(started:os.Started)(H:Type)(enc:TypeId×Value->H):
 ReturnsInHanded {} Tryz.checked os 7 .any (λw args=>(Rows.rankingTightSpec.pre enc Tryz.prog Tryz.f7 [] false w args/\laidMetH Tryz.prog Rows.rankingTightRow.laid w)/\sizedMet enc Tryz.prog Tryz.f7 (OpenSpec.ofChange Rows.rankingTightSpec) false w args) (Rows.rankingTightSpec.post enc Tryz.prog Tryz.f7 false true false false):=by
 refine returnsInHanded_of_change_and (C:=Tryz.checked) (X:=λw _=>laidMetH Tryz.prog Rows.rankingTightRow.laid w) (λ_ _ _ hh h=>h.of_heap hh) own started (by kernel_rfl) Tryz.func7
  (ChangeSpec.witness_shaped (enc:=enc) (C:=Tryz.checked) (os:=os) (X:=λw _=>laidMetH Tryz.prog Rows.rankingTightRow.laid w) false (World.doorLaid Tryz.prog 4000 os) #[.agg #[.int .i64 0,.int .i64 0,.slice none 0 0,.slice none 0 0,.slice none 0 0,.slice none 0 0],.slice none 0 0] 10 rfl (World.shaped_of_RefB (by kernel_rfl) (by kernel_rfl)) (by kernel_rfl) (by kernel_rfl) (by kernel_rfl) (Be os _)) ?_
 intro W base args ds gs before hval0 hW _ _ hL _;have hval:∀(j:Nat) t v,Tryz.f7.params[j]? =some t->args[j]? =some v->Value.okWide Tryz.prog W .any base t v:=hval0;have hW':=hW;obtain⟨p,q,pW,hV,rfl,hfz,_⟩:=hW;have hA:DataW.TrodAll enc Tryz.prog W 0 (λ_=>true) true Tryz.f7.params.toList args.toList ds p:=pW;have hAk:=hA;rw[Tryz.params7]at hA hval;obtain⟨rfl,rfl⟩:=trodVars_none hV;obtain⟨la,ld⟩:=yc hA;obtain⟨d0,d1,rfl⟩:=Ae ld;have hc:Calls Tryz.prog 7 args W (λe w'=>e=.returned (.bool true)/\Below W.heap.size W w'):=by
  refine Am follows Tryz.f7 Tryz.func7 (by kernel_rfl) (by kernel_rfl) (K:=(·∈jN)) A8 (ts:=[25,26]) (ds:=[d0,d1]) (by simp[jN]) (λj t v hj hv=>?_) hA (name:=uj) (g0:=0) (k:=.u64) (zs:=Lib.pow10Tab) wT (by rw[globals];decide) yN (Bd hL) ?_
  ·exact hval j t v (by rw[<- hj];simp) (by rw[<- hv];simp)
  ·intro w vs hnx hz htab hlen jO;obtain⟨v0,v1,rfl⟩:=Ae (hlen.trans la);obtain⟨a0,y0,rfl,f0,g0⟩:=(jO 0 25 v0 d0 rfl rfl rfl).Af hz A9 Bc;obtain⟨a1,y1,e1,f1,g1⟩:=(jO 1 26 v1 d1 rfl rfl rfl).oneG hz Ba Bb;obtain rfl:y1=v1:=by injection e1
   refine⟨_,?_,ahq (s:=a0) (l:=a1) g0.w g0.lv g0.cl g0.pz g0.pg (cellsS (f0 (ah ae y0.1 a0.lv) (by simp[dS]))) (cellsS (f0 (ah ae y0.2.1 a0.cl) (by simp[dS]))) (cellsS (f0 (ah fw y0.2.2.1 a0.pg) (by simp[dS]))) (cellsS (f0 (ah ae y0.2.2.2 a0.pz) (by simp[dS])))⟩;intro f hf;rcases aU.1 hf with rfl|hf
   ·show 4<=w.h.next
    rw[globals]at hnx;exact hnx
   rcases aU.1 hf with rfl|hf
   ·exact htab
   rcases aU.1 hf with rfl|hf
   ·exact f0 _ (by simp[dS])
   rcases aU.1 hf with rfl|hf
   ·exact f0 _ (by simp[dS])
   rcases aU.1 hf with rfl|hf
   ·exact f0 _ (by simp[dS])
   rcases aU.1 hf with rfl|hf
   ·exact f0 _ (by simp[dS])
   rcases aU.1 hf with rfl|hf
   ·exact f1 _ (di.2 rfl)
   cases hf
 refine hc.mono λe W' ⟨he,hb⟩=>?_;subst he;exact⟨_,rfl,zZ (pv:=[]) hW' (λ_ _ _=>trodAll_mk1 (shut_bool Tryz.underlying4 _))
  (λsp hsp=>x9 kids (λ{t e}=>full t e) hb (by rw[Tryz.params7];intro t ht;exact small t ((by decide:∀t∈([25,26]:List TypeId),t∈jN) t ht)) hAk (λp hp=>hsp p (by simpa using hp)))
  (λ_ _=>rfl) (by simp) hb (ok_one (by kernel_rfl) rfl (okWide_bool_mk Tryz.underlying4 _))⟩
theorem VV:Tryz.pinned.checked.prog.funcNamed Rows.rankingTightRow.func=some 7:=by kernel_rfl
theorem aih:(Rows.rankingTightRow.inPlace==Tryz.pinned.checked.prog.inPlace 7)=true:=by kernel_rfl
theorem aii:(Rows.rankingTightRow.unfollowed==Tryz.pinned.checked.prog.unfollowed 7)=true:=by kernel_rfl
theorem aij:(Rows.rankingTightRow.recurses==Tryz.pinned.checked.prog.recurses 7)=true:=by kernel_rfl
theorem aik:(Rows.rankingTightRow.named==Tryz.pinned.checked.prog.varsNamed 7)=true:=by kernel_rfl
theorem ail:joinedFacts Tryz.pinned.checked.prog 7 Tryz.f7 Rows.rankingTightSpec Rows.rankingTightRow=true:=by
 unfold joinedFacts;rw[aih,aii,aij,aik]
 kernel_rfl
theorem aim:Tryz.f7.isInstance Tryz.pinned.checked.prog Rows.rankingTightRow.origin Rows.rankingTightRow.targs:=nX (by kernel_rfl)
theorem ain:Tryz.f7.isWrapper Tryz.pinned.checked.prog Rows.rankingTightRow.wrapper Rows.rankingTightRow.mainSum:=by
 unfold Func.isWrapper;first|(rw[if_pos (by decide+kernel)];kernel_rfl)|(rw[if_neg (by decide+kernel)];exact⟨rfl,rfl⟩)
theorem aio:Rows.RankingTightSaid:=
 OpenClaim.holds_of_wide 7 Tryz.f7 rfl rfl rfl rfl rfl rfl rfl ⟨rfl,rfl,rfl,rfl,rfl⟩ rfl rfl rfl rfl rfl VV Tryz.func7 ail aim ain
  (λos started H enc _=>aif os started H enc)
theorem aip:Rows.rankingTightRow.wfByText (OpenSpec.ofChange Rows.rankingTightSpec)=true:=by kernel_rfl
theorem aiq:Tryz.pinned.checked.prog.mainIs=some (true,("ac27d6285d9f4eda7933cc8d8430f154070a3baaaf59ed9fd39eff99f9697c61" :String).toList):=by kernel_rfl
theorem air:true=Tryz.pinned.checked.prog.looks []:=by kernel_rfl
theorem ais:([25,26].all λu=>!Tryz.prog.wantsStandIn u)=true:=by kernel_rfl
theorem ait:false=Rows.rankingTightRow.goesBy Tryz.pinned.checked.prog:=by kernel_rfl
theorem rankingTight_holds:Rows.RankingTightCardSaid:=
 Claim7.holds_tied_plain_at .later [] [.data,.data,.data] true (true, "ac27d6285d9f4eda7933cc8d8430f154070a3baaaf59ed9fd39eff99f9697c61") true
  aio (λ_ h=>by cases h) aip (λ_ h=>by cases h) rankingTight_row_tie rfl ⟨rfl,rfl⟩ aiq rfl
  (λf fn hf hfn=>by
    obtain rfl:f=7:=Option.some.inj (VV.symm.trans hf)|>.symm;obtain rfl:fn=Tryz.f7:=(Option.some.inj (Tryz.func7.symm.trans hfn)).symm;exact⟨air,λj t ht=>by
     rw[Tryz.params7]at ht;have hm:t∈[25,26]:=by simpa using Bn ht
     exact(show Tryz.prog.wantsStandIn t=false by simpa using iB.1 ais t hm)⟩)
  ait
#print axioms rankingTight_holds
