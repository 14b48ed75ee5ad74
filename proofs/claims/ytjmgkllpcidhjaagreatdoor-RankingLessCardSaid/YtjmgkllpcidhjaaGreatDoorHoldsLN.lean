/-
  RankingLess: for every input the law returns true, and its arguments read afterwards as they read before. Its card: the package variables that the row lists start as the program's text lays them.
-/
import Derived.Test.YtjmgkllpcidhjaaGreatDoorTie
import Derived.Test.YtjmgkllpcidhjaaGreatDoorLawLN
import Derived.SevenTiedAt
set_option linter.all false
set_option maxHeartbeats 1000000
namespace Go.Proofs.YtjmgkllpcidhjaaGreatDoor
open Go.Ideal Go.ChangeShapes Go.WideShapes Go.ChangeAt Go.RowKit
set_option maxRecDepth 100000 in
theorem aiI(os:Os)(started:os.Started)(H:Type)(enc:TypeId×Value->H):
 ReturnsInHanded {} Tryz.checked os 9 .any (λw args=>(Rows.rankingLessSpec.pre enc Tryz.prog Tryz.f9 [] false w args/\laidMetH Tryz.prog Rows.rankingLessRow.laid w)/\sizedMet enc Tryz.prog Tryz.f9 (OpenSpec.ofChange Rows.rankingLessSpec) false w args) (Rows.rankingLessSpec.post enc Tryz.prog Tryz.f9 false true false false):=by
 refine returnsInHanded_of_change_and (C:=Tryz.checked) (X:=λw _=>laidMetH Tryz.prog Rows.rankingLessRow.laid w) (λ_ _ _ hh h=>h.of_heap hh) own started (by kernel_rfl) Tryz.func9
  (ChangeSpec.witness_shaped (enc:=enc) (C:=Tryz.checked) (os:=os) (X:=λw _=>laidMetH Tryz.prog Rows.rankingLessRow.laid w) false (World.doorLaid Tryz.prog 4000 os) #[.agg #[.int .i64 0,.int .i64 0,.slice none 0 0,.slice none 0 0,.slice none 0 0,.slice none 0 0],.slice none 0 0,.slice none 0 0,.slice none 0 0] 10 rfl (World.shaped_of_RefB (by kernel_rfl) (by kernel_rfl)) (by kernel_rfl) (by kernel_rfl) (by kernel_rfl) (Be os _)) ?_
 intro W base args ds gs before hval0 hW _ _ hL _;have hval:∀(j:Nat) t v,Tryz.f9.params[j]? =some t->args[j]? =some v->Value.okWide Tryz.prog W .any base t v:=hval0;have hW':=hW;obtain⟨p,q,pW,hV,rfl,hfz,_⟩:=hW;have hA:DataW.TrodAll enc Tryz.prog W 0 (λ_=>true) true Tryz.f9.params.toList args.toList ds p:=pW;have hAk:=hA;rw[Tryz.params9]at hA hval;obtain⟨rfl,rfl⟩:=trodVars_none hV;obtain⟨la,ld⟩:=yc hA;obtain⟨d0,d1,d2,d3,rfl⟩:=FO ld;have hc:Calls Tryz.prog 9 args W (λe w'=>e=.returned (.bool true)/\Below W.heap.size W w'):=by
  refine Am follows Tryz.f9 Tryz.func9 (by kernel_rfl) (by kernel_rfl) (K:=(·∈jN)) A8 (ts:=[25,26,46,46]) (ds:=[d0,d1,d2,d3]) (by simp[jN]) (λj t v hj hv=>?_) hA (name:=uj) (g0:=0) (k:=.u64) (zs:=Lib.pow10Tab) wT (by rw[globals];decide) yN (Bd hL) ?_
  ·exact hval j t v (by rw[<- hj];simp) (by rw[<- hv];simp)
  ·intro w vs hnx hz htab hlen jO;obtain⟨v0,v1,v2,v3,rfl⟩:=FO (hlen.trans la);obtain⟨a0,y0,rfl,f0,g0⟩:=(jO 0 25 v0 d0 rfl rfl rfl).Af hz A9 Bc;obtain⟨a1,y1,e1,f1,g1⟩:=(jO 1 26 v1 d1 rfl rfl rfl).oneG hz Ba Bb;obtain rfl:y1=v1:=by injection e1
   obtain⟨a2,y2,e2,f2,g2⟩:=(jO 2 46 v2 d2 rfl rfl rfl).oneG hz Em En;obtain rfl:y2=v2:=by injection e2
   obtain⟨a3,y3,e3,f3,g3⟩:=(jO 3 46 v3 d3 rfl rfl rfl).oneG hz Em En;obtain rfl:y3=v3:=by injection e3
   refine⟨_,?_,ahy (s:=a0) (l:=a1) (us:=a2) (ws:=a3) g0.w g0.lv g0.cl g0.pz g0.pg (cellsS (f0 (ah ae y0.1 a0.lv) (by simp[dS]))) (cellsS (f0 (ah ae y0.2.1 a0.cl) (by simp[dS]))) (cellsS (f0 (ah fw y0.2.2.1 a0.pg) (by simp[dS]))) (cellsS (f0 (ah ae y0.2.2.2 a0.pz) (by simp[dS]))) g1.1 g2 g3⟩;intro f hf;rcases aU.1 hf with rfl|hf
   ·show 4<=w.h.next
    rw[globals]at hnx;exact hnx
   rcases aU.1 hf with rfl|hf
   ·exact htab
   rcases aU.1 hf with rfl|hf
   ·exact f0 _ (by simp[dS])
   rcases aU.1 hf with rfl|hf
   ·exact f0 _ (by simp[dS])
   rcases aU.1 hf with rfl|hf
   ·exact f0 _ (by simp[dS])
   rcases aU.1 hf with rfl|hf
   ·exact f0 _ (by simp[dS])
   rcases aU.1 hf with rfl|hf
   ·exact f1 _ (di.2 rfl)
   rcases aU.1 hf with rfl|hf
   ·exact f2 _ (di.2 rfl)
   rcases aU.1 hf with rfl|hf
   ·exact f3 _ (di.2 rfl)
   cases hf
 refine hc.mono λe W' ⟨he,hb⟩=>?_;subst he;exact⟨_,rfl,zZ (pv:=[]) hW' (λ_ _ _=>trodAll_mk1 (shut_bool Tryz.underlying4 _))
  (λsp hsp=>x9 kids (λ{t e}=>full t e) hb (by rw[Tryz.params9];intro t ht;exact small t ((by decide:∀t∈([25,26,46,46]:List TypeId),t∈jN) t ht)) hAk (λp hp=>hsp p (by simpa using hp)))
  (λ_ _=>rfl) (by simp) hb (ok_one (by kernel_rfl) rfl (okWide_bool_mk Tryz.underlying4 _))⟩
theorem VX:Tryz.pinned.checked.prog.funcNamed Rows.rankingLessRow.func=some 9:=by kernel_rfl
theorem aiJ:(Rows.rankingLessRow.inPlace==Tryz.pinned.checked.prog.inPlace 9)=true:=by kernel_rfl
theorem aiK:(Rows.rankingLessRow.unfollowed==Tryz.pinned.checked.prog.unfollowed 9)=true:=by kernel_rfl
theorem aiL:(Rows.rankingLessRow.recurses==Tryz.pinned.checked.prog.recurses 9)=true:=by kernel_rfl
theorem aiM:(Rows.rankingLessRow.named==Tryz.pinned.checked.prog.varsNamed 9)=true:=by kernel_rfl
theorem aiN:joinedFacts Tryz.pinned.checked.prog 9 Tryz.f9 Rows.rankingLessSpec Rows.rankingLessRow=true:=by
 unfold joinedFacts;rw[aiJ,aiK,aiL,aiM]
 kernel_rfl
theorem aiO:Tryz.f9.isInstance Tryz.pinned.checked.prog Rows.rankingLessRow.origin Rows.rankingLessRow.targs:=nX (by kernel_rfl)
theorem aiP:Tryz.f9.isWrapper Tryz.pinned.checked.prog Rows.rankingLessRow.wrapper Rows.rankingLessRow.mainSum:=by
 unfold Func.isWrapper;first|(rw[if_pos (by decide+kernel)];kernel_rfl)|(rw[if_neg (by decide+kernel)];exact⟨rfl,rfl⟩)
theorem aiQ:Rows.RankingLessSaid:=
 OpenClaim.holds_of_wide 9 Tryz.f9 rfl rfl rfl rfl rfl rfl rfl ⟨rfl,rfl,rfl,rfl,rfl⟩ rfl rfl rfl rfl rfl VX Tryz.func9 aiN aiO aiP
  (λos started H enc _=>aiI os started H enc)
theorem aiR:Rows.rankingLessRow.wfByText (OpenSpec.ofChange Rows.rankingLessSpec)=true:=by kernel_rfl
theorem aiS:Tryz.pinned.checked.prog.mainIs=some (true,("ac27d6285d9f4eda7933cc8d8430f154070a3baaaf59ed9fd39eff99f9697c61" :String).toList):=by kernel_rfl
theorem aiT:true=Tryz.pinned.checked.prog.looks []:=by kernel_rfl
theorem aiU:([25,26,46,46].all λu=>!Tryz.prog.wantsStandIn u)=true:=by kernel_rfl
theorem aiV:false=Rows.rankingLessRow.goesBy Tryz.pinned.checked.prog:=by kernel_rfl
theorem rankingLess_holds:Rows.RankingLessCardSaid:=
 Claim7.holds_tied_plain_at .later [] [.data,.data,.data] true (true, "ac27d6285d9f4eda7933cc8d8430f154070a3baaaf59ed9fd39eff99f9697c61") true
  aiQ (λ_ h=>by cases h) aiR (λ_ h=>by cases h) rankingLess_row_tie rfl ⟨rfl,rfl⟩ aiS rfl
  (λf fn hf hfn=>by
    obtain rfl:f=9:=Option.some.inj (VX.symm.trans hf)|>.symm;obtain rfl:fn=Tryz.f9:=(Option.some.inj (Tryz.func9.symm.trans hfn)).symm;exact⟨aiT,λj t ht=>by
     rw[Tryz.params9]at ht;have hm:t∈[25,26,46,46]:=by simpa using Bn ht
     exact(show Tryz.prog.wantsStandIn t=false by simpa using iB.1 aiU t hm)⟩)
  aiV
#print axioms rankingLess_holds
