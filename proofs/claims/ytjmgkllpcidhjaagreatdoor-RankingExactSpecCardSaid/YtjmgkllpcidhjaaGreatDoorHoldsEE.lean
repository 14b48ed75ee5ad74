/-
  RankingExactSpec: for every input the law returns true, and its arguments read afterwards as they read before. Its card: the package variables that the row lists start as the program's text lays them.
-/
import Derived.Test.YtjmgkllpcidhjaaGreatDoorTie
import Derived.Test.YtjmgkllpcidhjaaGreatDoorRepE
import Derived.SevenTiedAt
set_option linter.all false
set_option maxHeartbeats 1000000
namespace Go.Proofs.YtjmgkllpcidhjaaGreatDoor
open Go.Ideal Go.ChangeShapes Go.WideShapes Go.ChangeAt Go.RowKit
set_option maxRecDepth 100000 in
theorem Xd(os:Os)(started:os.Started)(H:Type)(enc:TypeId×Value->H):
 ReturnsInHanded {} Tryz.checked os 3 .any (λw args=>(Rows.rankingExactSpecSpec.pre enc Tryz.prog Tryz.f3 [] false w args/\laidMetH Tryz.prog Rows.rankingExactSpecRow.laid w)/\sizedMet enc Tryz.prog Tryz.f3 (OpenSpec.ofChange Rows.rankingExactSpecSpec) false w args) (Rows.rankingExactSpecSpec.post enc Tryz.prog Tryz.f3 false true false false):=by
 refine returnsInHanded_of_change_and (C:=Tryz.checked) (X:=λw _=>laidMetH Tryz.prog Rows.rankingExactSpecRow.laid w) (λ_ _ _ hh h=>h.of_heap hh) own started (by kernel_rfl) Tryz.func3
  (ChangeSpec.witness_shaped (enc:=enc) (C:=Tryz.checked) (os:=os) (X:=λw _=>laidMetH Tryz.prog Rows.rankingExactSpecRow.laid w) false (World.doorLaid Tryz.prog 4000 os) #[.agg #[.int .i64 0,.int .i64 0,.slice none 0 0,.slice none 0 0,.slice none 0 0,.slice none 0 0],.slice none 0 0,.slice none 0 0,.slice none 0 0] 10 rfl (World.shaped_of_RefB (by kernel_rfl) (by kernel_rfl)) (by kernel_rfl) (by kernel_rfl) (by kernel_rfl) (Xc os _)) ?_
 intro W base args ds gs before hval0 hW _ _ hL _;have hval:∀(j:Nat) t v,Tryz.f3.params[j]? =some t->args[j]? =some v->Value.okWide Tryz.prog W .any base t v:=hval0;have hW':=hW;obtain⟨p,q,Df,hV,rfl,hfz,_⟩:=hW;have hA:DataW.TrodAll enc Tryz.prog W 0 (λ_=>true) true Tryz.f3.params.toList args.toList ds p:=Df;have hAk:=hA;rw[Tryz.params3]at hA hval;obtain⟨rfl,rfl⟩:=trodVars_none hV;obtain⟨la,ld⟩:=Jk hA;obtain⟨d0,d1,d2,d3,rfl⟩:=Jl ld;have hc:Calls Tryz.prog 3 args W (λe w'=>e=.returned (.bool true)/\Below W.heap.size W w'):=by
  refine Tv follows Tryz.f3 Tryz.func3 (by kernel_rfl) (by kernel_rfl) (K:=(·∈tY)) WO (ts:=[25,26,22,22]) (ds:=[d0,d1,d2,d3]) (by simp[tY]) (λj t v hj hv=>?_) hA (name:=yX) (g0:=0) (k:=.u64) (zs:=Lib.pow10Tab) Fq (by rw[globals];decide) Ko (Xb hL) ?_
  ·exact hval j t v (by rw[<- hj];simp) (by rw[<- hv];simp)
  ·intro w vs hnx hz htab hlen Bv;obtain⟨v0,v1,v2,v3,rfl⟩:=Jl (hlen.trans la);obtain⟨a0,y0,rfl,f0,g0⟩:=(Bv 0 25 v0 d0 rfl rfl rfl).R4 hz WQ Xa;obtain⟨a1,y1,e1,f1,g1⟩:=(Bv 1 26 v1 d1 rfl rfl rfl).oneG hz WS WZ;obtain rfl:y1=v1:=by injection e1
   obtain⟨a2,y2,e2,f2,g2⟩:=(Bv 2 22 v2 d2 rfl rfl rfl).oneG hz Mf yV;obtain rfl:y2=v2:=by injection e2
   obtain⟨a3,y3,e3,f3,g3⟩:=(Bv 3 22 v3 d3 rfl rfl rfl).oneG hz Mf yV;obtain rfl:y3=v3:=by injection e3
   refine⟨_,?_,WN (s:=a0) (l:=a1) (ts:=a2) (xs:=a3) g0.w g0.lv g0.cl g0.pz g0.pg (cellsS (f0 (ah au y0.1 a0.lv) (by simp[ql]))) (cellsS (f0 (ah au y0.2.1 a0.cl) (by simp[ql]))) (cellsS (f0 (ah fV y0.2.2.1 a0.pg) (by simp[ql]))) (cellsS (f0 (ah au y0.2.2.2 a0.pz) (by simp[ql])))⟩;intro f hf;rcases bz.1 hf with rfl|hf
   ·show 4<=w.h.next
    rw[globals]at hnx;exact hnx
   rcases bz.1 hf with rfl|hf
   ·exact htab
   rcases bz.1 hf with rfl|hf
   ·exact f0 _ (by simp[ql])
   rcases bz.1 hf with rfl|hf
   ·exact f0 _ (by simp[ql])
   rcases bz.1 hf with rfl|hf
   ·exact f0 _ (by simp[ql])
   rcases bz.1 hf with rfl|hf
   ·exact f0 _ (by simp[ql])
   rcases bz.1 hf with rfl|hf
   ·exact f1 _ (dH.2 rfl)
   rcases bz.1 hf with rfl|hf
   ·exact f2 _ (dH.2 rfl)
   rcases bz.1 hf with rfl|hf
   ·exact f3 _ (dH.2 rfl)
   cases hf
 refine hc.mono λe W' ⟨he,hb⟩=>?_;subst he;exact⟨_,rfl,Qz (pv:=[]) hW' (λ_ _ _=>trodAll_mk1 (shut_bool Tryz.underlying4 _))
  (λsp hsp=>IV kids (λ{t e}=>full t e) hb (by rw[Tryz.params3];intro t ht;exact small t ((by decide:∀t∈([25,26,22,22]:List TypeId),t∈tY) t ht)) hAk (λp hp=>hsp p (by simpa using hp)))
  (λ_ _=>rfl) (by simp) hb (ok_one (by kernel_rfl) rfl (okWide_bool_mk Tryz.underlying4 _))⟩
theorem Mg:Tryz.pinned.checked.prog.funcNamed Rows.rankingExactSpecRow.func=some 3:=by kernel_rfl
theorem Xe:(Rows.rankingExactSpecRow.inPlace==Tryz.pinned.checked.prog.inPlace 3)=true:=by kernel_rfl
theorem Xf:(Rows.rankingExactSpecRow.unfollowed==Tryz.pinned.checked.prog.unfollowed 3)=true:=by kernel_rfl
theorem Xg:(Rows.rankingExactSpecRow.recurses==Tryz.pinned.checked.prog.recurses 3)=true:=by kernel_rfl
theorem Xh:(Rows.rankingExactSpecRow.named==Tryz.pinned.checked.prog.varsNamed 3)=true:=by kernel_rfl
theorem Xi:joinedFacts Tryz.pinned.checked.prog 3 Tryz.f3 Rows.rankingExactSpecSpec Rows.rankingExactSpecRow=true:=by
 unfold joinedFacts;rw[Xe,Xf,Xg,Xh]
 kernel_rfl
theorem Xj:Tryz.f3.isInstance Tryz.pinned.checked.prog Rows.rankingExactSpecRow.origin Rows.rankingExactSpecRow.targs:=BI (by kernel_rfl)
theorem Xk:Tryz.f3.isWrapper Tryz.pinned.checked.prog Rows.rankingExactSpecRow.wrapper Rows.rankingExactSpecRow.mainSum:=by
 unfold Func.isWrapper;first|(rw[if_pos (by decide+kernel)];kernel_rfl)|(rw[if_neg (by decide+kernel)];exact⟨rfl,rfl⟩)
theorem Xl:Rows.RankingExactSpecSaid:=
 OpenClaim.holds_of_wide 3 Tryz.f3 rfl rfl rfl rfl rfl rfl rfl ⟨rfl,rfl,rfl,rfl,rfl⟩ rfl rfl rfl rfl rfl Mg Tryz.func3 Xi Xj Xk
  (λos started H enc _=>Xd os started H enc)
theorem Xm:Rows.rankingExactSpecRow.wfByText (OpenSpec.ofChange Rows.rankingExactSpecSpec)=true:=by kernel_rfl
theorem Xn:Tryz.pinned.checked.prog.mainIs=some (true,("ac27d6285d9f4eda7933cc8d8430f154070a3baaaf59ed9fd39eff99f9697c61" :String).toList):=by kernel_rfl
theorem Xo:true=Tryz.pinned.checked.prog.looks []:=by kernel_rfl
theorem Xp:([25,26,22,22].all λu=>!Tryz.prog.wantsStandIn u)=true:=by kernel_rfl
theorem Xq:false=Rows.rankingExactSpecRow.goesBy Tryz.pinned.checked.prog:=by kernel_rfl
theorem rankingExactSpec_holds:Rows.RankingExactSpecCardSaid:=
 Claim7.holds_tied_plain_at .later [] [.data,.data,.data] true (true, "ac27d6285d9f4eda7933cc8d8430f154070a3baaaf59ed9fd39eff99f9697c61") true
  Xl (λ_ h=>by cases h) Xm (λ_ h=>by cases h) rankingExactSpec_row_tie rfl ⟨rfl,rfl⟩ Xn rfl
  (λf fn hf hfn=>by
    obtain rfl:f=3:=Option.some.inj (Mg.symm.trans hf)|>.symm;obtain rfl:fn=Tryz.f3:=(Option.some.inj (Tryz.func3.symm.trans hfn)).symm;exact⟨Xo,λj t ht=>by
     rw[Tryz.params3]at ht;have hm:t∈[25,26,22,22]:=by simpa using Array.mem_of_getElem? ht
     exact(show Tryz.prog.wantsStandIn t=false by simpa using iA.1 Xp t hm)⟩)
  Xq
#print axioms rankingExactSpec_holds
