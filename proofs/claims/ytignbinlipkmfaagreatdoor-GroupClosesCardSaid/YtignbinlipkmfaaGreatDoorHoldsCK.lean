/- Part. -/
import Derived.Test.YtignbinlipkmfaaGreatDoorTie
import Derived.Test.YtignbinlipkmfaaGreatDoorRepK
import Derived.Test.YtignbinlipkmfaaGreatDoorLawCK
import Derived.SevenTiedAt
set_option linter.all false
set_option maxHeartbeats 1000000
namespace Go.Proofs.YtignbinlipkmfaaGreatDoor
open Go.Ideal Go.ChangeShapes Go.WideShapes Go.ChangeAt Go.RowKit
set_option maxRecDepth 100000 in
theorem aoi(os:Os)(started:os.Started)(H:Type)(enc:aC×ah->H):
 ReturnsInHanded {} Tryz.checked os 8 .any (λw args=>(Rows.groupClosesSpec.pre enc Tryz.prog Tryz.f8 [] false w args/\laidMetH Tryz.prog Rows.groupClosesRow.laid w)/\sizedMet enc Tryz.prog Tryz.f8 (OpenSpec.ofChange Rows.groupClosesSpec) false w args) (Rows.groupClosesSpec.post enc Tryz.prog Tryz.f8 false true false false):=by
 refine returnsInHanded_of_change_and (C:=Tryz.checked) (X:=λw _=>laidMetH Tryz.prog Rows.groupClosesRow.laid w) (λ_ _ _ hh h=>h.of_heap hh) own started (by kernel_rfl) Tryz.func8
  (ChangeSpec.witness_shaped (enc:=enc) (C:=Tryz.checked) (os:=os) (X:=λw _=>laidMetH Tryz.prog Rows.groupClosesRow.laid w) false (World.doorLaid Tryz.prog 4000 os) #[.agg #[.string ⟨#[]⟩,.int .i64 0,.int .i64 0,.int .i64 0,.int .i64 0,.slice none 0 0,.slice none 0 0,.slice none 0 0,.slice none 0 0,.slice none 0 0,.int .i64 0,.int .i64 0,.int .i64 0,.slice none 0 0,.slice none 0 0,.slice none 0 0,.slice none 0 0],.agg #[.slice none 0 0,.slice none 0 0],.agg #[.slice none 0 0,.slice none 0 0]] 10 rfl (World.shaped_of_RefB (by kernel_rfl) (by kernel_rfl)) (by kernel_rfl) (by kernel_rfl) (by kernel_rfl) (aaO os _)) ?_
 intro W base args ds gs before hval0 hW _ _ hL _;have hval:∀(j:Nat) t v,Tryz.f8.params[j]? =some t->args[j]? =some v->Value.okWide Tryz.prog W .any base t v:=hval0;have hW':=hW;obtain⟨p,q,FC,hV,rfl,hfz,_⟩:=hW;have hA:DataW.TrodAll enc Tryz.prog W 0 (λ_=>true) true Tryz.f8.params.toList args.toList ds p:=FC;have hAk:=hA;rw[Tryz.params8]at hA hval;obtain⟨rfl,rfl⟩:=trodVars_none hV;obtain⟨la,ld⟩:=OH hA;obtain⟨d0,d1,d2,rfl⟩:=JN ld;have hc:Calls Tryz.prog 8 args W (λe w'=>e=.returned (.bool true)/\Below W.heap.size W w'):=by
  refine VL follows Tryz.f8 Tryz.func8 (by kernel_rfl) (by kernel_rfl) (K:=(·∈xV)) aaK (ts:=[34,47,47]) (ds:=[d0,d1,d2]) (by simp[xV]) (λj t v hj hv=>?_) hA ?_
  .exact hval j t v (by rw[<- hj];simp) (by rw[<- hv];simp)
  .intro w vs hnx hz hlen CB;obtain⟨v0,v1,v2,rfl⟩:=JN (hlen.trans la);obtain⟨a0,y0,rfl,f0,g0⟩:=(CB 0 34 v0 d0 rfl rfl rfl).DC hz aaL aaN;obtain⟨a1,y1,rfl,f1,g1⟩:=(CB 1 47 v1 d1 rfl rfl rfl).DC hz Rm Rp;obtain⟨a2,y2,rfl,f2,g2⟩:=(CB 2 47 v2 d2 rfl rfl rfl).DC hz Rm Rp;refine⟨_,?_,anH (k:=a0) (s:=a1.1) (t:=a1.2) (s2:=a2.1) (t2:=a2.2) g0 g1.1 g1.2 g2.1 g2.2⟩;intro f hf;rcases bT.1 hf with rfl|hf
   .show 6<=w.h.next
    rw[globals]at hnx;exact hnx
   rcases bT.1 hf with rfl|hf
   .exact f1 _ (fT ..)
   rcases bT.1 hf with rfl|hf
   .exact f1 _ (fO _ (bK.2 rfl))
   rcases bT.1 hf with rfl|hf
   .exact f2 _ (fT ..)
   rcases bT.1 hf with rfl|hf
   .exact f2 _ (fO _ (bK.2 rfl))
   exact f0 f hf
 refine hc.mono λe W' ⟨he,hb⟩=>?_;subst he;exact⟨_,rfl,Uf (pv:=[]) hW' (λ_ _ _=>trodAll_mk1 (shut_bool Tryz.underlying4 _))
  (λsp hsp=>Ol kids (λ{t e}=>full t e) hb (by rw[Tryz.params8];intro t ht;exact small t ((by decide:∀t∈([34,47,47]:ae aC),t∈xV) t ht)) hAk (λp hp=>hsp p (by simpa using hp)))
  (λ_ _=>rfl) (by simp) hb (ok_one (by kernel_rfl) rfl (okWide_bool_mk Tryz.underlying4 _))⟩
theorem aaQ:Tryz.pinned.checked.prog.funcNamed Rows.groupClosesRow.func=some 8:=by kernel_rfl
theorem aoj:(Rows.groupClosesRow.inPlace==Tryz.pinned.checked.prog.inPlace 8)=true:=by kernel_rfl
theorem aok:(Rows.groupClosesRow.unfollowed==Tryz.pinned.checked.prog.unfollowed 8)=true:=by kernel_rfl
theorem aol:(Rows.groupClosesRow.recurses==Tryz.pinned.checked.prog.recurses 8)=true:=by kernel_rfl
theorem aom:(Rows.groupClosesRow.named==Tryz.pinned.checked.prog.varsNamed 8)=true:=by kernel_rfl
theorem aon:joinedFacts Tryz.pinned.checked.prog 8 Tryz.f8 Rows.groupClosesSpec Rows.groupClosesRow=true:=by
 unfold joinedFacts;rw[aoj,aok,aol,aom]
 kernel_rfl
theorem aoo:Tryz.f8.isInstance Tryz.pinned.checked.prog Rows.groupClosesRow.origin Rows.groupClosesRow.targs:=gT (by kernel_rfl)
theorem aop:Tryz.f8.isWrapper Tryz.pinned.checked.prog Rows.groupClosesRow.wrapper Rows.groupClosesRow.mainSum:=by
 unfold Func.isWrapper;first|(rw[if_pos (by decide+kernel)];kernel_rfl)|(rw[if_neg (by decide+kernel)];exact⟨rfl,rfl⟩)
theorem aoq:Rows.GroupClosesSaid:=
 OpenClaim.holds_of_wide 8 Tryz.f8 rfl rfl rfl rfl rfl rfl rfl ⟨rfl,rfl,rfl,rfl,rfl⟩ rfl rfl rfl rfl rfl aaQ Tryz.func8 aon aoo aop
  (λos started H enc _=>aoi os started H enc)
theorem aor:Rows.groupClosesRow.wfByText (OpenSpec.ofChange Rows.groupClosesSpec)=true:=by kernel_rfl
theorem aos:Tryz.pinned.checked.prog.mainIs=some (true,("2912620c3b82116fe3ba6a5bfbd87c9244eabad90778a40bf60e0b467efd5cac" :String).toList):=by kernel_rfl
theorem aot:true=Tryz.pinned.checked.prog.looks []:=by kernel_rfl
theorem aou:([34,47,47].all λu=>!Tryz.prog.wantsStandIn u)=true:=by kernel_rfl
theorem aov:false=Rows.groupClosesRow.goesBy Tryz.pinned.checked.prog:=by kernel_rfl
theorem groupCloses_holds:Rows.GroupClosesCardSaid:=
 Claim7.holds_tied_plain_at .later [] [.data,.data,.data,.sentinel,.sentinel] true (true, "2912620c3b82116fe3ba6a5bfbd87c9244eabad90778a40bf60e0b467efd5cac") true
  aoq (λ_ h=>by cases h) aor (λ_ h=>by cases h) groupCloses_row_tie rfl ⟨rfl,rfl⟩ aos rfl
  (λf fn hf hfn=>by
    obtain rfl:f=8:=Option.some.inj (aaQ.symm.trans hf)|>.symm;obtain rfl:fn=Tryz.f8:=(Option.some.inj (Tryz.func8.symm.trans hfn)).symm;exact⟨aot,λj t ht=>by
     rw[Tryz.params8]at ht;have hm:t∈[34,47,47]:=by simpa using Array.mem_of_getElem? ht
     exact(show Tryz.prog.wantsStandIn t=false by simpa using jL.1 aou t hm)⟩)
  aov
#print axioms groupCloses_holds
