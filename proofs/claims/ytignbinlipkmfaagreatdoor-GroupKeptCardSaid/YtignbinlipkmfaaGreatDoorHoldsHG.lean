/- Part. -/
import Derived.Test.YtignbinlipkmfaaGreatDoorTie
import Derived.Test.YtignbinlipkmfaaGreatDoorRepG
import Derived.Test.YtignbinlipkmfaaGreatDoorLawHG
import Derived.SevenTiedAt
set_option linter.all false
set_option maxHeartbeats 1000000
namespace Go.Proofs.YtignbinlipkmfaaGreatDoor
open Go.Ideal Go.ChangeShapes Go.WideShapes Go.ChangeAt Go.RowKit
set_option maxRecDepth 100000 in
theorem aqR(os:Os)(started:os.Started)(H:Type)(enc:aB×ah->H):
 ReturnsInHanded {} Tryz.checked os 5 .any (λw args=>(Rows.groupKeptSpec.pre enc Tryz.prog Tryz.f5 [] false w args/\laidMetH Tryz.prog Rows.groupKeptRow.laid w)/\sizedMet enc Tryz.prog Tryz.f5 (OpenSpec.ofChange Rows.groupKeptSpec) false w args) (Rows.groupKeptSpec.post enc Tryz.prog Tryz.f5 false true false false):=by
 refine returnsInHanded_of_change_and (C:=Tryz.checked) (X:=λw _=>laidMetH Tryz.prog Rows.groupKeptRow.laid w) (λ_ _ _ hh h=>h.of_heap hh) own started (by kernel_rfl) Tryz.func5
  (ChangeSpec.witness_shaped (enc:=enc) (C:=Tryz.checked) (os:=os) (X:=λw _=>laidMetH Tryz.prog Rows.groupKeptRow.laid w) false (World.doorLaid Tryz.prog 4000 os) #[.agg #[.string ⟨#[]⟩,.int .i64 0,.int .i64 0,.int .i64 0,.int .i64 0,.slice none 0 0,.slice none 0 0,.slice none 0 0,.slice none 0 0,.slice none 0 0,.int .i64 0,.int .i64 0,.int .i64 0,.slice none 0 0,.slice none 0 0,.slice none 0 0,.slice none 0 0],.int .i64 0,.int .i64 0] 10 rfl (World.shaped_of_RefB (by kernel_rfl) (by kernel_rfl)) (by kernel_rfl) (by kernel_rfl) (by kernel_rfl) (ace os _)) ?_
 intro W base args ds gs before hval0 hW _ _ hL _;have hval:∀(j:Nat) t v,Tryz.f5.params[j]? =some t->args[j]? =some v->Value.okWide Tryz.prog W .any base t v:=hval0;have hW':=hW;obtain⟨p,q,Gt,hV,rfl,hfz,_⟩:=hW;have hA:DataW.TrodAll enc Tryz.prog W 0 (λ_=>true) true Tryz.f5.params.toList args.toList ds p:=Gt;have hAk:=hA;rw[Tryz.params5]at hA hval;obtain⟨rfl,rfl⟩:=trodVars_none hV;obtain⟨la,ld⟩:=Pd hA;obtain⟨d0,d1,d2,rfl⟩:=VD ld;have hc:Calls Tryz.prog 5 args W (λe w'=>e=.returned (.bool true)/\Below W.heap.size W w'):=by
  refine WO follows Tryz.f5 Tryz.func5 (by kernel_rfl) (by kernel_rfl) (K:=(·∈x8)) ab6 (ts:=[34,3,3]) (ds:=[d0,d1,d2]) (by simp[x8]) (λj t v hj hv=>?_) hA ?_
  .exact hval j t v (by rw[<- hj];simp) (by rw[<- hv];simp)
  .intro w vs hnx hz hlen IG;obtain⟨v0,v1,v2,rfl⟩:=VD (hlen.trans la);obtain⟨a0,y0,rfl,f0,g0⟩:=(IG 0 34 v0 d0 rfl rfl rfl).VG hz ab7 acd;obtain⟨a1,y1,e1,f1,g1⟩:=(IG 1 3 v1 d1 rfl rfl rfl).oneG hz ab8 mK;obtain rfl:Value.int .i64 a1=v1:=by injection e1
   obtain⟨a2,y2,e2,f2,g2⟩:=(IG 2 3 v2 d2 rfl rfl rfl).oneG hz ab8 mK;obtain rfl:Value.int .i64 a2=v2:=by injection e2
   refine⟨_,?_,aql (k:=a0) (a:=a1) (n:=a2) g0⟩;intro f hf;rcases bN.1 hf with rfl|hf
   .show 6<=w.h.next
    rw[globals]at hnx;exact hnx
   exact f0 f hf
 refine hc.mono λe W' ⟨he,hb⟩=>?_;subst he;exact⟨_,rfl,Va (pv:=[]) hW' (λ_ _ _=>trodAll_mk1 (shut_bool Tryz.underlying4 _))
  (λsp hsp=>OU kids (λ{t e}=>full t e) hb (by rw[Tryz.params5];intro t ht;exact small t ((by decide:∀t∈([34,3,3]:ae aB),t∈x8) t ht)) hAk (λp hp=>hsp p (by simpa using hp)))
  (λ_ _=>rfl) (by simp) hb (ok_one (by kernel_rfl) rfl (okWide_bool_mk Tryz.underlying4 _))⟩
theorem acg:Tryz.pinned.checked.prog.funcNamed Rows.groupKeptRow.func=some 5:=by kernel_rfl
theorem aqS:(Rows.groupKeptRow.inPlace==Tryz.pinned.checked.prog.inPlace 5)=true:=by kernel_rfl
theorem aqT:(Rows.groupKeptRow.unfollowed==Tryz.pinned.checked.prog.unfollowed 5)=true:=by kernel_rfl
theorem aqU:(Rows.groupKeptRow.recurses==Tryz.pinned.checked.prog.recurses 5)=true:=by kernel_rfl
theorem aqV:(Rows.groupKeptRow.named==Tryz.pinned.checked.prog.varsNamed 5)=true:=by kernel_rfl
theorem aqW:joinedFacts Tryz.pinned.checked.prog 5 Tryz.f5 Rows.groupKeptSpec Rows.groupKeptRow=true:=by
 unfold joinedFacts;rw[aqS,aqT,aqU,aqV]
 kernel_rfl
theorem aqX:Tryz.f5.isInstance Tryz.pinned.checked.prog Rows.groupKeptRow.origin Rows.groupKeptRow.targs:=jT (by kernel_rfl)
theorem aqY:Tryz.f5.isWrapper Tryz.pinned.checked.prog Rows.groupKeptRow.wrapper Rows.groupKeptRow.mainSum:=by
 unfold Func.isWrapper;first|(rw[if_pos (by decide+kernel)];kernel_rfl)|(rw[if_neg (by decide+kernel)];exact⟨rfl,rfl⟩)
theorem aqZ:Rows.GroupKeptSaid:=
 OpenClaim.holds_of_wide 5 Tryz.f5 rfl rfl rfl rfl rfl rfl rfl ⟨rfl,rfl,rfl,rfl,rfl⟩ rfl rfl rfl rfl rfl acg Tryz.func5 aqW aqX aqY
  (λos started H enc _=>aqR os started H enc)
theorem aq0:Rows.groupKeptRow.wfByText (OpenSpec.ofChange Rows.groupKeptSpec)=true:=by kernel_rfl
theorem aq1:Tryz.pinned.checked.prog.mainIs=some (true,("2912620c3b82116fe3ba6a5bfbd87c9244eabad90778a40bf60e0b467efd5cac" :String).toList):=by kernel_rfl
theorem aq2:true=Tryz.pinned.checked.prog.looks []:=by kernel_rfl
theorem aq3:([34,3,3].all λu=>!Tryz.prog.wantsStandIn u)=true:=by kernel_rfl
theorem aq4:false=Rows.groupKeptRow.goesBy Tryz.pinned.checked.prog:=by kernel_rfl
theorem groupKept_holds:Rows.GroupKeptCardSaid:=
 Claim7.holds_tied_plain_at .later [] [.data,.data,.data,.sentinel,.sentinel] true (true, "2912620c3b82116fe3ba6a5bfbd87c9244eabad90778a40bf60e0b467efd5cac") true
  aqZ (λ_ h=>by cases h) aq0 (λ_ h=>by cases h) groupKept_row_tie rfl ⟨rfl,rfl⟩ aq1 rfl
  (λf fn hf hfn=>by
    obtain rfl:f=5:=Option.some.inj (acg.symm.trans hf)|>.symm;obtain rfl:fn=Tryz.f5:=(Option.some.inj (Tryz.func5.symm.trans hfn)).symm;exact⟨aq2,λj t ht=>by
     rw[Tryz.params5]at ht;have hm:t∈[34,3,3]:=by simpa using Array.mem_of_getElem? ht
     exact(show Tryz.prog.wantsStandIn t=false by simpa using iE.1 aq3 t hm)⟩)
  aq4
#print axioms groupKept_holds
