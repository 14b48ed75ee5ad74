/- Part. -/
import Derived.Test.YtignbinlipkmfaaGreatDoorTie
import Derived.Test.YtignbinlipkmfaaGreatDoorRepG
import Derived.Test.YtignbinlipkmfaaGreatDoorLawGG
import Derived.SevenTiedAt
set_option linter.all false
set_option maxHeartbeats 1000000
namespace Go.Proofs.YtignbinlipkmfaaGreatDoor
open Go.Ideal Go.ChangeShapes Go.WideShapes Go.ChangeAt Go.RowKit
set_option maxRecDepth 100000 in
theorem aqC(os:Os)(started:os.Started)(H:Type)(enc:aB×ah->H):
 ReturnsInHanded {} Tryz.checked os 6 .any (λw args=>(Rows.groupClassesSpec.pre enc Tryz.prog Tryz.f6 [] false w args/\laidMetH Tryz.prog Rows.groupClassesRow.laid w)/\sizedMet enc Tryz.prog Tryz.f6 (OpenSpec.ofChange Rows.groupClassesSpec) false w args) (Rows.groupClassesSpec.post enc Tryz.prog Tryz.f6 false true false false):=by
 refine returnsInHanded_of_change_and (C:=Tryz.checked) (X:=λw _=>laidMetH Tryz.prog Rows.groupClassesRow.laid w) (λ_ _ _ hh h=>h.of_heap hh) own started (by kernel_rfl) Tryz.func6
  (ChangeSpec.witness_shaped (enc:=enc) (C:=Tryz.checked) (os:=os) (X:=λw _=>laidMetH Tryz.prog Rows.groupClassesRow.laid w) false (World.doorLaid Tryz.prog 4000 os) #[.agg #[.string ⟨#[]⟩,.int .i64 0,.int .i64 0,.int .i64 0,.int .i64 0,.slice none 0 0,.slice none 0 0,.slice none 0 0,.slice none 0 0,.slice none 0 0,.int .i64 0,.int .i64 0,.int .i64 0,.slice none 0 0,.slice none 0 0,.slice none 0 0,.slice none 0 0]] 10 rfl (World.shaped_of_RefB (by kernel_rfl) (by kernel_rfl)) (by kernel_rfl) (by kernel_rfl) (by kernel_rfl) (ace os _)) ?_
 intro W base args ds gs before hval0 hW _ _ hL _;have hval:∀(j:Nat) t v,Tryz.f6.params[j]? =some t->args[j]? =some v->Value.okWide Tryz.prog W .any base t v:=hval0;have hW':=hW;obtain⟨p,q,Gt,hV,rfl,hfz,_⟩:=hW;have hA:DataW.TrodAll enc Tryz.prog W 0 (λ_=>true) true Tryz.f6.params.toList args.toList ds p:=Gt;have hAk:=hA;rw[Tryz.params6]at hA hval;obtain⟨rfl,rfl⟩:=trodVars_none hV;obtain⟨la,ld⟩:=Pd hA;obtain⟨d0,rfl⟩:=List.length_eq_one_iff.1 ld;have hc:Calls Tryz.prog 6 args W (λe w'=>e=.returned (.bool true)/\Below W.heap.size W w'):=by
  refine WO follows Tryz.f6 Tryz.func6 (by kernel_rfl) (by kernel_rfl) (K:=(·∈x8)) ab6 (ts:=[34]) (ds:=[d0]) (by simp[x8]) (λj t v hj hv=>?_) hA ?_
  .exact hval j t v (by rw[<- hj];simp) (by rw[<- hv];simp)
  .intro w vs hnx hz hlen IG;obtain⟨v0,rfl⟩:=List.length_eq_one_iff.1 (hlen.trans la);obtain⟨a0,y0,rfl,f0,g0⟩:=(IG 0 34 v0 d0 rfl rfl rfl).VG hz ab7 acd;refine⟨_,?_,aqj (k:=a0) g0⟩;intro f hf;rcases bN.1 hf with rfl|hf
   .show 6<=w.h.next
    rw[globals]at hnx;exact hnx
   exact f0 f hf
 refine hc.mono λe W' ⟨he,hb⟩=>?_;subst he;exact⟨_,rfl,Va (pv:=[]) hW' (λ_ _ _=>trodAll_mk1 (shut_bool Tryz.underlying4 _))
  (λsp hsp=>OU kids (λ{t e}=>full t e) hb (by rw[Tryz.params6];intro t ht;exact small t ((by decide:∀t∈([34]:ae aB),t∈x8) t ht)) hAk (λp hp=>hsp p (by simpa using hp)))
  (λ_ _=>rfl) (by simp) hb (ok_one (by kernel_rfl) rfl (okWide_bool_mk Tryz.underlying4 _))⟩
theorem acf:Tryz.pinned.checked.prog.funcNamed Rows.groupClassesRow.func=some 6:=by kernel_rfl
theorem aqE:(Rows.groupClassesRow.inPlace==Tryz.pinned.checked.prog.inPlace 6)=true:=by kernel_rfl
theorem aqF:(Rows.groupClassesRow.unfollowed==Tryz.pinned.checked.prog.unfollowed 6)=true:=by kernel_rfl
theorem aqG:(Rows.groupClassesRow.recurses==Tryz.pinned.checked.prog.recurses 6)=true:=by kernel_rfl
theorem aqH:(Rows.groupClassesRow.named==Tryz.pinned.checked.prog.varsNamed 6)=true:=by kernel_rfl
theorem aqI:joinedFacts Tryz.pinned.checked.prog 6 Tryz.f6 Rows.groupClassesSpec Rows.groupClassesRow=true:=by
 unfold joinedFacts;rw[aqE,aqF,aqG,aqH]
 kernel_rfl
theorem aqJ:Tryz.f6.isInstance Tryz.pinned.checked.prog Rows.groupClassesRow.origin Rows.groupClassesRow.targs:=jT (by kernel_rfl)
theorem aqK:Tryz.f6.isWrapper Tryz.pinned.checked.prog Rows.groupClassesRow.wrapper Rows.groupClassesRow.mainSum:=by
 unfold Func.isWrapper;first|(rw[if_pos (by decide+kernel)];kernel_rfl)|(rw[if_neg (by decide+kernel)];exact⟨rfl,rfl⟩)
theorem aqL:Rows.GroupClassesSaid:=
 OpenClaim.holds_of_wide 6 Tryz.f6 rfl rfl rfl rfl rfl rfl rfl ⟨rfl,rfl,rfl,rfl,rfl⟩ rfl rfl rfl rfl rfl acf Tryz.func6 aqI aqJ aqK
  (λos started H enc _=>aqC os started H enc)
theorem aqM:Rows.groupClassesRow.wfByText (OpenSpec.ofChange Rows.groupClassesSpec)=true:=by kernel_rfl
theorem aqN:Tryz.pinned.checked.prog.mainIs=some (true,("2912620c3b82116fe3ba6a5bfbd87c9244eabad90778a40bf60e0b467efd5cac" :String).toList):=by kernel_rfl
theorem aqO:true=Tryz.pinned.checked.prog.looks []:=by kernel_rfl
theorem aqP:([34].all λu=>!Tryz.prog.wantsStandIn u)=true:=by kernel_rfl
theorem aqQ:false=Rows.groupClassesRow.goesBy Tryz.pinned.checked.prog:=by kernel_rfl
theorem groupClasses_holds:Rows.GroupClassesCardSaid:=
 Claim7.holds_tied_plain_at .later [] [.data,.data,.data,.sentinel,.sentinel] true (true, "2912620c3b82116fe3ba6a5bfbd87c9244eabad90778a40bf60e0b467efd5cac") true
  aqL (λ_ h=>by cases h) aqM (λ_ h=>by cases h) groupClasses_row_tie rfl ⟨rfl,rfl⟩ aqN rfl
  (λf fn hf hfn=>by
    obtain rfl:f=6:=Option.some.inj (acf.symm.trans hf)|>.symm;obtain rfl:fn=Tryz.f6:=(Option.some.inj (Tryz.func6.symm.trans hfn)).symm;exact⟨aqO,λj t ht=>by
     rw[Tryz.params6]at ht;have hm:t∈[34]:=by simpa using Array.mem_of_getElem? ht
     exact(show Tryz.prog.wantsStandIn t=false by simpa using iE.1 aqP t hm)⟩)
  aqQ
#print axioms groupClasses_holds
