/- Part. -/
import Derived.Test.YtignbinlipkmfaaGreatDoorTie
import Derived.Test.YtignbinlipkmfaaGreatDoorRepR
import Derived.Test.YtignbinlipkmfaaGreatDoorLawRR
import Derived.SevenTiedAt
set_option linter.all false
set_option maxHeartbeats 1000000
namespace Go.Proofs.YtignbinlipkmfaaGreatDoor
open Go.Ideal Go.ChangeShapes Go.WideShapes Go.ChangeAt Go.RowKit
set_option maxRecDepth 100000 in
theorem avN(os:Os)(started:os.Started)(H:Type)(enc:aF×ah->H):
 ReturnsInHanded {} Tryz.checked os 7 .any (λw args=>(Rows.groupRulesSpec.pre enc Tryz.prog Tryz.f7 [] false w args/\laidMetH Tryz.prog Rows.groupRulesRow.laid w)/\sizedMet enc Tryz.prog Tryz.f7 (OpenSpec.ofChange Rows.groupRulesSpec) false w args) (Rows.groupRulesSpec.post enc Tryz.prog Tryz.f7 false true false false):=by
 refine returnsInHanded_of_change_and (C:=Tryz.checked) (X:=λw _=>laidMetH Tryz.prog Rows.groupRulesRow.laid w) (λ_ _ _ hh h=>h.of_heap hh) own started (by kernel_rfl) Tryz.func7
  (ChangeSpec.witness_shaped (enc:=enc) (C:=Tryz.checked) (os:=os) (X:=λw _=>laidMetH Tryz.prog Rows.groupRulesRow.laid w) false (World.doorLaid Tryz.prog 4000 os) #[.agg #[.string ⟨#[]⟩,.int .i64 0,.int .i64 0,.int .i64 0,.int .i64 0,.slice none 0 0,.slice none 0 0,.slice none 0 0,.slice none 0 0,.slice none 0 0,.int .i64 0,.int .i64 0,.int .i64 0,.slice none 0 0,.slice none 0 0,.slice none 0 0,.slice none 0 0],.int .i64 0,.agg #[.slice none 0 0,.slice none 0 0]] 10 rfl (World.shaped_of_RefB (by kernel_rfl) (by kernel_rfl)) (by kernel_rfl) (by kernel_rfl) (by kernel_rfl) (avM os _)) ?_
 intro W base args ds gs before hval0 hW _ _ hL _;have hval:∀(j:Nat) t v,Tryz.f7.params[j]? =some t->args[j]? =some v->Value.okWide Tryz.prog W .any base t v:=hval0;have hW':=hW;obtain⟨p,q,Sd,hV,rfl,hfz,_⟩:=hW;have hA:DataW.TrodAll enc Tryz.prog W 0 (λ_=>true) true Tryz.f7.params.toList args.toList ds p:=Sd;have hAk:=hA;rw[Tryz.params7]at hA hval;obtain⟨rfl,rfl⟩:=trodVars_none hV;obtain⟨la,ld⟩:=Y1 hA;obtain⟨d0,d1,d2,rfl⟩:=Y2 ld;have hc:Calls Tryz.prog 7 args W (λe w'=>e=.returned (.bool true)/\Below W.heap.size W w'):=by
  refine ala follows Tryz.f7 Tryz.func7 (by kernel_rfl) (by kernel_rfl) (K:=(·∈Fg)) avq (ts:=[34,3,47]) (ds:=[d0,d1,d2]) (by simp[Fg]) (λj t v hj hv=>?_) hA ?_
  .exact hval j t v (by rw[<- hj];simp) (by rw[<- hv];simp)
  .intro w vs hnx hz hlen Wv;obtain⟨v0,v1,v2,rfl⟩:=Y2 (hlen.trans la);obtain⟨a0,y0,rfl,f0,g0⟩:=(Wv 0 34 v0 d0 rfl rfl rfl).Y8 hz avr avI;obtain⟨a1,y1,e1,f1,g1⟩:=(Wv 1 3 v1 d1 rfl rfl rfl).oneG hz avt oP;obtain rfl:Value.int .i64 a1=v1:=by injection e1
   obtain⟨a2,y2,rfl,f2,g2⟩:=(Wv 2 47 v2 d2 rfl rfl rfl).Y8 hz avs rSy;refine⟨_,?_,avl (k:=a0) (a:=a1) (s:=a2.1) (t:=a2.2) g0 g2.1 g2.2⟩;intro f hf;rcases dB.1 hf with rfl|hf
   .show 6<=w.h.next
    rw[globals]at hnx;exact hnx
   rcases dB.1 hf with rfl|hf
   .exact f2 _ (fF ..)
   rcases dB.1 hf with rfl|hf
   .exact f2 _ (iw _ (bS.2 rfl))
   exact f0 f hf
 refine hc.mono λe W' ⟨he,hb⟩=>?_;subst he;exact⟨_,rfl,ajg (pv:=[]) hW' (λ_ _ _=>trodAll_mk1 (shut_bool Tryz.underlying4 _))
  (λsp hsp=>YA kids (λ{t e}=>full t e) hb (by rw[Tryz.params7];intro t ht;exact small t ((by decide:∀t∈([34,3,47]:ae aF),t∈Fg) t ht)) hAk (λp hp=>hsp p (by simpa using hp)))
  (λ_ _=>rfl) (by simp) hb (ok_one (by kernel_rfl) rfl (okWide_bool_mk Tryz.underlying4 _))⟩
theorem afP:Tryz.pinned.checked.prog.funcNamed Rows.groupRulesRow.func=some 7:=by kernel_rfl
theorem avO:(Rows.groupRulesRow.inPlace==Tryz.pinned.checked.prog.inPlace 7)=true:=by kernel_rfl
theorem avP:(Rows.groupRulesRow.unfollowed==Tryz.pinned.checked.prog.unfollowed 7)=true:=by kernel_rfl
theorem avQ:(Rows.groupRulesRow.recurses==Tryz.pinned.checked.prog.recurses 7)=true:=by kernel_rfl
theorem avR:(Rows.groupRulesRow.named==Tryz.pinned.checked.prog.varsNamed 7)=true:=by kernel_rfl
theorem avS:joinedFacts Tryz.pinned.checked.prog 7 Tryz.f7 Rows.groupRulesSpec Rows.groupRulesRow=true:=by
 unfold joinedFacts;rw[avO,avP,avQ,avR]
 kernel_rfl
theorem avT:Tryz.f7.isInstance Tryz.pinned.checked.prog Rows.groupRulesRow.origin Rows.groupRulesRow.targs:=iN (by kernel_rfl)
theorem avU:Tryz.f7.isWrapper Tryz.pinned.checked.prog Rows.groupRulesRow.wrapper Rows.groupRulesRow.mainSum:=by
 unfold Func.isWrapper;first|(rw[if_pos (by decide+kernel)];kernel_rfl)|(rw[if_neg (by decide+kernel)];exact⟨rfl,rfl⟩)
theorem avV:Rows.GroupRulesSaid:=
 OpenClaim.holds_of_wide 7 Tryz.f7 rfl rfl rfl rfl rfl rfl rfl ⟨rfl,rfl,rfl,rfl,rfl⟩ rfl rfl rfl rfl rfl afP Tryz.func7 avS avT avU
  (λos started H enc _=>avN os started H enc)
theorem avW:Rows.groupRulesRow.wfByText (OpenSpec.ofChange Rows.groupRulesSpec)=true:=by kernel_rfl
theorem avX:Tryz.pinned.checked.prog.mainIs=some (true,("2912620c3b82116fe3ba6a5bfbd87c9244eabad90778a40bf60e0b467efd5cac" :String).toList):=by kernel_rfl
theorem avY:true=Tryz.pinned.checked.prog.looks []:=by kernel_rfl
theorem avZ:([34,3,47].all λu=>!Tryz.prog.wantsStandIn u)=true:=by kernel_rfl
theorem av0:false=Rows.groupRulesRow.goesBy Tryz.pinned.checked.prog:=by kernel_rfl
theorem groupRules_holds:Rows.GroupRulesCardSaid:=
 Claim7.holds_tied_plain_at .later [] [.data,.data,.data,.sentinel,.sentinel] true (true, "2912620c3b82116fe3ba6a5bfbd87c9244eabad90778a40bf60e0b467efd5cac") true
  avV (λ_ h=>by cases h) avW (λ_ h=>by cases h) groupRules_row_tie rfl ⟨rfl,rfl⟩ avX rfl
  (λf fn hf hfn=>by
    obtain rfl:f=7:=Option.some.inj (afP.symm.trans hf)|>.symm;obtain rfl:fn=Tryz.f7:=(Option.some.inj (Tryz.func7.symm.trans hfn)).symm;exact⟨avY,λj t ht=>by
     rw[Tryz.params7]at ht;have hm:t∈[34,3,47]:=by simpa using Array.mem_of_getElem? ht
     exact(show Tryz.prog.wantsStandIn t=false by simpa using jN.1 avZ t hm)⟩)
  av0
#print axioms groupRules_holds
