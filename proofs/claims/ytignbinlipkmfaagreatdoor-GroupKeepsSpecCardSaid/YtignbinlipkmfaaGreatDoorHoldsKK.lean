/- Part. -/
import Derived.Test.YtignbinlipkmfaaGreatDoorTie
import Derived.Test.YtignbinlipkmfaaGreatDoorRepK
import Derived.Test.YtignbinlipkmfaaGreatDoorLawKK
import Derived.SevenTiedAt
set_option linter.all false
set_option maxHeartbeats 1000000
namespace Go.Proofs.YtignbinlipkmfaaGreatDoor
open Go.Ideal Go.ChangeShapes Go.WideShapes Go.ChangeAt Go.RowKit
set_option maxRecDepth 100000 in
theorem an4(os:Os)(started:os.Started)(H:Type)(enc:aC×ah->H):
 ReturnsInHanded {} Tryz.checked os 4 .any (λw args=>(Rows.groupKeepsSpecSpec.pre enc Tryz.prog Tryz.f4 [] false w args/\laidMetH Tryz.prog Rows.groupKeepsSpecRow.laid w)/\sizedMet enc Tryz.prog Tryz.f4 (OpenSpec.ofChange Rows.groupKeepsSpecSpec) false w args) (Rows.groupKeepsSpecSpec.post enc Tryz.prog Tryz.f4 false true false false):=by
 refine returnsInHanded_of_change_and (C:=Tryz.checked) (X:=λw _=>laidMetH Tryz.prog Rows.groupKeepsSpecRow.laid w) (λ_ _ _ hh h=>h.of_heap hh) own started (by kernel_rfl) Tryz.func4
  (ChangeSpec.witness_shaped (enc:=enc) (C:=Tryz.checked) (os:=os) (X:=λw _=>laidMetH Tryz.prog Rows.groupKeepsSpecRow.laid w) false (World.doorLaid Tryz.prog 4000 os) #[.agg #[.string ⟨#[]⟩,.int .i64 0,.int .i64 0,.int .i64 0,.int .i64 0,.slice none 0 0,.slice none 0 0,.slice none 0 0,.slice none 0 0,.slice none 0 0,.int .i64 0,.int .i64 0,.int .i64 0,.slice none 0 0,.slice none 0 0,.slice none 0 0,.slice none 0 0],.agg #[.slice none 0 0,.slice none 0 0],.agg #[.slice none 0 0,.slice none 0 0]] 10 rfl (World.shaped_of_RefB (by kernel_rfl) (by kernel_rfl)) (by kernel_rfl) (by kernel_rfl) (by kernel_rfl) (aaO os _)) ?_
 intro W base args ds gs before hval0 hW _ _ hL _;have hval:∀(j:Nat) t v,Tryz.f4.params[j]? =some t->args[j]? =some v->Value.okWide Tryz.prog W .any base t v:=hval0;have hW':=hW;obtain⟨p,q,FC,hV,rfl,hfz,_⟩:=hW;have hA:DataW.TrodAll enc Tryz.prog W 0 (λ_=>true) true Tryz.f4.params.toList args.toList ds p:=FC;have hAk:=hA;rw[Tryz.params4]at hA hval;obtain⟨rfl,rfl⟩:=trodVars_none hV;obtain⟨la,ld⟩:=OH hA;obtain⟨d0,d1,d2,rfl⟩:=JN ld;have hc:Calls Tryz.prog 4 args W (λe w'=>e=.returned (.bool true)/\Below W.heap.size W w'):=by
  refine VL follows Tryz.f4 Tryz.func4 (by kernel_rfl) (by kernel_rfl) (K:=(·∈xV)) aaK (ts:=[34,47,41]) (ds:=[d0,d1,d2]) (by simp[xV]) (λj t v hj hv=>?_) hA ?_
  .exact hval j t v (by rw[<- hj];simp) (by rw[<- hv];simp)
  .intro w vs hnx hz hlen CB;obtain⟨v0,v1,v2,rfl⟩:=JN (hlen.trans la);obtain⟨a0,y0,rfl,f0,g0⟩:=(CB 0 34 v0 d0 rfl rfl rfl).DC hz aaL aaN;obtain⟨a1,y1,rfl,f1,g1⟩:=(CB 1 47 v1 d1 rfl rfl rfl).DC hz Rm Rp;obtain⟨a2,y2,rfl,f2,g2⟩:=(CB 2 41 v2 d2 rfl rfl rfl).DC hz anK an3;refine⟨_,?_,anG (k:=a0) (s:=a1.1) (t:=a1.2) (G:=a2.1) (cl:=a2.2) g0 g1.1 g1.2 g2.WZ g2.len g2.lens⟩;intro f hf;rcases bT.1 hf with rfl|hf
   .show 6<=w.h.next
    rw[globals]at hnx;exact hnx
   rcases bT.1 hf with rfl|hf
   .exact f2 _ (fT ..)
   rcases bT.1 hf with rfl|hf
   .exact f2 _ (fO _ (bK.2 rfl))
   rcases bT.1 hf with rfl|hf
   .exact f1 _ (fT ..)
   rcases bT.1 hf with rfl|hf
   .exact f1 _ (fO _ (bK.2 rfl))
   exact f0 f hf
 refine hc.mono λe W' ⟨he,hb⟩=>?_;subst he;exact⟨_,rfl,Uf (pv:=[]) hW' (λ_ _ _=>trodAll_mk1 (shut_bool Tryz.underlying4 _))
  (λsp hsp=>Ol kids (λ{t e}=>full t e) hb (by rw[Tryz.params4];intro t ht;exact small t ((by decide:∀t∈([34,47,41]:ae aC),t∈xV) t ht)) hAk (λp hp=>hsp p (by simpa using hp)))
  (λ_ _=>rfl) (by simp) hb (ok_one (by kernel_rfl) rfl (okWide_bool_mk Tryz.underlying4 _))⟩
theorem aaP:Tryz.pinned.checked.prog.funcNamed Rows.groupKeepsSpecRow.func=some 4:=by kernel_rfl
theorem an5:(Rows.groupKeepsSpecRow.inPlace==Tryz.pinned.checked.prog.inPlace 4)=true:=by kernel_rfl
theorem an6:(Rows.groupKeepsSpecRow.unfollowed==Tryz.pinned.checked.prog.unfollowed 4)=true:=by kernel_rfl
theorem an7:(Rows.groupKeepsSpecRow.recurses==Tryz.pinned.checked.prog.recurses 4)=true:=by kernel_rfl
theorem an8:(Rows.groupKeepsSpecRow.named==Tryz.pinned.checked.prog.varsNamed 4)=true:=by kernel_rfl
theorem an9:joinedFacts Tryz.pinned.checked.prog 4 Tryz.f4 Rows.groupKeepsSpecSpec Rows.groupKeepsSpecRow=true:=by
 unfold joinedFacts;rw[an5,an6,an7,an8]
 kernel_rfl
theorem aoa:Tryz.f4.isInstance Tryz.pinned.checked.prog Rows.groupKeepsSpecRow.origin Rows.groupKeepsSpecRow.targs:=gT (by kernel_rfl)
theorem aob:Tryz.f4.isWrapper Tryz.pinned.checked.prog Rows.groupKeepsSpecRow.wrapper Rows.groupKeepsSpecRow.mainSum:=by
 unfold Func.isWrapper;first|(rw[if_pos (by decide+kernel)];kernel_rfl)|(rw[if_neg (by decide+kernel)];exact⟨rfl,rfl⟩)
theorem aoc:Rows.GroupKeepsSpecSaid:=
 OpenClaim.holds_of_wide 4 Tryz.f4 rfl rfl rfl rfl rfl rfl rfl ⟨rfl,rfl,rfl,rfl,rfl⟩ rfl rfl rfl rfl rfl aaP Tryz.func4 an9 aoa aob
  (λos started H enc _=>an4 os started H enc)
theorem aod:Rows.groupKeepsSpecRow.wfByText (OpenSpec.ofChange Rows.groupKeepsSpecSpec)=true:=by kernel_rfl
theorem aoe:Tryz.pinned.checked.prog.mainIs=some (true,("2912620c3b82116fe3ba6a5bfbd87c9244eabad90778a40bf60e0b467efd5cac" :String).toList):=by kernel_rfl
theorem aof:true=Tryz.pinned.checked.prog.looks []:=by kernel_rfl
theorem aog:([34,47,41].all λu=>!Tryz.prog.wantsStandIn u)=true:=by kernel_rfl
theorem aoh:false=Rows.groupKeepsSpecRow.goesBy Tryz.pinned.checked.prog:=by kernel_rfl
theorem groupKeepsSpec_holds:Rows.GroupKeepsSpecCardSaid:=
 Claim7.holds_tied_plain_at .later [] [.data,.data,.data,.sentinel,.sentinel] true (true, "2912620c3b82116fe3ba6a5bfbd87c9244eabad90778a40bf60e0b467efd5cac") true
  aoc (λ_ h=>by cases h) aod (λ_ h=>by cases h) groupKeepsSpec_row_tie rfl ⟨rfl,rfl⟩ aoe rfl
  (λf fn hf hfn=>by
    obtain rfl:f=4:=Option.some.inj (aaP.symm.trans hf)|>.symm;obtain rfl:fn=Tryz.f4:=(Option.some.inj (Tryz.func4.symm.trans hfn)).symm;exact⟨aof,λj t ht=>by
     rw[Tryz.params4]at ht;have hm:t∈[34,47,41]:=by simpa using Array.mem_of_getElem? ht
     exact(show Tryz.prog.wantsStandIn t=false by simpa using jL.1 aog t hm)⟩)
  aoh
#print axioms groupKeepsSpec_holds
