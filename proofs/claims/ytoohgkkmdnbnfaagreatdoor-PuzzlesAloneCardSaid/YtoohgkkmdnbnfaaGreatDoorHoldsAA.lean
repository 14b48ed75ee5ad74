/-
  PuzzlesAlone, by its card.
-/
import Derived.Test.YtoohgkkmdnbnfaaGreatDoorTie
import Derived.Test.YtoohgkkmdnbnfaaGreatDoorRepA
import Derived.Test.YtoohgkkmdnbnfaaGreatDoorLawAA
import Derived.SevenTiedAt
set_option linter.all false
set_option maxHeartbeats 1000000
namespace Go.Proofs.YtoohgkkmdnbnfaaGreatDoor
open Go.Ideal Go.ChangeShapes Go.WideShapes Go.ChangeAt Go.RowKit
set_option maxRecDepth 100000 in
theorem ai0(os:Os)(started:os.Started)(H:Type)(enc:TypeId×Value->H):
 ReturnsInHanded {} Tryz.checked os 8 .any (λw args=>(Rows.puzzlesAloneSpec.pre enc Tryz.prog Tryz.f8 [] false w args/\laidMetH Tryz.prog Rows.puzzlesAloneRow.laid w)/\sizedMet enc Tryz.prog Tryz.f8 (OpenSpec.ofChange Rows.puzzlesAloneSpec) false w args) (Rows.puzzlesAloneSpec.post enc Tryz.prog Tryz.f8 false true false false):=by
 refine returnsInHanded_of_change_and (C:=Tryz.checked) (X:=λw _=>laidMetH Tryz.prog Rows.puzzlesAloneRow.laid w) (λ_ _ _ hh h=>h.of_heap hh) own started (by kernel_rfl) Tryz.func8
  (ChangeSpec.witness_shaped (enc:=enc) (C:=Tryz.checked) (os:=os) (X:=λw _=>laidMetH Tryz.prog Rows.puzzlesAloneRow.laid w) false (World.doorLaid Tryz.prog 4000 os) #[.agg #[.string ⟨#[]⟩,.int .i64 0,.int .i64 0,.int .i64 0,.int .i64 0,.slice none 0 0,.slice none 0 0,.slice none 0 0,.slice none 0 0,.slice none 0 0,.int .i64 0,.int .i64 0,.int .i64 0,.slice none 0 0,.slice none 0 0,.slice none 0 0,.slice none 0 0],.agg #[.slice none 0 0],.int .i64 0] 10 rfl (World.shaped_of_RefB (by kernel_rfl) (by kernel_rfl)) (by kernel_rfl) (by kernel_rfl) (by kernel_rfl) (aiB os _)) ?_
 intro W base args ds gs before hval0 hW _ _ hL _;have hval:∀(j:Nat) t v,Tryz.f8.params[j]? =some t->args[j]? =some v->Value.okWide Tryz.prog W .any base t v:=hval0;have hW':=hW;obtain⟨p,q,KP,hV,rfl,hfz,_⟩:=hW;have hA:DataW.TrodAll enc Tryz.prog W 0 (λ_=>true) true Tryz.f8.params.toList args.toList ds p:=KP;have hAk:=hA;rw[Tryz.params8]at hA hval;obtain⟨rfl,rfl⟩:=trodVars_none hV;obtain⟨la,ld⟩:=Q4 hA;obtain⟨d0,d1,d2,rfl⟩:=Q5 ld;have hc:Calls Tryz.prog 8 args W (λe w'=>e=.returned (.bool true)/\Below W.heap.size W w'):=by
  refine ab9 follows Tryz.f8 Tryz.func8 (by kernel_rfl) (by kernel_rfl) (K:=(·∈AC)) aie (ts:=[34,37,3]) (ds:=[d0,d1,d2]) (by simp[AC]) (λj t v hj hv=>?_) hA ?_
  ·exact hval j t v (by rw[<- hj];simp) (by rw[<- hv];simp)
  ·intro w vs hnx hz hlen Oh;obtain⟨v0,v1,v2,rfl⟩:=Q5 (hlen.trans la);obtain⟨a0,y0,rfl,f0,g0⟩:=(Oh 0 34 v0 d0 rfl rfl rfl).Rc hz aif aix;obtain⟨a1,y1,rfl,f1,g1⟩:=(Oh 1 37 v1 d1 rfl rfl rfl).Rc hz aih aiA;obtain⟨a2,y2,e2,f2,g2⟩:=(Oh 2 3 v2 d2 rfl rfl rfl).oneG hz aii kY;obtain rfl:Value.int .i64 a2=v2:=by injection e2
   refine⟨_,?_,aiR (k:=a0) (p:=a1) (at_:=a2) g0 g1 g2⟩;intro f hf;rcases dF.1 hf with rfl|hf
   ·show 6<=w.h.next
    rw[globals]at hnx;exact hnx
   rcases dF.1 hf with rfl|hf
   ·exact f1 _ (bH.2 rfl)
   exact f0 f hf
 refine hc.mono λe W' ⟨he,hb⟩=>?_;subst he;exact⟨_,rfl,Z4 (pv:=[]) hW' (λ_ _ _=>trodAll_mk1 (shut_bool Tryz.underlying4 _))
  (λsp hsp=>QF kids (λ{t e}=>full t e) hb (by rw[Tryz.params8];intro t ht;exact small t ((by decide:∀t∈([34,37,3]:List TypeId),t∈AC) t ht)) hAk (λp hp=>hsp p (by simpa using hp)))
  (λ_ _=>rfl) (by simp) hb (ok_one (by kernel_rfl) rfl (okWide_bool_mk Tryz.underlying4 _))⟩
theorem V5:Tryz.pinned.checked.prog.funcNamed Rows.puzzlesAloneRow.func=some 8:=by kernel_rfl
theorem ai1:(Rows.puzzlesAloneRow.inPlace==Tryz.pinned.checked.prog.inPlace 8)=true:=by kernel_rfl
theorem ai2:(Rows.puzzlesAloneRow.unfollowed==Tryz.pinned.checked.prog.unfollowed 8)=true:=by kernel_rfl
theorem ai3:(Rows.puzzlesAloneRow.recurses==Tryz.pinned.checked.prog.recurses 8)=true:=by kernel_rfl
theorem ai4:(Rows.puzzlesAloneRow.named==Tryz.pinned.checked.prog.varsNamed 8)=true:=by kernel_rfl
theorem ai5:joinedFacts Tryz.pinned.checked.prog 8 Tryz.f8 Rows.puzzlesAloneSpec Rows.puzzlesAloneRow=true:=by
 unfold joinedFacts;rw[ai1,ai2,ai3,ai4]
 kernel_rfl
theorem ai6:Tryz.f8.isInstance Tryz.pinned.checked.prog Rows.puzzlesAloneRow.origin Rows.puzzlesAloneRow.targs:=gY (by kernel_rfl)
theorem ai7:Tryz.f8.isWrapper Tryz.pinned.checked.prog Rows.puzzlesAloneRow.wrapper Rows.puzzlesAloneRow.mainSum:=by
 unfold Func.isWrapper;first|(rw[if_pos (by decide+kernel)];kernel_rfl)|(rw[if_neg (by decide+kernel)];exact⟨rfl,rfl⟩)
theorem ai8:Rows.PuzzlesAloneSaid:=
 OpenClaim.holds_of_wide 8 Tryz.f8 rfl rfl rfl rfl rfl rfl rfl ⟨rfl,rfl,rfl,rfl,rfl⟩ rfl rfl rfl rfl rfl V5 Tryz.func8 ai5 ai6 ai7
  (λos started H enc _=>ai0 os started H enc)
theorem ai9:Rows.puzzlesAloneRow.wfByText (OpenSpec.ofChange Rows.puzzlesAloneSpec)=true:=by kernel_rfl
theorem aja:Tryz.pinned.checked.prog.mainIs=some (true,("2941863587496d5c17aab5443e0acf468e780cb3dba0cd4a05c5c52affc88693" :String).toList):=by kernel_rfl
theorem ajb:true=Tryz.pinned.checked.prog.looks []:=by kernel_rfl
theorem ajc:([34,37,3].all λu=>!Tryz.prog.wantsStandIn u)=true:=by kernel_rfl
theorem ajd:false=Rows.puzzlesAloneRow.goesBy Tryz.pinned.checked.prog:=by kernel_rfl
theorem puzzlesAlone_holds:Rows.PuzzlesAloneCardSaid:=
 Claim7.holds_tied_plain_at .later [] [.data,.data,.data,.sentinel,.sentinel] true (true, "2941863587496d5c17aab5443e0acf468e780cb3dba0cd4a05c5c52affc88693") true
  ai8 (λ_ h=>by cases h) ai9 (λ_ h=>by cases h) puzzlesAlone_row_tie rfl ⟨rfl,rfl⟩ aja rfl
  (λf fn hf hfn=>by
    obtain rfl:f=8:=Option.some.inj (V5.symm.trans hf)|>.symm;obtain rfl:fn=Tryz.f8:=(Option.some.inj (Tryz.func8.symm.trans hfn)).symm;exact⟨ajb,λj t ht=>by
     rw[Tryz.params8]at ht;have hm:t∈[34,37,3]:=by simpa using Array.mem_of_getElem? ht
     exact(show Tryz.prog.wantsStandIn t=false by simpa using lG.1 ajc t hm)⟩)
  ajd
#print axioms puzzlesAlone_holds
