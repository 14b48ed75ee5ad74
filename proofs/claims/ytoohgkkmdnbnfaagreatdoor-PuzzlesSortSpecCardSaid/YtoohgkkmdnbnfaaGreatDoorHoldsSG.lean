/-
  PuzzlesSortSpec: for every input the law returns true, and its arguments read afterwards as they read before. Its card: the package variables that the row lists start as the program's text lays them.
-/
import Derived.Test.YtoohgkkmdnbnfaaGreatDoorTie
import Derived.Test.YtoohgkkmdnbnfaaGreatDoorRepG
import Derived.SevenTiedAt
set_option linter.all false
set_option maxHeartbeats 1000000
namespace Go.Proofs.YtoohgkkmdnbnfaaGreatDoor
open Go.Ideal Go.ChangeShapes Go.WideShapes Go.ChangeAt Go.RowKit
set_option maxRecDepth 100000 in
theorem Qq(os:Os)(started:os.Started)(H:Type)(enc:TypeId×Value->H):
 ReturnsInHanded {} Tryz.checked os 4 .any (λw args=>(Rows.puzzlesSortSpecSpec.pre enc Tryz.prog Tryz.f4 [] false w args/\laidMetH Tryz.prog Rows.puzzlesSortSpecRow.laid w)/\sizedMet enc Tryz.prog Tryz.f4 (OpenSpec.ofChange Rows.puzzlesSortSpecSpec) false w args) (Rows.puzzlesSortSpecSpec.post enc Tryz.prog Tryz.f4 false true false false):=by
 refine returnsInHanded_of_change_and (C:=Tryz.checked) (X:=λw _=>laidMetH Tryz.prog Rows.puzzlesSortSpecRow.laid w) (λ_ _ _ hh h=>h.of_heap hh) own started (by kernel_rfl) Tryz.func4
  (ChangeSpec.witness_shaped (enc:=enc) (C:=Tryz.checked) (os:=os) (X:=λw _=>laidMetH Tryz.prog Rows.puzzlesSortSpecRow.laid w) false (World.doorLaid Tryz.prog 4000 os) #[.slice none 0 0] 8 rfl (World.shaped_of_RefB (by kernel_rfl) (by kernel_rfl)) (by kernel_rfl) (by kernel_rfl) (by kernel_rfl) (Gi os _)) ?_
 intro W base args ds gs before hval0 hW _ _ hL _;have hval:∀(j:Nat) t v,Tryz.f4.params[j]? =some t->args[j]? =some v->Value.okWide Tryz.prog W .any base t v:=hval0;have hW':=hW;obtain⟨p,q,sQ,hV,rfl,hfz,_⟩:=hW;have hA:DataW.TrodAll enc Tryz.prog W 0 (λ_=>true) true Tryz.f4.params.toList args.toList ds p:=sQ;have hAk:=hA;rw[Tryz.params4]at hA hval;obtain⟨rfl,rfl⟩:=trodVars_none hV;obtain⟨la,ld⟩:=Ae hA;obtain⟨d0,rfl⟩:=List.length_eq_one_iff.1 ld;have hc:Calls Tryz.prog 4 args W (λe w'=>e=.returned (.bool true)/\Below W.heap.size W w'):=by
  refine Fe follows Tryz.f4 Tryz.func4 (by kernel_rfl) (by kernel_rfl) (K:=(·∈lC)) Gd (ts:=[35]) (ds:=[d0]) (by simp[lC]) (λj t v hj hv=>?_) hA ?_
  ·exact hval j t v (by rw[<- hj];simp) (by rw[<- hv];simp)
  ·intro w vs hnx hz hlen xO;obtain⟨v0,rfl⟩:=List.length_eq_one_iff.1 (hlen.trans la);obtain⟨a0,y0,e0,f0,g0⟩:=(xO 0 35 v0 d0 rfl rfl rfl).oneG hz Gf Gh;obtain rfl:y0=v0:=by injection e0
   refine⟨_,?_,Qf (xs:=a0) g0.1⟩;intro f hf;simp only[aR,List.not_mem_nil,or_false]at hf;rcases hf with rfl|rfl
   ·show 6<=w.h.next
    rw[globals]at hnx;exact hnx
   ·exact f0 _ (bV.2 rfl)
 refine hc.mono λe W' ⟨he,hb⟩=>?_;subst he;exact⟨_,rfl,Ed (pv:=[]) hW' (λ_ _ _=>trodAll_mk1 (shut_bool Tryz.underlying4 _))
  (λsp hsp=>zR kids (λ{t e}=>full t e) hb (by rw[Tryz.params4];intro t ht;exact small t ((by decide:∀t∈([35]:List TypeId),t∈lC) t ht)) hAk (λp hp=>hsp p (by simpa using hp)))
  (λ_ _=>rfl) (by simp) hb (ok_one (by kernel_rfl) rfl (okWide_bool_mk Tryz.underlying4 _))⟩
theorem Gj:Tryz.pinned.checked.prog.funcNamed Rows.puzzlesSortSpecRow.func=some 4:=by kernel_rfl
theorem Qr:(Rows.puzzlesSortSpecRow.inPlace==Tryz.pinned.checked.prog.inPlace 4)=true:=by kernel_rfl
theorem Qs:(Rows.puzzlesSortSpecRow.unfollowed==Tryz.pinned.checked.prog.unfollowed 4)=true:=by kernel_rfl
theorem Qt:(Rows.puzzlesSortSpecRow.recurses==Tryz.pinned.checked.prog.recurses 4)=true:=by kernel_rfl
theorem Qu:(Rows.puzzlesSortSpecRow.named==Tryz.pinned.checked.prog.varsNamed 4)=true:=by kernel_rfl
theorem Qv:joinedFacts Tryz.pinned.checked.prog 4 Tryz.f4 Rows.puzzlesSortSpecSpec Rows.puzzlesSortSpecRow=true:=by
 unfold joinedFacts;rw[Qr,Qs,Qt,Qu]
 kernel_rfl
theorem Qw:Tryz.f4.isInstance Tryz.pinned.checked.prog Rows.puzzlesSortSpecRow.origin Rows.puzzlesSortSpecRow.targs:=jO (by kernel_rfl)
theorem Qx:Tryz.f4.isWrapper Tryz.pinned.checked.prog Rows.puzzlesSortSpecRow.wrapper Rows.puzzlesSortSpecRow.mainSum:=by
 unfold Func.isWrapper;first|(rw[if_pos (by decide+kernel)];kernel_rfl)|(rw[if_neg (by decide+kernel)];exact⟨rfl,rfl⟩)
theorem Qy:Rows.PuzzlesSortSpecSaid:=
 OpenClaim.holds_of_wide 4 Tryz.f4 rfl rfl rfl rfl rfl rfl rfl ⟨rfl,rfl,rfl,rfl,rfl⟩ rfl rfl rfl rfl rfl Gj Tryz.func4 Qv Qw Qx
  (λos started H enc _=>Qq os started H enc)
theorem Qz:Rows.puzzlesSortSpecRow.wfByText (OpenSpec.ofChange Rows.puzzlesSortSpecSpec)=true:=by kernel_rfl
theorem QA:Tryz.pinned.checked.prog.mainIs=some (true,("2941863587496d5c17aab5443e0acf468e780cb3dba0cd4a05c5c52affc88693" :String).toList):=by kernel_rfl
theorem QB:true=Tryz.pinned.checked.prog.looks []:=by kernel_rfl
theorem QC:([35].all λu=>!Tryz.prog.wantsStandIn u)=true:=by kernel_rfl
theorem QD:false=Rows.puzzlesSortSpecRow.goesBy Tryz.pinned.checked.prog:=by kernel_rfl
theorem puzzlesSortSpec_holds:Rows.PuzzlesSortSpecCardSaid:=
 Claim7.holds_tied_plain_at .later [] [.data,.data,.data,.sentinel,.sentinel] true (true, "2941863587496d5c17aab5443e0acf468e780cb3dba0cd4a05c5c52affc88693") true
  Qy (λ_ h=>by cases h) Qz (λ_ h=>by cases h) puzzlesSortSpec_row_tie rfl ⟨rfl,rfl⟩ QA rfl
  (λf fn hf hfn=>by
    obtain rfl:f=4:=Option.some.inj (Gj.symm.trans hf)|>.symm;obtain rfl:fn=Tryz.f4:=(Option.some.inj (Tryz.func4.symm.trans hfn)).symm;exact⟨QB,λj t ht=>by
     rw[Tryz.params4]at ht;have hm:t∈[35]:=by simpa using Array.mem_of_getElem? ht
     exact(show Tryz.prog.wantsStandIn t=false by simpa using dR.1 QC t hm)⟩)
  QD
#print axioms puzzlesSortSpec_holds
