/-
  PuzzlesSorted: for every input the law returns true, and its arguments read afterwards as they read before. Its card: the package variables that the row lists start as the program's text lays them.
-/
import Derived.Test.YtoohgkkmdnbnfaaGreatDoorTie
import Derived.Test.YtoohgkkmdnbnfaaGreatDoorRepG
import Derived.SevenTiedAt
set_option linter.all false
set_option maxHeartbeats 1000000
namespace Go.Proofs.YtoohgkkmdnbnfaaGreatDoor
open Go.Ideal Go.ChangeShapes Go.WideShapes Go.ChangeAt Go.RowKit
set_option maxRecDepth 100000 in
theorem QE(os:Os)(started:os.Started)(H:Type)(enc:TypeId×Value->H):
 ReturnsInHanded {} Tryz.checked os 7 .any (λw args=>(Rows.puzzlesSortedSpec.pre enc Tryz.prog Tryz.f7 [] false w args/\laidMetH Tryz.prog Rows.puzzlesSortedRow.laid w)/\sizedMet enc Tryz.prog Tryz.f7 (OpenSpec.ofChange Rows.puzzlesSortedSpec) false w args) (Rows.puzzlesSortedSpec.post enc Tryz.prog Tryz.f7 false true false false):=by
 refine returnsInHanded_of_change_and (C:=Tryz.checked) (X:=λw _=>laidMetH Tryz.prog Rows.puzzlesSortedRow.laid w) (λ_ _ _ hh h=>h.of_heap hh) own started (by kernel_rfl) Tryz.func7
  (ChangeSpec.witness_shaped (enc:=enc) (C:=Tryz.checked) (os:=os) (X:=λw _=>laidMetH Tryz.prog Rows.puzzlesSortedRow.laid w) false (World.doorLaid Tryz.prog 4000 os) #[.slice none 0 0,.int .i64 0] 8 rfl (World.shaped_of_RefB (by kernel_rfl) (by kernel_rfl)) (by kernel_rfl) (by kernel_rfl) (by kernel_rfl) (Gi os _)) ?_
 intro W base args ds gs before hval0 hW _ _ hL _;have hval:∀(j:Nat) t v,Tryz.f7.params[j]? =some t->args[j]? =some v->Value.okWide Tryz.prog W .any base t v:=hval0;have hW':=hW;obtain⟨p,q,sQ,hV,rfl,hfz,_⟩:=hW;have hA:DataW.TrodAll enc Tryz.prog W 0 (λ_=>true) true Tryz.f7.params.toList args.toList ds p:=sQ;have hAk:=hA;rw[Tryz.params7]at hA hval;obtain⟨rfl,rfl⟩:=trodVars_none hV;obtain⟨la,ld⟩:=Ae hA;obtain⟨d0,d1,rfl⟩:=EM ld;have hc:Calls Tryz.prog 7 args W (λe w'=>e=.returned (.bool true)/\Below W.heap.size W w'):=by
  refine Fe follows Tryz.f7 Tryz.func7 (by kernel_rfl) (by kernel_rfl) (K:=(·∈lC)) Gd (ts:=[35,3]) (ds:=[d0,d1]) (by simp[lC]) (λj t v hj hv=>?_) hA ?_
  ·exact hval j t v (by rw[<- hj];simp) (by rw[<- hv];simp)
  ·intro w vs hnx hz hlen xO;obtain⟨v0,v1,rfl⟩:=EM (hlen.trans la);obtain⟨a0,y0,e0,f0,g0⟩:=(xO 0 35 v0 d0 rfl rfl rfl).oneG hz Gf Gh;obtain rfl:y0=v0:=by injection e0
   obtain⟨a1,y1,e1,f1,g1⟩:=(xO 1 3 v1 d1 rfl rfl rfl).oneG hz Qn xN;obtain rfl:Value.int .i64 a1=v1:=by injection e1
   refine⟨_,?_,Qi (xs:=a0) (turn:=a1) g0.1 g1⟩;intro f hf;simp only[aR,List.not_mem_nil,or_false]at hf;rcases hf with rfl|rfl
   ·show 6<=w.h.next
    rw[globals]at hnx;exact hnx
   ·exact f0 _ (bV.2 rfl)
 refine hc.mono λe W' ⟨he,hb⟩=>?_;subst he;exact⟨_,rfl,Ed (pv:=[]) hW' (λ_ _ _=>trodAll_mk1 (shut_bool Tryz.underlying4 _))
  (λsp hsp=>zR kids (λ{t e}=>full t e) hb (by rw[Tryz.params7];intro t ht;exact small t ((by decide:∀t∈([35,3]:List TypeId),t∈lC) t ht)) hAk (λp hp=>hsp p (by simpa using hp)))
  (λ_ _=>rfl) (by simp) hb (ok_one (by kernel_rfl) rfl (okWide_bool_mk Tryz.underlying4 _))⟩
theorem Gl:Tryz.pinned.checked.prog.funcNamed Rows.puzzlesSortedRow.func=some 7:=by kernel_rfl
theorem QF:(Rows.puzzlesSortedRow.inPlace==Tryz.pinned.checked.prog.inPlace 7)=true:=by kernel_rfl
theorem QG:(Rows.puzzlesSortedRow.unfollowed==Tryz.pinned.checked.prog.unfollowed 7)=true:=by kernel_rfl
theorem QH:(Rows.puzzlesSortedRow.recurses==Tryz.pinned.checked.prog.recurses 7)=true:=by kernel_rfl
theorem QI:(Rows.puzzlesSortedRow.named==Tryz.pinned.checked.prog.varsNamed 7)=true:=by kernel_rfl
theorem QJ:joinedFacts Tryz.pinned.checked.prog 7 Tryz.f7 Rows.puzzlesSortedSpec Rows.puzzlesSortedRow=true:=by
 unfold joinedFacts;rw[QF,QG,QH,QI]
 kernel_rfl
theorem QK:Tryz.f7.isInstance Tryz.pinned.checked.prog Rows.puzzlesSortedRow.origin Rows.puzzlesSortedRow.targs:=jO (by kernel_rfl)
theorem QL:Tryz.f7.isWrapper Tryz.pinned.checked.prog Rows.puzzlesSortedRow.wrapper Rows.puzzlesSortedRow.mainSum:=by
 unfold Func.isWrapper;first|(rw[if_pos (by decide+kernel)];kernel_rfl)|(rw[if_neg (by decide+kernel)];exact⟨rfl,rfl⟩)
theorem QM:Rows.PuzzlesSortedSaid:=
 OpenClaim.holds_of_wide 7 Tryz.f7 rfl rfl rfl rfl rfl rfl rfl ⟨rfl,rfl,rfl,rfl,rfl⟩ rfl rfl rfl rfl rfl Gl Tryz.func7 QJ QK QL
  (λos started H enc _=>QE os started H enc)
theorem QN:Rows.puzzlesSortedRow.wfByText (OpenSpec.ofChange Rows.puzzlesSortedSpec)=true:=by kernel_rfl
theorem QO:Tryz.pinned.checked.prog.mainIs=some (true,("2941863587496d5c17aab5443e0acf468e780cb3dba0cd4a05c5c52affc88693" :String).toList):=by kernel_rfl
theorem QR:true=Tryz.pinned.checked.prog.looks []:=by kernel_rfl
theorem QS:([35,3].all λu=>!Tryz.prog.wantsStandIn u)=true:=by kernel_rfl
theorem QT:false=Rows.puzzlesSortedRow.goesBy Tryz.pinned.checked.prog:=by kernel_rfl
theorem puzzlesSorted_holds:Rows.PuzzlesSortedCardSaid:=
 Claim7.holds_tied_plain_at .later [] [.data,.data,.data,.sentinel,.sentinel] true (true, "2941863587496d5c17aab5443e0acf468e780cb3dba0cd4a05c5c52affc88693") true
  QM (λ_ h=>by cases h) QN (λ_ h=>by cases h) puzzlesSorted_row_tie rfl ⟨rfl,rfl⟩ QO rfl
  (λf fn hf hfn=>by
    obtain rfl:f=7:=Option.some.inj (Gl.symm.trans hf)|>.symm;obtain rfl:fn=Tryz.f7:=(Option.some.inj (Tryz.func7.symm.trans hfn)).symm;exact⟨QR,λj t ht=>by
     rw[Tryz.params7]at ht;have hm:t∈[35,3]:=by simpa using Array.mem_of_getElem? ht
     exact(show Tryz.prog.wantsStandIn t=false by simpa using dR.1 QS t hm)⟩)
  QT
#print axioms puzzlesSorted_holds
