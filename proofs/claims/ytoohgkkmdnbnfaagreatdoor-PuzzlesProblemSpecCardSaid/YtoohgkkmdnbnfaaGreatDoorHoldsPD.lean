/-
  PuzzlesProblemSpec: for every input the law returns true, and its arguments read afterwards as they read before. Its card: the package variables that the row lists start as the program's text lays them.
-/
import Derived.Test.YtoohgkkmdnbnfaaGreatDoorTie
import Derived.Test.YtoohgkkmdnbnfaaGreatDoorRepD
import Derived.Test.YtoohgkkmdnbnfaaGreatDoorLawPD
import Derived.SevenTiedAt
set_option linter.all false
set_option maxHeartbeats 1000000
namespace Go.Proofs.YtoohgkkmdnbnfaaGreatDoor
open Go.Ideal Go.ChangeShapes Go.WideShapes Go.ChangeAt Go.RowKit
set_option maxRecDepth 100000 in
theorem aia(os:Os)(started:os.Started)(H:Type)(enc:TypeId×Value->H):
 ReturnsInHanded {} Tryz.checked os 5 .any (λw args=>(Rows.puzzlesProblemSpecSpec.pre enc Tryz.prog Tryz.f5 [] false w args/\laidMetH Tryz.prog Rows.puzzlesProblemSpecRow.laid w)/\sizedMet enc Tryz.prog Tryz.f5 (OpenSpec.ofChange Rows.puzzlesProblemSpecSpec) false w args) (Rows.puzzlesProblemSpecSpec.post enc Tryz.prog Tryz.f5 false true false false):=by
 refine returnsInHanded_of_change_and (C:=Tryz.checked) (X:=λw _=>laidMetH Tryz.prog Rows.puzzlesProblemSpecRow.laid w) (λ_ _ _ hh h=>h.of_heap hh) own started (by kernel_rfl) Tryz.func5
  (ChangeSpec.witness_shaped (enc:=enc) (C:=Tryz.checked) (os:=os) (X:=λw _=>laidMetH Tryz.prog Rows.puzzlesProblemSpecRow.laid w) false (World.doorLaid Tryz.prog 4000 os) #[.agg #[.string ⟨#[]⟩,.int .i64 0,.int .i64 0,.int .i64 0,.int .i64 0,.slice none 0 0,.slice none 0 0,.slice none 0 0,.slice none 0 0,.slice none 0 0,.int .i64 0,.int .i64 0,.int .i64 0,.slice none 0 0,.slice none 0 0,.slice none 0 0,.slice none 0 0],.agg #[.slice none 0 0]] 10 rfl (World.shaped_of_RefB (by kernel_rfl) (by kernel_rfl)) (by kernel_rfl) (by kernel_rfl) (by kernel_rfl) (ah4 os _)) ?_
 intro W base args ds gs before hval0 hW _ _ hL _;have hval:∀(j:Nat) t v,Tryz.f5.params[j]? =some t->args[j]? =some v->Value.okWide Tryz.prog W .any base t v:=hval0;have hW':=hW;obtain⟨p,q,KE,hV,rfl,hfz,_⟩:=hW;have hA:DataW.TrodAll enc Tryz.prog W 0 (λ_=>true) true Tryz.f5.params.toList args.toList ds p:=KE;have hAk:=hA;rw[Tryz.params5]at hA hval;obtain⟨rfl,rfl⟩:=trodVars_none hV;obtain⟨la,ld⟩:=QT hA;obtain⟨d0,d1,rfl⟩:=QU ld;have hc:Calls Tryz.prog 5 args W (λe w'=>e=.returned (.bool true)/\Below W.heap.size W w'):=by
  refine abI follows Tryz.f5 Tryz.func5 (by kernel_rfl) (by kernel_rfl) (K:=(·∈Ak)) ahJ (ts:=[34,37]) (ds:=[d0,d1]) (by simp[Ak]) (λj t v hj hv=>?_) hA ?_
  ·exact hval j t v (by rw[<- hj];simp) (by rw[<- hv];simp)
  ·intro w vs hnx hz hlen VA;obtain⟨v0,v1,rfl⟩:=QU (hlen.trans la);obtain⟨a0,y0,rfl,f0,g0⟩:=(VA 0 34 v0 d0 rfl rfl rfl).Q5 hz ahK ah0;obtain⟨a1,y1,rfl,f1,g1⟩:=(VA 1 37 v1 d1 rfl rfl rfl).Q5 hz ahL ah3;refine⟨_,?_,ah7 (k:=a0) (p:=a1) g0 g1⟩;intro f hf;rcases dH.1 hf with rfl|hf
   ·show 6<=w.h.next
    rw[globals]at hnx;exact hnx
   rcases dH.1 hf with rfl|hf
   ·exact f1 _ (bI.2 rfl)
   exact f0 f hf
 refine hc.mono λe W' ⟨he,hb⟩=>?_;subst he;exact⟨_,rfl,ZB (pv:=[]) hW' (λ_ _ _=>trodAll_mk1 (shut_bool Tryz.underlying4 _))
  (λsp hsp=>Qv kids (λ{t e}=>full t e) hb (by rw[Tryz.params5];intro t ht;exact small t ((by decide:∀t∈([34,37]:List TypeId),t∈Ak) t ht)) hAk (λp hp=>hsp p (by simpa using hp)))
  (λ_ _=>rfl) (by simp) hb (ok_one (by kernel_rfl) rfl (okWide_bool_mk Tryz.underlying4 _))⟩
theorem VB:Tryz.pinned.checked.prog.funcNamed Rows.puzzlesProblemSpecRow.func=some 5:=by kernel_rfl
theorem aib:(Rows.puzzlesProblemSpecRow.inPlace==Tryz.pinned.checked.prog.inPlace 5)=true:=by kernel_rfl
theorem aic:(Rows.puzzlesProblemSpecRow.unfollowed==Tryz.pinned.checked.prog.unfollowed 5)=true:=by kernel_rfl
theorem aid:(Rows.puzzlesProblemSpecRow.recurses==Tryz.pinned.checked.prog.recurses 5)=true:=by kernel_rfl
theorem aie:(Rows.puzzlesProblemSpecRow.named==Tryz.pinned.checked.prog.varsNamed 5)=true:=by kernel_rfl
theorem aif:joinedFacts Tryz.pinned.checked.prog 5 Tryz.f5 Rows.puzzlesProblemSpecSpec Rows.puzzlesProblemSpecRow=true:=by
 unfold joinedFacts;rw[aib,aic,aid,aie]
 kernel_rfl
theorem aih:Tryz.f5.isInstance Tryz.pinned.checked.prog Rows.puzzlesProblemSpecRow.origin Rows.puzzlesProblemSpecRow.targs:=gX (by kernel_rfl)
theorem aii:Tryz.f5.isWrapper Tryz.pinned.checked.prog Rows.puzzlesProblemSpecRow.wrapper Rows.puzzlesProblemSpecRow.mainSum:=by
 unfold Func.isWrapper;first|(rw[if_pos (by decide+kernel)];kernel_rfl)|(rw[if_neg (by decide+kernel)];exact⟨rfl,rfl⟩)
theorem aij:Rows.PuzzlesProblemSpecSaid:=
 OpenClaim.holds_of_wide 5 Tryz.f5 rfl rfl rfl rfl rfl rfl rfl ⟨rfl,rfl,rfl,rfl,rfl⟩ rfl rfl rfl rfl rfl VB Tryz.func5 aif aih aii
  (λos started H enc _=>aia os started H enc)
theorem aik:Rows.puzzlesProblemSpecRow.wfByText (OpenSpec.ofChange Rows.puzzlesProblemSpecSpec)=true:=by kernel_rfl
theorem ail:Tryz.pinned.checked.prog.mainIs=some (true,("2941863587496d5c17aab5443e0acf468e780cb3dba0cd4a05c5c52affc88693" :String).toList):=by kernel_rfl
theorem aim:true=Tryz.pinned.checked.prog.looks []:=by kernel_rfl
theorem ain:([34,37].all λu=>!Tryz.prog.wantsStandIn u)=true:=by kernel_rfl
theorem aio:false=Rows.puzzlesProblemSpecRow.goesBy Tryz.pinned.checked.prog:=by kernel_rfl
theorem puzzlesProblemSpec_holds:Rows.PuzzlesProblemSpecCardSaid:=
 Claim7.holds_tied_plain_at .later [] [.data,.data,.data,.sentinel,.sentinel] true (true, "2941863587496d5c17aab5443e0acf468e780cb3dba0cd4a05c5c52affc88693") true
  aij (λ_ h=>by cases h) aik (λ_ h=>by cases h) puzzlesProblemSpec_row_tie rfl ⟨rfl,rfl⟩ ail rfl
  (λf fn hf hfn=>by
    obtain rfl:f=5:=Option.some.inj (VB.symm.trans hf)|>.symm;obtain rfl:fn=Tryz.f5:=(Option.some.inj (Tryz.func5.symm.trans hfn)).symm;exact⟨aim,λj t ht=>by
     rw[Tryz.params5]at ht;have hm:t∈[34,37]:=by simpa using Array.mem_of_getElem? ht
     exact(show Tryz.prog.wantsStandIn t=false by simpa using lc.1 ain t hm)⟩)
  aio
#print axioms puzzlesProblemSpec_holds
