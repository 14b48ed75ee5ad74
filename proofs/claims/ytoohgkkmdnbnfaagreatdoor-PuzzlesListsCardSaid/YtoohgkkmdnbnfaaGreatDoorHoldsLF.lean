/-
  PuzzlesLists: for every input the law returns true, and its arguments read afterwards as they read before. Its card: the package variables that the row lists start as the program's text lays them.
-/
import Derived.Test.YtoohgkkmdnbnfaaGreatDoorTie
import Derived.Test.YtoohgkkmdnbnfaaGreatDoorRepF
import Derived.Test.YtoohgkkmdnbnfaaGreatDoorLawLF
import Derived.SevenTiedAt
set_option linter.all false
set_option maxHeartbeats 1000000
namespace Go.Proofs.YtoohgkkmdnbnfaaGreatDoor
open Go.Ideal Go.ChangeShapes Go.WideShapes Go.ChangeAt Go.RowKit
set_option maxRecDepth 100000 in
theorem ahJ(os:Os)(started:os.Started)(H:Type)(enc:TypeId×Value->H):
 ReturnsInHanded {} Tryz.checked os 9 .any (λw args=>(Rows.puzzlesListsSpec.pre enc Tryz.prog Tryz.f9 [] false w args/\laidMetH Tryz.prog Rows.puzzlesListsRow.laid w)/\sizedMet enc Tryz.prog Tryz.f9 (OpenSpec.ofChange Rows.puzzlesListsSpec) false w args) (Rows.puzzlesListsSpec.post enc Tryz.prog Tryz.f9 false true false false):=by
 refine returnsInHanded_of_change_and (C:=Tryz.checked) (X:=λw _=>laidMetH Tryz.prog Rows.puzzlesListsRow.laid w) (λ_ _ _ hh h=>h.of_heap hh) own started (by kernel_rfl) Tryz.func9
  (ChangeSpec.witness_shaped (enc:=enc) (C:=Tryz.checked) (os:=os) (X:=λw _=>laidMetH Tryz.prog Rows.puzzlesListsRow.laid w) false (World.doorLaid Tryz.prog 4000 os) #[.agg #[.string ⟨#[]⟩,.int .i64 0,.int .i64 0,.int .i64 0,.int .i64 0,.slice none 0 0,.slice none 0 0,.slice none 0 0,.slice none 0 0,.slice none 0 0,.int .i64 0,.int .i64 0,.int .i64 0,.slice none 0 0,.slice none 0 0,.slice none 0 0,.slice none 0 0],.agg #[.slice none 0 0]] 10 rfl (World.shaped_of_RefB (by kernel_rfl) (by kernel_rfl)) (by kernel_rfl) (by kernel_rfl) (by kernel_rfl) (ahA os _)) ?_
 intro W base args ds gs before hval0 hW _ _ hL _;have hval:∀(j:Nat) t v,Tryz.f9.params[j]? =some t->args[j]? =some v->Value.okWide Tryz.prog W .any base t v:=hval0;have hW':=hW;obtain⟨p,q,Kg,hV,rfl,hfz,_⟩:=hW;have hA:DataW.TrodAll enc Tryz.prog W 0 (λ_=>true) true Tryz.f9.params.toList args.toList ds p:=Kg;have hAk:=hA;rw[Tryz.params9]at hA hval;obtain⟨rfl,rfl⟩:=trodVars_none hV;obtain⟨la,ld⟩:=Qy hA;obtain⟨d0,d1,rfl⟩:=Qz ld;have hc:Calls Tryz.prog 9 args W (λe w'=>e=.returned (.bool true)/\Below W.heap.size W w'):=by
  refine abn follows Tryz.f9 Tryz.func9 (by kernel_rfl) (by kernel_rfl) (K:=(·∈zZ)) ahf (ts:=[34,37]) (ds:=[d0,d1]) (by simp[zZ]) (λj t v hj hv=>?_) hA ?_
  ·exact hval j t v (by rw[<- hj];simp) (by rw[<- hv];simp)
  ·intro w vs hnx hz hlen Vg;obtain⟨v0,v1,rfl⟩:=Qz (hlen.trans la);obtain⟨a0,y0,rfl,f0,g0⟩:=(Vg 0 34 v0 d0 rfl rfl rfl).QG hz ahg ahw;obtain⟨a1,y1,rfl,f1,g1⟩:=(Vg 1 37 v1 d1 rfl rfl rfl).QG hz ahh ahz;refine⟨_,?_,ahG (k:=a0) (p:=a1) g0 g1⟩;intro f hf;rcases dD.1 hf with rfl|hf
   ·show 6<=w.h.next
    rw[globals]at hnx;exact hnx
   rcases dD.1 hf with rfl|hf
   ·exact f1 _ (bH.2 rfl)
   exact f0 f hf
 refine hc.mono λe W' ⟨he,hb⟩=>?_;subst he;exact⟨_,rfl,Ze (pv:=[]) hW' (λ_ _ _=>trodAll_mk1 (shut_bool Tryz.underlying4 _))
  (λsp hsp=>Qc kids (λ{t e}=>full t e) hb (by rw[Tryz.params9];intro t ht;exact small t ((by decide:∀t∈([34,37]:List TypeId),t∈zZ) t ht)) hAk (λp hp=>hsp p (by simpa using hp)))
  (λ_ _=>rfl) (by simp) hb (ok_one (by kernel_rfl) rfl (okWide_bool_mk Tryz.underlying4 _))⟩
theorem Vh:Tryz.pinned.checked.prog.funcNamed Rows.puzzlesListsRow.func=some 9:=by kernel_rfl
theorem ahK:(Rows.puzzlesListsRow.inPlace==Tryz.pinned.checked.prog.inPlace 9)=true:=by kernel_rfl
theorem ahL:(Rows.puzzlesListsRow.unfollowed==Tryz.pinned.checked.prog.unfollowed 9)=true:=by kernel_rfl
theorem ahM:(Rows.puzzlesListsRow.recurses==Tryz.pinned.checked.prog.recurses 9)=true:=by kernel_rfl
theorem ahN:(Rows.puzzlesListsRow.named==Tryz.pinned.checked.prog.varsNamed 9)=true:=by kernel_rfl
theorem ahO:joinedFacts Tryz.pinned.checked.prog 9 Tryz.f9 Rows.puzzlesListsSpec Rows.puzzlesListsRow=true:=by
 unfold joinedFacts;rw[ahK,ahL,ahM,ahN]
 kernel_rfl
theorem ahP:Tryz.f9.isInstance Tryz.pinned.checked.prog Rows.puzzlesListsRow.origin Rows.puzzlesListsRow.targs:=gQ (by kernel_rfl)
theorem ahQ:Tryz.f9.isWrapper Tryz.pinned.checked.prog Rows.puzzlesListsRow.wrapper Rows.puzzlesListsRow.mainSum:=by
 unfold Func.isWrapper;first|(rw[if_pos (by decide+kernel)];kernel_rfl)|(rw[if_neg (by decide+kernel)];exact⟨rfl,rfl⟩)
theorem ahR:Rows.PuzzlesListsSaid:=
 OpenClaim.holds_of_wide 9 Tryz.f9 rfl rfl rfl rfl rfl rfl rfl ⟨rfl,rfl,rfl,rfl,rfl⟩ rfl rfl rfl rfl rfl Vh Tryz.func9 ahO ahP ahQ
  (λos started H enc _=>ahJ os started H enc)
theorem ahS:Rows.puzzlesListsRow.wfByText (OpenSpec.ofChange Rows.puzzlesListsSpec)=true:=by kernel_rfl
theorem ahT:Tryz.pinned.checked.prog.mainIs=some (true,("2941863587496d5c17aab5443e0acf468e780cb3dba0cd4a05c5c52affc88693" :String).toList):=by kernel_rfl
theorem ahU:true=Tryz.pinned.checked.prog.looks []:=by kernel_rfl
theorem ahV:([34,37].all λu=>!Tryz.prog.wantsStandIn u)=true:=by kernel_rfl
theorem ahW:false=Rows.puzzlesListsRow.goesBy Tryz.pinned.checked.prog:=by kernel_rfl
theorem puzzlesLists_holds:Rows.PuzzlesListsCardSaid:=
 Claim7.holds_tied_plain_at .later [] [.data,.data,.data,.sentinel,.sentinel] true (true, "2941863587496d5c17aab5443e0acf468e780cb3dba0cd4a05c5c52affc88693") true
  ahR (λ_ h=>by cases h) ahS (λ_ h=>by cases h) puzzlesLists_row_tie rfl ⟨rfl,rfl⟩ ahT rfl
  (λf fn hf hfn=>by
    obtain rfl:f=9:=Option.some.inj (Vh.symm.trans hf)|>.symm;obtain rfl:fn=Tryz.f9:=(Option.some.inj (Tryz.func9.symm.trans hfn)).symm;exact⟨ahU,λj t ht=>by
     rw[Tryz.params9]at ht;have hm:t∈[34,37]:=by simpa using Array.mem_of_getElem? ht
     exact(show Tryz.prog.wantsStandIn t=false by simpa using kV.1 ahV t hm)⟩)
  ahW
#print axioms puzzlesLists_holds
