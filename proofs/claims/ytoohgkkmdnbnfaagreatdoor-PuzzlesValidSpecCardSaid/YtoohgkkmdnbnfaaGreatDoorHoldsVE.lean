/-
  PuzzlesValidSpec: for every input the law returns true, and its arguments read afterwards as they read before. Its card: the package variables that the row lists start as the program's text lays them.
-/
import Derived.Test.YtoohgkkmdnbnfaaGreatDoorTie
import Derived.Test.YtoohgkkmdnbnfaaGreatDoorRepE
import Derived.Test.YtoohgkkmdnbnfaaGreatDoorLawVE
import Derived.SevenTiedAt
set_option linter.all false
set_option maxHeartbeats 1000000
namespace Go.Proofs.YtoohgkkmdnbnfaaGreatDoor
open Go.Ideal Go.ChangeShapes Go.WideShapes Go.ChangeAt Go.RowKit
set_option maxRecDepth 100000 in
theorem aeL(os:Os)(started:os.Started)(H:Type)(enc:TypeId×Value->H):
 ReturnsInHanded {} Tryz.checked os 6 .any (λw args=>(Rows.puzzlesValidSpecSpec.pre enc Tryz.prog Tryz.f6 [] false w args/\laidMetH Tryz.prog Rows.puzzlesValidSpecRow.laid w)/\sizedMet enc Tryz.prog Tryz.f6 (OpenSpec.ofChange Rows.puzzlesValidSpecSpec) false w args) (Rows.puzzlesValidSpecSpec.post enc Tryz.prog Tryz.f6 false true false false):=by
 refine returnsInHanded_of_change_and (C:=Tryz.checked) (X:=λw _=>laidMetH Tryz.prog Rows.puzzlesValidSpecRow.laid w) (λ_ _ _ hh h=>h.of_heap hh) own started (by kernel_rfl) Tryz.func6
  (ChangeSpec.witness_shaped (enc:=enc) (C:=Tryz.checked) (os:=os) (X:=λw _=>laidMetH Tryz.prog Rows.puzzlesValidSpecRow.laid w) false (World.doorLaid Tryz.prog 4000 os) #[.agg #[.int .i64 0,.int .i64 0,.slice none 0 0,.slice none 0 0,.slice none 0 0],.agg #[.string ⟨#[]⟩,.int .i64 0,.int .i64 0,.int .i64 0,.int .i64 0,.slice none 0 0,.slice none 0 0,.slice none 0 0,.slice none 0 0,.slice none 0 0,.int .i64 0,.int .i64 0,.int .i64 0,.slice none 0 0,.slice none 0 0,.slice none 0 0,.slice none 0 0],.agg #[.slice none 0 0]] 10 rfl (World.shaped_of_RefB (by kernel_rfl) (by kernel_rfl)) (by kernel_rfl) (by kernel_rfl) (by kernel_rfl) (aeI os _)) ?_
 intro W base args ds gs before hval0 hW _ _ hL _;have hval:∀(j:Nat) t v,Tryz.f6.params[j]? =some t->args[j]? =some v->Value.okWide Tryz.prog W .any base t v:=hval0;have hW':=hW;obtain⟨p,q,Iw,hV,rfl,hfz,_⟩:=hW;have hA:DataW.TrodAll enc Tryz.prog W 0 (λ_=>true) true Tryz.f6.params.toList args.toList ds p:=Iw;have hAk:=hA;rw[Tryz.params6]at hA hval;obtain⟨rfl,rfl⟩:=trodVars_none hV;obtain⟨la,ld⟩:=PE hA;obtain⟨d0,d1,d2,rfl⟩:=PG ld;have hc:Calls Tryz.prog 6 args W (λe w'=>e=.returned (.bool true)/\Below W.heap.size W w'):=by
  refine Zv follows Tryz.f6 Tryz.func6 (by kernel_rfl) (by kernel_rfl) (K:=(·∈yN)) aej (ts:=[51,34,37]) (ds:=[d0,d1,d2]) (by simp[yN]) (λj t v hj hv=>?_) hA ?_
  ·exact hval j t v (by rw[<- hj];simp) (by rw[<- hv];simp)
  ·intro w vs hnx hz hlen LC;obtain⟨v0,v1,v2,rfl⟩:=PG (hlen.trans la);obtain⟨a0,y0,rfl,f0,g0⟩:=(LC 0 51 v0 d0 rfl rfl rfl).Jl hz aem aeH;obtain⟨a1,y1,rfl,f1,g1⟩:=(LC 1 34 v1 d1 rfl rfl rfl).Jl hz aek aeB;obtain⟨a2,y2,rfl,f2,g2⟩:=(LC 2 37 v2 d2 rfl rfl rfl).Jl hz ael aeE;refine⟨_,?_,aeK (q:=a0) (k:=a1) (p:=a2) g0.1 g0.2 g1 g2⟩;intro f hf;rcases cK.1 hf with rfl|hf
   ·show 6<=w.h.next
    rw[globals]at hnx;exact hnx
   rcases cK.1 hf with rfl|hf
   ·exact f0 _ (by simp[Gj])
   rcases cK.1 hf with rfl|hf
   ·exact f0 _ (by simp[Gj])
   rcases cK.1 hf with rfl|hf
   ·exact f0 _ (by simp[Gj])
   rcases cK.1 hf with rfl|hf
   ·exact f2 _ (bC.2 rfl)
   exact f1 f hf
 refine hc.mono λe W' ⟨he,hb⟩=>?_;subst he;exact⟨_,rfl,X5 (pv:=[]) hW' (λ_ _ _=>trodAll_mk1 (shut_bool Tryz.underlying4 _))
  (λsp hsp=>Oq kids (λ{t e}=>full t e) hb (by rw[Tryz.params6];intro t ht;exact small t ((by decide:∀t∈([51,34,37]:List TypeId),t∈yN) t ht)) hAk (λp hp=>hsp p (by simpa using hp)))
  (λ_ _=>rfl) (by simp) hb (ok_one (by kernel_rfl) rfl (okWide_bool_mk Tryz.underlying4 _))⟩
theorem TQ:Tryz.pinned.checked.prog.funcNamed Rows.puzzlesValidSpecRow.func=some 6:=by kernel_rfl
theorem aeM:(Rows.puzzlesValidSpecRow.inPlace==Tryz.pinned.checked.prog.inPlace 6)=true:=by kernel_rfl
theorem aeN:(Rows.puzzlesValidSpecRow.unfollowed==Tryz.pinned.checked.prog.unfollowed 6)=true:=by kernel_rfl
theorem aeO:(Rows.puzzlesValidSpecRow.recurses==Tryz.pinned.checked.prog.recurses 6)=true:=by kernel_rfl
theorem aeP:(Rows.puzzlesValidSpecRow.named==Tryz.pinned.checked.prog.varsNamed 6)=true:=by kernel_rfl
theorem aeQ:joinedFacts Tryz.pinned.checked.prog 6 Tryz.f6 Rows.puzzlesValidSpecSpec Rows.puzzlesValidSpecRow=true:=by
 unfold joinedFacts;rw[aeM,aeN,aeO,aeP]
 kernel_rfl
theorem aeR:Tryz.f6.isInstance Tryz.pinned.checked.prog Rows.puzzlesValidSpecRow.origin Rows.puzzlesValidSpecRow.targs:=iJ (by kernel_rfl)
theorem aeS:Tryz.f6.isWrapper Tryz.pinned.checked.prog Rows.puzzlesValidSpecRow.wrapper Rows.puzzlesValidSpecRow.mainSum:=by
 unfold Func.isWrapper;first|(rw[if_pos (by decide+kernel)];kernel_rfl)|(rw[if_neg (by decide+kernel)];exact⟨rfl,rfl⟩)
theorem aeT:Rows.PuzzlesValidSpecSaid:=
 OpenClaim.holds_of_wide 6 Tryz.f6 rfl rfl rfl rfl rfl rfl rfl ⟨rfl,rfl,rfl,rfl,rfl⟩ rfl rfl rfl rfl rfl TQ Tryz.func6 aeQ aeR aeS
  (λos started H enc _=>aeL os started H enc)
theorem aeU:Rows.puzzlesValidSpecRow.wfByText (OpenSpec.ofChange Rows.puzzlesValidSpecSpec)=true:=by kernel_rfl
theorem aeV:Tryz.pinned.checked.prog.mainIs=some (true,("2941863587496d5c17aab5443e0acf468e780cb3dba0cd4a05c5c52affc88693" :String).toList):=by kernel_rfl
theorem aeW:true=Tryz.pinned.checked.prog.looks []:=by kernel_rfl
theorem aeX:([51,34,37].all λu=>!Tryz.prog.wantsStandIn u)=true:=by kernel_rfl
theorem aeY:false=Rows.puzzlesValidSpecRow.goesBy Tryz.pinned.checked.prog:=by kernel_rfl
theorem puzzlesValidSpec_holds:Rows.PuzzlesValidSpecCardSaid:=
 Claim7.holds_tied_plain_at .later [] [.data,.data,.data,.sentinel,.sentinel] true (true, "2941863587496d5c17aab5443e0acf468e780cb3dba0cd4a05c5c52affc88693") true
  aeT (λ_ h=>by cases h) aeU (λ_ h=>by cases h) puzzlesValidSpec_row_tie rfl ⟨rfl,rfl⟩ aeV rfl
  (λf fn hf hfn=>by
    obtain rfl:f=6:=Option.some.inj (TQ.symm.trans hf)|>.symm;obtain rfl:fn=Tryz.f6:=(Option.some.inj (Tryz.func6.symm.trans hfn)).symm;exact⟨aeW,λj t ht=>by
     rw[Tryz.params6]at ht;have hm:t∈[51,34,37]:=by simpa using Array.mem_of_getElem? ht
     exact(show Tryz.prog.wantsStandIn t=false by simpa using jR.1 aeX t hm)⟩)
  aeY
#print axioms puzzlesValidSpec_holds
