/-
  PuzzlesSpec: for every input the law returns true, and its arguments read afterwards as they read before. Its card: the package variables that the row lists start as the program's text lays them.
-/
import Derived.Test.YtoohgkkmdnbnfaaGreatDoorTie
import Derived.Test.YtoohgkkmdnbnfaaGreatDoorRepB
import Derived.Test.YtoohgkkmdnbnfaaGreatDoorLawSB
import Derived.SevenTiedAt
set_option linter.all false
set_option maxHeartbeats 1000000
namespace Go.Proofs.YtoohgkkmdnbnfaaGreatDoor
open Go.Ideal Go.ChangeShapes Go.WideShapes Go.ChangeAt Go.RowKit
set_option maxRecDepth 100000 in
theorem afT(os:Os)(started:os.Started)(H:Type)(enc:TypeId×Value->H):
 ReturnsInHanded {} Tryz.checked os 3 .any (λw args=>(Rows.puzzlesSpecSpec.pre enc Tryz.prog Tryz.f3 [] false w args/\laidMetH Tryz.prog Rows.puzzlesSpecRow.laid w)/\sizedMet enc Tryz.prog Tryz.f3 (OpenSpec.ofChange Rows.puzzlesSpecSpec) false w args) (Rows.puzzlesSpecSpec.post enc Tryz.prog Tryz.f3 false true false false):=by
 refine returnsInHanded_of_change_and (C:=Tryz.checked) (X:=λw _=>laidMetH Tryz.prog Rows.puzzlesSpecRow.laid w) (λ_ _ _ hh h=>h.of_heap hh) own started (by kernel_rfl) Tryz.func3
  (ChangeSpec.witness_shaped (enc:=enc) (C:=Tryz.checked) (os:=os) (X:=λw _=>laidMetH Tryz.prog Rows.puzzlesSpecRow.laid w) false (World.doorLaid Tryz.prog 4000 os) #[.agg #[.string ⟨#[]⟩,.int .i64 0,.int .i64 0,.int .i64 0,.int .i64 0,.slice none 0 0,.slice none 0 0,.slice none 0 0,.slice none 0 0,.slice none 0 0,.int .i64 0,.int .i64 0,.int .i64 0,.slice none 0 0,.slice none 0 0,.slice none 0 0,.slice none 0 0],.agg #[.slice none 0 0],.agg #[.slice none 0 0],.int .i64 0] 10 rfl (World.shaped_of_RefB (by kernel_rfl) (by kernel_rfl)) (by kernel_rfl) (by kernel_rfl) (by kernel_rfl) (afN os _)) ?_
 intro W base args ds gs before hval0 hW _ _ hL _;have hval:∀(j:Nat) t v,Tryz.f3.params[j]? =some t->args[j]? =some v->Value.okWide Tryz.prog W .any base t v:=hval0;have hW':=hW;obtain⟨p,q,Jd,hV,rfl,hfz,_⟩:=hW;have hA:DataW.TrodAll enc Tryz.prog W 0 (λ_=>true) true Tryz.f3.params.toList args.toList ds p:=Jd;have hAk:=hA;rw[Tryz.params3]at hA hval;obtain⟨rfl,rfl⟩:=trodVars_none hV;obtain⟨la,ld⟩:=O9 hA;obtain⟨d0,d1,d2,d3,rfl⟩:=Pb ld;have hc:Calls Tryz.prog 3 args W (λe w'=>e=.returned (.bool true)/\Below W.heap.size W w'):=by
  refine ZX follows Tryz.f3 Tryz.func3 (by kernel_rfl) (by kernel_rfl) (K:=(·∈zo)) aft (ts:=[34,37,37,3]) (ds:=[d0,d1,d2,d3]) (by simp[zo]) (λj t v hj hv=>?_) hA ?_
  ·exact hval j t v (by rw[<- hj];simp) (by rw[<- hv];simp)
  ·intro w vs hnx hz hlen G8;obtain⟨v0,v1,v2,v3,rfl⟩:=Pb (hlen.trans la);obtain⟨a0,y0,rfl,f0,g0⟩:=(G8 0 34 v0 d0 rfl rfl rfl).JR hz afu afK;obtain⟨a1,y1,rfl,f1,g1⟩:=(G8 1 37 v1 d1 rfl rfl rfl).JR hz Tz TC;obtain⟨a2,y2,rfl,f2,g2⟩:=(G8 2 37 v2 d2 rfl rfl rfl).JR hz Tz TC;obtain⟨a3,y3,e3,f3,g3⟩:=(G8 3 3 v3 d3 rfl rfl rfl).oneG hz afv kv;obtain rfl:Value.int .i64 a3=v3:=by injection e3
   refine⟨_,?_,afQ (k:=a0) (p:=a1) (q:=a2) (at_:=a3) g0 g1 g2⟩;intro f hf;rcases dF.1 hf with rfl|hf
   ·show 6<=w.h.next
    rw[globals]at hnx;exact hnx
   rcases dF.1 hf with rfl|hf
   ·exact f1 _ (bG.2 rfl)
   rcases dF.1 hf with rfl|hf
   ·exact f2 _ (bG.2 rfl)
   exact f0 f hf
 refine hc.mono λe W' ⟨he,hb⟩=>?_;subst he;exact⟨_,rfl,XQ (pv:=[]) hW' (λ_ _ _=>trodAll_mk1 (shut_bool Tryz.underlying4 _))
  (λsp hsp=>OH kids (λ{t e}=>full t e) hb (by rw[Tryz.params3];intro t ht;exact small t ((by decide:∀t∈([34,37,37,3]:List TypeId),t∈zo) t ht)) hAk (λp hp=>hsp p (by simpa using hp)))
  (λ_ _=>rfl) (by simp) hb (ok_one (by kernel_rfl) rfl (okWide_bool_mk Tryz.underlying4 _))⟩
theorem TD:Tryz.pinned.checked.prog.funcNamed Rows.puzzlesSpecRow.func=some 3:=by kernel_rfl
theorem afU:(Rows.puzzlesSpecRow.inPlace==Tryz.pinned.checked.prog.inPlace 3)=true:=by kernel_rfl
theorem afV:(Rows.puzzlesSpecRow.unfollowed==Tryz.pinned.checked.prog.unfollowed 3)=true:=by kernel_rfl
theorem afW:(Rows.puzzlesSpecRow.recurses==Tryz.pinned.checked.prog.recurses 3)=true:=by kernel_rfl
theorem afX:(Rows.puzzlesSpecRow.named==Tryz.pinned.checked.prog.varsNamed 3)=true:=by kernel_rfl
theorem afY:joinedFacts Tryz.pinned.checked.prog 3 Tryz.f3 Rows.puzzlesSpecSpec Rows.puzzlesSpecRow=true:=by
 unfold joinedFacts;rw[afU,afV,afW,afX]
 kernel_rfl
theorem afZ:Tryz.f3.isInstance Tryz.pinned.checked.prog Rows.puzzlesSpecRow.origin Rows.puzzlesSpecRow.targs:=iB (by kernel_rfl)
theorem af0:Tryz.f3.isWrapper Tryz.pinned.checked.prog Rows.puzzlesSpecRow.wrapper Rows.puzzlesSpecRow.mainSum:=by
 unfold Func.isWrapper;first|(rw[if_pos (by decide+kernel)];kernel_rfl)|(rw[if_neg (by decide+kernel)];exact⟨rfl,rfl⟩)
theorem af1:Rows.PuzzlesSpecSaid:=
 OpenClaim.holds_of_wide 3 Tryz.f3 rfl rfl rfl rfl rfl rfl rfl ⟨rfl,rfl,rfl,rfl,rfl⟩ rfl rfl rfl rfl rfl TD Tryz.func3 afY afZ af0
  (λos started H enc _=>afT os started H enc)
theorem af2:Rows.puzzlesSpecRow.wfByText (OpenSpec.ofChange Rows.puzzlesSpecSpec)=true:=by kernel_rfl
theorem af3:Tryz.pinned.checked.prog.mainIs=some (true,("2941863587496d5c17aab5443e0acf468e780cb3dba0cd4a05c5c52affc88693" :String).toList):=by kernel_rfl
theorem af4:true=Tryz.pinned.checked.prog.looks []:=by kernel_rfl
theorem af5:([34,37,37,3].all λu=>!Tryz.prog.wantsStandIn u)=true:=by kernel_rfl
theorem af6:false=Rows.puzzlesSpecRow.goesBy Tryz.pinned.checked.prog:=by kernel_rfl
theorem puzzlesSpec_holds:Rows.PuzzlesSpecCardSaid:=
 Claim7.holds_tied_plain_at .later [] [.data,.data,.data,.sentinel,.sentinel] true (true, "2941863587496d5c17aab5443e0acf468e780cb3dba0cd4a05c5c52affc88693") true
  af1 (λ_ h=>by cases h) af2 (λ_ h=>by cases h) puzzlesSpec_row_tie rfl ⟨rfl,rfl⟩ af3 rfl
  (λf fn hf hfn=>by
    obtain rfl:f=3:=Option.some.inj (TD.symm.trans hf)|>.symm;obtain rfl:fn=Tryz.f3:=(Option.some.inj (Tryz.func3.symm.trans hfn)).symm;exact⟨af4,λj t ht=>by
     rw[Tryz.params3]at ht;have hm:t∈[34,37,37,3]:=by simpa using Array.mem_of_getElem? ht
     exact(show Tryz.prog.wantsStandIn t=false by simpa using kH.1 af5 t hm)⟩)
  af6
#print axioms puzzlesSpec_holds
