/-
  EntitleResolved: for every input the law returns true, and its arguments read afterwards as they read before. Its card: the package variables that the row lists start as the program's text lays them.
-/
import Derived.Test.YtbdaaopebgcnaaaGreatDoorTie
import Derived.Test.YtbdaaopebgcnaaaGreatDoorRepM
import Derived.Test.YtbdaaopebgcnaaaGreatDoorLawRM
import Derived.SevenTiedAt
set_option linter.all false
set_option maxHeartbeats 1000000
namespace Go.Proofs.YtbdaaopebgcnaaaGreatDoor
open Go.Ideal Go.ChangeShapes Go.WideShapes Go.ChangeAt Go.RowKit
set_option maxRecDepth 100000 in
theorem afF(os:Os)(started:os.Started)(H:Type)(enc:TypeId×Value->H):
 ReturnsInHanded {} Tryz.checked os 6 .any (λw args=>(Rows.entitleResolvedSpec.pre enc Tryz.prog Tryz.f6 [] false w args/\laidMetH Tryz.prog Rows.entitleResolvedRow.laid w)/\sizedMet enc Tryz.prog Tryz.f6 (OpenSpec.ofChange Rows.entitleResolvedSpec) false w args) (Rows.entitleResolvedSpec.post enc Tryz.prog Tryz.f6 false true false false):=by
 refine returnsInHanded_of_change_and (C:=Tryz.checked) (X:=λw _=>laidMetH Tryz.prog Rows.entitleResolvedRow.laid w) (λ_ _ _ hh h=>h.of_heap hh) own started (by kernel_rfl) Tryz.func6
  (ChangeSpec.witness_shaped (enc:=enc) (C:=Tryz.checked) (os:=os) (X:=λw _=>laidMetH Tryz.prog Rows.entitleResolvedRow.laid w) false (World.doorLaid Tryz.prog 4000 os) #[.agg #[.int .i64 0,.int .i64 0,.slice none 0 0,.slice none 0 0,.slice none 0 0,.slice none 0 0],.slice none 0 0,.slice none 0 0,.slice none 0 0,.int .i64 0,.int .i64 0] 10 rfl (World.shaped_of_RefB (by kernel_rfl) (by kernel_rfl)) (by kernel_rfl) (by kernel_rfl) (by kernel_rfl) (afE os _)) ?_
 intro W base args ds gs before hval0 hW _ _ hL _;have hval:∀(j:Nat) t v,Tryz.f6.params[j]? =some t->args[j]? =some v->Value.okWide Tryz.prog W .any base t v:=hval0;have hW':=hW;obtain⟨p,q,Ig,hV,rfl,hfz,_⟩:=hW;have hA:DataW.TrodAll enc Tryz.prog W 0 (λ_=>true) true Tryz.f6.params.toList args.toList ds p:=Ig;have hAk:=hA;rw[Tryz.params6]at hA hval;obtain⟨rfl,rfl⟩:=trodVars_none hV;obtain⟨la,ld⟩:=Og hA;obtain⟨d0,d1,d2,d3,d4,d5,rfl⟩:=Tp ld;have hc:Calls Tryz.prog 6 args W (λe w'=>e=.returned (.bool true)/\Below W.heap.size W w'):=by
  refine aax follows Tryz.f6 Tryz.func6 (by kernel_rfl) (by kernel_rfl) (K:=(·∈xN)) afn (ts:=[30,31,32,33,3,3]) (ds:=[d0,d1,d2,d3,d4,d5]) (by simp[xN]) (λj t v hj hv=>?_) hA (name:=Cw) (g0:=0) (k:=.u64) (zs:=Lib.pow10Tab) Kb (by rw[globals];decide) QN (afD hL) ?_
  ·exact hval j t v (by rw[<- hj];simp) (by rw[<- hv];simp)
  ·intro w vs hnx hz htab hlen zK;obtain⟨v0,v1,v2,v3,v4,v5,rfl⟩:=Tp (hlen.trans la);obtain⟨a0,y0,rfl,f0,g0⟩:=(zK 0 30 v0 d0 rfl rfl rfl).YQ hz afo afC;obtain⟨a1,y1,e1,f1,g1⟩:=(zK 1 31 v1 d1 rfl rfl rfl).oneG hz afp afA;obtain rfl:y1=v1:=by injection e1
   obtain⟨a2,y2,e2,f2,g2⟩:=(zK 2 32 v2 d2 rfl rfl rfl).oneG hz afq afu;obtain rfl:y2=v2:=by injection e2
   obtain⟨a3,y3,e3,f3,g3⟩:=(zK 3 33 v3 d3 rfl rfl rfl).oneG hz afr afw;obtain rfl:y3=v3:=by injection e3
   obtain⟨a4,y4,e4,f4,g4⟩:=(zK 4 3 v4 d4 rfl rfl rfl).oneG hz Tn mo;obtain rfl:Value.int .i64 a4=v4:=by injection e4
   obtain⟨a5,y5,e5,f5,g5⟩:=(zK 5 3 v5 d5 rfl rfl rfl).oneG hz Tn mo;obtain rfl:Value.int .i64 a5=v5:=by injection e5
   refine⟨_,?_,afj (s:=a0) (l:=a1) (o:=a2) (fs:=a3) (day:=a4) (at_:=a5) g0.w g0.lv g0.cl g0.pz g0.pg (cellsS (f0 (ae az y0.1 a0.lv) (by simp[uA]))) (cellsS (f0 (ae az y0.2.1 a0.cl) (by simp[uA]))) (cellsS (f0 (ae iw y0.2.2.1 a0.pg) (by simp[uA]))) (cellsS (f0 (ae az y0.2.2.2 a0.pz) (by simp[uA]))) g3.1⟩;intro f hf;rcases bZ.1 hf with rfl|hf
   ·show 4<=w.h.next
    rw[globals]at hnx;exact hnx
   rcases bZ.1 hf with rfl|hf
   ·exact htab
   rcases bZ.1 hf with rfl|hf
   ·exact f0 _ (by simp[uA])
   rcases bZ.1 hf with rfl|hf
   ·exact f0 _ (by simp[uA])
   rcases bZ.1 hf with rfl|hf
   ·exact f0 _ (by simp[uA])
   rcases bZ.1 hf with rfl|hf
   ·exact f0 _ (by simp[uA])
   rcases bZ.1 hf with rfl|hf
   ·exact f1 _ (cB.2 rfl)
   rcases bZ.1 hf with rfl|hf
   ·exact f2 _ (cB.2 rfl)
   rcases bZ.1 hf with rfl|hf
   ·exact f3 _ (cB.2 rfl)
   cases hf
 refine hc.mono λe W' ⟨he,hb⟩=>?_;subst he;exact⟨_,rfl,XA (pv:=[]) hW' (λ_ _ _=>trodAll_mk1 (shut_bool Tryz.underlying4 _))
  (λsp hsp=>NI kids (λ{t e}=>full t e) hb (by rw[Tryz.params6];intro t ht;exact small t ((by decide:∀t∈([30,31,32,33,3,3]:List TypeId),t∈xN) t ht)) hAk (λp hp=>hsp p (by simpa using hp)))
  (λ_ _=>rfl) (by simp) hb (ok_one (by kernel_rfl) rfl (okWide_bool_mk Tryz.underlying4 _))⟩
theorem Tq:Tryz.pinned.checked.prog.funcNamed Rows.entitleResolvedRow.func=some 6:=by kernel_rfl
theorem afG:(Rows.entitleResolvedRow.inPlace==Tryz.pinned.checked.prog.inPlace 6)=true:=by kernel_rfl
theorem afH:(Rows.entitleResolvedRow.unfollowed==Tryz.pinned.checked.prog.unfollowed 6)=true:=by kernel_rfl
theorem afI:(Rows.entitleResolvedRow.recurses==Tryz.pinned.checked.prog.recurses 6)=true:=by kernel_rfl
theorem afJ:(Rows.entitleResolvedRow.named==Tryz.pinned.checked.prog.varsNamed 6)=true:=by kernel_rfl
theorem afK:joinedFacts Tryz.pinned.checked.prog 6 Tryz.f6 Rows.entitleResolvedSpec Rows.entitleResolvedRow=true:=by
 unfold joinedFacts;rw[afG,afH,afI,afJ]
 kernel_rfl
theorem afL:Tryz.f6.isInstance Tryz.pinned.checked.prog Rows.entitleResolvedRow.origin Rows.entitleResolvedRow.targs:=sN (by kernel_rfl)
theorem afM:Tryz.f6.isWrapper Tryz.pinned.checked.prog Rows.entitleResolvedRow.wrapper Rows.entitleResolvedRow.mainSum:=by
 unfold Func.isWrapper;first|(rw[if_pos (by decide+kernel)];kernel_rfl)|(rw[if_neg (by decide+kernel)];exact⟨rfl,rfl⟩)
theorem afN:Rows.EntitleResolvedSaid:=
 OpenClaim.holds_of_wide 6 Tryz.f6 rfl rfl rfl rfl rfl rfl rfl ⟨rfl,rfl,rfl,rfl,rfl⟩ rfl rfl rfl rfl rfl Tq Tryz.func6 afK afL afM
  (λos started H enc _=>afF os started H enc)
theorem afO:Rows.entitleResolvedRow.wfByText (OpenSpec.ofChange Rows.entitleResolvedSpec)=true:=by kernel_rfl
theorem afP:Tryz.pinned.checked.prog.mainIs=some (true,("a22f0107fc0752cd546ce125fbb7844e5c6b3afacb5fc3dfcad6ded541c8b118" :String).toList):=by kernel_rfl
theorem afQ:true=Tryz.pinned.checked.prog.looks []:=by kernel_rfl
theorem afR:([30,31,32,33,3,3].all λu=>!Tryz.prog.wantsStandIn u)=true:=by kernel_rfl
theorem afS:false=Rows.entitleResolvedRow.goesBy Tryz.pinned.checked.prog:=by kernel_rfl
theorem entitleResolved_holds:Rows.EntitleResolvedCardSaid:=
 Claim7.holds_tied_plain_at .later [] [.data,.data,.data] true (true, "a22f0107fc0752cd546ce125fbb7844e5c6b3afacb5fc3dfcad6ded541c8b118") true
  afN (λ_ h=>by cases h) afO (λ_ h=>by cases h) entitleResolved_row_tie rfl ⟨rfl,rfl⟩ afP rfl
  (λf fn hf hfn=>by
    obtain rfl:f=6:=Option.some.inj (Tq.symm.trans hf)|>.symm;obtain rfl:fn=Tryz.f6:=(Option.some.inj (Tryz.func6.symm.trans hfn)).symm;exact⟨afQ,λj t ht=>by
     rw[Tryz.params6]at ht;have hm:t∈[30,31,32,33,3,3]:=by simpa using Array.mem_of_getElem? ht
     exact(show Tryz.prog.wantsStandIn t=false by simpa using jA.1 afR t hm)⟩)
  afS
#print axioms entitleResolved_holds
