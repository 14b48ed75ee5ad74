/-
  EntitleExact: for every input the law returns true, and its arguments read afterwards as they read before. Its card: the package variables that the row lists start as the program's text lays them.
-/
import Derived.Test.YtbdaaopebgcnaaaGreatDoorTie
import Derived.Test.YtbdaaopebgcnaaaGreatDoorRepM
import Derived.Test.YtbdaaopebgcnaaaGreatDoorLawEM
import Derived.SevenTiedAt
set_option linter.all false
set_option maxHeartbeats 1000000
namespace Go.Proofs.YtbdaaopebgcnaaaGreatDoor
open Go.Ideal Go.ChangeShapes Go.WideShapes Go.ChangeAt Go.RowKit
set_option maxRecDepth 100000 in
theorem aiV(os:Os)(started:os.Started)(H:Type)(enc:TypeId×Value->H):
 ReturnsInHanded {} Tryz.checked os 4 .any (λw args=>(Rows.entitleExactSpec.pre enc Tryz.prog Tryz.f4 [] false w args/\laidMetH Tryz.prog Rows.entitleExactRow.laid w)/\sizedMet enc Tryz.prog Tryz.f4 (OpenSpec.ofChange Rows.entitleExactSpec) false w args) (Rows.entitleExactSpec.post enc Tryz.prog Tryz.f4 false true false false):=by
 refine returnsInHanded_of_change_and (C:=Tryz.checked) (X:=λw _=>laidMetH Tryz.prog Rows.entitleExactRow.laid w) (λ_ _ _ hh h=>h.of_heap hh) own started (by kernel_rfl) Tryz.func4
  (ChangeSpec.witness_shaped (enc:=enc) (C:=Tryz.checked) (os:=os) (X:=λw _=>laidMetH Tryz.prog Rows.entitleExactRow.laid w) false (World.doorLaid Tryz.prog 4000 os) #[.agg #[.int .i64 0,.int .i64 0,.slice none 0 0,.slice none 0 0,.slice none 0 0,.slice none 0 0],.slice none 0 0,.slice none 0 0,.slice none 0 0,.int .i64 0] 10 rfl (World.shaped_of_RefB (by kernel_rfl) (by kernel_rfl)) (by kernel_rfl) (by kernel_rfl) (by kernel_rfl) (Oi os _)) ?_
 intro W base args ds gs before hval0 hW _ _ hL _;have hval:∀(j:Nat) t v,Tryz.f4.params[j]? =some t->args[j]? =some v->Value.okWide Tryz.prog W .any base t v:=hval0;have hW':=hW;obtain⟨p,q,yJ,hV,rfl,hfz,_⟩:=hW;have hA:DataW.TrodAll enc Tryz.prog W 0 (λ_=>true) true Tryz.f4.params.toList args.toList ds p:=yJ;have hAk:=hA;rw[Tryz.params4]at hA hval;obtain⟨rfl,rfl⟩:=trodVars_none hV;obtain⟨la,ld⟩:=GD hA;obtain⟨d0,d1,d2,d3,d4,rfl⟩:=Ww ld;have hc:Calls Tryz.prog 4 args W (λe w'=>e=.returned (.bool true)/\Below W.heap.size W w'):=by
  refine L8 follows Tryz.f4 Tryz.func4 (by kernel_rfl) (by kernel_rfl) (K:=(·∈qH)) N7 (ts:=[30,31,32,33,3]) (ds:=[d0,d1,d2,d3,d4]) (by simp[qH]) (λj t v hj hv=>?_) hA (name:=zm) (g0:=0) (k:=.u64) (zs:=Lib.pow10Tab) DU (by rw[globals];decide) Il (Oh hL) ?_
  ·exact hval j t v (by rw[<- hj];simp) (by rw[<- hv];simp)
  ·intro w vs hnx hz htab hlen lJ;obtain⟨v0,v1,v2,v3,v4,rfl⟩:=Ww (hlen.trans la);obtain⟨a0,y0,rfl,f0,g0⟩:=(lJ 0 30 v0 d0 rfl rfl rfl).Lv hz N8 Og;obtain⟨a1,y1,e1,f1,g1⟩:=(lJ 1 31 v1 d1 rfl rfl rfl).oneG hz N9 Oe;obtain rfl:y1=v1:=by injection e1
   obtain⟨a2,y2,e2,f2,g2⟩:=(lJ 2 32 v2 d2 rfl rfl rfl).oneG hz Oa Oc;obtain rfl:y2=v2:=by injection e2
   obtain⟨a3,y3,e3,f3,g3⟩:=(lJ 3 33 v3 d3 rfl rfl rfl).oneG hz Ob Od;obtain rfl:y3=v3:=by injection e3
   obtain⟨a4,y4,e4,f4,g4⟩:=(lJ 4 3 v4 d4 rfl rfl rfl).oneG hz Jh mE;obtain rfl:Value.int .i64 a4=v4:=by injection e4
   refine⟨_,?_,aim (s:=a0) (l:=a1) (o:=a2) (fs:=a3) (day:=a4) g0.w g0.lv g0.cl g0.pz g0.pg (cellsS (f0 (ae ah y0.1 a0.lv) (by simp[jr]))) (cellsS (f0 (ae ah y0.2.1 a0.cl) (by simp[jr]))) (cellsS (f0 (ae fP y0.2.2.1 a0.pg) (by simp[jr]))) (cellsS (f0 (ae ah y0.2.2.2 a0.pz) (by simp[jr]))) g3.1⟩;intro f hf;rcases bD.1 hf with rfl|hf
   ·show 4<=w.h.next
    rw[globals]at hnx;exact hnx
   rcases bD.1 hf with rfl|hf
   ·exact htab
   rcases bD.1 hf with rfl|hf
   ·exact f0 _ (by simp[jr])
   rcases bD.1 hf with rfl|hf
   ·exact f0 _ (by simp[jr])
   rcases bD.1 hf with rfl|hf
   ·exact f0 _ (by simp[jr])
   rcases bD.1 hf with rfl|hf
   ·exact f0 _ (by simp[jr])
   rcases bD.1 hf with rfl|hf
   ·exact f1 _ (cz.2 rfl)
   rcases bD.1 hf with rfl|hf
   ·exact f2 _ (cz.2 rfl)
   rcases bD.1 hf with rfl|hf
   ·exact f3 _ (cz.2 rfl)
   cases hf
 refine hc.mono λe W' ⟨he,hb⟩=>?_;subst he;exact⟨_,rfl,K7 (pv:=[]) hW' (λ_ _ _=>trodAll_mk1 (shut_bool Tryz.underlying4 _))
  (λsp hsp=>FT kids (λ{t e}=>full t e) hb (by rw[Tryz.params4];intro t ht;exact small t ((by decide:∀t∈([30,31,32,33,3]:List TypeId),t∈qH) t ht)) hAk (λp hp=>hsp p (by simpa using hp)))
  (λ_ _=>rfl) (by simp) hb (ok_one (by kernel_rfl) rfl (okWide_bool_mk Tryz.underlying4 _))⟩
theorem WH:Tryz.pinned.checked.prog.funcNamed Rows.entitleExactRow.func=some 4:=by kernel_rfl
theorem aiW:(Rows.entitleExactRow.inPlace==Tryz.pinned.checked.prog.inPlace 4)=true:=by kernel_rfl
theorem aiX:(Rows.entitleExactRow.unfollowed==Tryz.pinned.checked.prog.unfollowed 4)=true:=by kernel_rfl
theorem aiY:(Rows.entitleExactRow.recurses==Tryz.pinned.checked.prog.recurses 4)=true:=by kernel_rfl
theorem aiZ:(Rows.entitleExactRow.named==Tryz.pinned.checked.prog.varsNamed 4)=true:=by kernel_rfl
theorem ai0:joinedFacts Tryz.pinned.checked.prog 4 Tryz.f4 Rows.entitleExactSpec Rows.entitleExactRow=true:=by
 unfold joinedFacts;rw[aiW,aiX,aiY,aiZ]
 kernel_rfl
theorem ai1:Tryz.f4.isInstance Tryz.pinned.checked.prog Rows.entitleExactRow.origin Rows.entitleExactRow.targs:=si (by kernel_rfl)
theorem ai2:Tryz.f4.isWrapper Tryz.pinned.checked.prog Rows.entitleExactRow.wrapper Rows.entitleExactRow.mainSum:=by
 unfold Func.isWrapper;first|(rw[if_pos (by decide+kernel)];kernel_rfl)|(rw[if_neg (by decide+kernel)];exact⟨rfl,rfl⟩)
theorem ai3:Rows.EntitleExactSaid:=
 OpenClaim.holds_of_wide 4 Tryz.f4 rfl rfl rfl rfl rfl rfl rfl ⟨rfl,rfl,rfl,rfl,rfl⟩ rfl rfl rfl rfl rfl WH Tryz.func4 ai0 ai1 ai2
  (λos started H enc _=>aiV os started H enc)
theorem ai4:Rows.entitleExactRow.wfByText (OpenSpec.ofChange Rows.entitleExactSpec)=true:=by kernel_rfl
theorem ai5:Tryz.pinned.checked.prog.mainIs=some (true,("a22f0107fc0752cd546ce125fbb7844e5c6b3afacb5fc3dfcad6ded541c8b118" :String).toList):=by kernel_rfl
theorem ai6:true=Tryz.pinned.checked.prog.looks []:=by kernel_rfl
theorem ai7:([30,31,32,33,3].all λu=>!Tryz.prog.wantsStandIn u)=true:=by kernel_rfl
theorem ai8:false=Rows.entitleExactRow.goesBy Tryz.pinned.checked.prog:=by kernel_rfl
theorem entitleExact_holds:Rows.EntitleExactCardSaid:=
 Claim7.holds_tied_plain_at .later [] [.data,.data,.data] true (true, "a22f0107fc0752cd546ce125fbb7844e5c6b3afacb5fc3dfcad6ded541c8b118") true
  ai3 (λ_ h=>by cases h) ai4 (λ_ h=>by cases h) entitleExact_row_tie rfl ⟨rfl,rfl⟩ ai5 rfl
  (λf fn hf hfn=>by
    obtain rfl:f=4:=Option.some.inj (WH.symm.trans hf)|>.symm;obtain rfl:fn=Tryz.f4:=(Option.some.inj (Tryz.func4.symm.trans hfn)).symm;exact⟨ai6,λj t ht=>by
     rw[Tryz.params4]at ht;have hm:t∈[30,31,32,33,3]:=by simpa using Oy ht
     exact(show Tryz.prog.wantsStandIn t=false by simpa using jE.1 ai7 t hm)⟩)
  ai8
#print axioms entitleExact_holds
