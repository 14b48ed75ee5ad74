/-
  The names of the forms, sorted, whatever the order in which the map gives them.
-/
import Derived.Test.YtoohgkkmdnbnfaaGreatDoorLibC
import Derived.Test.YtoohgkkmdnbnfaaGreatDoorSaneA
set_option linter.unusedSimpArgs false
set_option linter.unusedVariables false
namespace Go.Proofs.YtoohgkkmdnbnfaaGreatDoor
open Go.Ideal Kd
theorem leB_total (a b : List UInt8) : (decide (a ≤ b) || decide (b ≤ a)) = true := by
 rcases List.le_total a b with h | h <;> simp [h]
theorem sortB_known {zs ks rs : List ByteArray} (hp : zs.Perm ks) (hr : rs.Perm ks) (hs : (rs.map fun z => z.data.toList).Pairwise fun a b => decide (a ≤ b) = true) : sortB zs = rs := by
 have h1 : sortL zs = rs.map fun z => z.data.toList := by
  unfold sortL
  refine List.Perm.eq_of_pairwise (le := fun a b => decide (a ≤ b) = true) (fun a b _ _ h1 h2 => ?_) (List.pairwise_mergeSort (fun a b c h1 h2 => ?_) leB_total _) hs (((List.mergeSort_perm _ _).trans (hp.map _)).trans (hr.map _).symm)
  · exact List.le_antisymm (of_decide_eq_true h1) (of_decide_eq_true h2)
  · exact decide_eq_true (List.le_trans (of_decide_eq_true h1) (of_decide_eq_true h2))
 unfold sortB
 rw [h1, List.map_map]
 exact (List.map_congr_left fun z _ => rfl).trans (List.map_id _)
def bytesN (l : List Nat) : ByteArray := ⟨⟨l.map UInt8.ofNat⟩⟩
def formK : List ByteArray := [bytesN [101, 97, 99, 104], bytesN [117, 110, 108, 105, 107, 101], bytesN [97, 112, 97, 114, 116], bytesN [110, 111, 116], bytesN [99, 111, 110, 110, 101, 99, 116, 101, 100], bytesN [108, 111, 111, 112], bytesN [103, 105, 118, 101, 110], bytesN [102, 105, 108, 108, 101, 100], bytesN [115, 116, 101, 112, 115]]
def formR : List ByteArray := [bytesN [97, 112, 97, 114, 116], bytesN [99, 111, 110, 110, 101, 99, 116, 101, 100], bytesN [101, 97, 99, 104], bytesN [102, 105, 108, 108, 101, 100], bytesN [103, 105, 118, 101, 110], bytesN [108, 111, 111, 112], bytesN [110, 111, 116], bytesN [115, 116, 101, 112, 115], bytesN [117, 110, 108, 105, 107, 101]]
theorem formR_perm : formR.Perm formK := by
 unfold formR formK
 decide
theorem formR_sorted : (formR.map fun z => z.data.toList).Pairwise fun a b => decide (a ≤ b) = true := by
 unfold formR
 decide
end Go.Proofs.YtoohgkkmdnbnfaaGreatDoor
namespace Go.Proofs.YtoohgkkmdnbnfaaGreatDoor
open Go.Ideal Kd
theorem formK_nodup : formK.Nodup := by
 unfold formK
 decide
theorem sorted_call {h : IH} {b m clock : Nat} {es : List MapEntry} (hb : h.get b = some (.cells [.map (some m)])) (hbn : b < h.next) (hmn : m < h.next) (hm : h.get m = some (.map es clock)) (hkeys : es.map (·.key) = formK.map .string) (hborn : es.map (·.born) = List.range 9) (hc : 8 < clock) :
 CALL Tryz.prog ⟨.func 252, [.func (.func 288) ⟨[]⟩ ⟨[ptr' b]⟩], [], none⟩ h (fun r pm h2 => r = .ok (.slice (some ⟨h.next, 0, some 1⟩) 9 9) ∧ pm = none ∧ h2 = h.new (.cells (formR.map .string))) := by
 let d : Wd := ⟨⟨h.t, h.next, h.next⟩, fun i => i < h.next, fun i hi => hi⟩
 let kvs : List (ByteArray × Value) := formK.zip (es.map (·.val))
 have hlen : es.length = 9 := by have := congrArg List.length hborn; simpa using this
 have hent : es.map (fun e => (e.key, e.val)) = kvs.map fun p => (strV p.1, p.2) := by
  have h1 : es.map (fun e => (e.key, e.val)) = (es.map (·.key)).zip (es.map (·.val)) := by rw [List.zip_map']
  rw [h1, hkeys]
  show (formK.map Value.string).zip (es.map (·.val)) = (formK.zip (es.map (·.val))).map _
  rw [List.zip_map_left]
  exact List.map_congr_left fun p _ => rfl
 have hk1 : kvs.map (·.1) = formK := List.map_fst_zip (by rw [List.length_map, hlen]; exact Nat.le_refl _)
 have hmap : MapOK strV kvs es clock := ⟨hent, fun e he => by
  have : e.born ∈ es.map (·.born) := List.mem_map.2 ⟨e, he, rfl⟩
  rw [hborn, List.mem_range] at this
  omega, by rw [hborn]; exact List.nodup_range, by rw [hk1]; exact formK_nodup⟩
 have hF : ∀ f ∈ [fRaw b 0 [.map (some m)], fMap strV m kvs], f.p d := by
  intro f hf
  rcases List.mem_cons.1 hf with rfl | hf
  · exact ⟨_, ⟨hbn, .inl hb⟩, fun j u hj => by rw [Nat.zero_add]; exact hj⟩
  · rw [List.mem_singleton.1 hf]
    exact ⟨hmn, es, clock, hm, hmap⟩
 have st : St [] d [] [fRaw b 0 [.map (some m)], fMap strV m kvs] d := ⟨⟨Nat.le_refl _, fun _ _ _ => rfl, fun _ _ => rfl⟩, Wd.Le.refl d, fun i hi hz => .inl hz, ⟨[], rfl, List.nodup_nil, by simp⟩, hF⟩
 refine .cut (formR.map .string) 9 1 (by rfl) (by simp [formR]) (.inr rfl) _ (sortedS_ok (keysS1_ok (b := b) (bm := m) (kvs := kvs)) (fun xs hx => by have := hx.length_eq; rw [hk1] at this; rw [this]; exact ⟨by decide, by decide⟩) [] d st) rfl ?_ ⟨rfl, rfl, rfl⟩
 rintro r pm h' ⟨rfl, w', y, rfl, s, rfl, hy⟩
 have hlow := s.agree.low (Nat.le_refl _) (by simp)
 rw [hk1] at hy
 have hsb := sortB_known hy formR_perm formR_sorted
 obtain ⟨S, ⟨S1, S2, q1, q2, e⟩, h2, h3⟩ := s.own
 have hl : y.xs.length = (sortB y.xs).length := (sortB_len _).symm
 rw [hl] at q1
 obtain ⟨c, cells, e1, e2, e3, e4, e5⟩ := ap_gv q1 (by rw [hsb]; decide)
 rw [hsb] at e1 e4 e5
 subst e2
 refine ⟨rfl, hlow, c, 0, 9, ?_, ?_, (fun h => by cases h), ?_⟩
 · show Ret.ok (gv strE.n y.c y.xs.length) = _
   rw [hl, hsb, e1]; rfl
 · rcases (h3 c (by rw [e]; simp)).1 with q | q
   · exact q
   · cases q
 · have hcells : cells = formR.map .string := by
    apply List.ext_getElem?
    intro j
    by_cases hj : j < formR.length
    · obtain ⟨_, u1, _⟩ := e5 j _ (List.getElem?_eq_getElem hj)
      have := u1 0 _ rfl
      rw [List.getElem?_map, List.getElem?_eq_getElem hj]
      simpa [strE] using this
    · rw [List.getElem?_eq_none (by rw [e4]; simpa [strE] using hj), List.getElem?_eq_none (by rw [List.length_map]; omega)]
   unfold IH.cellsAt
   simp only [e3, hcells, ldrop_eq, ltake_eq, List.drop_zero]
   rw [if_pos (by simp), List.take_length]
end Go.Proofs.YtoohgkkmdnbnfaaGreatDoor
namespace Go.Proofs.YtoohgkkmdnbnfaaGreatDoor
open Go.Ideal Kd
noncomputable def formOK (es : List MapEntry) (clock : Nat) : Bool := sameV 5 (.agg ⟨formK.map .string⟩) (.agg ⟨lmap (fun e => e.key) es⟩) && (sameV 5 (.agg ⟨(List.range 9).map fun i => .int .i64 (.ofNat i)⟩) (.agg ⟨lmap (fun e => .int .i64 (.ofNat e.born)) es⟩) && Nat.blt 8 clock)
noncomputable def sortK : Req → IH → Option (Value × IH) := fun q h =>
 match q with
 | ⟨.func f, [.func (.func g) ⟨[]⟩ ⟨[.pointer (some ⟨b, o, none⟩)]⟩], [], none⟩ => cond (Nat.beq f 252 && (Nat.beq g 288 && (Nat.beq o 0 && Nat.blt b h.next))) (match h.get b with
   | some (.cells [.map (some m)]) => cond (Nat.blt m h.next) (match h.get m with
     | some (.map es clock) => cond (formOK es clock) (some (.slice (some ⟨h.next, 0, some 1⟩) 9 9, h.new (.cells (formR.map .string)))) none
     | _ => none) none
   | _ => none) none
 | _ => none
theorem formOK_eq {es : List MapEntry} {clock : Nat} (h : formOK es clock = true) : es.map (·.key) = formK.map .string ∧ es.map (·.born) = List.range 9 ∧ 8 < clock := by
 unfold formOK at h
 simp only [Bool.and_eq_true] at h
 obtain ⟨h1, h2, h3⟩ := h
 have e1 := sameV_eq _ _ _ h1
 have e2 := sameV_eq _ _ _ h2
 injection e1 with e1
 injection e1 with e1
 injection e2 with e2
 injection e2 with e2
 rw [lmap_eq] at e1 e2
 refine ⟨e1.symm, ?_, Nat.le_of_ble_eq_true h3⟩
 have := congrArg (List.map fun v : Value => match v with | .int _ n => n.toNat | _ => 0) e2
 rw [List.map_map, List.map_map] at this
 have h4 : (List.range 9).map (fun i : Nat => i) = es.map (·.born) := this
 rw [← h4, List.map_id']
theorem sortK_ok {q : Req} {h : IH} {v : Value} {h' : IH} (hk : sortK q h = some (v, h')) : CALL Tryz.prog q h (fun r pm h2 => r = .ok v ∧ pm = none ∧ h2 = h') := by
 unfold sortK at hk
 split at hk
 · rename_i f g b o
   cases hcd : (Nat.beq f 252 && (Nat.beq g 288 && (Nat.beq o 0 && Nat.blt b h.next))) with
   | false => rw [hcd] at hk; cases hk
   | true =>
     rw [hcd] at hk
     simp only [Bool.and_eq_true] at hcd
     obtain ⟨h1, h2, h3, h4⟩ := hcd
     have h1 := beq_t h1
     have h2 := beq_t h2
     have h3 := beq_t h3
     have h4 : b < h.next := Nat.le_of_ble_eq_true h4
     subst h1 h2 h3
     simp only [cond_true] at hk
     split at hk
     · rename_i m hb
       cases hcm : Nat.blt m h.next with
       | false => rw [hcm] at hk; cases hk
       | true =>
         rw [hcm] at hk
         simp only [cond_true] at hk
         split at hk
         · rename_i es clock hm
           cases hf : formOK es clock with
           | false => rw [hf] at hk; cases hk
           | true =>
             rw [hf] at hk
             simp only [cond_true, Option.some.injEq, Prod.mk.injEq] at hk
             obtain ⟨rfl, rfl⟩ := hk
             obtain ⟨e1, e2, e3⟩ := formOK_eq hf
             exact sorted_call hb h4 (Nat.le_of_ble_eq_true hcm) hm e1 e2 e3
         · cases hk
     · cases hk
 · cases hk
noncomputable def memo2 : Nat → Option (Req → IH → Option (Value × IH)) := fun f => cond (Nat.beq f 252) (some sortK) (memo1 f)
theorem memo2_ok {f : Nat} {g : Req → IH → Option (Value × IH)} (hm : memo2 f = some g) {q : Req} {h : IH} {v : Value} {h' : IH} (ht : g q h = some (v, h')) : CALL Tryz.prog q h (fun r pm h2 => r = .ok v ∧ pm = none ∧ h2 = h') := by
 simp only [memo2] at hm
 cases h1 : Nat.beq f 252 with
 | true => rw [h1] at hm; cases hm; exact sortK_ok ht
 | false => rw [h1] at hm; exact memo1_ok hm ht
noncomputable def env2 : Env := envOf Tryz.prog (cutKeys 254 301) memo2
theorem env2_ok : EnvOK env2 := envOf_ok _ _ _ (by
 intro f q h v h' hm _ _
 cases e : memo2 f with
 | none => rw [e] at hm; cases hm
 | some g => rw [e] at hm; exact memo2_ok e hm)
end Go.Proofs.YtoohgkkmdnbnfaaGreatDoor
