/-
  Sorted strings out of a map's keys.
-/
import Derived.Test.YtoohgkkmdnbnfaaGreatDoorLibB
import Derived.Test.YtoohgkkmdnbnfaaGreatDoorShelfS
import Derived.Test.YtoohgkkmdnbnfaaGreatDoorIdealP
set_option linter.unusedSimpArgs false
set_option linter.unusedVariables false
set_option maxRecDepth 10000
set_option maxHeartbeats 4000000
namespace Go.Proofs.YtoohgkkmdnbnfaaGreatDoor
open Go.Ideal Kd
noncomputable def c_sortSt := cod Tryz.prog 287
theorem f_sortSt : enF Tryz.prog 287 = some c_sortSt := by kernel_rfl
theorem strK_inj : ∀ a b : ByteArray, strV a = strV b → a = b := fun a b h => by injection h
theorem srtS : SortsStrs Tryz.prog 287 := fun blk off cap zs w h1 h2 h3 => by
 have h := Any.slices_Sort_string Tryz.lays190 blk off cap (zs.map fun z => z.data.toList) w h1 h2 (by rw [List.length_map]; exact h3)
 rw [List.length_map] at h
 exact h
theorem sortFnS : ∃ fn body, Tryz.prog.funcs[287]? = some fn ∧ fn.body = some body ∧ fn.name ≠ "runtime.NumGoroutine" := by
 obtain ⟨fn, h1, h2⟩ := envN_ok.fn 287 c_sortSt f_sortSt
 have h3 : Tryz.prog.funcs[287]? = some fn := h1
 have h4 : (fn.name == "runtime.NumGoroutine") = false := by
  have e : (Tryz.prog.funcs[287]?).map (fun f => f.name == "runtime.NumGoroutine") = some false := by kernel_rfl
  rw [h3] at e
  exact Option.some.inj e
 have h5 : fn.body.isSome = true := by
  have e : (Tryz.prog.funcs[287]?).map (fun f => f.body.isSome) = some true := by kernel_rfl
  rw [h3] at e
  exact Option.some.inj e
 obtain ⟨body, hb⟩ := Option.isSome_iff_exists.1 h5
 exact ⟨fn, body, h3, hb, by simpa using h4⟩
theorem sortS_ok {a : Option Addr} {m : Nat} {zs : List ByteArray} (hm : m = zs.length) (h0 : 0 < zs.length) (hl : zs.length < 4611686018427387904) :
 FnC Tryz.prog (.func 287) [.slice a m m] [] [ap strE (.slice a m m) zs] [] (fun _ : Unit => .tuple ⟨[]⟩) (fun _ => [ap strE (.slice a m m) (sortB zs)]) (fun _ => []) (fun _ => True) := by
 subst hm
 obtain ⟨fn, body, h1, h2, h3⟩ := sortFnS
 exact fn_sortS srtS h1 h2 h3 h0 hl
theorem keysS1_ok {b bm : Nat} {kvs : List (ByteArray × Value)} : IterX Tryz.prog (fun x : ByteArray => [strV x]) (.func 288) [] [ptr' b] [fRaw b 0 [.map (some bm)], fMap strV bm kvs] (fun xs => xs.Perm (kvs.map (·.1))) := by
 intro S inv ok step s0 yfn y1 y2 F' h0 hok hy
 rw [List.cons_append, List.cons_append, List.nil_append]
 refine q_beg _ (isC 288) fun B w0 => ?_
 refine go ?_
 refine q_rangeMap (b := bm) (kvs := kvs) (toV := strV) (next := fun r => ?_)
 refine go ?_
 refine q_loop (fun y : List (ByteArray × Value) × S => kvs.length - y.1.length) (fun y => []) (fun y => itA strV r bm kvs y.1 :: inv y.2) (fun _ => []) (fun y => ok (y.1.map (·.1)) y.2 ∧ (∃ rest, (y.1 ++ rest).Perm kvs) ∧ ∀ rest, runI step s0 (y.1.map (·.1) ++ rest) = runI step y.2 rest) ([], s0) ⟨h0, ⟨kvs, .refl _⟩, fun _ => rfl⟩ (body := ?_)
 rintro ⟨vis, s⟩ ⟨hos, _, hrun⟩
 dsimp only at hos hrun ⊢
 refine go ?_
 refine q_next (b := bm) (kvs := kvs) (vis := vis) (toV := strV) (more := fun p rem hp => ?_) (done := fun hp => ?_) strK_inj
 · have hX : (vis.map (·.1) ++ p.1 :: rem.map (·.1)).Perm (kvs.map (·.1)) := by
    have := hp.map (·.1)
    rw [List.map_append, List.map_cons] at this
    exact this
   have hlen := hp.length_eq
   rw [List.length_append, List.length_cons] at hlen
   have hyy := hy _ s _ _ hos hX
   refine go ?_
   refine q_entry (toV := strV) (kvs := kvs) (vis := vis) (p := p) ?_
   refine go ?_
   refine q_call hyy (next := fun _ _ => ?_)
   cases hst : (step s p.1).2 with
   | true =>
     have hs1 : step s p.1 = ((step s p.1).1, true) := Prod.ext rfl hst
     refine go ?_
     refine q_again (vis ++ [p], (step s p.1).1) (by show kvs.length - (vis ++ [p]).length < _; rw [List.length_append, List.length_singleton]; omega) ⟨?_, ⟨rem, by show ((vis ++ [p]) ++ rem).Perm kvs; rw [List.append_assoc]; exact hp⟩, fun rest => ?_⟩
     · show ok ((vis ++ [p]).map (·.1)) _
       rw [List.map_append]
       exact hok _ s _ _ hos hX hst
     · show runI step s0 ((vis ++ [p]).map (·.1) ++ rest) = _
       rw [List.map_append, List.append_assoc, hrun]
       show runI step s (p.1 :: rest) = _
       rw [runI, hs1]
   | false =>
     have hs1 : step s p.1 = ((step s p.1).1, false) := Prod.ext rfl hst
     have hr := hrun (p.1 :: rem.map (·.1))
     rw [runI, hs1] at hr
     dsimp only at hr
     refine go ?_
     exact q_fin (vis.map (·.1) ++ p.1 :: rem.map (·.1)) (hv := rfl) (hp := hX) (hk := by rw [hr]; exact SelL.self _ _)
 · refine go ?_
   have hr := hrun []
   rw [List.append_nil] at hr
   exact q_fin (vis.map (·.1)) (hv := rfl) (hp := hp.map (·.1)) (hk := by rw [hr]; apply SelL.there; exact SelL.all _)
structure AppS where
 c : Option Nat
 xs : List ByteArray
abbrev bxg (b n : Nat) (ys : List ByteArray) : OA := exA fun c : Option Nat => [pt b (.cells [gv strE.n c n]), ap strE (gv strE.n c n) ys]
theorem appSeqS_ok {fn : Fn} {first captured : List Value} {F1 : List Fact} {X : List ByteArray → Prop} (hit : IterX Tryz.prog (fun x : ByteArray => [strV x]) fn first captured F1 X) (hl : ∀ xs, X xs → xs.length ≤ 1000000) :
 FnC Tryz.prog (.func 310) [.slice none 0 0, .func fn ⟨first⟩ ⟨captured⟩] [] [] F1 (fun y : AppS => gv strE.n y.c y.xs.length) (fun y => [ap strE (gv strE.n y.c y.xs.length) y.xs]) (fun _ => []) (fun y => X y.xs) := by
 refine q_begD _ (isC 310) fun B w0 => ?_
 refine go ?_
 intro b2
 refine st_ap0 strE ?_
 rw [show Value.slice none 0 0 = gv strE.n none 0 from rfl]
 refine q_close (fun c : Option Nat => [pt b2 (.cells [gv strE.n c 0]), ap strE (gv strE.n c 0) ([] : List ByteArray)]) none (h := ?_)
 refine q_oaEq (A := bxg b2 0 ([] : List ByteArray)) (A' := bxg b2 ([] : List ByteArray).length ([] : List ByteArray)) rfl ?_
 refine q_rngX (Z := Nat) (fun (ys : List ByteArray) (x : ByteArray) => (ys ++ [x], Out.normal)) (fun ys => [bxg b2 ys.length ys]) (fun vs ys => ys = vs) [] _ (fun _ _ => []) rfl (fun vs s x rest hs hX _ => by rw [hs]) hit (by intro s x lo o B w0; refine go ?_; have z0 : Nat := 0; exact asgZ_end z0 rfl) ?_ ?_ (fun _ _ => trivial)
 · intro vs s x rest z lo L B w0 hs hx
   subst hs
   dsimp only [List.cons_append, List.nil_append]
   have hlen : s.length ≤ 1000000 := by have := hl _ hx; rw [List.length_append, List.length_cons] at this; omega
   refine q_open (h := fun c => ?_)
   generalize hv : gv strE.n c s.length = v
   refine go ?_
   intro b10
   refine q_appG (xs := s) strE x () (by omega) (next := fun cb => ?_)
   refine go ?_
   rw [show Value.slice (some ⟨cb, 0, some strE.n⟩) (s.length + 1) (s.length + 1) = gv strE.n (some cb) (s.length + 1) from rfl]
   refine q_close (fun c : Option Nat => [pt b2 (.cells [gv strE.n c (s.length + 1)]), ap strE (gv strE.n c (s.length + 1)) (s ++ [x])]) (some cb) (h := ?_)
   refine q_oaEq (A := bxg b2 (s.length + 1) (s ++ [x])) (A' := bxg b2 (s ++ [x]).length (s ++ [x])) (by rw [List.length_append, List.length_singleton]) ?_
   exact q_rend () rfl trivial trivial
 · intro r xs hX
   have hrun : ∀ (ys zs : List ByteArray), runO (fun (ys : List ByteArray) (x : ByteArray) => (ys ++ [x], Out.normal)) ys zs = (ys ++ zs, .normal) := by
    intro ys zs
    induction zs generalizing ys with
    | nil => simp [runO]
    | cons z zs ih => rw [runO]; simp only [ih]; simp
   rw [hrun, List.nil_append]
   dsimp only [List.cons_append, List.nil_append]
   refine q_open (h := fun c => ?_)
   generalize hv : gv strE.n c xs.length = v
   refine go ?_
   subst hv
   exact q_finD ⟨c, xs⟩ (hv := rfl) (hp := hX)
theorem collectS_ok {fn : Fn} {first captured : List Value} {F1 : List Fact} {X : List ByteArray → Prop} (hit : IterX Tryz.prog (fun x : ByteArray => [strV x]) fn first captured F1 X) (hl : ∀ xs, X xs → xs.length ≤ 1000000) :
 FnC Tryz.prog (.func 286) [.func fn ⟨first⟩ ⟨captured⟩] [] [] F1 (fun y : AppS => gv strE.n y.c y.xs.length) (fun y => [ap strE (gv strE.n y.c y.xs.length) y.xs]) (fun _ => []) (fun y => X y.xs) := by
 refine q_beg _ (isC 286) fun B w0 => ?_
 refine go ?_
 refine q_call (appSeqS_ok hit hl) (next := fun y hy => ?_)
 dsimp only [List.cons_append, List.nil_append]
 refine go ?_
 exact q_fin y (hv := rfl) (hp := hy)
theorem sortedS_ok {fn : Fn} {first captured : List Value} {F1 : List Fact} {X : List ByteArray → Prop} (hit : IterX Tryz.prog (fun x : ByteArray => [strV x]) fn first captured F1 X) (hl : ∀ xs, X xs → 0 < xs.length ∧ xs.length ≤ 1000000) :
 FnC Tryz.prog (.func 252) [.func fn ⟨first⟩ ⟨captured⟩] [] [] F1 (fun y : AppS => gv strE.n y.c y.xs.length) (fun y => [ap strE (gv strE.n y.c y.xs.length) (sortB y.xs)]) (fun _ => []) (fun y => X y.xs) := by
 refine q_beg _ (isC 252) fun B w0 => ?_
 refine go ?_
 refine q_call (collectS_ok hit fun xs hx => (hl xs hx).2) (next := fun y hy => ?_)
 obtain ⟨c, xs⟩ := y
 dsimp only [List.cons_append, List.nil_append] at hy ⊢
 obtain ⟨h0, hlen⟩ := hl _ hy
 cases c with
 | none =>
   rw [show gv strE.n none xs.length = Value.slice none 0 0 from rfl]
   exact q_apNone (xs := xs) h0
 | some c =>
   rw [show gv strE.n (some c) xs.length = .slice (some ⟨c, 0, some strE.n⟩) xs.length xs.length from rfl]
   refine go ?_
   refine q_call (sortS_ok (a := some ⟨c, 0, some strE.n⟩) (zs := xs) rfl h0 (by omega)) (next := fun _ _ => ?_)
   refine go ?_
   rw [show Value.slice (some ⟨c, 0, some strE.n⟩) xs.length xs.length = gv strE.n (some c) xs.length from rfl]
   exact q_fin ⟨some c, xs⟩ (hv := rfl) (hp := hy)
end Go.Proofs.YtoohgkkmdnbnfaaGreatDoor
