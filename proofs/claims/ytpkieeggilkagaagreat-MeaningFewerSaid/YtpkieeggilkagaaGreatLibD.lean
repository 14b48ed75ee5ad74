/-
  Names: maps from names to numbers; names that must be there; sets of symbols.
-/
import Derived.Test.YtpkieeggilkagaaGreatPlainB
import Derived.Test.YtpkieeggilkagaaGreatIdealN
import Derived.Test.YtpkieeggilkagaaGreatProg
import Derived.Laws.Strings
set_option linter.unusedSimpArgs false
set_option linter.unusedVariables false
set_option maxRecDepth 10000
set_option maxHeartbeats 2000000
namespace Go.Proofs.YtpkieeggilkagaaGreat
open Go.Ideal Kd
noncomputable def zIg : zn := ⟨2, [(.tmp 0)], (.seq (.ops [0] [⟨⟨(some 0), none, (.asg (.const (.slice none 0 0)))⟩, []⟩]) (.seq (.ops [1, 0] [⟨⟨(some 1), none, (.bslice 9 8 [(.string ⟨⟨[]⟩⟩), (.string ⟨⟨[]⟩⟩), (.string ⟨⟨[]⟩⟩), (.string ⟨⟨[]⟩⟩), (.string ⟨⟨[]⟩⟩), (.string ⟨⟨[]⟩⟩), (.string ⟨⟨[]⟩⟩), (.string ⟨⟨[]⟩⟩)] [⟨0, ⟨1, (.const (.string ⟨⟨[99, 101, 108, 108, 115]⟩⟩))⟩⟩, ⟨1, ⟨1, (.const (.string ⟨⟨[114, 111, 119, 115]⟩⟩))⟩⟩, ⟨2, ⟨1, (.const (.string ⟨⟨[99, 111, 108, 117, 109, 110, 115]⟩⟩))⟩⟩, ⟨3, ⟨1, (.const (.string ⟨⟨[100, 105, 97, 103, 111, 110, 97, 108, 115]⟩⟩))⟩⟩, ⟨4, ⟨1, (.const (.string ⟨⟨[97, 114, 111, 117, 110, 100]⟩⟩))⟩⟩, ⟨5, ⟨1, (.const (.string ⟨⟨[110, 101, 97, 114]⟩⟩))⟩⟩, ⟨6, ⟨1, (.const (.string ⟨⟨[112, 97, 105, 114, 115]⟩⟩))⟩⟩, ⟨7, ⟨1, (.const (.string ⟨⟨[97, 108, 108]⟩⟩))⟩⟩])⟩, []⟩, ⟨⟨(some 0), none, (.asg (.tmp 1))⟩, []⟩]) .ret))⟩
theorem f_givenF : enF Tryz.prog 224 = some zIg := by kernel_rfl
abbrev zB3 : ByteArray → Value := fun s => .string s
theorem zKW : zI7 Tryz.prog 9 zB3 := zMY (by kernel_rfl)
abbrev zJu (e : Int) : List PanicEntry := [{ v := .iface 40 (.int .i64 e), recovered := false }]
theorem zFY {x : Sym} : FnP Tryz.prog 220 [.agg ⟨[.string x.name, .int .i64 x.value]⟩] [] (.string x.name) := by
 refine zE _ (isC 220) fun B w0 => ?_
 refine go ?_
 intro b
 refine go ?_
 exact q_fin () (hv := rfl) (hp := trivial)
theorem zFJ {x : Reg} {v : Value} : FnP Tryz.prog 222 [.agg ⟨[.string x.name, v]⟩] [] (.string x.name) := by
 refine zE _ (isC 222) fun B w0 => ?_
 refine go ?_
 intro b
 refine go ?_
 exact q_fin () (hv := rfl) (hp := trivial)
theorem zFg {x : Clu} : FnP Tryz.prog 227 [.agg ⟨[.string x.name, .string x.on, .int .i64 x.family, .int .i64 x.type, .int .i64 x.lo, .int .i64 x.hi]⟩] [] (.string x.name) := by
 refine zE _ (isC 227) fun B w0 => ?_
 refine go ?_
 intro b
 refine go ?_
 exact q_fin () (hv := rfl) (hp := trivial)
theorem zFO {x : Rul} {v1 v2 : Value} : FnP Tryz.prog 231 [.agg ⟨zDh x v1 v2⟩] [] (.string x.name) := by
 refine zE _ (isC 231) fun B w0 => ?_
 refine go ?_
 intro b
 refine go ?_
 exact q_fin () (hv := rfl) (hp := trivial)
theorem zGZ {s : ByteArray} : FnP Tryz.prog 225 [.string s] [] (.string s) := by
 refine zE _ (isC 225) fun B w0 => ?_
 refine go ?_
 exact q_fin () (hv := rfl) (hp := trivial)
theorem zLe {P : Program} {B : List Nat} {w0 : Wd} {kl kl' : List OA} {F : List zK} {K : KO} {ds : List Tmp} {rest : List zM} {n : Nat} {l : List (Nat × Value)} {D : List Deferred} {pm : Option FrameMode} {ro : Option Nat} {d : Nat} {g : Option (Tmp × Bool)}
 {α : Type} [DecidableEq α] {toV : α → Value} {kt : TypeId} {zero : Value} {m k : Operand} {b : Nat} {kvs : List (α × Value)} (hk : zI7 P kt toV) (a : α)
 (hit : ∀ v, lkp a kvs = some v → a ∈ kvs.map (·.1) → R (fun h => OPS P ds rest (act n ((d, .tuple ⟨[v, .bool true]⟩) :: l) D pm ro) h K) B w0 kl F)
 (miss : a ∉ kvs.map (·.1) → R (fun h => OPS P ds rest (act n ((d, .tuple ⟨[zero, .bool false]⟩) :: l) D pm ro) h K) B w0 kl F)
 (hm : ev l m = .map (some b) := by rfl) (ha : ev l k = toV a := by conv => lhs; whnf) (hs : autoParam (Sel (mpA toV b kvs) kl kl') zA9._auto_1) (hn : Nat.blt d n = true := by rfl) (hg : gok l g = true := by rfl) :
 R (fun h => OPS P ds (⟨⟨some d, g, .lookup kt zero m k true⟩, []⟩ :: rest) (act n l D pm ro) h K) B w0 kl F := by
 refine zGk (ok := true) hk a ?_ hm ha hs hn hg
 by_cases h : a ∈ kvs.map (·.1)
 · obtain ⟨v, hv⟩ := zEK h
   have e : lkV true zero a kvs = .tuple ⟨[v, .bool true]⟩ := by unfold lkV; rw [hv]; rfl
   rw [e]; exact hit v hv h
 · have e : lkV true zero a kvs = .tuple ⟨[zero, .bool false]⟩ := by unfold lkV; rw [zAA h]; rfl
   rw [e]; exact miss h
theorem zAL {α : Type} {kvs : List (ByteArray × Value)} {xs : List α} {nm : α → ByteArray} {start k : Nat} {x : α} (hx : xs[k]? = some x) :
 (kvs ++ zAd ((xs.take k).map nm) start).map (·.1) = kvs.map (·.1) ++ (xs.take k).map nm ∧ zAd ((xs.take (k + 1)).map nm) start = zAd ((xs.take k).map nm) start ++ [(nm x, .int .i64 ((start : Int) + (k : Int)))] := by
 have hk := (List.getElem?_eq_some_iff.1 hx).1
 refine ⟨by rw [List.map_append, zAJ], ?_⟩
 rw [List.take_add_one, hx, List.map_append, zCV]
 congr 1
 rw [List.length_map, List.length_take, Nat.min_eq_left (by omega)]
 simp [zAd]
theorem zJ2 {vs : Value} {xs : List ByteArray} {b start : Nat} {kvs : List (ByteArray × Value)} (hl : xs.length ≤ 4096) (hs : start ≤ 4096) (hnd : (kvs.map (·.1)).Nodup) :
 FnR Tryz.prog (.func 223) [vs, .int .i64 (start : Int), .func (.func 225) #[] #[], .map (some b)] [] [mpA zB3 b kvs] [fSl zCT vs xs] (fun y : Bool × List ByteArray => if y.1 = true then .ok (.map (some b)) else .pan (zJu 161))
  (fun y => [mpA zB3 b (kvs ++ zAd y.2 start)]) (fun _ => []) (fun y => (y.1 = true → y.2 = xs ∧ (kvs.map (·.1) ++ xs).Nodup) ∧ (y.1 = false → ¬ (kvs.map (·.1) ++ xs).Nodup)) := by
 let nm : ByteArray → ByteArray := fun s => s
 have hmap : ∀ l : List ByteArray, l.map nm = l := fun l => List.map_id' l
 suffices h : FnR Tryz.prog (.func 223) [vs, .int .i64 (start : Int), .func (.func 225) #[] #[], .map (some b)] [] [mpA zB3 b kvs] [fSl zCT vs xs] (fun y : Bool × List ByteArray => if y.1 = true then .ok (.map (some b)) else .pan (zJu 161))
  (fun y => [mpA zB3 b (kvs ++ zAd y.2 start)]) (fun _ => []) (fun y => (y.1 = true → y.2 = (xs.map nm) ∧ (kvs.map (·.1) ++ xs.map nm).Nodup) ∧ (y.1 = false → ¬ (kvs.map (·.1) ++ xs.map nm).Nodup)) by
  rw [hmap] at h; exact h
 refine zDd _ (isC 223) fun B w0 => ?_
 refine go ?_
 rw [show mpA zB3 b kvs = mpA zB3 b (kvs ++ zAd ((xs.take 0).map nm) start) by simp [zAd]]
 refine zH (fun k => xs.length - k) (fun k : Nat => [(15, .int .i64 (k : Int))]) (fun k => [mpA zB3 b (kvs ++ zAd ((xs.take k).map nm) start)]) (fun _ => []) (fun k => k ≤ xs.length ∧ (kvs.map (·.1) ++ (xs.take k).map nm).Nodup) 0 ⟨Nat.zero_le _, by simpa using hnd⟩ (body := ?_)
 rintro k ⟨hk, hall⟩
 refine go ?_
 refine if_d rfl (fun h1 => ?_) (fun h1 => ?_)
 · refine go ?_
   refine zd zCT (next := fun _ _ x (y : Unit) hx => ?_)
   refine go ?_
   refine zA (zGZ (s := x)) (next := fun _ _ => ?_)
   refine go ?_
   refine zLe zKW (nm x) (fun v hv hm => ?_) (fun hm => ?_)
   · refine go ?_
     refine zDF ?_
     refine go ?_
     refine zEh (false, (xs.take k).map nm) (hv := rfl) (hp := ⟨(fun h => by cases h), fun _ hn => ?_⟩)
     rw [(zAL hx).1] at hm
     have hsub : (kvs.map (·.1) ++ (xs.take k).map nm ++ [nm x]).Nodup := by
      have e : xs.map nm = (xs.take k).map nm ++ nm x :: (xs.drop (k + 1)).map nm := by
       conv => lhs; rw [← List.take_append_drop k xs]
       rw [List.map_append]
       congr 1
       rw [List.drop_eq_getElem_cons (List.getElem?_eq_some_iff.1 hx).1, List.map_cons, (List.getElem?_eq_some_iff.1 hx).2]
      rw [e, ← List.append_assoc] at hn
      rw [List.nodup_append] at hn ⊢
      exact ⟨hn.1, by simp, fun a ha c hc => hn.2.2 a ha c (by rw [List.mem_singleton.1 hc]; exact List.mem_cons_self ..)⟩
     rw [List.nodup_append] at hsub
     exact hsub.2.2 _ hm _ (List.mem_singleton.2 rfl) rfl
   refine go ?_
   refine zA (zGZ (s := x)) (next := fun _ _ => ?_)
   refine go ?_
   refine zFt zKW (nm x) (kvs := kvs ++ zAd ((xs.take k).map nm) start) (v := .int .i64 ((start : Int) + (k : Int))) ?_
   have hm2 := hm
   rw [(zAL hx).1] at hm2
   rw [zDO hm, List.append_assoc, ← (zAL (kvs := kvs) hx).2]
   refine go ?_
   refine zC (k + 1) (by omega) ⟨by omega, ?_⟩
   rw [List.take_add_one, hx, List.map_append, ← List.append_assoc, List.nodup_append]
   refine ⟨hall, by simp, fun a ha c hc => ?_⟩
   have : c = nm x := by simpa using hc
   subst this
   intro e
   subst e
   exact hm2 ha
 have hkl : k = xs.length := by omega
 subst hkl
 rw [List.take_length] at hall
 rw [List.take_length]
 refine go ?_
 exact zEJ (true, xs.map nm) (hv := rfl) (hp := ⟨fun _ => ⟨rfl, hall⟩, fun h => by cases h⟩)
theorem zLE {vs : Value} {xs : List Sym} {b start : Nat} {kvs : List (ByteArray × Value)} (hl : xs.length ≤ 4096) (hs : start ≤ 4096) (hnd : (kvs.map (·.1)).Nodup) :
 FnR Tryz.prog (.func 219) [vs, .int .i64 (start : Int), .func (.func 220) #[] #[], .map (some b)] [] [mpA zB3 b kvs] [fSl zD3 vs xs] (fun y : Bool × List ByteArray => if y.1 = true then .ok (.map (some b)) else .pan (zJu 161))
  (fun y => [mpA zB3 b (kvs ++ zAd y.2 start)]) (fun _ => []) (fun y => (y.1 = true → y.2 = (xs.map Sym.name) ∧ (kvs.map (·.1) ++ xs.map Sym.name).Nodup) ∧ (y.1 = false → ¬ (kvs.map (·.1) ++ xs.map Sym.name).Nodup)) := by
 let nm : Sym → ByteArray := Sym.name
 refine zDd _ (isC 219) fun B w0 => ?_
 refine go ?_
 rw [show mpA zB3 b kvs = mpA zB3 b (kvs ++ zAd ((xs.take 0).map nm) start) by simp [zAd]]
 refine zH (fun k => xs.length - k) (fun k : Nat => [(15, .int .i64 (k : Int))]) (fun k => [mpA zB3 b (kvs ++ zAd ((xs.take k).map nm) start)]) (fun _ => []) (fun k => k ≤ xs.length ∧ (kvs.map (·.1) ++ (xs.take k).map nm).Nodup) 0 ⟨Nat.zero_le _, by simpa using hnd⟩ (body := ?_)
 rintro k ⟨hk, hall⟩
 refine go ?_
 refine if_d rfl (fun h1 => ?_) (fun h1 => ?_)
 · refine go ?_
   refine zd zD3 (next := fun _ _ x y hx => ?_)
   refine go ?_
   intro b10
   refine go ?_
   refine zA (zFY (x := x)) (next := fun _ _ => ?_)
   refine go ?_
   refine zLe zKW (nm x) (fun v hv hm => ?_) (fun hm => ?_)
   · refine go ?_
     refine zDF ?_
     refine go ?_
     refine zEh (false, (xs.take k).map nm) (hv := rfl) (hp := ⟨(fun h => by cases h), fun _ hn => ?_⟩)
     rw [(zAL hx).1] at hm
     have hsub : (kvs.map (·.1) ++ (xs.take k).map nm ++ [nm x]).Nodup := by
      have e : xs.map nm = (xs.take k).map nm ++ nm x :: (xs.drop (k + 1)).map nm := by
       conv => lhs; rw [← List.take_append_drop k xs]
       rw [List.map_append]
       congr 1
       rw [List.drop_eq_getElem_cons (List.getElem?_eq_some_iff.1 hx).1, List.map_cons, (List.getElem?_eq_some_iff.1 hx).2]
      rw [e, ← List.append_assoc] at hn
      rw [List.nodup_append] at hn ⊢
      exact ⟨hn.1, by simp, fun a ha c hc => hn.2.2 a ha c (by rw [List.mem_singleton.1 hc]; exact List.mem_cons_self ..)⟩
     rw [List.nodup_append] at hsub
     exact hsub.2.2 _ hm _ (List.mem_singleton.2 rfl) rfl
   refine go ?_
   refine zA (zFY (x := x)) (next := fun _ _ => ?_)
   refine go ?_
   refine zFt zKW (nm x) (kvs := kvs ++ zAd ((xs.take k).map nm) start) (v := .int .i64 ((start : Int) + (k : Int))) ?_
   have hm2 := hm
   rw [(zAL hx).1] at hm2
   rw [zDO hm, List.append_assoc, ← (zAL (kvs := kvs) hx).2]
   refine go ?_
   refine zC (k + 1) (by omega) ⟨by omega, ?_⟩
   rw [List.take_add_one, hx, List.map_append, ← List.append_assoc, List.nodup_append]
   refine ⟨hall, by simp, fun a ha c hc => ?_⟩
   have : c = nm x := by simpa using hc
   subst this
   intro e
   subst e
   exact hm2 ha
 have hkl : k = xs.length := by omega
 subst hkl
 rw [List.take_length] at hall
 rw [List.take_length]
 refine go ?_
 exact zEJ (true, xs.map nm) (hv := rfl) (hp := ⟨fun _ => ⟨rfl, hall⟩, fun h => by cases h⟩)
theorem zLr {vs : Value} {xs : List Reg} {b start : Nat} {kvs : List (ByteArray × Value)} (hl : xs.length ≤ 4096) (hs : start ≤ 4096) (hnd : (kvs.map (·.1)).Nodup) :
 FnR Tryz.prog (.func 221) [vs, .int .i64 (start : Int), .func (.func 222) #[] #[], .map (some b)] [] [mpA zB3 b kvs] [fSl zD1 vs xs] (fun y : Bool × List ByteArray => if y.1 = true then .ok (.map (some b)) else .pan (zJu 161))
  (fun y => [mpA zB3 b (kvs ++ zAd y.2 start)]) (fun _ => []) (fun y => (y.1 = true → y.2 = (xs.map Reg.name) ∧ (kvs.map (·.1) ++ xs.map Reg.name).Nodup) ∧ (y.1 = false → ¬ (kvs.map (·.1) ++ xs.map Reg.name).Nodup)) := by
 let nm : Reg → ByteArray := Reg.name
 refine zDd _ (isC 221) fun B w0 => ?_
 refine go ?_
 rw [show mpA zB3 b kvs = mpA zB3 b (kvs ++ zAd ((xs.take 0).map nm) start) by simp [zAd]]
 refine zH (fun k => xs.length - k) (fun k : Nat => [(15, .int .i64 (k : Int))]) (fun k => [mpA zB3 b (kvs ++ zAd ((xs.take k).map nm) start)]) (fun _ => []) (fun k => k ≤ xs.length ∧ (kvs.map (·.1) ++ (xs.take k).map nm).Nodup) 0 ⟨Nat.zero_le _, by simpa using hnd⟩ (body := ?_)
 rintro k ⟨hk, hall⟩
 refine go ?_
 refine if_d rfl (fun h1 => ?_) (fun h1 => ?_)
 · refine go ?_
   refine zd zD1 (next := fun _ _ x y hx => ?_)
   refine go ?_
   intro b10
   refine go ?_
   refine zA (zFJ (x := x) (v := y)) (next := fun _ _ => ?_)
   refine go ?_
   refine zLe zKW (nm x) (fun v hv hm => ?_) (fun hm => ?_)
   · refine go ?_
     refine zDF ?_
     refine go ?_
     refine zEh (false, (xs.take k).map nm) (hv := rfl) (hp := ⟨(fun h => by cases h), fun _ hn => ?_⟩)
     rw [(zAL hx).1] at hm
     have hsub : (kvs.map (·.1) ++ (xs.take k).map nm ++ [nm x]).Nodup := by
      have e : xs.map nm = (xs.take k).map nm ++ nm x :: (xs.drop (k + 1)).map nm := by
       conv => lhs; rw [← List.take_append_drop k xs]
       rw [List.map_append]
       congr 1
       rw [List.drop_eq_getElem_cons (List.getElem?_eq_some_iff.1 hx).1, List.map_cons, (List.getElem?_eq_some_iff.1 hx).2]
      rw [e, ← List.append_assoc] at hn
      rw [List.nodup_append] at hn ⊢
      exact ⟨hn.1, by simp, fun a ha c hc => hn.2.2 a ha c (by rw [List.mem_singleton.1 hc]; exact List.mem_cons_self ..)⟩
     rw [List.nodup_append] at hsub
     exact hsub.2.2 _ hm _ (List.mem_singleton.2 rfl) rfl
   refine go ?_
   refine zA (zFJ (x := x) (v := y)) (next := fun _ _ => ?_)
   refine go ?_
   refine zFt zKW (nm x) (kvs := kvs ++ zAd ((xs.take k).map nm) start) (v := .int .i64 ((start : Int) + (k : Int))) ?_
   have hm2 := hm
   rw [(zAL hx).1] at hm2
   rw [zDO hm, List.append_assoc, ← (zAL (kvs := kvs) hx).2]
   refine go ?_
   refine zC (k + 1) (by omega) ⟨by omega, ?_⟩
   rw [List.take_add_one, hx, List.map_append, ← List.append_assoc, List.nodup_append]
   refine ⟨hall, by simp, fun a ha c hc => ?_⟩
   have : c = nm x := by simpa using hc
   subst this
   intro e
   subst e
   exact hm2 ha
 have hkl : k = xs.length := by omega
 subst hkl
 rw [List.take_length] at hall
 rw [List.take_length]
 refine go ?_
 exact zEJ (true, xs.map nm) (hv := rfl) (hp := ⟨fun _ => ⟨rfl, hall⟩, fun h => by cases h⟩)
theorem zMO {vs : Value} {xs : List Clu} {b start : Nat} {kvs : List (ByteArray × Value)} (hl : xs.length ≤ 4096) (hs : start ≤ 4096) (hnd : (kvs.map (·.1)).Nodup) :
 FnR Tryz.prog (.func 226) [vs, .int .i64 (start : Int), .func (.func 227) #[] #[], .map (some b)] [] [mpA zB3 b kvs] [fSl zAK vs xs] (fun y : Bool × List ByteArray => if y.1 = true then .ok (.map (some b)) else .pan (zJu 161))
  (fun y => [mpA zB3 b (kvs ++ zAd y.2 start)]) (fun _ => []) (fun y => (y.1 = true → y.2 = (xs.map Clu.name) ∧ (kvs.map (·.1) ++ xs.map Clu.name).Nodup) ∧ (y.1 = false → ¬ (kvs.map (·.1) ++ xs.map Clu.name).Nodup)) := by
 let nm : Clu → ByteArray := Clu.name
 refine zDd _ (isC 226) fun B w0 => ?_
 refine go ?_
 rw [show mpA zB3 b kvs = mpA zB3 b (kvs ++ zAd ((xs.take 0).map nm) start) by simp [zAd]]
 refine zH (fun k => xs.length - k) (fun k : Nat => [(15, .int .i64 (k : Int))]) (fun k => [mpA zB3 b (kvs ++ zAd ((xs.take k).map nm) start)]) (fun _ => []) (fun k => k ≤ xs.length ∧ (kvs.map (·.1) ++ (xs.take k).map nm).Nodup) 0 ⟨Nat.zero_le _, by simpa using hnd⟩ (body := ?_)
 rintro k ⟨hk, hall⟩
 refine go ?_
 refine if_d rfl (fun h1 => ?_) (fun h1 => ?_)
 · refine go ?_
   refine zd zAK (next := fun _ _ x y hx => ?_)
   refine go ?_
   intro b10
   refine go ?_
   refine zA (zFg (x := x)) (next := fun _ _ => ?_)
   refine go ?_
   refine zLe zKW (nm x) (fun v hv hm => ?_) (fun hm => ?_)
   · refine go ?_
     refine zDF ?_
     refine go ?_
     refine zEh (false, (xs.take k).map nm) (hv := rfl) (hp := ⟨(fun h => by cases h), fun _ hn => ?_⟩)
     rw [(zAL hx).1] at hm
     have hsub : (kvs.map (·.1) ++ (xs.take k).map nm ++ [nm x]).Nodup := by
      have e : xs.map nm = (xs.take k).map nm ++ nm x :: (xs.drop (k + 1)).map nm := by
       conv => lhs; rw [← List.take_append_drop k xs]
       rw [List.map_append]
       congr 1
       rw [List.drop_eq_getElem_cons (List.getElem?_eq_some_iff.1 hx).1, List.map_cons, (List.getElem?_eq_some_iff.1 hx).2]
      rw [e, ← List.append_assoc] at hn
      rw [List.nodup_append] at hn ⊢
      exact ⟨hn.1, by simp, fun a ha c hc => hn.2.2 a ha c (by rw [List.mem_singleton.1 hc]; exact List.mem_cons_self ..)⟩
     rw [List.nodup_append] at hsub
     exact hsub.2.2 _ hm _ (List.mem_singleton.2 rfl) rfl
   refine go ?_
   refine zA (zFg (x := x)) (next := fun _ _ => ?_)
   refine go ?_
   refine zFt zKW (nm x) (kvs := kvs ++ zAd ((xs.take k).map nm) start) (v := .int .i64 ((start : Int) + (k : Int))) ?_
   have hm2 := hm
   rw [(zAL hx).1] at hm2
   rw [zDO hm, List.append_assoc, ← (zAL (kvs := kvs) hx).2]
   refine go ?_
   refine zC (k + 1) (by omega) ⟨by omega, ?_⟩
   rw [List.take_add_one, hx, List.map_append, ← List.append_assoc, List.nodup_append]
   refine ⟨hall, by simp, fun a ha c hc => ?_⟩
   have : c = nm x := by simpa using hc
   subst this
   intro e
   subst e
   exact hm2 ha
 have hkl : k = xs.length := by omega
 subst hkl
 rw [List.take_length] at hall
 rw [List.take_length]
 refine go ?_
 exact zEJ (true, xs.map nm) (hv := rfl) (hp := ⟨fun _ => ⟨rfl, hall⟩, fun h => by cases h⟩)
theorem zLu {vs : Value} {xs : List Rul} {b start : Nat} {kvs : List (ByteArray × Value)} (hl : xs.length ≤ 4096) (hs : start ≤ 4096) (hnd : (kvs.map (·.1)).Nodup) :
 FnR Tryz.prog (.func 230) [vs, .int .i64 (start : Int), .func (.func 231) #[] #[], .map (some b)] [] [mpA zB3 b kvs] [fSl zk vs xs] (fun y : Bool × List ByteArray => if y.1 = true then .ok (.map (some b)) else .pan (zJu 161))
  (fun y => [mpA zB3 b (kvs ++ zAd y.2 start)]) (fun _ => []) (fun y => (y.1 = true → y.2 = (xs.map Rul.name) ∧ (kvs.map (·.1) ++ xs.map Rul.name).Nodup) ∧ (y.1 = false → ¬ (kvs.map (·.1) ++ xs.map Rul.name).Nodup)) := by
 let nm : Rul → ByteArray := Rul.name
 refine zDd _ (isC 230) fun B w0 => ?_
 refine go ?_
 rw [show mpA zB3 b kvs = mpA zB3 b (kvs ++ zAd ((xs.take 0).map nm) start) by simp [zAd]]
 refine zH (fun k => xs.length - k) (fun k : Nat => [(15, .int .i64 (k : Int))]) (fun k => [mpA zB3 b (kvs ++ zAd ((xs.take k).map nm) start)]) (fun _ => []) (fun k => k ≤ xs.length ∧ (kvs.map (·.1) ++ (xs.take k).map nm).Nodup) 0 ⟨Nat.zero_le _, by simpa using hnd⟩ (body := ?_)
 rintro k ⟨hk, hall⟩
 refine go ?_
 refine if_d rfl (fun h1 => ?_) (fun h1 => ?_)
 · refine go ?_
   refine zd zk (next := fun _ _ x y hx => ?_)
   refine go ?_
   intro b10
   refine go ?_
   refine zA (zFO (x := x) (v1 := y.1) (v2 := y.2)) (next := fun _ _ => ?_)
   refine go ?_
   refine zLe zKW (nm x) (fun v hv hm => ?_) (fun hm => ?_)
   · refine go ?_
     refine zDF ?_
     refine go ?_
     refine zEh (false, (xs.take k).map nm) (hv := rfl) (hp := ⟨(fun h => by cases h), fun _ hn => ?_⟩)
     rw [(zAL hx).1] at hm
     have hsub : (kvs.map (·.1) ++ (xs.take k).map nm ++ [nm x]).Nodup := by
      have e : xs.map nm = (xs.take k).map nm ++ nm x :: (xs.drop (k + 1)).map nm := by
       conv => lhs; rw [← List.take_append_drop k xs]
       rw [List.map_append]
       congr 1
       rw [List.drop_eq_getElem_cons (List.getElem?_eq_some_iff.1 hx).1, List.map_cons, (List.getElem?_eq_some_iff.1 hx).2]
      rw [e, ← List.append_assoc] at hn
      rw [List.nodup_append] at hn ⊢
      exact ⟨hn.1, by simp, fun a ha c hc => hn.2.2 a ha c (by rw [List.mem_singleton.1 hc]; exact List.mem_cons_self ..)⟩
     rw [List.nodup_append] at hsub
     exact hsub.2.2 _ hm _ (List.mem_singleton.2 rfl) rfl
   refine go ?_
   refine zA (zFO (x := x) (v1 := y.1) (v2 := y.2)) (next := fun _ _ => ?_)
   refine go ?_
   refine zFt zKW (nm x) (kvs := kvs ++ zAd ((xs.take k).map nm) start) (v := .int .i64 ((start : Int) + (k : Int))) ?_
   have hm2 := hm
   rw [(zAL hx).1] at hm2
   rw [zDO hm, List.append_assoc, ← (zAL (kvs := kvs) hx).2]
   refine go ?_
   refine zC (k + 1) (by omega) ⟨by omega, ?_⟩
   rw [List.take_add_one, hx, List.map_append, ← List.append_assoc, List.nodup_append]
   refine ⟨hall, by simp, fun a ha c hc => ?_⟩
   have : c = nm x := by simpa using hc
   subst this
   intro e
   subst e
   exact hm2 ha
 have hkl : k = xs.length := by omega
 subst hkl
 rw [List.take_length] at hall
 rw [List.take_length]
 refine go ?_
 exact zEJ (true, xs.map nm) (hv := rfl) (hp := ⟨fun _ => ⟨rfl, hall⟩, fun h => by cases h⟩)
end Go.Proofs.YtpkieeggilkagaaGreat
namespace Go.Proofs.YtpkieeggilkagaaGreat
open Go.Ideal Kd
noncomputable def zHz : zn := ⟨9, [], (.seq (.ops [3, 2] [⟨⟨(some 3), none, .recover⟩, []⟩, ⟨⟨(some 2), none, (.asg (.tmp 3))⟩, []⟩]) (.seq (.ops [4, 5] [⟨⟨(some 4), none, (.mv (.tmp 2))⟩, []⟩, ⟨⟨(some 5), none, (.bin .neq 20 (.tmp 4) (.const .nilIface))⟩, []⟩]) (.cond (.tmp 5) (.ops [6, 7, 8] [⟨⟨(some 6), none, (.build [(.string ⟨⟨[]⟩⟩), (.int .i64 0), (.int .i64 0), (.int .i64 0), (.int .i64 0), (.slice none 0 0), (.slice none 0 0), (.slice none 0 0), (.slice none 0 0), (.slice none 0 0)] [])⟩, []⟩, ⟨⟨(some 7), none, (.mv (.tmp 2))⟩, []⟩, ⟨⟨(some 8), none, (.tassert 40 (.int .i64 0) false (.tmp 7))⟩, []⟩, ⟨⟨none, none, (.store 10 (.tmp 0) (.tmp 6))⟩, []⟩, ⟨⟨none, none, (.store 1 (.tmp 1) (.tmp 8))⟩, []⟩]) .skip)))⟩
theorem f_rslv1 : enF Tryz.prog 218 = some zHz := by kernel_rfl
section
variable {P : Program} {B : List Nat} {w0 : Wd} {kl kl' : List OA} {F : List zK} {K : KO} {ds : List Tmp} {rest : List zM} {n : Nat} {l : List (Nat × Value)} {D : List Deferred} {pm : Option FrameMode} {ro : Option Nat} {d : Nat} {g : Option (Tmp × Bool)}
theorem zOy {α : Type} [DecidableEq α] {toV : α → Value} {kt : TypeId} {zero : Value} {m k : Operand} {b : Nat} {kvs : List (α × Value)} (hk : zI7 P kt toV) (a : α)
 (hit : ∀ v, lkp a kvs = some v → a ∈ kvs.map (·.1) → R (fun h => OPS P ds rest (act n ((d, .tuple ⟨[v, .bool true]⟩) :: l) D pm ro) h K) B w0 kl F)
 (miss : a ∉ kvs.map (·.1) → R (fun h => OPS P ds rest (act n ((d, .tuple ⟨[zero, .bool false]⟩) :: l) D pm ro) h K) B w0 kl F)
 (hm : ev l m = .map (some b) := by rfl) (ha : ev l k = toV a := by conv => lhs; whnf) (hf : autoParam (zOQ toV b kvs ∈ F) zJk._auto_1) (hn : Nat.blt d n = true := by rfl) (hg : gok l g = true := by rfl) :
 R (fun h => OPS P ds (⟨⟨some d, g, .lookup kt zero m k true⟩, []⟩ :: rest) (act n l D pm ro) h K) B w0 kl F := by
 refine zJ3 (ok := true) hk a ?_ hm ha hf hn hg
 by_cases h : a ∈ kvs.map (·.1)
 · obtain ⟨v, hv⟩ := zEK h
   have e : lkV true zero a kvs = .tuple ⟨[v, .bool true]⟩ := by unfold lkV; rw [hv]; rfl
   rw [e]; exact hit v hv h
 · have e : lkV true zero a kvs = .tuple ⟨[zero, .bool false]⟩ := by unfold lkV; rw [zAA h]; rfl
   rw [e]; exact miss h
theorem zF0 {α : Type} (E : Enc α) {v : Value} {xys : List (α × E.Y)} {Q : IH → Prop} (h0 : xys = [] → ∀ c, v = .slice none 0 c → R Q B w0 kl F) (h1 : xys = [] → ∀ i o f c, v = .slice (some ⟨i, o, some f⟩) 0 c → R Q B w0 kl F)
 (h2 : 0 < xys.length → ∀ i o f c, v = .slice (some ⟨i, o, some f⟩) xys.length c → R Q B w0 kl F) (hf : autoParam (fEl E v xys ∈ F) zJk._auto_1) : R Q B w0 kl F := fun w s => by
 rcases s.facts _ hf with ⟨e, a, c, hv, hg⟩ | ⟨i, o, f, c, cells, ⟨hv, _⟩, _⟩
 · match a, hv, hg with
   | none, hv, _ => exact h0 e c hv w s
   | some ⟨i, o, some f⟩, hv, _ => exact h1 e i o f c hv w s
 · by_cases hx : xys = []
   · subst hx; exact h1 rfl i o f c hv w s
   · exact h2 (List.length_pos_iff.2 hx) i o f c hv w s
theorem zKu {α : Type} (E : Enc α) {Q : IH → Prop} (h : R Q B w0 (ar E (.slice none 0 0) [] :: kl) F) : R Q B w0 kl F := fun w s => by
 obtain ⟨S, h1, h2, h3⟩ := s.own
 exact h w ⟨s.agree, s.le, s.zold, ⟨S, ⟨[], S, .inl ⟨rfl, ⟨none, rfl, trivial⟩, rfl⟩, h1, rfl⟩, h2, h3⟩, s.facts⟩
end
theorem zNI : FnC Tryz.prog (.func 224) [] [] [] [] (fun v : Value => v) (fun _ => []) (fun v => [fSl zCT v zEe]) (fun _ => True) := by
 refine zE zIg f_givenF fun B w0 => ?_
 refine go ?_
 intro b
 refine go ?_
 refine z8 (b := b) (m := 8) (f := 0) zCT (xys := zEe.map fun s => (s, ())) rfl (.inl rfl) ?_ (hk := Sel.here)
 refine zED (E := zCT) ?_ (fun w hw p hp f hf => by cases hf)
 exact q_fin (.slice (some ⟨b, 0, some 0⟩) 8 8) (hv := rfl) (hp := trivial) (hF := .cons (List.mem_cons_of_mem _ (List.mem_cons_self ..)) .nil)
theorem zF6 {b : Nat} {s : ByteArray} {kvs : List (ByteArray × Value)} :
 FnR Tryz.prog (.func 229) [.map (some b), .string s] [] [] [zOQ zB3 b kvs] (fun y : Option Value => match y with | some v => .ok v | none => .pan (zJu 160)) (fun _ => []) (fun _ => []) (fun y => y = lkp s kvs) := by
 refine zDd _ (isC 229) fun B w0 => ?_
 refine go ?_
 refine zOy zKW s (fun v hv hm => ?_) (fun hm => ?_)
 · refine go ?_
   exact zEJ (some v) (hv := rfl) (hp := hv.symm)
 · refine go ?_
   refine zDF ?_
   refine go ?_
   exact zEh none (hv := rfl) (hp := (zAA hm).symm)
theorem zLb {syms l : List ByteArray} {k : Nat} {s : ByteArray} (h : l[k]? = some s) : setN syms (l.take (k + 1)) = setN syms (l.take k) ||| 1 <<< posn s syms := by
 unfold setN
 rw [List.take_add_one, h, List.foldl_append]; rfl
theorem zLT {syms : List ByteArray} (hs : syms.length ≤ 16) : ∀ (l : List ByteArray) (m : Nat), (∀ s ∈ l, s ∈ syms) → m < 65536 → l.foldl (fun m s => m ||| 1 <<< posn s syms) m < 65536
 | [], m, _, hm => hm
 | s :: l, m, h, hm => by
   rw [List.foldl_cons]
   refine zLT hs l _ (fun x hx => h x (List.mem_cons_of_mem _ hx)) ?_
   have h1 := zCa (h s (List.mem_cons_self ..))
   have h2 : 1 <<< posn s syms < 2 ^ 16 := by
    rw [Nat.shiftLeft_eq, Nat.one_mul]
    exact Nat.pow_lt_pow_right (by omega) (by omega)
   exact Nat.or_lt_two_pow (n := 16) hm h2
theorem zKh {b4 bs : Nat} {vl : Value} {syms l : List ByteArray} (hs : syms.length ≤ 16) (hl : l.length < 9223372036854775808) :
 FnR Tryz.prog (.func 233) [vl] [ptr' b4] [] [fRaw b4 0 [.map (some bs)], zOQ zB3 bs (zAd syms 0), fSl zCT vl l] (fun y : Bool => if y = true then .ok (.int .i64 (setN syms l : Int)) else .pan (zJu 160)) (fun _ => []) (fun _ => [])
  (fun y => (y = true → ∀ s ∈ l, s ∈ syms) ∧ (y = false → ¬ ∀ s ∈ l, s ∈ syms)) := by
 refine zDd _ (isC 233) fun B w0 => ?_
 refine go ?_
 refine zH (fun k => l.length - k) (fun k : Nat => [(8, .int .i64 (k : Int)), (3, .int .i64 (setN syms (l.take k) : Int))]) (fun _ => []) (fun _ => []) (fun k => k ≤ l.length ∧ ∀ s ∈ l.take k, s ∈ syms) 0 ⟨Nat.zero_le _, by simp⟩ (body := ?_)
 rintro k ⟨hk, hall⟩
 refine go ?_
 refine if_d rfl (fun h1 => ?_) (fun h1 => ?_)
 · refine go ?_
   refine zd zCT (next := fun _ _ x (y : Unit) hx => ?_)
   refine go ?_
   refine zA2 (zF6 (b := bs) (s := x) (kvs := zAd syms 0)) (fun y v hy e => ?_) (fun y ch hy e => ?_)
   · have hm : x ∈ syms := by
      by_cases h : x ∈ syms
      · exact h
      · rw [zAA (by rw [zAJ]; exact h)] at hy
        subst hy; cases e
     rw [zAu hm] at hy
     subst hy
     injection e with e
     subst e
     have hp := zCa hm
     have h2 : 1 <<< posn x syms < 2 ^ 16 := by
      rw [Nat.shiftLeft_eq, Nat.one_mul]
      exact Nat.pow_lt_pow_right (by omega) (by omega)
     have h3 := zLT hs (l.take k) 0 hall (by omega)
     rw [Nat.zero_add]
     refine (d_p rfl rfl (zQx (a := 1) (b := posn x syms) rfl rfl (by omega) (by omega))).h ?_
     refine (d_p rfl rfl (zSw (a := setN syms (l.take k)) (b := 1 <<< posn x syms) rfl rfl (Nat.lt_trans h3 (by omega)) (by omega))).h ?_
     refine go ?_
     refine zC (k + 1) (by omega) ⟨by omega, fun s hs' => ?_⟩ (hl := ⟨rfl, by rw [zLb hx]; rfl, by repeat (first | exact trivial | refine ⟨rfl, ?_⟩)⟩)
     rw [List.take_add_one, hx] at hs'
     rcases List.mem_append.1 hs' with h | h
     · exact hall s h
     · have : s = x := by simpa using h
       rw [this]; exact hm
   · refine go ?_
     have hm : x ∉ syms := by
      intro h
      rw [zAu h] at hy
      subst hy; cases e
     have hch : ch = zJu 160 := by
      rw [zAA (by rw [zAJ]; exact hm)] at hy
      subst hy
      injection e with e
      exact e.symm
     subst hch
     exact zEh false (hv := rfl) (hp := ⟨(fun h => by cases h), fun _ h => hm (h x (List.mem_of_getElem? hx))⟩)
 have hkl : k = l.length := by omega
 subst hkl
 rw [List.take_length] at hall ⊢
 refine go ?_
 exact zEJ true (hv := rfl) (hp := ⟨fun _ => hall, fun h => by cases h⟩)
theorem zKv {v : Value} {xys : List (Clu × zAK.Y)} (hl : xys.length ≤ 4096) : FnC Tryz.prog (.func 228) [v] [] [] [fEl zAK v xys] (fun v' : Value => v') (fun v' => [ar zAK v' xys]) (fun _ => []) (fun _ => True) := by
 refine zE _ (isC 228) fun B w0 => ?_
 refine zF0 (v := v) (xys := xys) zAK (fun e c ev => ?_) (fun e i o f c ev => ?_) (fun hne i o f c ev => ?_)
 · subst e ev
   refine go ?_
   refine (d_p rfl rfl (zIX (e := 110) (by kernel_rfl) rfl)).h ?_
   refine go ?_
   refine zKu zAK ?_
   exact q_fin (.slice none 0 0) (hv := rfl) (hp := trivial)
 · subst e ev
   refine go ?_
   refine (d_p rfl rfl (zFG (e := 110) (by kernel_rfl) rfl)).h ?_
   refine go ?_
   intro b
   refine go ?_
   refine zHb (b := b) ?_
   refine go ?_
   refine z8 (b := b) (m := 0) (f := 0) zAK (xys := []) rfl (.inl rfl) ?_ (hk := Sel.here)
   exact q_fin (.slice (some ⟨b, 0, some 0⟩) 0 0) (hv := rfl) (hp := trivial)
 · subst ev
   refine go ?_
   refine (d_p rfl rfl (zFG (e := 110) (by kernel_rfl) rfl)).h ?_
   refine go ?_
   intro b
   refine go ?_
   refine zKO (b := b) zAK xys hne (by omega) (fun b' => ?_)
   refine go ?_
   refine z8 (b := b') (m := xys.length) (f := zAK.n) zAK (xys := xys) rfl (.inr rfl) ?_ (hk := Sel.here)
   exact q_fin (.slice (some ⟨b', 0, some zAK.n⟩) xys.length xys.length) (hv := rfl) (hp := trivial)
theorem zMM {v : Value} {xys : List (Rul × zk.Y)} (hl : xys.length ≤ 4096) : FnC Tryz.prog (.func 232) [v] [] [] [fEl zk v xys] (fun v' : Value => v') (fun v' => [ar zk v' xys]) (fun _ => []) (fun _ => True) := by
 refine zE _ (isC 232) fun B w0 => ?_
 refine zF0 (v := v) (xys := xys) zk (fun e c ev => ?_) (fun e i o f c ev => ?_) (fun hne i o f c ev => ?_)
 · subst e ev
   refine go ?_
   refine (d_p rfl rfl (zIX (e := 71) (by kernel_rfl) rfl)).h ?_
   refine go ?_
   refine zKu zk ?_
   exact q_fin (.slice none 0 0) (hv := rfl) (hp := trivial)
 · subst e ev
   refine go ?_
   refine (d_p rfl rfl (zFG (e := 71) (by kernel_rfl) rfl)).h ?_
   refine go ?_
   intro b
   refine go ?_
   refine zHb (b := b) ?_
   refine go ?_
   refine z8 (b := b) (m := 0) (f := 0) zk (xys := []) rfl (.inl rfl) ?_ (hk := Sel.here)
   exact q_fin (.slice (some ⟨b, 0, some 0⟩) 0 0) (hv := rfl) (hp := trivial)
 · subst ev
   refine go ?_
   refine (d_p rfl rfl (zFG (e := 71) (by kernel_rfl) rfl)).h ?_
   refine go ?_
   intro b
   refine go ?_
   refine zKO (b := b) zk xys hne (by omega) (fun b' => ?_)
   refine go ?_
   refine z8 (b := b') (m := xys.length) (f := zk.n) zk (xys := xys) rfl (.inr rfl) ?_ (hk := Sel.here)
   exact q_fin (.slice (some ⟨b', 0, some zk.n⟩) xys.length xys.length) (hv := rfl) (hp := trivial)
end Go.Proofs.YtpkieeggilkagaaGreat
set_option maxHeartbeats 4000000
namespace Go.Proofs.YtpkieeggilkagaaGreat
open Go.Ideal Kd
noncomputable def zI1 : zn := ⟨128, [(.cellN 10 2), (.cell1 3)], (.seq (.ops [1, 2, 3] [⟨⟨(some 1), none, (.box (.tmp 0) 28)⟩, []⟩, ⟨⟨(some 2), none, (.new [(.string ⟨⟨[]⟩⟩), (.int .i64 0), (.int .i64 0), (.int .i64 0), (.int .i64 0), (.slice none 0 0), (.slice none 0 0), (.slice none 0 0), (.slice none 0 0), (.slice none 0 0)] 28)⟩, []⟩, ⟨⟨(some 3), none, (.new [(.int .i64 0)] 40)⟩, []⟩]) (.seq (.ops [11] [⟨⟨(some 11), none, (.mkfunc (.func 218) [] [(.tmp 2), (.tmp 3)])⟩, []⟩, ⟨⟨none, none, (.dcall (.tmp 11) [])⟩, []⟩]) (.seq (.seq (.ops [12, 13, 14, 15] [⟨⟨(some 12), none, (.fieldA 6 (.tmp 1))⟩, []⟩, ⟨⟨(some 13), none, (.load1 (.tmp 12))⟩, []⟩, ⟨⟨(some 14), none, (.lenSl (.tmp 13))⟩, []⟩, ⟨⟨(some 15), none, (.bin .gtr 3 (.tmp 14) (.const (.int .i64 16)))⟩, []⟩]) (.cond (.tmp 15) (.seq (.ops [16] [⟨⟨(some 16), none, (.loadN 10 (.tmp 2))⟩, []⟩, ⟨⟨none, none, (.store 10 (.tmp 2) (.tmp 16))⟩, []⟩, ⟨⟨none, none, (.store 1 (.tmp 3) (.const (.int .i64 2)))⟩, []⟩]) .ret) .skip)) (.seq (.ops [17, 18, 19, 20, 4] [⟨⟨(some 17), none, (.fieldA 6 (.tmp 1))⟩, []⟩, ⟨⟨(some 18), none, (.load1 (.tmp 17))⟩, []⟩, ⟨⟨(some 19), none, .mkmap⟩, []⟩, ⟨⟨(some 20), none, (.call (.func 219) [(.tmp 18), (.const (.int .i64 0)), (.func 220), (.tmp 19)])⟩, []⟩, ⟨⟨(some 4), none, (.new [(.map none)] 217)⟩, []⟩, ⟨⟨none, none, (.store 1 (.tmp 4) (.tmp 20))⟩, []⟩]) (.seq (.ops [21, 22, 23, 24, 25, 26, 5] [⟨⟨(some 21), none, (.fieldA 7 (.tmp 1))⟩, []⟩, ⟨⟨(some 22), none, (.load1 (.tmp 21))⟩, []⟩, ⟨⟨(some 24), none, .mkmap⟩, []⟩, ⟨⟨(some 23), none, (.call (.func 224) [])⟩, [⟨(some 22), none, (.load1 (.tmp 21))⟩]⟩, ⟨⟨(some 25), none, (.call (.func 223) [(.tmp 23), (.const (.int .i64 0)), (.func 225), (.tmp 24)])⟩, [⟨(some 22), none, (.load1 (.tmp 21))⟩]⟩, ⟨⟨(some 26), none, (.call (.func 221) [(.tmp 22), (.const (.int .i64 8)), (.func 222), (.tmp 25)])⟩, []⟩, ⟨⟨(some 5), none, (.asg (.tmp 26))⟩, []⟩]) (.seq (.ops [27, 28, 29, 30, 6] [⟨⟨(some 27), none, (.fieldA 8 (.tmp 1))⟩, []⟩, ⟨⟨(some 28), none, (.load1 (.tmp 27))⟩, []⟩, ⟨⟨(some 29), none, .mkmap⟩, []⟩, ⟨⟨(some 30), none, (.call (.func 226) [(.tmp 28), (.const (.int .i64 0)), (.func 227), (.tmp 29)])⟩, []⟩, ⟨⟨(some 6), none, (.asg (.tmp 30))⟩, []⟩]) (.seq (.ops [31, 32, 33, 34] [⟨⟨(some 31), none, (.fieldA 8 (.tmp 1))⟩, []⟩, ⟨⟨(some 32), none, (.load1 (.tmp 31))⟩, []⟩, ⟨⟨(some 33), none, (.call (.func 228) [(.tmp 32)])⟩, []⟩, ⟨⟨(some 34), none, (.fieldA 8 (.tmp 1))⟩, []⟩, ⟨⟨none, none, (.store 1 (.tmp 34) (.tmp 33))⟩, []⟩]) (.seq (.seq (.ops [35, 36, 37, 38] [⟨⟨(some 35), none, (.fieldA 8 (.tmp 1))⟩, []⟩, ⟨⟨(some 36), none, (.load1 (.tmp 35))⟩, []⟩, ⟨⟨(some 37), none, (.lenSl (.tmp 36))⟩, []⟩, ⟨⟨(some 38), none, (.mv (.const (.int .i64 0)))⟩, []⟩]) (.block 0 (.loop (.seq (.ops [39] [⟨⟨(some 39), none, (.bin .lss 3 (.tmp 38) (.tmp 37))⟩, []⟩]) (.seq (.cond (.tmp 39) .skip (.exit 0)) (.seq (.block 1 (.seq (.ops [40, 7] [⟨⟨(some 40), none, (.mv (.tmp 38))⟩, []⟩, ⟨⟨(some 7), none, (.asg (.tmp 40))⟩, []⟩]) (.ops [41, 42, 43, 44, 45, 46, 47, 48, 49, 50, 51, 52, 53] [⟨⟨(some 41), none, (.fieldA 8 (.tmp 1))⟩, []⟩, ⟨⟨(some 42), none, (.load1 (.tmp 41))⟩, []⟩, ⟨⟨(some 43), none, (.mv (.tmp 7))⟩, []⟩, ⟨⟨(some 44), none, (.mv (.tmp 5))⟩, []⟩, ⟨⟨(some 45), none, (.fieldA 8 (.tmp 1))⟩, []⟩, ⟨⟨(some 46), none, (.load1 (.tmp 45))⟩, []⟩, ⟨⟨(some 47), none, (.mv (.tmp 7))⟩, []⟩, ⟨⟨(some 48), none, (.idxSl 6 (.tmp 46) (.tmp 47))⟩, []⟩, ⟨⟨(some 49), none, (.fieldA 1 (.tmp 48))⟩, []⟩, ⟨⟨(some 50), none, (.load1 (.tmp 49))⟩, []⟩, ⟨⟨(some 51), none, (.call (.func 229) [(.tmp 44), (.tmp 50)])⟩, [⟨(some 42), none, (.load1 (.tmp 41))⟩]⟩, ⟨⟨(some 52), none, (.idxSl 6 (.tmp 42) (.tmp 43))⟩, []⟩, ⟨⟨(some 53), none, (.fieldA 2 (.tmp 52))⟩, []⟩, ⟨⟨none, none, (.store 1 (.tmp 53) (.tmp 51))⟩, []⟩]))) (.ops [54, 38] [⟨⟨(some 54), none, (.bin .add 3 (.tmp 38) (.const (.int .i64 1)))⟩, []⟩, ⟨⟨(some 38), none, (.mv (.tmp 54))⟩, []⟩]))))))) (.seq (.ops [55, 56, 57, 58] [⟨⟨(some 55), none, (.fieldA 9 (.tmp 1))⟩, []⟩, ⟨⟨(some 56), none, (.load1 (.tmp 55))⟩, []⟩, ⟨⟨(some 57), none, .mkmap⟩, []⟩, ⟨⟨(some 58), none, (.call (.func 230) [(.tmp 56), (.const (.int .i64 0)), (.func 231), (.tmp 57)])⟩, []⟩]) (.seq (.ops [59, 60, 61, 62] [⟨⟨(some 59), none, (.fieldA 9 (.tmp 1))⟩, []⟩, ⟨⟨(some 60), none, (.load1 (.tmp 59))⟩, []⟩, ⟨⟨(some 61), none, (.call (.func 232) [(.tmp 60)])⟩, []⟩, ⟨⟨(some 62), none, (.fieldA 9 (.tmp 1))⟩, []⟩, ⟨⟨none, none, (.store 1 (.tmp 62) (.tmp 61))⟩, []⟩]) (.seq (.ops [63, 8] [⟨⟨(some 63), none, (.mkfunc (.func 233) [] [(.tmp 4)])⟩, []⟩, ⟨⟨(some 8), none, (.asg (.tmp 63))⟩, []⟩]) (.seq (.seq (.ops [64, 65, 66, 67] [⟨⟨(some 64), none, (.fieldA 9 (.tmp 1))⟩, []⟩, ⟨⟨(some 65), none, (.load1 (.tmp 64))⟩, []⟩, ⟨⟨(some 66), none, (.lenSl (.tmp 65))⟩, []⟩, ⟨⟨(some 67), none, (.mv (.const (.int .i64 0)))⟩, []⟩]) (.block 2 (.loop (.seq (.ops [68] [⟨⟨(some 68), none, (.bin .lss 3 (.tmp 67) (.tmp 66))⟩, []⟩]) (.seq (.cond (.tmp 68) .skip (.exit 2)) (.seq (.block 3 (.seq (.ops [69, 9] [⟨⟨(some 69), none, (.mv (.tmp 67))⟩, []⟩, ⟨⟨(some 9), none, (.asg (.tmp 69))⟩, []⟩]) (.seq (.ops [70, 71, 72, 73, 10] [⟨⟨(some 70), none, (.fieldA 9 (.tmp 1))⟩, []⟩, ⟨⟨(some 71), none, (.load1 (.tmp 70))⟩, []⟩, ⟨⟨(some 72), none, (.mv (.tmp 9))⟩, []⟩, ⟨⟨(some 73), none, (.idxSl 12 (.tmp 71) (.tmp 72))⟩, []⟩, ⟨⟨(some 10), none, (.asg (.tmp 73))⟩, []⟩]) (.seq (.ops [74, 75, 76, 77, 78, 79] [⟨⟨(some 74), none, (.mv (.tmp 10))⟩, []⟩, ⟨⟨(some 75), none, (.mv (.tmp 10))⟩, []⟩, ⟨⟨(some 76), none, (.nilck (.tmp 74))⟩, []⟩, ⟨⟨(some 77), none, (.fieldA 3 (.tmp 76))⟩, []⟩, ⟨⟨none, none, (.store 1 (.tmp 77) (.const (.int .i64 0)))⟩, []⟩, ⟨⟨(some 78), none, (.nilck (.tmp 75))⟩, []⟩, ⟨⟨(some 79), none, (.fieldA 11 (.tmp 78))⟩, []⟩, ⟨⟨none, none, (.store 1 (.tmp 79) (.const (.int .i64 (-1))))⟩, []⟩]) (.seq (.seq (.ops [80, 81, 82, 83, 84] [⟨⟨(some 80), none, (.mv (.tmp 10))⟩, []⟩, ⟨⟨(some 81), none, (.nilck (.tmp 80))⟩, []⟩, ⟨⟨(some 82), none, (.fieldA 1 (.tmp 81))⟩, []⟩, ⟨⟨(some 83), none, (.load1 (.tmp 82))⟩, []⟩, ⟨⟨(some 84), none, (.bin .neq 9 (.tmp 83) (.const (.string ⟨⟨[]⟩⟩)))⟩, []⟩]) (.cond (.tmp 84) (.ops [85, 86, 87, 88, 89, 90, 91, 92, 93] [⟨⟨(some 85), none, (.mv (.tmp 10))⟩, []⟩, ⟨⟨(some 86), none, (.mv (.tmp 5))⟩, []⟩, ⟨⟨(some 87), none, (.mv (.tmp 10))⟩, []⟩, ⟨⟨(some 88), none, (.nilck (.tmp 87))⟩, []⟩, ⟨⟨(some 89), none, (.fieldA 1 (.tmp 88))⟩, []⟩, ⟨⟨(some 90), none, (.load1 (.tmp 89))⟩, []⟩, ⟨⟨(some 91), none, (.call (.func 229) [(.tmp 86), (.tmp 90)])⟩, []⟩, ⟨⟨(some 92), none, (.nilck (.tmp 85))⟩, []⟩, ⟨⟨(some 93), none, (.fieldA 3 (.tmp 92))⟩, []⟩, ⟨⟨none, none, (.store 1 (.tmp 93) (.tmp 91))⟩, []⟩]) .skip)) (.seq (.ops [94, 95, 96, 97, 98, 99, 100, 101, 102, 103, 104, 105, 106, 107, 108, 109, 110, 111] [⟨⟨(some 94), none, (.mv (.tmp 10))⟩, []⟩, ⟨⟨(some 95), none, (.mv (.tmp 10))⟩, []⟩, ⟨⟨(some 96), none, (.mv (.tmp 8))⟩, []⟩, ⟨⟨(some 97), none, (.mv (.tmp 10))⟩, []⟩, ⟨⟨(some 98), none, (.nilck (.tmp 97))⟩, []⟩, ⟨⟨(some 99), none, (.fieldA 4 (.tmp 98))⟩, []⟩, ⟨⟨(some 100), none, (.load1 (.tmp 99))⟩, []⟩, ⟨⟨(some 102), none, (.mv (.tmp 8))⟩, []⟩, ⟨⟨(some 103), none, (.mv (.tmp 10))⟩, []⟩, ⟨⟨(some 104), none, (.nilck (.tmp 103))⟩, []⟩, ⟨⟨(some 105), none, (.fieldA 5 (.tmp 104))⟩, []⟩, ⟨⟨(some 106), none, (.load1 (.tmp 105))⟩, []⟩, ⟨⟨(some 101), none, (.call (.tmp 96) [(.tmp 100)])⟩, [⟨(some 106), none, (.load1 (.tmp 105))⟩]⟩, ⟨⟨(some 107), none, (.call (.tmp 102) [(.tmp 106)])⟩, []⟩, ⟨⟨(some 108), none, (.nilck (.tmp 94))⟩, []⟩, ⟨⟨(some 109), none, (.fieldA 6 (.tmp 108))⟩, []⟩, ⟨⟨none, none, (.store 1 (.tmp 109) (.tmp 101))⟩, []⟩, ⟨⟨(some 110), none, (.nilck (.tmp 95))⟩, []⟩, ⟨⟨(some 111), none, (.fieldA 7 (.tmp 110))⟩, []⟩, ⟨⟨none, none, (.store 1 (.tmp 111) (.tmp 107))⟩, []⟩]) (.seq (.ops [112, 113, 114, 115, 116] [⟨⟨(some 112), none, (.mv (.tmp 10))⟩, []⟩, ⟨⟨(some 113), none, (.nilck (.tmp 112))⟩, []⟩, ⟨⟨(some 114), none, (.fieldA 10 (.tmp 113))⟩, []⟩, ⟨⟨(some 115), none, (.load1 (.tmp 114))⟩, []⟩, ⟨⟨(some 116), none, (.bin .neq 9 (.tmp 115) (.const (.string ⟨⟨[]⟩⟩)))⟩, []⟩]) (.cond (.tmp 116) (.ops [117, 118, 119, 120, 121, 122, 123, 124, 125] [⟨⟨(some 117), none, (.mv (.tmp 10))⟩, []⟩, ⟨⟨(some 118), none, (.mv (.tmp 6))⟩, []⟩, ⟨⟨(some 119), none, (.mv (.tmp 10))⟩, []⟩, ⟨⟨(some 120), none, (.nilck (.tmp 119))⟩, []⟩, ⟨⟨(some 121), none, (.fieldA 10 (.tmp 120))⟩, []⟩, ⟨⟨(some 122), none, (.load1 (.tmp 121))⟩, []⟩, ⟨⟨(some 123), none, (.call (.func 229) [(.tmp 118), (.tmp 122)])⟩, []⟩, ⟨⟨(some 124), none, (.nilck (.tmp 117))⟩, []⟩, ⟨⟨(some 125), none, (.fieldA 11 (.tmp 124))⟩, []⟩, ⟨⟨none, none, (.store 1 (.tmp 125) (.tmp 123))⟩, []⟩]) .skip)))))))) (.ops [126, 67] [⟨⟨(some 126), none, (.bin .add 3 (.tmp 67) (.const (.int .i64 1)))⟩, []⟩, ⟨⟨(some 67), none, (.mv (.tmp 126))⟩, []⟩]))))))) (.seq (.ops [127] [⟨⟨(some 127), none, (.loadN 10 (.tmp 1))⟩, []⟩, ⟨⟨none, none, (.store 10 (.tmp 2) (.tmp 127))⟩, []⟩, ⟨⟨none, none, (.store 1 (.tmp 3) (.const (.int .i64 0)))⟩, []⟩]) .ret)))))))))))))⟩
theorem f_rslv : enF Tryz.prog 182 = some zI1 := by kernel_rfl
theorem zAR (a b : ByteArray) : (a.toList == b.toList) = decide (a = b) := by
 rw [ByteArray.toList_eq, ByteArray.toList_eq]
 by_cases h : a = b
 · subst h; simp
 · rw [decide_eq_false h]
   cases hb : a.data.toList == b.data.toList with
   | false => rfl
   | true =>
     have := eq_of_beq hb
     exact absurd (ByteArray.ext (Array.ext' this)) h
abbrev zE7 : List Value := [.string ⟨⟨[]⟩⟩, .int .i64 0, .int .i64 0, .int .i64 0, .int .i64 0, .slice none 0 0, .slice none 0 0, .slice none 0 0, .slice none 0 0, .slice none 0 0]
theorem zMP {b2 b3 : Nat} : FnD Tryz.prog (.func 218) [] [ptr' b2, ptr' b3] .returning [] [] (fun _ : Unit => .ok (.tuple ⟨[]⟩)) (fun _ => .returning) (fun _ => []) (fun _ => []) (fun _ => True) := by
 refine zOs zHz f_rslv1 fun B w0 => ?_
 refine go ?_
 refine zGm (v := .nilIface) (m' := .returning) rfl ?_
 refine go ?_
 refine (d_p (v := .bool false) rfl rfl (fun h => by
  show (match zE3 Tryz.prog .neq 20 (.tmp 4) (.const .nilIface) .nilIface .nilIface with | some v => some (v, h) | none => none) = _
  rw [show zE3 Tryz.prog .neq 20 (.tmp 4) (.const .nilIface) .nilIface .nilIface = some (.bool false) by kernel_rfl])).h ?_
 refine go ?_
 exact zOp () (hv := rfl) (hm := rfl) (hp := trivial)
theorem zL6 {b2 b3 : Nat} {e : Int} (he : e = 160 ∨ e = 161) : FnD Tryz.prog (.func 218) [] [ptr' b2, ptr' b3] (.panicking (zJu e)) [pt b2 (.cells zE7), pt b3 (.cells [.int .i64 0])] [] (fun _ : Unit => .ok (.tuple ⟨[]⟩)) (fun _ => .panicking [{ v := .iface 40 (.int .i64 e), recovered := true }])
 (fun _ => [pt b2 (.cells zE7), pt b3 (.cells [.int .i64 e])]) (fun _ => []) (fun _ => True) := by
 refine zOs zHz f_rslv1 fun B w0 => ?_
 refine go ?_
 refine zGm (v := .iface 40 (.int .i64 e)) (m' := .panicking [{ v := .iface 40 (.int .i64 e), recovered := true }]) rfl ?_
 refine go ?_
 refine (d_p (v := .bool true) rfl rfl (fun h => by
  show (match zE3 Tryz.prog .neq 20 (.tmp 4) (.const .nilIface) (.iface 40 (.int .i64 e)) .nilIface with | some v => some (v, h) | none => none) = _
  rcases he with rfl | rfl
  · rw [show zE3 Tryz.prog .neq 20 (.tmp 4) (.const .nilIface) (.iface 40 (.int .i64 160)) .nilIface = some (.bool true) by kernel_rfl]
  · rw [show zE3 Tryz.prog .neq 20 (.tmp 4) (.const .nilIface) (.iface 40 (.int .i64 161)) .nilIface = some (.bool true) by kernel_rfl])).h ?_
 refine go ?_
 exact zOp () (hv := rfl) (hm := rfl) (hp := trivial)
structure RsY where
 ok : Bool
 e : Int
 vc : Value
 vu : Value
abbrev rsV (d : Dcl) (vh vs vr : Value) (y : RsY) : Value := .tuple ⟨[.agg ⟨cond y.ok (zFT (Kd.rslv d) vh vs vr y.vc y.vu) zE7⟩, .int .i64 y.e]⟩
abbrev rsF (d : Dcl) (y : RsY) : List zK := cond y.ok [fSl zAK y.vc (Kd.rslv d).clues, fSl zk y.vu (Kd.rslv d).rules] []
def RsP (d : Dcl) (y : RsY) : Prop := (y.ok = true → y.e = 0 ∧ zFC d) ∧ (y.ok = false → y.e ≠ 0 ∧ ¬ zFC d)
structure zIj (d : Dcl) : Prop where
 syms : d.symbols.length ≤ 4096
 regs : d.regions.length ≤ 4096
 clus : d.clues.length ≤ 4096
 ruls : d.rules.length ≤ 4096
 rnames : ∀ r ∈ d.rules, r.names.length < 9223372036854775808 ∧ r.others.length < 9223372036854775808
 holes : d.holes.length < 9223372036854775808
 regl : ∀ r ∈ d.regions, r.lists.length < 9223372036854775808 ∧ ∀ l ∈ r.lists, l.length < 9223372036854775808
section
variable {B : List Nat} {w0 : Wd} {kl klr : List OA} {F : List zK} {l : List (Nat × Value)} {b2 b3 : Nat} {n : Nat}
theorem zCg {d : Dcl} {vh vs vr : Value} {e : Int} (he : e = 160 ∨ e = 161) (hno : ¬ zFC d) (h2 : lk l 2 = ptr' b2) (h3 : lk l 3 = ptr' b3) (hk : SelL [pt b2 (.cells zE7), pt b3 (.cells [.int .i64 0])] kl klr) :
 R (fun h => zIT Tryz.prog zI1 (zHo B w0 (fun y => .ok (rsV d vh vs vr y)) (fun _ => []) (rsF d) (RsP d)) (.panic (zJu e)) (act n l [{ target := .fn (.func 218) ⟨[ptr' b2, ptr' b3]⟩, args := ⟨[]⟩ }] none none) h) B w0 kl F := by
 refine zEy (m := .panicking (zJu e)) ?_
 refine zKj (klr := klr) (kl2 := fun _ => [pt b2 (.cells zE7), pt b3 (.cells [.int .i64 e])] ++ klr) (F2 := fun _ => F) (zL6 (b2 := b2) (b3 := b3) he) (fun y v _ _ => ?_) (fun y ch _ hc => by cases hc) (hk := hk) (hF := .nil) (hk2 := fun _ => AppR.app) (hF2 := fun _ => AppR.nil)
 show RL _ _ _ _ .returning _ _ _ _ _
 refine zOq (klr := [pt b2 (.cells zE7), pt b3 (.cells [.int .i64 e])] ++ klr) (vs := [.agg ⟨zE7⟩, .int .i64 e]) ⟨false, e, .nilFunc, .nilFunc⟩ rfl ⟨(fun h => by cases h), fun _ => ⟨by rcases he with rfl | rfl <;> simp, hno⟩⟩ (hr := ?_) (hk := .nil) (hF := .nil)
 show RS l _ [.cellN 10 2, .cell1 3] _
 exact .cellN h2 .here rfl (.cell1 h3 (.there .here) rfl .nil)
end
section
variable {B : List Nat} {w0 : Wd} {kl klr : List OA} {F : List zK} {l : List (Nat × Value)} {b2 b3 : Nat} {n : Nat}
theorem zOe {d : Dcl} {vh vs vr : Value} {o : Out} {cs : List Value} {e : Int} (y : RsY) (ho : zBz o = some .returning) (hcs : cs = cond y.ok (zFT (Kd.rslv d) vh vs vr y.vc y.vu) zE7) (hl : cs.length = 10) (hy : y.e = e) (hp : RsP d y) (hF : ∀ w, (∀ f ∈ F, f.p w) → ∀ f ∈ rsF d y, f.p w) (h2 : lk l 2 = ptr' b2) (h3 : lk l 3 = ptr' b3) (hk : SelL [pt b2 (.cells cs), pt b3 (.cells [.int .i64 e])] kl klr) :
 R (fun h => zIT Tryz.prog zI1 (zHo B w0 (fun y => .ok (rsV d vh vs vr y)) (fun _ => []) (rsF d) (RsP d)) o (act n l [{ target := .fn (.func 218) ⟨[ptr' b2, ptr' b3]⟩, args := ⟨[]⟩ }] none none) h) B w0 kl F := by
 refine zEy (m := .returning) ?_ ho
 refine zKj (k1 := []) (klr := kl) (kl2 := fun _ => kl) (F2 := fun _ => F) (zMP (b2 := b2) (b3 := b3)) (fun _ v _ _ => ?_) (fun _ ch _ hc => by cases hc) (hk := .nil) (hF := .nil) (hk2 := fun _ => AppR.nil) (hF2 := fun _ => AppR.nil)
 show RL _ _ _ _ .returning _ _ _ _ _
 intro w s
 have s' : St B w0 ([pt b2 (.cells cs), pt b3 (.cells [.int .i64 e])] ++ klr) (rsF d y) w := by
  have := s.selL hk
  exact ⟨this.agree, this.le, this.zold, this.own, hF w this.facts⟩
 refine zOq (F := rsF d y) (klr := [pt b2 (.cells cs), pt b3 (.cells [.int .i64 e])] ++ klr) (vs := [.agg ⟨cs⟩, .int .i64 e]) y ?_ hp (hr := ?_) (hk := .nil) (hF := ?_) w s'
 · show Ret.ok (rsV d vh vs vr y) = _
   unfold rsV
   rw [← hcs, hy]; rfl
 · show RS l _ [.cellN 10 2, .cell1 3] _
   exact .cellN h2 .here (by rw [zx, zy, List.drop_zero, if_pos (by omega), ← hl, List.take_length]) (.cell1 h3 (.there .here) rfl .nil)
 · have : ∀ k : List zK, Sub k k := fun k => by
    have := Sub.refl' k []
    simpa using this
   exact this _
end
theorem zB4 {X : List (Rul × zk.Y)} {k : Nat} (hk : k < X.length) {q q' : Rul × zk.Y} {j : Nat} {v : Value} (h : (zk.pat q.1 q.2).set j v = zk.pat q'.1 q'.2) (hj : j < 12) : (zU zk (X.set k q)).set (0 + k * 12 + j) v = zU zk (X.set k q') := by
 rw [Nat.zero_add]
 have := zEw (E := zk) (xys := X.set k q) (k := k) (p := q) (p' := q') (by rw [List.getElem?_set, if_pos rfl, if_pos hk]) h hj
 rw [List.set_set] at this; exact this
theorem flat_at {X : List (Rul × zk.Y)} {k : Nat} (hk : k < X.length) {q : Rul × zk.Y} {j : Nat} {u : Value} (h : (zk.pat q.1 q.2)[j]? = some u) : (zU zk (X.set k q))[0 + k * 12 + j]? = some u := by
 rw [Nat.zero_add]
 exact zAj (E := zk) (xys := X.set k q) (k := k) (by rw [List.getElem?_set, if_pos rfl, if_pos hk]) h
theorem zDL {X : List (Rul × zk.Y)} {k : Nat} (hk : k < X.length) {q : Rul × zk.Y} {j : Nat} (hj : j < 12) : 0 + k * 12 + j < (zU zk (X.set k q)).length := by
 rw [zAi, List.length_set]
 show 0 + k * 12 + j < X.length * 12
 omega
theorem zMI {d : Dcl} {vh vs vr vc vu : Value} (hS : zIj d) : FnC Tryz.prog (.func 182) [.agg ⟨zFT d vh vs vr vc vu⟩] [] [] (zJt d vh vs vr vc vu) (rsV d vh vs vr) (fun _ => []) (rsF d) (RsP d) := by
 refine FnR.toC _ ?_ (fun _ _ => rfl)
 have hsl := hS.syms
 have hrl := hS.regs
 have hcl := hS.clus
 have hul := hS.ruls
 refine zDd zI1 f_rslv fun B w0 => ?_
 refine go ?_
 intro b1 b2 b3
 refine go ?_
 refine zP3 ?_
 refine go ?_
 refine if_d rfl (fun h1 => ?_) (fun h1 => ?_)
 · refine go ?_
   exact zOe (e := 2) (cs := zE7) ⟨false, 2, .nilFunc, .nilFunc⟩ rfl rfl rfl rfl ⟨(fun h => by cases h), fun _ => ⟨by simp, fun h => by have := h.syms; omega⟩⟩ (fun w _ f hf => by cases hf) rfl rfl (by repeat (first | exact SelL.nil | (apply SelL.cons; (focus (repeat (first | exact Sel.here | apply Sel.there))))))
 have hsy : (zBg d).length ≤ 16 := by show (d.symbols.map (·.name)).length ≤ 16; rw [List.length_map]; omega
 refine go ?_
 refine zBv zB3 (fun bs => ?_)
 refine go ?_
 refine zA2 (zLE (b := bs) (start := 0) (kvs := []) hsl (by omega) List.nodup_nil) (fun y v hy e => ?_) (fun y ch hy e => ?_)
 rotate_left
 · obtain ⟨y, ns⟩ := y
   cases y with
   | true => cases e
   | false =>
     injection e with e
     subst e
     refine go ?_
     exact zCg (e := 161) (.inr rfl) (fun h => hy.2 rfl (by simpa [zBg] using h.symNd)) rfl rfl (by repeat (first | exact SelL.nil | (apply SelL.cons; (focus (repeat (first | exact Sel.here | apply Sel.there))))))
 obtain ⟨y, ns⟩ := y
 cases y with
 | false => cases e
 | true =>
 injection e with e
 subst e
 have hns : ns = zBg d := (hy.1 rfl).1
 have hsn : (zBg d).Nodup := by have := (hy.1 rfl).2; simpa [zBg] using this
 clear hy
 subst hns
 dsimp only
 rw [show ([] : List (ByteArray × Value)) ++ zAd _ 0 = zAd _ 0 from rfl]
 refine zO (zDD (b := bs)) (h := ?_)
 refine go ?_
 intro b4
 refine go ?_
 refine zBv zB3 (fun bf => ?_)
 refine zA zNI (next := fun vg _ => ?_)
 refine zA2 (zJ2 (b := bf) (xs := zEe) (start := 0) (kvs := []) (by decide) (by omega) List.nodup_nil) (fun y v hy e => ?_) (fun y ch hy e => ?_)
 rotate_left
 · obtain ⟨y, ns⟩ := y
   cases y with
   | true => cases e
   | false => exact absurd (by decide) (hy.2 rfl)
 obtain ⟨y, ns⟩ := y
 cases y with
 | false => cases e
 | true =>
 injection e with e
 subst e
 have hns : ns = zEe := (hy.1 rfl).1
 clear hy
 subst hns
 dsimp only
 rw [show ([] : List (ByteArray × Value)) ++ zAd _ 0 = zAd _ 0 from rfl]
 refine zA2 (zLr (b := bf) (start := 8) (kvs := zAd zEe 0) hrl (by omega) (by rw [zAJ]; decide)) (fun y v hy e => ?_) (fun y ch hy e => ?_)
 rotate_left
 · obtain ⟨y, ns⟩ := y
   cases y with
   | true => cases e
   | false =>
     injection e with e
     subst e
     refine go ?_
     exact zCg (e := 161) (.inr rfl) (fun h => hy.2 rfl (by rw [zAJ]; exact h.famNd)) rfl rfl (by repeat (first | exact SelL.nil | (apply SelL.cons; (focus (repeat (first | exact Sel.here | apply Sel.there))))))
 obtain ⟨y, ns⟩ := y
 cases y with
 | false => cases e
 | true =>
 injection e with e
 subst e
 have hns : ns = d.regions.map Reg.name := (hy.1 rfl).1
 have hfn : (zBC d).Nodup := by have := (hy.1 rfl).2; rw [zAJ] at this; exact this
 clear hy
 subst hns
 dsimp only
 have hfe : zAd zEe 0 ++ zAd (d.regions.map Reg.name) 8 = zAd (zBC d) 0 := by
  unfold zBC
  rw [zCV]; rfl
 rw [hfe]
 clear hfe
 refine zO (zDD (b := bf)) (h := ?_)
 refine go ?_
 refine zBv zB3 (fun bc => ?_)
 refine go ?_
 refine zA2 (zMO (b := bc) (start := 0) (kvs := []) hcl (by omega) List.nodup_nil) (fun y v hy e => ?_) (fun y ch hy e => ?_)
 rotate_left
 · obtain ⟨y, ns⟩ := y
   cases y with
   | true => cases e
   | false =>
     injection e with e
     subst e
     refine go ?_
     exact zCg (e := 161) (.inr rfl) (fun h => hy.2 rfl (by simpa [zDz] using h.cluNd)) rfl rfl (by repeat (first | exact SelL.nil | (apply SelL.cons; (focus (repeat (first | exact Sel.here | apply Sel.there))))))
 obtain ⟨y, ns⟩ := y
 cases y with
 | false => cases e
 | true =>
 injection e with e
 subst e
 have hns : ns = zDz d := (hy.1 rfl).1
 have hcn : (zDz d).Nodup := by have := (hy.1 rfl).2; simpa [zDz] using this
 clear hy
 subst hns
 dsimp only
 rw [show ([] : List (ByteArray × Value)) ++ zAd _ 0 = zAd _ 0 from rfl]
 refine zO (zDD (b := bc)) (h := ?_)
 refine go ?_
 refine zEW zAK vc (fun xc hxc => ?_)
 have hxl : xc.length = d.clues.length := by rw [← hxc, List.length_map]
 refine zA (zKv (xys := xc) (by omega)) (next := fun v1 _ => ?_)
 refine zIc (E := zAK) (v := v1) (xys := xc) (fun a1 e1 => ?_)
 subst e1
 refine go ?_
 let f1 : Clu × zAK.Y → Clu × zAK.Y := fun p => (zQV (zBC d) p.1, p.2)
 rw [show ar zAK (.slice a1 xc.length xc.length) xc = ar zAK (.slice a1 xc.length xc.length) (zX f1 0 xc) from rfl]
 refine zH (fun k => xc.length - k) (fun k : Nat => [(38, .int .i64 (k : Int))]) (fun k => [ar zAK (.slice a1 xc.length xc.length) (zX f1 k xc)]) (fun _ => []) (fun k => k ≤ xc.length ∧ ∀ p ∈ xc.take k, p.1.on ∈ zBC d) 0 ⟨Nat.zero_le _, by simp⟩ (body := ?_)
 rintro k ⟨hk, hall⟩
 refine go ?_
 refine if_d rfl (fun h2 => ?_) (fun h2 => ?_)
 · refine go ?_
   refine zIf (E := zAK) (xys := zX f1 k xc) (by rw [z6]; omega) (fun bx fx hfx ev => ?_)
   injection ev with ea _ _
   subst ea
   refine go ?_
   obtain ⟨p, hp⟩ : ∃ p, xc[k]? = some p := ⟨xc[k]'(by omega), List.getElem?_eq_getElem _⟩
   have hget : (zX f1 k xc)[k]? = some p := by rw [zEc _ (by omega)]; exact hp
   have hpd : p.1 ∈ d.clues := by rw [← hxc]; exact List.mem_map_of_mem (List.mem_of_getElem? hp)
   refine zDq (o := 0 + k * 6 + 1) (cs := zU zAK (zX f1 k xc)) (.string p.1.on) (by rw [Nat.zero_add]; exact zAj (E := zAK) (j := 1) hget rfl) ?_
   refine zA2 (zF6 (b := bf) (s := p.1.on) (kvs := zAd (zBC d) 0)) (fun y v hy e => ?_) (fun y ch hy e => ?_)
   rotate_left
   · have hm : p.1.on ∉ zBC d := by
      intro h
      rw [zAu h] at hy
      subst hy; cases e
     rw [zAA (by rw [zAJ]; exact hm)] at hy
     subst hy
     injection e with e
     subst e
     refine go ?_
     exact zCg (e := 160) (.inl rfl) (fun h => hm (h.cluOn p.1 hpd)) rfl rfl (by repeat (first | exact SelL.nil | (apply SelL.cons; (focus (repeat (first | exact Sel.here | apply Sel.there))))))
   have hm : p.1.on ∈ zBC d := by
    by_cases h : p.1.on ∈ zBC d
    · exact h
    · rw [zAA (by rw [zAJ]; exact h)] at hy
      subst hy; cases e
   rw [zAu hm] at hy
   subst hy
   injection e with e
   subst e
   rw [Nat.zero_add]
   refine go ?_
   refine zDI (o := 0 + k * 6 + 2) (cs := zU zAK (zX f1 k xc)) (cs' := zU zAK (zX f1 (k + 1) xc)) (v := .int .i64 ((posn p.1.on (zBC d) : Nat) : Int)) (by rw [Nat.zero_add, ← zEi f1 hp]; exact zEw (E := zAK) (j := 2) (p' := f1 p) hget rfl (by decide)) (by rw [zAi, z6]; show 0 + k * 6 + 2 < xc.length * 6; omega) ?_
   refine go ?_
   refine z8 (b := bx) (f := fx) (m := xc.length) zAK (xys := zX f1 (k + 1) xc) (by rw [z6]) hfx ?_
   refine zC (k + 1) (by omega) ⟨by omega, fun q hq => ?_⟩
   rw [List.take_add_one, hp] at hq
   rcases List.mem_append.1 hq with h | h
   · exact hall q h
   · have : q = p := by simpa using h
     rw [this]; exact hm
 have hkl : k = xc.length := by omega
 subst hkl
 rw [List.take_length] at hall
 have hcon : ∀ c ∈ d.clues, c.on ∈ zBC d := by
  intro c hc
  rw [← hxc] at hc
  obtain ⟨p, hp, rfl⟩ := List.mem_map.1 hc
  exact hall p hp
 clear hall hk
 rw [zEU]
 refine go ?_
 refine zBv zB3 (fun bu => ?_)
 refine go ?_
 refine zA2 (zLu (b := bu) (start := 0) (kvs := []) hul (by omega) List.nodup_nil) (fun y v hy e => ?_) (fun y ch hy e => ?_)
 rotate_left
 · obtain ⟨y, ns⟩ := y
   cases y with
   | true => cases e
   | false =>
     injection e with e
     subst e
     refine go ?_
     exact zCg (e := 161) (.inr rfl) (fun h => hy.2 rfl (by simpa [zRr] using h.rulNd)) rfl rfl (by repeat (first | exact SelL.nil | (apply SelL.cons; (focus (repeat (first | exact Sel.here | apply Sel.there))))))
 obtain ⟨y, ns⟩ := y
 cases y with
 | false => cases e
 | true =>
 injection e with e
 subst e
 have hrn : (zRr d).Nodup := by have := (hy.1 rfl).2; simpa [zRr] using this
 clear hy
 dsimp only
 refine zO (zDD (b := bu)) (h := ?_)
 refine go ?_
 refine zEW zk vu (fun xr hxr => ?_)
 have hxl2 : xr.length = d.rules.length := by rw [← hxr, List.length_map]
 refine zA (zMM (xys := xr) (by omega)) (next := fun v2 _ => ?_)
 refine zIc (E := zk) (v := v2) (xys := xr) (fun a2 e2 => ?_)
 subst e2
 refine go ?_
 refine zO (zS (b := b4)) (h := ?_)
 refine go ?_
 let f2 : Rul × zk.Y → Rul × zk.Y := fun p => (zKs (zBg d) (zBC d) (zDz d) p.1, p.2)
 rw [show ar zk (.slice a2 xr.length xr.length) xr = ar zk (.slice a2 xr.length xr.length) (zX f2 0 xr) from rfl]
 refine zPs (E := zk) (v := vu) (xys := xr) ?_
 refine zH (fun k => xr.length - k) (fun k : Nat => [(67, .int .i64 (k : Int))]) (fun k => [ar zk (.slice a2 xr.length xr.length) (zX f2 k xr)]) (fun _ => []) (fun k => k ≤ xr.length ∧ ∀ p ∈ xr.take k, zPi (zBg d) (zBC d) (zDz d) p.1) 0 ⟨Nat.zero_le _, by simp⟩ (body := ?_)
 rintro k ⟨hk, hall⟩
 refine go ?_
 refine if_d rfl (fun h2 => ?_) (fun h2 => ?_)
 · refine go ?_
   refine zIf (E := zk) (xys := zX f2 k xr) (by rw [z6]; omega) (fun by_ fy hfy ev => ?_)
   injection ev with ea _ _
   subst ea
   obtain ⟨p, hp⟩ : ∃ p, xr[k]? = some p := ⟨xr[k]'(by omega), List.getElem?_eq_getElem _⟩
   have hpm := List.mem_of_getElem? hp
   have hget : (zX f2 k xr)[k]? = some p := by rw [zEc _ (by omega)]; exact hp
   have hpd : p.1 ∈ d.rules := by rw [← hxr]; exact List.mem_map_of_mem hpm
   have hfin := zEi f2 hp
   obtain ⟨r, v3, v4⟩ := p
   have hrs := hS.rnames r hpd
   have hXl : k < (zX f2 k xr).length := by rw [z6]; omega
   have hXl2 : (zX f2 k xr).length = xr.length := z6 _ _ _
   have e0 : zX f2 k xr = (zX f2 k xr).set k (r, v3, v4) := by
    apply List.ext_getElem?
    intro i
    rw [List.getElem?_set]
    by_cases hi : k = i
    · subst hi; rw [if_pos rfl, if_pos hXl, hget]
    · rw [if_neg hi]
   refine zg (fSl zCT v3 r.names) (fun w h => h (fAll zk xr) (List.mem_cons_self ..) _ hpm _ (List.mem_cons_self ..)) ?_
   refine zg (fSl zCT v4 r.others) (fun w h => h (fAll zk xr) (List.mem_cons_of_mem _ (List.mem_cons_self ..)) _ hpm _ (List.mem_cons_of_mem _ (List.mem_cons_self ..))) ?_
   rw [e0]
   rw [← e0]
   generalize hX : zX f2 k xr = X at hXl hXl2 e0 hfin
   rw [e0]
   refine go ?_
   refine zDI (o := 0 + k * 12 + 3) (cs := zU zk (X.set k (r, v3, v4))) (cs' := zU zk (X.set k ({ r with family := 0 }, v3, v4))) (v := .int .i64 0) (zB4 hXl rfl (by omega)) (zDL hXl (by omega)) ?_
   refine go ?_
   refine zDI (o := 0 + k * 12 + 11) (cs := zU zk (X.set k ({ r with family := 0 }, v3, v4))) (cs' := zU zk (X.set k ({ r with family := 0, clue := -1 }, v3, v4))) (v := .int .i64 (-1)) (zB4 hXl rfl (by omega)) (zDL hXl (by omega)) ?_
   refine go ?_
   refine zDq (o := 0 + k * 12 + 1) (cs := zU zk (X.set k ({ r with family := 0, clue := -1 }, v3, v4))) (.string r.on) (flat_at hXl rfl) ?_
   refine go ?_
   refine zLG (klr := [pt b1 (.cells [.string d.name, .int .i64 d.version, .int .i64 d.shape, .int .i64 d.w, .int .i64 d.h, vh, vs, vr, .slice a1 xc.length xc.length, .slice (some ⟨by_, 0, some fy⟩) xr.length xr.length]), ar zAK (.slice a1 xc.length xc.length) (xc.map f1), pt b3 (.cells [.int .i64 0]), pt b2 (.cells zE7)]) [] (fun _ : Unit => []) (fun _ => [pt by_ (.cells (zU zk (X.set k ({ r with family := if r.on = ⟨⟨[]⟩⟩ then 0 else (posn r.on (zBC d) : Int), clue := -1 }, v3, v4))))]) (fun _ => []) (fun _ => r.on = ⟨⟨[]⟩⟩ ∨ r.on ∈ zBC d) (hx := ?_) (hy := ?_)
   · refine zIr (p := r.on = ⟨⟨[]⟩⟩) (by show Value.bool _ = _; rw [zAR]) (fun h3 => ?_) (fun h3 => ?_)
     · refine go ?_
       refine zDq (o := 0 + k * 12 + 1) (cs := zU zk (X.set k ({ r with family := 0, clue := -1 }, v3, v4))) (.string r.on) (flat_at hXl rfl) ?_
       refine zA2 (zF6 (b := bf) (s := r.on) (kvs := zAd (zBC d) 0)) (fun y v hy e => ?_) (fun y ch hy e => ?_)
       rotate_left
       · have hm : r.on ∉ zBC d := by
          intro h
          rw [zAu h] at hy
          subst hy; cases e
         rw [zAA (by rw [zAJ]; exact hm)] at hy
         subst hy
         injection e with e
         subst e
         refine go ?_
         refine zTS ?_
         refine go ?_
         exact zCg (e := 160) (.inl rfl) (fun h => (h.rul r hpd).on.elim h3 hm) rfl rfl (by repeat (first | exact SelL.nil | (apply SelL.cons; (focus (repeat (first | exact Sel.here | apply Sel.there))))))
       have hm : r.on ∈ zBC d := by
        by_cases h : r.on ∈ zBC d
        · exact h
        · rw [zAA (by rw [zAJ]; exact h)] at hy
          subst hy; cases e
       rw [zAu hm] at hy
       subst hy
       injection e with e
       subst e
       rw [Nat.zero_add]
       refine go ?_
       refine zDI (o := 0 + k * 12 + 3) (cs := zU zk (X.set k ({ r with family := 0, clue := -1 }, v3, v4))) (cs' := zU zk (X.set k ({ r with family := if r.on = ⟨⟨[]⟩⟩ then 0 else (posn r.on (zBC d) : Int), clue := -1 }, v3, v4))) (v := .int .i64 ((posn r.on (zBC d) : Nat) : Int)) (by rw [if_neg h3]; exact zB4 hXl rfl (by omega)) (zDL hXl (by omega)) ?_
       refine go ?_
       exact zI4 () (.inr hm)
     · refine go ?_
       rw [show ({ r with family := 0, clue := -1 } : Rul) = { r with family := if r.on = ⟨⟨[]⟩⟩ then 0 else (posn r.on (zBC d) : Int), clue := -1 } by rw [if_pos h3]]
       exact zI4 () (.inl h3)
   intro _ hon
   generalize hfm : (if r.on = ⟨⟨[]⟩⟩ then 0 else (posn r.on (zBC d) : Int)) = fm
   refine go ?_
   refine zDq (o := 0 + k * 12 + 4) (cs := zU zk (X.set k ({ r with family := fm, clue := -1 }, v3, v4))) v3 (flat_at hXl rfl) ?_
   refine go ?_
   refine zDq (o := 0 + k * 12 + 5) (cs := zU zk (X.set k ({ r with family := fm, clue := -1 }, v3, v4))) v4 (flat_at hXl rfl) ?_
   refine go ?_
   refine zA2 (zKh (b4 := b4) (bs := bs) (vl := v3) (syms := zBg d) (l := r.names) hsy hrs.1) (fun y v hy e => ?_) (fun y ch hy e => ?_)
    (hs := fun y v _ _ => same_load (b := by_) (o := 0 + k * 12 + 5) (cs := zU zk (X.set k ({ r with family := fm, clue := -1 }, v3, v4))) (v := v4) rfl (by repeat (first | exact Sel.here | apply Sel.there)) (by rw [lget_eq]; exact flat_at hXl rfl) rfl same_nil)
   rotate_left
   · cases y with
     | true => cases e
     | false =>
       injection e with e
       subst e
       refine go ?_
       exact zCg (e := 160) (.inl rfl) (fun h => hy.2 rfl (h.rul r hpd).names) rfl rfl (by repeat (first | exact SelL.nil | (apply SelL.cons; (focus (repeat (first | exact Sel.here | apply Sel.there))))))
   cases y with
   | false => cases e
   | true =>
   injection e with e
   subst e
   have hm_names := hy.1 rfl
   clear hy
   refine go ?_
   refine go ?_
   refine zA2 (zKh (b4 := b4) (bs := bs) (vl := v4) (syms := zBg d) (l := r.others) hsy hrs.2) (fun y v hy e => ?_) (fun y ch hy e => ?_)
   rotate_left
   · cases y with
     | true => cases e
     | false =>
       injection e with e
       subst e
       refine go ?_
       exact zCg (e := 160) (.inl rfl) (fun h => hy.2 rfl (h.rul r hpd).others) rfl rfl (by repeat (first | exact SelL.nil | (apply SelL.cons; (focus (repeat (first | exact Sel.here | apply Sel.there))))))
   cases y with
   | false => cases e
   | true =>
   injection e with e
   subst e
   have hm_others := hy.1 rfl
   clear hy
   refine go ?_
   refine zDI (o := 0 + k * 12 + 6) (cs := zU zk (X.set k ({ r with family := fm, clue := -1 }, v3, v4))) (cs' := zU zk (X.set k ({ r with family := fm, clue := -1, set := (setN (zBg d) r.names : Int) }, v3, v4))) (v := .int .i64 (setN (zBg d) r.names : Int)) (zB4 hXl rfl (by omega)) (zDL hXl (by omega)) ?_
   refine go ?_
   refine zDI (o := 0 + k * 12 + 7) (cs := zU zk (X.set k ({ r with family := fm, clue := -1, set := (setN (zBg d) r.names : Int) }, v3, v4))) (cs' := zU zk (X.set k ({ r with family := fm, clue := -1, set := (setN (zBg d) r.names : Int), other := (setN (zBg d) r.others : Int) }, v3, v4))) (v := .int .i64 (setN (zBg d) r.others : Int)) (zB4 hXl rfl (by omega)) (zDL hXl (by omega)) ?_
   refine go ?_
   refine zDq (o := 0 + k * 12 + 10) (cs := zU zk (X.set k ({ r with family := fm, clue := -1, set := (setN (zBg d) r.names : Int), other := (setN (zBg d) r.others : Int) }, v3, v4))) (.string r.by_) (flat_at hXl rfl) ?_
   refine go ?_
   have hnext : (r.by_ = ⟨⟨[]⟩⟩ ∨ r.by_ ∈ zDz d) → ∀ q ∈ xr.take (k + 1), zPi (zBg d) (zBC d) (zDz d) q.1 := by
    intro hby q hq
    rw [List.take_add_one, hp] at hq
    rcases List.mem_append.1 hq with h | h
    · exact hall q h
    · have : q = (r, v3, v4) := List.mem_singleton.1 (show q ∈ [(r, v3, v4)] from h)
      rw [this]; exact ⟨hon, hm_names, hm_others, hby⟩
   refine zIr (p := r.by_ = ⟨⟨[]⟩⟩) (by show Value.bool _ = _; rw [zAR]) (fun h3 => ?_) (fun h3 => ?_)
   · refine go ?_
     refine zDq (o := 0 + k * 12 + 10) (cs := zU zk (X.set k ({ r with family := fm, clue := -1, set := (setN (zBg d) r.names : Int), other := (setN (zBg d) r.others : Int) }, v3, v4))) (.string r.by_) (flat_at hXl rfl) ?_
     refine zA2 (zF6 (b := bc) (s := r.by_) (kvs := zAd (zDz d) 0)) (fun y v hy e => ?_) (fun y ch hy e => ?_)
     rotate_left
     · have hm : r.by_ ∉ zDz d := by
        intro h
        rw [zAu h] at hy
        subst hy; cases e
       rw [zAA (by rw [zAJ]; exact hm)] at hy
       subst hy
       injection e with e
       subst e
       refine go ?_
       exact zCg (e := 160) (.inl rfl) (fun h => (h.rul r hpd).by_.elim h3 hm) rfl rfl (by repeat (first | exact SelL.nil | (apply SelL.cons; (focus (repeat (first | exact Sel.here | apply Sel.there))))))
     have hm : r.by_ ∈ zDz d := by
      by_cases h : r.by_ ∈ zDz d
      · exact h
      · rw [zAA (by rw [zAJ]; exact h)] at hy
        subst hy; cases e
     rw [zAu hm] at hy
     subst hy
     injection e with e
     subst e
     rw [Nat.zero_add]
     refine go ?_
     refine zDI (o := 0 + k * 12 + 11) (cs := zU zk (X.set k ({ r with family := fm, clue := -1, set := (setN (zBg d) r.names : Int), other := (setN (zBg d) r.others : Int) }, v3, v4))) (cs' := zU zk (X.set k (f2 (r, v3, v4)))) (v := .int .i64 ((posn r.by_ (zDz d) : Nat) : Int)) (zB4 hXl (by show _ = zDh (zKs (zBg d) (zBC d) (zDz d) r) v3 v4; unfold zKs; rw [if_neg h3, hfm]; rfl) (by omega)) (zDL hXl (by omega)) ?_
     refine go ?_
     rw [hfin]
     refine z8 (b := by_) (f := fy) (m := xr.length) zk (xys := zX f2 (k + 1) xr) (by rw [z6]) hfy ?_
     exact zC (k + 1) (by omega) ⟨by omega, hnext (.inr hm)⟩
   · refine go ?_
     rw [show X.set k (({ r with family := fm, clue := -1, set := (setN (zBg d) r.names : Int), other := (setN (zBg d) r.others : Int) } : Rul), v3, v4) = zX f2 (k + 1) xr by
      rw [← hfin]
      congr 1
      show _ = (zKs (zBg d) (zBC d) (zDz d) r, v3, v4)
      unfold zKs
      rw [if_pos h3, hfm]
      rfl]
     refine z8 (b := by_) (f := fy) (m := xr.length) zk (xys := zX f2 (k + 1) xr) (by rw [z6]) hfy ?_
     exact zC (k + 1) (by omega) ⟨by omega, hnext (.inl h3)⟩
 have hkl : k = xr.length := by omega
 subst hkl
 rw [List.take_length] at hall
 rw [zEU]
 refine zED (E := zAK) (v := .slice a1 xc.length xc.length) (xys := xc.map f1) ?_ (fun w h p hp f hf => by cases hf)
 refine zED (E := zk) (v := .slice a2 xr.length xr.length) (xys := xr.map f2) ?_ (fun w h p hp f hf => by
  obtain ⟨q, hq, rfl⟩ := List.mem_map.1 hp
  exact h (fAll zk xr) (List.mem_cons_of_mem _ (List.mem_cons_of_mem _ (List.mem_cons_self ..))) q hq f hf)
 refine go ?_
 refine zOe (e := 0) ⟨true, 0, .slice a1 xc.length xc.length, .slice a2 xr.length xr.length⟩ rfl (by rfl) rfl rfl ⟨fun _ => ⟨rfl, ⟨by omega, hsn, hfn, hcn, hcon, hrn, fun r hr => ?_⟩⟩, fun h => by cases h⟩ (fun w h f hf => ?_) rfl rfl (by repeat (first | exact SelL.nil | (apply SelL.cons; (focus (repeat (first | exact Sel.here | apply Sel.there))))))
 · rw [← hxr] at hr
   obtain ⟨p, hp, rfl⟩ := List.mem_map.1 hr
   exact hall p hp
 · have ec : (xc.map f1).map (·.1) = (Kd.rslv d).clues := by
    show _ = d.clues.map (zQV (zBC d))
    rw [← hxc, List.map_map, List.map_map]; rfl
   have er : (xr.map f2).map (·.1) = (Kd.rslv d).rules := by
    show _ = d.rules.map (zKs (zBg d) (zBC d) (zDz d))
    rw [← hxr, List.map_map, List.map_map]; rfl
   rw [ec, er] at h
   have hf : f ∈ [fSl zAK (.slice a1 xc.length xc.length) (Kd.rslv d).clues, fSl zk (.slice a2 xr.length xr.length) (Kd.rslv d).rules] := hf
   rcases List.mem_cons.1 hf with rfl | hf
   · exact h _ (by simp)
   · rw [List.mem_singleton.1 hf]
     exact h _ (by simp)
end Go.Proofs.YtpkieeggilkagaaGreat
