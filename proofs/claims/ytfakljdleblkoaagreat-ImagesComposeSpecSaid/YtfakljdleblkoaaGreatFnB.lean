/-
  Products, and equality of lists.
-/
import Derived.Test.YtfakljdleblkoaaGreatFnA
import Derived.Test.YtfakljdleblkoaaGreatIdealH
set_option linter.unusedSimpArgs false
set_option linter.unusedVariables false
set_option maxHeartbeats 400000
set_option maxRecDepth 20000
namespace Go.Proofs.YtfakljdleblkoaaGreat
open Go.Ideal

noncomputable def c61 : CFunc := ⟨27, [(.tmp 4)], (.seq (.ops [4] [⟨⟨(some 4), none, (.asg (.const (.slice none 0 0)))⟩, []⟩]) (.seq (.ops [8, 9, 10, 5] [⟨⟨(some 8), none, (.mv (.tmp 1))⟩, []⟩, ⟨⟨(some 9), none, (.lenSl (.tmp 8))⟩, []⟩, ⟨⟨(some 10), none, (.mkslice 3 1 8 [(.int .i64 0)] (.tmp 9) (.tmp 9))⟩, []⟩, ⟨⟨(some 5), none, (.asg (.tmp 10))⟩, []⟩]) (.seq (.seq (.ops [11, 12, 13] [⟨⟨(some 11), none, (.mv (.tmp 1))⟩, []⟩, ⟨⟨(some 12), none, (.lenSl (.tmp 11))⟩, []⟩, ⟨⟨(some 13), none, (.mv (.const (.int .i64 0)))⟩, []⟩]) (.block 0 (.loop (.seq (.ops [14] [⟨⟨(some 14), none, (.bin .lss 3 (.tmp 13) (.tmp 12))⟩, []⟩]) (.seq (.cond (.tmp 14) .skip (.exit 0)) (.seq (.block 1 (.seq (.ops [15, 16, 17, 6, 7] [⟨⟨(some 15), none, (.mv (.tmp 13))⟩, []⟩, ⟨⟨(some 16), none, (.idxSl 1 (.tmp 11) (.tmp 13))⟩, []⟩, ⟨⟨(some 17), none, (.load1 (.tmp 16))⟩, []⟩, ⟨⟨(some 6), none, (.asg (.tmp 15))⟩, []⟩, ⟨⟨(some 7), none, (.asg (.tmp 17))⟩, []⟩]) (.ops [18, 19, 20, 21, 22, 23, 24] [⟨⟨(some 18), none, (.mv (.tmp 5))⟩, []⟩, ⟨⟨(some 19), none, (.mv (.tmp 6))⟩, []⟩, ⟨⟨(some 20), none, (.mv (.tmp 0))⟩, []⟩, ⟨⟨(some 21), none, (.mv (.tmp 7))⟩, []⟩, ⟨⟨(some 22), none, (.idxSl 1 (.tmp 20) (.tmp 21))⟩, []⟩, ⟨⟨(some 23), none, (.load1 (.tmp 22))⟩, []⟩, ⟨⟨(some 24), none, (.idxSl 1 (.tmp 18) (.tmp 19))⟩, []⟩, ⟨⟨none, none, (.store 1 (.tmp 24) (.tmp 23))⟩, []⟩]))) (.ops [25, 13] [⟨⟨(some 25), none, (.bin .add 3 (.tmp 13) (.const (.int .i64 1)))⟩, []⟩, ⟨⟨(some 13), none, (.mv (.tmp 25))⟩, []⟩]))))))) (.seq (.ops [26, 4] [⟨⟨(some 26), none, (.mv (.tmp 5))⟩, []⟩, ⟨⟨(some 4), none, (.asg (.tmp 26))⟩, []⟩]) .ret))))⟩
theorem f61 : (envOf Tryz.prog noCut noMemo).F 61 = some c61 := by kernel_rfl
noncomputable def c63 : CFunc := ⟨25, [(.tmp 4)], (.seq (.ops [4] [⟨⟨(some 4), none, (.asg (.const (.slice none 0 0)))⟩, []⟩]) (.seq (.ops [7, 5] [⟨⟨(some 7), none, (.bslice 3 0 [] [])⟩, []⟩, ⟨⟨(some 5), none, (.asg (.tmp 7))⟩, []⟩]) (.seq (.seq (.ops [6] [⟨⟨(some 6), none, (.asg (.const (.int .i64 0)))⟩, []⟩]) (.block 0 (.loop (.seq (.seq (.ops [8, 9, 10, 11] [⟨⟨(some 8), none, (.mv (.tmp 6))⟩, []⟩, ⟨⟨(some 9), none, (.mv (.tmp 1))⟩, []⟩, ⟨⟨(some 10), none, (.lenSl (.tmp 9))⟩, []⟩, ⟨⟨(some 11), none, (.bin .lss 3 (.tmp 8) (.tmp 10))⟩, []⟩]) (.cond (.tmp 11) .skip (.exit 0))) (.seq (.block 1 (.ops [14, 15, 16, 17, 18, 19, 20, 21, 22, 23, 5] [⟨⟨(some 14), none, (.mv (.tmp 5))⟩, []⟩, ⟨⟨(some 15), none, (.mv (.tmp 0))⟩, []⟩, ⟨⟨(some 16), none, (.mv (.tmp 1))⟩, []⟩, ⟨⟨(some 17), none, (.mv (.tmp 6))⟩, []⟩, ⟨⟨(some 18), none, (.idxSl 1 (.tmp 16) (.tmp 17))⟩, []⟩, ⟨⟨(some 19), none, (.load1 (.tmp 18))⟩, []⟩, ⟨⟨(some 20), none, (.idxSl 1 (.tmp 15) (.tmp 19))⟩, []⟩, ⟨⟨(some 21), none, (.load1 (.tmp 20))⟩, []⟩, ⟨⟨(some 22), none, (.bslice 3 1 [(.int .i64 0)] [⟨0, ⟨1, (.tmp 21)⟩⟩])⟩, []⟩, ⟨⟨(some 23), none, (.append 3 1 8 (.tmp 14) (.tmp 22))⟩, []⟩, ⟨⟨(some 5), none, (.asg (.tmp 23))⟩, []⟩])) (.ops [12, 13, 6] [⟨⟨(some 12), none, (.mv (.tmp 6))⟩, []⟩, ⟨⟨(some 13), none, (.bin .add 3 (.tmp 12) (.const (.int .i64 1)))⟩, []⟩, ⟨⟨(some 6), none, (.asg (.tmp 13))⟩, []⟩])))))) (.seq (.ops [24, 4] [⟨⟨(some 24), none, (.mv (.tmp 5))⟩, []⟩, ⟨⟨(some 4), none, (.asg (.tmp 24))⟩, []⟩]) .ret))))⟩
theorem f63 : (envOf Tryz.prog noCut noMemo).F 63 = some c63 := by kernel_rfl
noncomputable def c25 : CFunc := ⟨26, [(.tmp 4)], (.seq (.ops [4] [⟨⟨(some 4), none, (.asg (.const (.bool false)))⟩, []⟩]) (.seq (.seq (.ops [6, 7, 8, 9, 10] [⟨⟨(some 6), none, (.mv (.tmp 0))⟩, []⟩, ⟨⟨(some 7), none, (.lenSl (.tmp 6))⟩, []⟩, ⟨⟨(some 8), none, (.mv (.tmp 1))⟩, []⟩, ⟨⟨(some 9), none, (.lenSl (.tmp 8))⟩, []⟩, ⟨⟨(some 10), none, (.bin .neq 3 (.tmp 7) (.tmp 9))⟩, []⟩]) (.cond (.tmp 10) (.seq (.ops [4] [⟨⟨(some 4), none, (.asg (.const (.bool false)))⟩, []⟩]) .ret) .skip)) (.seq (.seq (.ops [5] [⟨⟨(some 5), none, (.asg (.const (.int .i64 0)))⟩, []⟩]) (.block 0 (.loop (.seq (.seq (.ops [11, 12, 13, 14] [⟨⟨(some 11), none, (.mv (.tmp 5))⟩, []⟩, ⟨⟨(some 12), none, (.mv (.tmp 0))⟩, []⟩, ⟨⟨(some 13), none, (.lenSl (.tmp 12))⟩, []⟩, ⟨⟨(some 14), none, (.bin .lss 3 (.tmp 11) (.tmp 13))⟩, []⟩]) (.cond (.tmp 14) .skip (.exit 0))) (.seq (.block 1 (.seq (.ops [17, 18, 19, 20, 21, 22, 23, 24, 25] [⟨⟨(some 17), none, (.mv (.tmp 0))⟩, []⟩, ⟨⟨(some 18), none, (.mv (.tmp 5))⟩, []⟩, ⟨⟨(some 19), none, (.idxSl 1 (.tmp 17) (.tmp 18))⟩, []⟩, ⟨⟨(some 20), none, (.load1 (.tmp 19))⟩, []⟩, ⟨⟨(some 21), none, (.mv (.tmp 1))⟩, []⟩, ⟨⟨(some 22), none, (.mv (.tmp 5))⟩, []⟩, ⟨⟨(some 23), none, (.idxSl 1 (.tmp 21) (.tmp 22))⟩, []⟩, ⟨⟨(some 24), none, (.load1 (.tmp 23))⟩, []⟩, ⟨⟨(some 25), none, (.bin .neq 3 (.tmp 20) (.tmp 24))⟩, []⟩]) (.cond (.tmp 25) (.seq (.ops [4] [⟨⟨(some 4), none, (.asg (.const (.bool false)))⟩, []⟩]) .ret) .skip))) (.ops [15, 16, 5] [⟨⟨(some 15), none, (.mv (.tmp 5))⟩, []⟩, ⟨⟨(some 16), none, (.bin .add 3 (.tmp 15) (.const (.int .i64 1)))⟩, []⟩, ⟨⟨(some 5), none, (.asg (.tmp 16))⟩, []⟩])))))) (.seq (.ops [4] [⟨⟨(some 4), none, (.asg (.const (.bool true)))⟩, []⟩]) .ret))))⟩
theorem f25 : (envOf Tryz.prog noCut noMemo).F 25 = some c25 := by kernel_rfl

/-- a value that lies above n, or nowhere -/
def NewV (n : Nat) (v : Value) : Prop := ∀ a m c, v = .slice (some a) m c → n ≤ a.block

theorem NewV.mono {n m : Nat} {v : Value} (h : NewV n v) (hm : m ≤ n) : NewV m v := fun a k c e => Nat.le_trans hm (h a k c e)
theorem new_sl {n i o m c : Nat} {f : Option Nat} (h : n ≤ i) : NewV n (.slice (some ⟨i, o, f⟩) m c) := fun a k d e => by cases e; exact h
theorem new_nil (n : Nat) : NewV n (.slice none 0 0) := fun a k d e => by cases e

theorem ints_turn {h h' : IH} {v : Value} {xs : List Int} {b n : Nat} {o : IObj} (hi : IntsAt h v xs) (hT : Turn h h' b o) (hn : NewV n v) (hb : b < n) : IntsAt h' v xs := by
  rcases hi with h1 | ⟨i, p, f, c, cs, rfl, h2, h3⟩
  · exact .inl h1
  · have := hn _ _ _ rfl
    exact .inr ⟨i, p, f, c, cs, rfl, h2.turn hT (by dsimp only at this; omega), h3⟩

def prodL (xs ys : List Int) : List Int := ys.map fun x => xs.getD x.toNat 0

theorem prodL_get (xs ys : List Int) (k : Nat) : (prodL xs ys)[k]? = (ys[k]?).map fun x => xs.getD x.toNat 0 := by simp [prodL]

/-- the loop of after at element k -/
def afI (va vb : Value) (xs ys : List Int) (h : IH) : Nat → IAct → IH → Prop := fun r a h1 => ∃ k b cs, k + r = ys.length ∧ a = act 27 [(0, va), (5, .slice (some ⟨b, 0, some 0⟩) ys.length ys.length), (11, vb), (12, .int .i64 (ys.length : Int)), (13, .int .i64 (k : Int))] [] none none ∧
  Agree h h1 ∧ At h1 b (.cells cs) ∧ h.next ≤ b ∧ cs.length = ys.length ∧ ∀ (j : Nat) y, j < k → (prodL xs ys)[j]? = some y → cs[j]? = some (.int .i64 y)

theorem after_ok {h : IH} {va vb : Value} {xs ys : List Int} (ha : IntsAt h va xs) (hb : IntsAt h vb ys) (hin : ∀ x ∈ ys, 0 ≤ x ∧ x < (xs.length : Int)) (hbl : ys.length ≤ 1000000) :
    CALL Tryz.prog ⟨.func 61, [va, vb], [], none⟩ h (fun r pm h' => pm = none ∧ (∃ v, r = .ok v ∧ IntsAt h' v (prodL xs ys) ∧ NewV h.next v) ∧ Agree h h') := by
  obtain ⟨a0, c0, rfl⟩ := ha.form
  obtain ⟨b0, d0, rfl⟩ := hb.form
  refine c_fn c61 f61 ?_
  show EV _ _ (act 27 [(1, .slice b0 ys.length d0), (0, .slice a0 xs.length c0)] [] none none) h _
  refine w_seq (.ops ?_)
  repeat (first | refine s_skip rfl rfl ?_ | refine s_mv rfl rfl (by conv => lhs; whnf) ?_ | refine s_asg rfl rfl (by conv => lhs; whnf) ?_ | refine s_len rfl rfl rfl ?_ | refine s_lss rfl rfl rfl rfl ?_ | refine s_leq rfl rfl rfl rfl ?_ | refine s_gtr rfl rfl rfl rfl ?_ | refine s_geq rfl rfl rfl rfl ?_ | refine s_eql rfl rfl rfl rfl ?_ | refine s_neq rfl rfl rfl rfl ?_ | refine s_not rfl rfl rfl ?_ | refine s_pickT rfl rfl rfl (by conv => lhs; whnf) ?_ | refine s_pickF rfl rfl rfl (by conv => lhs; whnf) ?_ | refine s_extract rfl rfl rfl rfl ?_ | refine s_fieldA rfl rfl rfl ?_ | refine s_iface rfl rfl (by conv => lhs; whnf) ?_ | refine s_build rfl rfl rfl ?_)
  refine OPS.nil ?_
  repeat (first | with_reducible refine k_sn ?_ | with_reducible refine k_sr ?_ | with_reducible refine k_se ?_ | with_reducible refine k_bn ?_ | with_reducible refine k_br ?_ | with_reducible refine k_lr ?_ | with_reducible refine k_le ?_ | with_reducible refine k_sp ?_ | with_reducible refine k_bp ?_ | with_reducible refine k_lp ?_ | (with_reducible refine k_be ?_ ?_; exact rfl) | (with_reducible refine k_bf ?_ ?_; exact rfl))
  refine w_seq (.ops ?_)
  repeat (first | refine s_skip rfl rfl ?_ | refine s_mv rfl rfl (by conv => lhs; whnf) ?_ | refine s_asg rfl rfl (by conv => lhs; whnf) ?_ | refine s_len rfl rfl rfl ?_ | refine s_lss rfl rfl rfl rfl ?_ | refine s_leq rfl rfl rfl rfl ?_ | refine s_gtr rfl rfl rfl rfl ?_ | refine s_geq rfl rfl rfl rfl ?_ | refine s_eql rfl rfl rfl rfl ?_ | refine s_neq rfl rfl rfl rfl ?_ | refine s_not rfl rfl rfl ?_ | refine s_pickT rfl rfl rfl (by conv => lhs; whnf) ?_ | refine s_pickF rfl rfl rfl (by conv => lhs; whnf) ?_ | refine s_extract rfl rfl rfl rfl ?_ | refine s_fieldA rfl rfl rfl ?_ | refine s_iface rfl rfl (by conv => lhs; whnf) ?_ | refine s_build rfl rfl rfl ?_)
  refine s_mkslice (m := ys.length) rfl rfl rfl rfl (by omega) ?_
  intro h1 hA1 hb1 hn1
  repeat (first | refine s_skip rfl rfl ?_ | refine s_mv rfl rfl (by conv => lhs; whnf) ?_ | refine s_asg rfl rfl (by conv => lhs; whnf) ?_ | refine s_len rfl rfl rfl ?_ | refine s_lss rfl rfl rfl rfl ?_ | refine s_leq rfl rfl rfl rfl ?_ | refine s_gtr rfl rfl rfl rfl ?_ | refine s_geq rfl rfl rfl rfl ?_ | refine s_eql rfl rfl rfl rfl ?_ | refine s_neq rfl rfl rfl rfl ?_ | refine s_not rfl rfl rfl ?_ | refine s_pickT rfl rfl rfl (by conv => lhs; whnf) ?_ | refine s_pickF rfl rfl rfl (by conv => lhs; whnf) ?_ | refine s_extract rfl rfl rfl rfl ?_ | refine s_fieldA rfl rfl rfl ?_ | refine s_iface rfl rfl (by conv => lhs; whnf) ?_ | refine s_build rfl rfl rfl ?_)
  refine OPS.nil ?_
  repeat (first | with_reducible refine k_sn ?_ | with_reducible refine k_sr ?_ | with_reducible refine k_se ?_ | with_reducible refine k_bn ?_ | with_reducible refine k_br ?_ | with_reducible refine k_lr ?_ | with_reducible refine k_le ?_ | with_reducible refine k_sp ?_ | with_reducible refine k_bp ?_ | with_reducible refine k_lp ?_ | (with_reducible refine k_be ?_ ?_; exact rfl) | (with_reducible refine k_bf ?_ ?_; exact rfl))
  refine w_seq (w_seq (.ops ?_))
  repeat (first | refine s_skip rfl rfl ?_ | refine s_mv rfl rfl (by conv => lhs; whnf) ?_ | refine s_asg rfl rfl (by conv => lhs; whnf) ?_ | refine s_len rfl rfl rfl ?_ | refine s_lss rfl rfl rfl rfl ?_ | refine s_leq rfl rfl rfl rfl ?_ | refine s_gtr rfl rfl rfl rfl ?_ | refine s_geq rfl rfl rfl rfl ?_ | refine s_eql rfl rfl rfl rfl ?_ | refine s_neq rfl rfl rfl rfl ?_ | refine s_not rfl rfl rfl ?_ | refine s_pickT rfl rfl rfl (by conv => lhs; whnf) ?_ | refine s_pickF rfl rfl rfl (by conv => lhs; whnf) ?_ | refine s_extract rfl rfl rfl rfl ?_ | refine s_fieldA rfl rfl rfl ?_ | refine s_iface rfl rfl (by conv => lhs; whnf) ?_ | refine s_build rfl rfl rfl ?_)
  refine OPS.nil ?_
  repeat (first | with_reducible refine k_sn ?_ | with_reducible refine k_sr ?_ | with_reducible refine k_se ?_ | with_reducible refine k_bn ?_ | with_reducible refine k_br ?_ | with_reducible refine k_lr ?_ | with_reducible refine k_le ?_ | with_reducible refine k_sp ?_ | with_reducible refine k_bp ?_ | with_reducible refine k_lp ?_ | (with_reducible refine k_be ?_ ?_; exact rfl) | (with_reducible refine k_bf ?_ ?_; exact rfl))
  refine w_block ?_
  refine w_weak (weaker_act (l0 := [(0, .slice a0 xs.length c0), (5, .slice (some ⟨h.next, 0, some 0⟩) ys.length ys.length), (11, .slice b0 ys.length d0), (12, .int .i64 (ys.length : Int)), (13, .int .i64 ((0 : Nat) : Int))]) ⟨rfl, rfl, rfl, rfl, rfl, trivial⟩) ?_
  refine w_loop (afI (.slice a0 xs.length c0) (.slice b0 ys.length d0) xs ys h) ?_ ys.length _ _ ⟨0, h.next, _, by omega, rfl, hA1, hb1, Nat.le_refl _, by rw [zeros_length]; simp, fun j y hj => by omega⟩
  rintro r a h2 ⟨k, b, cs, hk, rfl, hA2, hb2, hbn, hcl, hcs⟩
  refine w_seq (.ops ?_)
  repeat (first | refine s_skip rfl rfl ?_ | refine s_mv rfl rfl (by conv => lhs; whnf) ?_ | refine s_asg rfl rfl (by conv => lhs; whnf) ?_ | refine s_len rfl rfl rfl ?_ | refine s_lss rfl rfl rfl rfl ?_ | refine s_leq rfl rfl rfl rfl ?_ | refine s_gtr rfl rfl rfl rfl ?_ | refine s_geq rfl rfl rfl rfl ?_ | refine s_eql rfl rfl rfl rfl ?_ | refine s_neq rfl rfl rfl rfl ?_ | refine s_not rfl rfl rfl ?_ | refine s_pickT rfl rfl rfl (by conv => lhs; whnf) ?_ | refine s_pickF rfl rfl rfl (by conv => lhs; whnf) ?_ | refine s_extract rfl rfl rfl rfl ?_ | refine s_fieldA rfl rfl rfl ?_ | refine s_iface rfl rfl (by conv => lhs; whnf) ?_ | refine s_build rfl rfl rfl ?_)
  refine OPS.nil ?_
  repeat (first | with_reducible refine k_sn ?_ | with_reducible refine k_sr ?_ | with_reducible refine k_se ?_ | with_reducible refine k_bn ?_ | with_reducible refine k_br ?_ | with_reducible refine k_lr ?_ | with_reducible refine k_le ?_ | with_reducible refine k_sp ?_ | with_reducible refine k_bp ?_ | with_reducible refine k_lp ?_ | (with_reducible refine k_be ?_ ?_; exact rfl) | (with_reducible refine k_bf ?_ ?_; exact rfl))
  refine w_seq (w_cond (decide ((k : Int) < (ys.length : Int))) rfl (fun hc => ?_) (fun hc => ?_))
  · have hkm : k < ys.length := by have := of_decide_eq_true hc; omega
    obtain ⟨_, i0, o0, f0, cs0, x, rfl, hat, hxk, hcx⟩ := hb.elem (k := k) (by omega)
    have hcx' : cs0[o0 + (k : Int).toNat * 1]? = some (.int .i64 x) := by simpa using hcx
    have hxr := hin x (List.mem_of_getElem? hxk)
    obtain ⟨j, rfl⟩ := Int.eq_ofNat_of_zero_le hxr.1
    obtain ⟨_, i1, o1, f1, cs1, y, rfl, hat1, hyk, hcy⟩ := ha.elem (k := j) (by omega)
    have hcy' : cs1[o1 + (j : Int).toNat * 1]? = some (.int .i64 y) := by simpa using hcy
    refine EV.skip ?_
    repeat (first | with_reducible refine k_sn ?_ | with_reducible refine k_sr ?_ | with_reducible refine k_se ?_ | with_reducible refine k_bn ?_ | with_reducible refine k_br ?_ | with_reducible refine k_lr ?_ | with_reducible refine k_le ?_ | with_reducible refine k_sp ?_ | with_reducible refine k_bp ?_ | with_reducible refine k_lp ?_ | (with_reducible refine k_be ?_ ?_; exact rfl) | (with_reducible refine k_bf ?_ ?_; exact rfl))
    refine w_seq (w_block (w_seq (.ops ?_)))
    repeat (first | refine s_skip rfl rfl ?_ | refine s_mv rfl rfl (by conv => lhs; whnf) ?_ | refine s_asg rfl rfl (by conv => lhs; whnf) ?_ | refine s_len rfl rfl rfl ?_ | refine s_lss rfl rfl rfl rfl ?_ | refine s_leq rfl rfl rfl rfl ?_ | refine s_gtr rfl rfl rfl rfl ?_ | refine s_geq rfl rfl rfl rfl ?_ | refine s_eql rfl rfl rfl rfl ?_ | refine s_neq rfl rfl rfl rfl ?_ | refine s_not rfl rfl rfl ?_ | refine s_pickT rfl rfl rfl (by conv => lhs; whnf) ?_ | refine s_pickF rfl rfl rfl (by conv => lhs; whnf) ?_ | refine s_extract rfl rfl rfl rfl ?_ | refine s_fieldA rfl rfl rfl ?_ | refine s_iface rfl rfl (by conv => lhs; whnf) ?_ | refine s_build rfl rfl rfl ?_)
    refine s_idxSl rfl rfl rfl rfl (by omega) (by omega) ?_
    refine s_loadR rfl rfl rfl (hat.agree hA2) hcx' ?_
    repeat (first | refine s_skip rfl rfl ?_ | refine s_mv rfl rfl (by conv => lhs; whnf) ?_ | refine s_asg rfl rfl (by conv => lhs; whnf) ?_ | refine s_len rfl rfl rfl ?_ | refine s_lss rfl rfl rfl rfl ?_ | refine s_leq rfl rfl rfl rfl ?_ | refine s_gtr rfl rfl rfl rfl ?_ | refine s_geq rfl rfl rfl rfl ?_ | refine s_eql rfl rfl rfl rfl ?_ | refine s_neq rfl rfl rfl rfl ?_ | refine s_not rfl rfl rfl ?_ | refine s_pickT rfl rfl rfl (by conv => lhs; whnf) ?_ | refine s_pickF rfl rfl rfl (by conv => lhs; whnf) ?_ | refine s_extract rfl rfl rfl rfl ?_ | refine s_fieldA rfl rfl rfl ?_ | refine s_iface rfl rfl (by conv => lhs; whnf) ?_ | refine s_build rfl rfl rfl ?_)
    refine OPS.nil ?_
    repeat (first | with_reducible refine k_sn ?_ | with_reducible refine k_sr ?_ | with_reducible refine k_se ?_ | with_reducible refine k_bn ?_ | with_reducible refine k_br ?_ | with_reducible refine k_lr ?_ | with_reducible refine k_le ?_ | with_reducible refine k_sp ?_ | with_reducible refine k_bp ?_ | with_reducible refine k_lp ?_ | (with_reducible refine k_be ?_ ?_; exact rfl) | (with_reducible refine k_bf ?_ ?_; exact rfl))
    refine .ops ?_
    repeat (first | refine s_skip rfl rfl ?_ | refine s_mv rfl rfl (by conv => lhs; whnf) ?_ | refine s_asg rfl rfl (by conv => lhs; whnf) ?_ | refine s_len rfl rfl rfl ?_ | refine s_lss rfl rfl rfl rfl ?_ | refine s_leq rfl rfl rfl rfl ?_ | refine s_gtr rfl rfl rfl rfl ?_ | refine s_geq rfl rfl rfl rfl ?_ | refine s_eql rfl rfl rfl rfl ?_ | refine s_neq rfl rfl rfl rfl ?_ | refine s_not rfl rfl rfl ?_ | refine s_pickT rfl rfl rfl (by conv => lhs; whnf) ?_ | refine s_pickF rfl rfl rfl (by conv => lhs; whnf) ?_ | refine s_extract rfl rfl rfl rfl ?_ | refine s_fieldA rfl rfl rfl ?_ | refine s_iface rfl rfl (by conv => lhs; whnf) ?_ | refine s_build rfl rfl rfl ?_)
    refine s_idxSl rfl rfl rfl rfl (by omega) (by omega) ?_
    refine s_loadR rfl rfl rfl (hat1.agree hA2) hcy' ?_
    refine s_idxSl rfl rfl rfl rfl (by omega) (by omega) ?_
    refine s_store1 rfl rfl (by conv => lhs; whnf) rfl hb2 (by simp; omega) ?_
    intro h3 hT3
    repeat (first | refine s_skip rfl rfl ?_ | refine s_mv rfl rfl (by conv => lhs; whnf) ?_ | refine s_asg rfl rfl (by conv => lhs; whnf) ?_ | refine s_len rfl rfl rfl ?_ | refine s_lss rfl rfl rfl rfl ?_ | refine s_leq rfl rfl rfl rfl ?_ | refine s_gtr rfl rfl rfl rfl ?_ | refine s_geq rfl rfl rfl rfl ?_ | refine s_eql rfl rfl rfl rfl ?_ | refine s_neq rfl rfl rfl rfl ?_ | refine s_not rfl rfl rfl ?_ | refine s_pickT rfl rfl rfl (by conv => lhs; whnf) ?_ | refine s_pickF rfl rfl rfl (by conv => lhs; whnf) ?_ | refine s_extract rfl rfl rfl rfl ?_ | refine s_fieldA rfl rfl rfl ?_ | refine s_iface rfl rfl (by conv => lhs; whnf) ?_ | refine s_build rfl rfl rfl ?_)
    refine OPS.nil ?_
    repeat (first | with_reducible refine k_sn ?_ | with_reducible refine k_sr ?_ | with_reducible refine k_se ?_ | with_reducible refine k_bn ?_ | with_reducible refine k_br ?_ | with_reducible refine k_lr ?_ | with_reducible refine k_le ?_ | with_reducible refine k_sp ?_ | with_reducible refine k_bp ?_ | with_reducible refine k_lp ?_ | (with_reducible refine k_be ?_ ?_; exact rfl) | (with_reducible refine k_bf ?_ ?_; exact rfl))
    refine .ops ?_
    repeat (first | refine s_skip rfl rfl ?_ | refine s_mv rfl rfl (by conv => lhs; whnf) ?_ | refine s_asg rfl rfl (by conv => lhs; whnf) ?_ | refine s_len rfl rfl rfl ?_ | refine s_lss rfl rfl rfl rfl ?_ | refine s_leq rfl rfl rfl rfl ?_ | refine s_gtr rfl rfl rfl rfl ?_ | refine s_geq rfl rfl rfl rfl ?_ | refine s_eql rfl rfl rfl rfl ?_ | refine s_neq rfl rfl rfl rfl ?_ | refine s_not rfl rfl rfl ?_ | refine s_pickT rfl rfl rfl (by conv => lhs; whnf) ?_ | refine s_pickF rfl rfl rfl (by conv => lhs; whnf) ?_ | refine s_extract rfl rfl rfl rfl ?_ | refine s_fieldA rfl rfl rfl ?_ | refine s_iface rfl rfl (by conv => lhs; whnf) ?_ | refine s_build rfl rfl rfl ?_)
    refine s_add rfl rfl rfl rfl (by omega) (by omega) ?_
    repeat (first | refine s_skip rfl rfl ?_ | refine s_mv rfl rfl (by conv => lhs; whnf) ?_ | refine s_asg rfl rfl (by conv => lhs; whnf) ?_ | refine s_len rfl rfl rfl ?_ | refine s_lss rfl rfl rfl rfl ?_ | refine s_leq rfl rfl rfl rfl ?_ | refine s_gtr rfl rfl rfl rfl ?_ | refine s_geq rfl rfl rfl rfl ?_ | refine s_eql rfl rfl rfl rfl ?_ | refine s_neq rfl rfl rfl rfl ?_ | refine s_not rfl rfl rfl ?_ | refine s_pickT rfl rfl rfl (by conv => lhs; whnf) ?_ | refine s_pickF rfl rfl rfl (by conv => lhs; whnf) ?_ | refine s_extract rfl rfl rfl rfl ?_ | refine s_fieldA rfl rfl rfl ?_ | refine s_iface rfl rfl (by conv => lhs; whnf) ?_ | refine s_build rfl rfl rfl ?_)
    refine .nil ?_
    refine k_ln (l0 := [(0, _), (5, .slice (some ⟨b, 0, some 0⟩) ys.length ys.length), (11, _), (12, .int .i64 (ys.length : Int)), (13, .int .i64 ((k + 1 : Nat) : Int))]) (ys.length - (k + 1)) (by omega) ⟨rfl, rfl, rfl, rfl, rfl, trivial⟩ ?_
    refine ⟨k + 1, b, _, by omega, rfl, hA2.turn hT3 hbn, hT3.at_, hbn, by simpa using hcl, ?_⟩
    intro i z hi hz
    simp only [Int.toNat_natCast, Nat.mul_one, Nat.zero_add, List.getElem?_set]
    by_cases e : k = i
    · subst e
      rw [if_pos rfl, if_pos (by omega)]
      rw [prodL_get, hxk] at hz
      simp only [Option.map_some, Int.toNat_natCast, Option.some.injEq] at hz
      rw [List.getD_eq_getElem?_getD, hyk] at hz
      simp only [Option.getD_some] at hz
      rw [hz]
    · rw [if_neg e]; exact hcs i z (by omega) hz
  · refine EV.exit ?_
    repeat (first | with_reducible refine k_sn ?_ | with_reducible refine k_sr ?_ | with_reducible refine k_se ?_ | with_reducible refine k_bn ?_ | with_reducible refine k_br ?_ | with_reducible refine k_lr ?_ | with_reducible refine k_le ?_ | with_reducible refine k_sp ?_ | with_reducible refine k_bp ?_ | with_reducible refine k_lp ?_ | (with_reducible refine k_be ?_ ?_; exact rfl) | (with_reducible refine k_bf ?_ ?_; exact rfl))
    refine w_seq (.ops ?_)
    repeat (first | refine s_skip rfl rfl ?_ | refine s_mv rfl rfl (by conv => lhs; whnf) ?_ | refine s_asg rfl rfl (by conv => lhs; whnf) ?_ | refine s_len rfl rfl rfl ?_ | refine s_lss rfl rfl rfl rfl ?_ | refine s_leq rfl rfl rfl rfl ?_ | refine s_gtr rfl rfl rfl rfl ?_ | refine s_geq rfl rfl rfl rfl ?_ | refine s_eql rfl rfl rfl rfl ?_ | refine s_neq rfl rfl rfl rfl ?_ | refine s_not rfl rfl rfl ?_ | refine s_pickT rfl rfl rfl (by conv => lhs; whnf) ?_ | refine s_pickF rfl rfl rfl (by conv => lhs; whnf) ?_ | refine s_extract rfl rfl rfl rfl ?_ | refine s_fieldA rfl rfl rfl ?_ | refine s_iface rfl rfl (by conv => lhs; whnf) ?_ | refine s_build rfl rfl rfl ?_)
    refine OPS.nil ?_
    repeat (first | with_reducible refine k_sn ?_ | with_reducible refine k_sr ?_ | with_reducible refine k_se ?_ | with_reducible refine k_bn ?_ | with_reducible refine k_br ?_ | with_reducible refine k_lr ?_ | with_reducible refine k_le ?_ | with_reducible refine k_sp ?_ | with_reducible refine k_bp ?_ | with_reducible refine k_lp ?_ | (with_reducible refine k_be ?_ ?_; exact rfl) | (with_reducible refine k_bf ?_ ?_; exact rfl))
    refine EV.ret ?_
    repeat (first | with_reducible refine k_sn ?_ | with_reducible refine k_sr ?_ | with_reducible refine k_se ?_ | with_reducible refine k_bn ?_ | with_reducible refine k_br ?_ | with_reducible refine k_lr ?_ | with_reducible refine k_le ?_ | with_reducible refine k_sp ?_ | with_reducible refine k_bp ?_ | with_reducible refine k_lp ?_ | (with_reducible refine k_be ?_ ?_; exact rfl) | (with_reducible refine k_bf ?_ ?_; exact rfl))
    refine r_tmp 4 rfl (by conv => lhs; whnf) ⟨rfl, ⟨_, rfl, ?_, new_sl hbn⟩, hA2⟩
    have hkm : k = ys.length := by have := of_decide_eq_false hc; omega
    have hpl : (prodL xs ys).length = ys.length := by simp [prodL]
    refine .inr ⟨b, 0, 0, ys.length, cs, by rw [hpl], hb2.c, fun j y hj => ?_⟩
    rw [Nat.zero_add]
    refine hcs j y ?_ hj
    have : j < (prodL xs ys).length := (List.getElem?_eq_some_iff.1 hj).1
    omega

/-- the loop of Product at element k -/
def prI (va vb : Value) (xs ys : List Int) (h : IH) : Nat → IAct → IH → Prop := fun r a h1 => ∃ k b f, k + r = ys.length ∧ a = act 25 [(0, va), (1, vb), (5, .slice (some ⟨b, 0, some f⟩) k k), (6, .int .i64 (k : Int))] [] none none ∧
  Agree h h1 ∧ At h1 b (.cells (((prodL xs ys).take k).map (.int .i64 ·))) ∧ h.next ≤ b ∧ (f = 0 ∨ f = 1)

theorem product_ok {h : IH} {va vb : Value} {xs ys : List Int} (ha : IntsAt h va xs) (hb : IntsAt h vb ys) (hin : ∀ x ∈ ys, 0 ≤ x ∧ x < (xs.length : Int)) (hbl : ys.length ≤ 1000000) :
    CALL Tryz.prog ⟨.func 63, [va, vb], [], none⟩ h (fun r pm h' => pm = none ∧ (∃ v, r = .ok v ∧ IntsAt h' v (prodL xs ys) ∧ NewV h.next v) ∧ Agree h h') := by
  obtain ⟨a0, c0, rfl⟩ := ha.form
  obtain ⟨b0, d0, rfl⟩ := hb.form
  have hpl : (prodL xs ys).length = ys.length := by simp [prodL]
  refine c_fn c63 f63 ?_
  show EV _ _ (act 25 [(1, .slice b0 ys.length d0), (0, .slice a0 xs.length c0)] [] none none) h _
  refine w_seq (.ops ?_)
  repeat (first | refine s_skip rfl rfl ?_ | refine s_mv rfl rfl (by conv => lhs; whnf) ?_ | refine s_asg rfl rfl (by conv => lhs; whnf) ?_ | refine s_len rfl rfl rfl ?_ | refine s_lss rfl rfl rfl rfl ?_ | refine s_leq rfl rfl rfl rfl ?_ | refine s_gtr rfl rfl rfl rfl ?_ | refine s_geq rfl rfl rfl rfl ?_ | refine s_eql rfl rfl rfl rfl ?_ | refine s_neq rfl rfl rfl rfl ?_ | refine s_not rfl rfl rfl ?_ | refine s_pickT rfl rfl rfl (by conv => lhs; whnf) ?_ | refine s_pickF rfl rfl rfl (by conv => lhs; whnf) ?_ | refine s_extract rfl rfl rfl rfl ?_ | refine s_fieldA rfl rfl rfl ?_ | refine s_iface rfl rfl (by conv => lhs; whnf) ?_ | refine s_build rfl rfl rfl ?_)
  refine OPS.nil ?_
  repeat (first | with_reducible refine k_sn ?_ | with_reducible refine k_sr ?_ | with_reducible refine k_se ?_ | with_reducible refine k_bn ?_ | with_reducible refine k_br ?_ | with_reducible refine k_lr ?_ | with_reducible refine k_le ?_ | with_reducible refine k_sp ?_ | with_reducible refine k_bp ?_ | with_reducible refine k_lp ?_ | (with_reducible refine k_be ?_ ?_; exact rfl) | (with_reducible refine k_bf ?_ ?_; exact rfl))
  refine w_seq (.ops ?_)
  refine s_bslice rfl rfl rfl ?_
  intro h1 hA1 hb1 hn1
  repeat (first | refine s_skip rfl rfl ?_ | refine s_mv rfl rfl (by conv => lhs; whnf) ?_ | refine s_asg rfl rfl (by conv => lhs; whnf) ?_ | refine s_len rfl rfl rfl ?_ | refine s_lss rfl rfl rfl rfl ?_ | refine s_leq rfl rfl rfl rfl ?_ | refine s_gtr rfl rfl rfl rfl ?_ | refine s_geq rfl rfl rfl rfl ?_ | refine s_eql rfl rfl rfl rfl ?_ | refine s_neq rfl rfl rfl rfl ?_ | refine s_not rfl rfl rfl ?_ | refine s_pickT rfl rfl rfl (by conv => lhs; whnf) ?_ | refine s_pickF rfl rfl rfl (by conv => lhs; whnf) ?_ | refine s_extract rfl rfl rfl rfl ?_ | refine s_fieldA rfl rfl rfl ?_ | refine s_iface rfl rfl (by conv => lhs; whnf) ?_ | refine s_build rfl rfl rfl ?_)
  refine OPS.nil ?_
  repeat (first | with_reducible refine k_sn ?_ | with_reducible refine k_sr ?_ | with_reducible refine k_se ?_ | with_reducible refine k_bn ?_ | with_reducible refine k_br ?_ | with_reducible refine k_lr ?_ | with_reducible refine k_le ?_ | with_reducible refine k_sp ?_ | with_reducible refine k_bp ?_ | with_reducible refine k_lp ?_ | (with_reducible refine k_be ?_ ?_; exact rfl) | (with_reducible refine k_bf ?_ ?_; exact rfl))
  refine w_seq (w_seq (.ops ?_))
  repeat (first | refine s_skip rfl rfl ?_ | refine s_mv rfl rfl (by conv => lhs; whnf) ?_ | refine s_asg rfl rfl (by conv => lhs; whnf) ?_ | refine s_len rfl rfl rfl ?_ | refine s_lss rfl rfl rfl rfl ?_ | refine s_leq rfl rfl rfl rfl ?_ | refine s_gtr rfl rfl rfl rfl ?_ | refine s_geq rfl rfl rfl rfl ?_ | refine s_eql rfl rfl rfl rfl ?_ | refine s_neq rfl rfl rfl rfl ?_ | refine s_not rfl rfl rfl ?_ | refine s_pickT rfl rfl rfl (by conv => lhs; whnf) ?_ | refine s_pickF rfl rfl rfl (by conv => lhs; whnf) ?_ | refine s_extract rfl rfl rfl rfl ?_ | refine s_fieldA rfl rfl rfl ?_ | refine s_iface rfl rfl (by conv => lhs; whnf) ?_ | refine s_build rfl rfl rfl ?_)
  refine OPS.nil ?_
  repeat (first | with_reducible refine k_sn ?_ | with_reducible refine k_sr ?_ | with_reducible refine k_se ?_ | with_reducible refine k_bn ?_ | with_reducible refine k_br ?_ | with_reducible refine k_lr ?_ | with_reducible refine k_le ?_ | with_reducible refine k_sp ?_ | with_reducible refine k_bp ?_ | with_reducible refine k_lp ?_ | (with_reducible refine k_be ?_ ?_; exact rfl) | (with_reducible refine k_bf ?_ ?_; exact rfl))
  refine w_block ?_
  refine w_weak (weaker_act (l0 := [(0, .slice a0 xs.length c0), (1, .slice b0 ys.length d0), (5, .slice (some ⟨h.next, 0, some 0⟩) 0 0), (6, .int .i64 ((0 : Nat) : Int))]) ⟨rfl, rfl, rfl, rfl, trivial⟩) ?_
  refine w_loop (prI (.slice a0 xs.length c0) (.slice b0 ys.length d0) xs ys h) ?_ ys.length _ _ ⟨0, h.next, 0, by omega, rfl, hA1, hb1, Nat.le_refl _, .inl rfl⟩
  rintro r a h2 ⟨k, b, f, hk, rfl, hA2, hb2, hbn, hf⟩
  refine w_seq (w_seq (.ops ?_))
  repeat (first | refine s_skip rfl rfl ?_ | refine s_mv rfl rfl (by conv => lhs; whnf) ?_ | refine s_asg rfl rfl (by conv => lhs; whnf) ?_ | refine s_len rfl rfl rfl ?_ | refine s_lss rfl rfl rfl rfl ?_ | refine s_leq rfl rfl rfl rfl ?_ | refine s_gtr rfl rfl rfl rfl ?_ | refine s_geq rfl rfl rfl rfl ?_ | refine s_eql rfl rfl rfl rfl ?_ | refine s_neq rfl rfl rfl rfl ?_ | refine s_not rfl rfl rfl ?_ | refine s_pickT rfl rfl rfl (by conv => lhs; whnf) ?_ | refine s_pickF rfl rfl rfl (by conv => lhs; whnf) ?_ | refine s_extract rfl rfl rfl rfl ?_ | refine s_fieldA rfl rfl rfl ?_ | refine s_iface rfl rfl (by conv => lhs; whnf) ?_ | refine s_build rfl rfl rfl ?_)
  refine OPS.nil ?_
  repeat (first | with_reducible refine k_sn ?_ | with_reducible refine k_sr ?_ | with_reducible refine k_se ?_ | with_reducible refine k_bn ?_ | with_reducible refine k_br ?_ | with_reducible refine k_lr ?_ | with_reducible refine k_le ?_ | with_reducible refine k_sp ?_ | with_reducible refine k_bp ?_ | with_reducible refine k_lp ?_ | (with_reducible refine k_be ?_ ?_; exact rfl) | (with_reducible refine k_bf ?_ ?_; exact rfl))
  refine w_cond (decide ((k : Int) < (ys.length : Int))) rfl (fun hc => ?_) (fun hc => ?_)
  · have hkm : k < ys.length := by have := of_decide_eq_true hc; omega
    obtain ⟨_, i0, o0, f0, cs0, x, rfl, hat, hxk, hcx⟩ := hb.elem (k := k) (by omega)
    have hcx' : cs0[o0 + (k : Int).toNat * 1]? = some (.int .i64 x) := by simpa using hcx
    have hxr := hin x (List.mem_of_getElem? hxk)
    obtain ⟨j, rfl⟩ := Int.eq_ofNat_of_zero_le hxr.1
    obtain ⟨_, i1, o1, f1, cs1, y, rfl, hat1, hyk, hcy⟩ := ha.elem (k := j) (by omega)
    have hcy' : cs1[o1 + (j : Int).toNat * 1]? = some (.int .i64 y) := by simpa using hcy
    refine EV.skip ?_
    repeat (first | with_reducible refine k_sn ?_ | with_reducible refine k_sr ?_ | with_reducible refine k_se ?_ | with_reducible refine k_bn ?_ | with_reducible refine k_br ?_ | with_reducible refine k_lr ?_ | with_reducible refine k_le ?_ | with_reducible refine k_sp ?_ | with_reducible refine k_bp ?_ | with_reducible refine k_lp ?_ | (with_reducible refine k_be ?_ ?_; exact rfl) | (with_reducible refine k_bf ?_ ?_; exact rfl))
    refine w_seq (w_block (.ops ?_))
    repeat (first | refine s_skip rfl rfl ?_ | refine s_mv rfl rfl (by conv => lhs; whnf) ?_ | refine s_asg rfl rfl (by conv => lhs; whnf) ?_ | refine s_len rfl rfl rfl ?_ | refine s_lss rfl rfl rfl rfl ?_ | refine s_leq rfl rfl rfl rfl ?_ | refine s_gtr rfl rfl rfl rfl ?_ | refine s_geq rfl rfl rfl rfl ?_ | refine s_eql rfl rfl rfl rfl ?_ | refine s_neq rfl rfl rfl rfl ?_ | refine s_not rfl rfl rfl ?_ | refine s_pickT rfl rfl rfl (by conv => lhs; whnf) ?_ | refine s_pickF rfl rfl rfl (by conv => lhs; whnf) ?_ | refine s_extract rfl rfl rfl rfl ?_ | refine s_fieldA rfl rfl rfl ?_ | refine s_iface rfl rfl (by conv => lhs; whnf) ?_ | refine s_build rfl rfl rfl ?_)
    refine s_idxSl rfl rfl rfl rfl (by omega) (by omega) ?_
    refine s_loadR rfl rfl rfl (hat.agree hA2) hcx' ?_
    refine s_idxSl rfl rfl rfl rfl (by omega) (by omega) ?_
    refine s_loadR rfl rfl rfl (hat1.agree hA2) hcy' ?_
    refine s_bslice rfl rfl rfl ?_
    intro h3 hA3 hb3 hn3
    have hlen : ((prodL xs ys).take k).length = k := by rw [List.length_take]; omega
    have hz : (prodL xs ys)[k]? = some y := by
      rw [prodL_get, hxk]
      simp only [Option.map_some, Int.toNat_natCast]
      rw [List.getD_eq_getElem?_getD, hyk]; rfl
    refine s_append (k := 0) (old := ((prodL xs ys).take k).map (.int .i64 ·)) (xs := [.int .i64 y]) rfl rfl rfl rfl (hb3.readAt rfl) ((hb2.agree hA3).readAt ?_) ?_ (by omega) ?_
    · rw [ldrop_eq, ltake_eq, Nat.mul_one, List.drop_zero, List.length_map, hlen, if_pos (Nat.le_refl _), List.take_of_length_le]
      rw [List.length_map, hlen]
      exact Nat.le_refl _
    · rcases hf with rfl | rfl
      · exact .inl rfl
      · exact .inr rfl
    intro h4 hM4
    repeat (first | refine s_skip rfl rfl ?_ | refine s_mv rfl rfl (by conv => lhs; whnf) ?_ | refine s_asg rfl rfl (by conv => lhs; whnf) ?_ | refine s_len rfl rfl rfl ?_ | refine s_lss rfl rfl rfl rfl ?_ | refine s_leq rfl rfl rfl rfl ?_ | refine s_gtr rfl rfl rfl rfl ?_ | refine s_geq rfl rfl rfl rfl ?_ | refine s_eql rfl rfl rfl rfl ?_ | refine s_neq rfl rfl rfl rfl ?_ | refine s_not rfl rfl rfl ?_ | refine s_pickT rfl rfl rfl (by conv => lhs; whnf) ?_ | refine s_pickF rfl rfl rfl (by conv => lhs; whnf) ?_ | refine s_extract rfl rfl rfl rfl ?_ | refine s_fieldA rfl rfl rfl ?_ | refine s_iface rfl rfl (by conv => lhs; whnf) ?_ | refine s_build rfl rfl rfl ?_)
    refine OPS.nil ?_
    repeat (first | with_reducible refine k_sn ?_ | with_reducible refine k_sr ?_ | with_reducible refine k_se ?_ | with_reducible refine k_bn ?_ | with_reducible refine k_br ?_ | with_reducible refine k_lr ?_ | with_reducible refine k_le ?_ | with_reducible refine k_sp ?_ | with_reducible refine k_bp ?_ | with_reducible refine k_lp ?_ | (with_reducible refine k_be ?_ ?_; exact rfl) | (with_reducible refine k_bf ?_ ?_; exact rfl))
    refine .ops ?_
    repeat (first | refine s_skip rfl rfl ?_ | refine s_mv rfl rfl (by conv => lhs; whnf) ?_ | refine s_asg rfl rfl (by conv => lhs; whnf) ?_ | refine s_len rfl rfl rfl ?_ | refine s_lss rfl rfl rfl rfl ?_ | refine s_leq rfl rfl rfl rfl ?_ | refine s_gtr rfl rfl rfl rfl ?_ | refine s_geq rfl rfl rfl rfl ?_ | refine s_eql rfl rfl rfl rfl ?_ | refine s_neq rfl rfl rfl rfl ?_ | refine s_not rfl rfl rfl ?_ | refine s_pickT rfl rfl rfl (by conv => lhs; whnf) ?_ | refine s_pickF rfl rfl rfl (by conv => lhs; whnf) ?_ | refine s_extract rfl rfl rfl rfl ?_ | refine s_fieldA rfl rfl rfl ?_ | refine s_iface rfl rfl (by conv => lhs; whnf) ?_ | refine s_build rfl rfl rfl ?_)
    refine s_add rfl rfl rfl rfl (by omega) (by omega) ?_
    repeat (first | refine s_skip rfl rfl ?_ | refine s_mv rfl rfl (by conv => lhs; whnf) ?_ | refine s_asg rfl rfl (by conv => lhs; whnf) ?_ | refine s_len rfl rfl rfl ?_ | refine s_lss rfl rfl rfl rfl ?_ | refine s_leq rfl rfl rfl rfl ?_ | refine s_gtr rfl rfl rfl rfl ?_ | refine s_geq rfl rfl rfl rfl ?_ | refine s_eql rfl rfl rfl rfl ?_ | refine s_neq rfl rfl rfl rfl ?_ | refine s_not rfl rfl rfl ?_ | refine s_pickT rfl rfl rfl (by conv => lhs; whnf) ?_ | refine s_pickF rfl rfl rfl (by conv => lhs; whnf) ?_ | refine s_extract rfl rfl rfl rfl ?_ | refine s_fieldA rfl rfl rfl ?_ | refine s_iface rfl rfl (by conv => lhs; whnf) ?_ | refine s_build rfl rfl rfl ?_)
    refine .nil ?_
    refine k_ln (l0 := [(0, _), (1, _), (5, .slice (some ⟨h3.next, 0, some 1⟩) (k + 1) (k + 1)), (6, .int .i64 ((k + 1 : Nat) : Int))]) (ys.length - (k + 1)) (by omega) ⟨rfl, rfl, rfl, rfl, trivial⟩ ?_
    refine ⟨k + 1, h3.next, 1, by omega, rfl, (hA2.trans hA3).moved hM4 hbn, ?_, (hA2.trans hA3).next, .inr rfl⟩
    have := hM4.at_
    rw [List.take_add_one, hz, List.map_append]
    exact this
  · refine EV.exit ?_
    repeat (first | with_reducible refine k_sn ?_ | with_reducible refine k_sr ?_ | with_reducible refine k_se ?_ | with_reducible refine k_bn ?_ | with_reducible refine k_br ?_ | with_reducible refine k_lr ?_ | with_reducible refine k_le ?_ | with_reducible refine k_sp ?_ | with_reducible refine k_bp ?_ | with_reducible refine k_lp ?_ | (with_reducible refine k_be ?_ ?_; exact rfl) | (with_reducible refine k_bf ?_ ?_; exact rfl))
    refine w_seq (.ops ?_)
    repeat (first | refine s_skip rfl rfl ?_ | refine s_mv rfl rfl (by conv => lhs; whnf) ?_ | refine s_asg rfl rfl (by conv => lhs; whnf) ?_ | refine s_len rfl rfl rfl ?_ | refine s_lss rfl rfl rfl rfl ?_ | refine s_leq rfl rfl rfl rfl ?_ | refine s_gtr rfl rfl rfl rfl ?_ | refine s_geq rfl rfl rfl rfl ?_ | refine s_eql rfl rfl rfl rfl ?_ | refine s_neq rfl rfl rfl rfl ?_ | refine s_not rfl rfl rfl ?_ | refine s_pickT rfl rfl rfl (by conv => lhs; whnf) ?_ | refine s_pickF rfl rfl rfl (by conv => lhs; whnf) ?_ | refine s_extract rfl rfl rfl rfl ?_ | refine s_fieldA rfl rfl rfl ?_ | refine s_iface rfl rfl (by conv => lhs; whnf) ?_ | refine s_build rfl rfl rfl ?_)
    refine OPS.nil ?_
    repeat (first | with_reducible refine k_sn ?_ | with_reducible refine k_sr ?_ | with_reducible refine k_se ?_ | with_reducible refine k_bn ?_ | with_reducible refine k_br ?_ | with_reducible refine k_lr ?_ | with_reducible refine k_le ?_ | with_reducible refine k_sp ?_ | with_reducible refine k_bp ?_ | with_reducible refine k_lp ?_ | (with_reducible refine k_be ?_ ?_; exact rfl) | (with_reducible refine k_bf ?_ ?_; exact rfl))
    refine EV.ret ?_
    repeat (first | with_reducible refine k_sn ?_ | with_reducible refine k_sr ?_ | with_reducible refine k_se ?_ | with_reducible refine k_bn ?_ | with_reducible refine k_br ?_ | with_reducible refine k_lr ?_ | with_reducible refine k_le ?_ | with_reducible refine k_sp ?_ | with_reducible refine k_bp ?_ | with_reducible refine k_lp ?_ | (with_reducible refine k_be ?_ ?_; exact rfl) | (with_reducible refine k_bf ?_ ?_; exact rfl))
    refine r_tmp 4 rfl (by conv => lhs; whnf) ⟨rfl, ⟨_, rfl, ?_, new_sl hbn⟩, hA2⟩
    have hkm : k = ys.length := by have := of_decide_eq_false hc; omega
    refine .inr ⟨b, 0, f, k, _, by rw [hpl, hkm], hb2.c, fun j y hj => ?_⟩
    have : j < (prodL xs ys).length := (List.getElem?_eq_some_iff.1 hj).1
    rw [Nat.zero_add, List.getElem?_map, List.getElem?_take, if_pos (by omega), hj]
    rfl

/-- the loop of SameInts at element k -/
def siI (va vb : Value) (xs ys : List Int) (h : IH) : Nat → IAct → IH → Prop := fun r a h1 => ∃ k, k + r = xs.length ∧ a = act 26 [(0, va), (1, vb), (5, .int .i64 (k : Int))] [] none none ∧
  h1 = h ∧ ∀ j, j < k → xs[j]? = ys[j]?

theorem same_ok {h : IH} {va vb : Value} {xs ys : List Int} (ha : IntsAt h va xs) (hb : IntsAt h vb ys) (hal : xs.length ≤ 1000000) :
    CALL Tryz.prog ⟨.func 25, [va, vb], [], none⟩ h (fun r pm h' => pm = none ∧ r = .ok (.bool (decide (xs = ys))) ∧ h' = h) := by
  obtain ⟨a0, c0, rfl⟩ := ha.form
  obtain ⟨b0, d0, rfl⟩ := hb.form
  refine c_fn c25 f25 ?_
  show EV _ _ (act 26 [(1, .slice b0 ys.length d0), (0, .slice a0 xs.length c0)] [] none none) h _
  refine w_seq (.ops ?_)
  repeat (first | refine s_skip rfl rfl ?_ | refine s_mv rfl rfl (by conv => lhs; whnf) ?_ | refine s_asg rfl rfl (by conv => lhs; whnf) ?_ | refine s_len rfl rfl rfl ?_ | refine s_lss rfl rfl rfl rfl ?_ | refine s_leq rfl rfl rfl rfl ?_ | refine s_gtr rfl rfl rfl rfl ?_ | refine s_geq rfl rfl rfl rfl ?_ | refine s_eql rfl rfl rfl rfl ?_ | refine s_neq rfl rfl rfl rfl ?_ | refine s_not rfl rfl rfl ?_ | refine s_pickT rfl rfl rfl (by conv => lhs; whnf) ?_ | refine s_pickF rfl rfl rfl (by conv => lhs; whnf) ?_ | refine s_extract rfl rfl rfl rfl ?_ | refine s_fieldA rfl rfl rfl ?_ | refine s_iface rfl rfl (by conv => lhs; whnf) ?_ | refine s_build rfl rfl rfl ?_)
  refine OPS.nil ?_
  repeat (first | with_reducible refine k_sn ?_ | with_reducible refine k_sr ?_ | with_reducible refine k_se ?_ | with_reducible refine k_bn ?_ | with_reducible refine k_br ?_ | with_reducible refine k_lr ?_ | with_reducible refine k_le ?_ | with_reducible refine k_sp ?_ | with_reducible refine k_bp ?_ | with_reducible refine k_lp ?_ | (with_reducible refine k_be ?_ ?_; exact rfl) | (with_reducible refine k_bf ?_ ?_; exact rfl))
  refine w_seq (w_seq (.ops ?_))
  repeat (first | refine s_skip rfl rfl ?_ | refine s_mv rfl rfl (by conv => lhs; whnf) ?_ | refine s_asg rfl rfl (by conv => lhs; whnf) ?_ | refine s_len rfl rfl rfl ?_ | refine s_lss rfl rfl rfl rfl ?_ | refine s_leq rfl rfl rfl rfl ?_ | refine s_gtr rfl rfl rfl rfl ?_ | refine s_geq rfl rfl rfl rfl ?_ | refine s_eql rfl rfl rfl rfl ?_ | refine s_neq rfl rfl rfl rfl ?_ | refine s_not rfl rfl rfl ?_ | refine s_pickT rfl rfl rfl (by conv => lhs; whnf) ?_ | refine s_pickF rfl rfl rfl (by conv => lhs; whnf) ?_ | refine s_extract rfl rfl rfl rfl ?_ | refine s_fieldA rfl rfl rfl ?_ | refine s_iface rfl rfl (by conv => lhs; whnf) ?_ | refine s_build rfl rfl rfl ?_)
  refine OPS.nil ?_
  repeat (first | with_reducible refine k_sn ?_ | with_reducible refine k_sr ?_ | with_reducible refine k_se ?_ | with_reducible refine k_bn ?_ | with_reducible refine k_br ?_ | with_reducible refine k_lr ?_ | with_reducible refine k_le ?_ | with_reducible refine k_sp ?_ | with_reducible refine k_bp ?_ | with_reducible refine k_lp ?_ | (with_reducible refine k_be ?_ ?_; exact rfl) | (with_reducible refine k_bf ?_ ?_; exact rfl))
  refine w_cond (decide ((xs.length : Int) ≠ (ys.length : Int))) rfl (fun hc => ?_) (fun hc => ?_)
  · refine w_seq (.ops ?_)
    repeat (first | refine s_skip rfl rfl ?_ | refine s_mv rfl rfl (by conv => lhs; whnf) ?_ | refine s_asg rfl rfl (by conv => lhs; whnf) ?_ | refine s_len rfl rfl rfl ?_ | refine s_lss rfl rfl rfl rfl ?_ | refine s_leq rfl rfl rfl rfl ?_ | refine s_gtr rfl rfl rfl rfl ?_ | refine s_geq rfl rfl rfl rfl ?_ | refine s_eql rfl rfl rfl rfl ?_ | refine s_neq rfl rfl rfl rfl ?_ | refine s_not rfl rfl rfl ?_ | refine s_pickT rfl rfl rfl (by conv => lhs; whnf) ?_ | refine s_pickF rfl rfl rfl (by conv => lhs; whnf) ?_ | refine s_extract rfl rfl rfl rfl ?_ | refine s_fieldA rfl rfl rfl ?_ | refine s_iface rfl rfl (by conv => lhs; whnf) ?_ | refine s_build rfl rfl rfl ?_)
    refine OPS.nil ?_
    repeat (first | with_reducible refine k_sn ?_ | with_reducible refine k_sr ?_ | with_reducible refine k_se ?_ | with_reducible refine k_bn ?_ | with_reducible refine k_br ?_ | with_reducible refine k_lr ?_ | with_reducible refine k_le ?_ | with_reducible refine k_sp ?_ | with_reducible refine k_bp ?_ | with_reducible refine k_lp ?_ | (with_reducible refine k_be ?_ ?_; exact rfl) | (with_reducible refine k_bf ?_ ?_; exact rfl))
    refine EV.ret ?_
    repeat (first | with_reducible refine k_sn ?_ | with_reducible refine k_sr ?_ | with_reducible refine k_se ?_ | with_reducible refine k_bn ?_ | with_reducible refine k_br ?_ | with_reducible refine k_lr ?_ | with_reducible refine k_le ?_ | with_reducible refine k_sp ?_ | with_reducible refine k_bp ?_ | with_reducible refine k_lp ?_ | (with_reducible refine k_be ?_ ?_; exact rfl) | (with_reducible refine k_bf ?_ ?_; exact rfl))
    refine r_tmp 4 rfl (by conv => lhs; whnf) ⟨rfl, ?_, rfl⟩
    have hne := of_decide_eq_true hc
    rw [show decide (xs = ys) = false from decide_eq_false (fun e => hne (by rw [e]))]
  have hlen : xs.length = ys.length := by
    have := of_decide_eq_false hc
    omega
  refine EV.skip ?_
  repeat (first | with_reducible refine k_sn ?_ | with_reducible refine k_sr ?_ | with_reducible refine k_se ?_ | with_reducible refine k_bn ?_ | with_reducible refine k_br ?_ | with_reducible refine k_lr ?_ | with_reducible refine k_le ?_ | with_reducible refine k_sp ?_ | with_reducible refine k_bp ?_ | with_reducible refine k_lp ?_ | (with_reducible refine k_be ?_ ?_; exact rfl) | (with_reducible refine k_bf ?_ ?_; exact rfl))
  refine w_seq (w_seq (.ops ?_))
  repeat (first | refine s_skip rfl rfl ?_ | refine s_mv rfl rfl (by conv => lhs; whnf) ?_ | refine s_asg rfl rfl (by conv => lhs; whnf) ?_ | refine s_len rfl rfl rfl ?_ | refine s_lss rfl rfl rfl rfl ?_ | refine s_leq rfl rfl rfl rfl ?_ | refine s_gtr rfl rfl rfl rfl ?_ | refine s_geq rfl rfl rfl rfl ?_ | refine s_eql rfl rfl rfl rfl ?_ | refine s_neq rfl rfl rfl rfl ?_ | refine s_not rfl rfl rfl ?_ | refine s_pickT rfl rfl rfl (by conv => lhs; whnf) ?_ | refine s_pickF rfl rfl rfl (by conv => lhs; whnf) ?_ | refine s_extract rfl rfl rfl rfl ?_ | refine s_fieldA rfl rfl rfl ?_ | refine s_iface rfl rfl (by conv => lhs; whnf) ?_ | refine s_build rfl rfl rfl ?_)
  refine OPS.nil ?_
  repeat (first | with_reducible refine k_sn ?_ | with_reducible refine k_sr ?_ | with_reducible refine k_se ?_ | with_reducible refine k_bn ?_ | with_reducible refine k_br ?_ | with_reducible refine k_lr ?_ | with_reducible refine k_le ?_ | with_reducible refine k_sp ?_ | with_reducible refine k_bp ?_ | with_reducible refine k_lp ?_ | (with_reducible refine k_be ?_ ?_; exact rfl) | (with_reducible refine k_bf ?_ ?_; exact rfl))
  refine w_block ?_
  refine w_weak (weaker_act (l0 := [(0, .slice a0 xs.length c0), (1, .slice b0 ys.length d0), (5, .int .i64 ((0 : Nat) : Int))]) ⟨rfl, rfl, rfl, trivial⟩) ?_
  refine w_loop (siI (.slice a0 xs.length c0) (.slice b0 ys.length d0) xs ys h) ?_ xs.length _ _ ⟨0, by omega, rfl, rfl, fun j hj => by omega⟩
  rintro r a h2 ⟨k, hk, rfl, rfl, hsame⟩
  refine w_seq (w_seq (.ops ?_))
  repeat (first | refine s_skip rfl rfl ?_ | refine s_mv rfl rfl (by conv => lhs; whnf) ?_ | refine s_asg rfl rfl (by conv => lhs; whnf) ?_ | refine s_len rfl rfl rfl ?_ | refine s_lss rfl rfl rfl rfl ?_ | refine s_leq rfl rfl rfl rfl ?_ | refine s_gtr rfl rfl rfl rfl ?_ | refine s_geq rfl rfl rfl rfl ?_ | refine s_eql rfl rfl rfl rfl ?_ | refine s_neq rfl rfl rfl rfl ?_ | refine s_not rfl rfl rfl ?_ | refine s_pickT rfl rfl rfl (by conv => lhs; whnf) ?_ | refine s_pickF rfl rfl rfl (by conv => lhs; whnf) ?_ | refine s_extract rfl rfl rfl rfl ?_ | refine s_fieldA rfl rfl rfl ?_ | refine s_iface rfl rfl (by conv => lhs; whnf) ?_ | refine s_build rfl rfl rfl ?_)
  refine OPS.nil ?_
  repeat (first | with_reducible refine k_sn ?_ | with_reducible refine k_sr ?_ | with_reducible refine k_se ?_ | with_reducible refine k_bn ?_ | with_reducible refine k_br ?_ | with_reducible refine k_lr ?_ | with_reducible refine k_le ?_ | with_reducible refine k_sp ?_ | with_reducible refine k_bp ?_ | with_reducible refine k_lp ?_ | (with_reducible refine k_be ?_ ?_; exact rfl) | (with_reducible refine k_bf ?_ ?_; exact rfl))
  refine w_cond (decide ((k : Int) < (xs.length : Int))) rfl (fun hc => ?_) (fun hc => ?_)
  · have hkm : k < xs.length := by have := of_decide_eq_true hc; omega
    obtain ⟨_, i0, o0, f0, cs0, x, rfl, hat, hxk, hcx⟩ := ha.elem (k := k) (by omega)
    have hcx' : cs0[o0 + (k : Int).toNat * 1]? = some (.int .i64 x) := by simpa using hcx
    obtain ⟨_, i1, o1, f1, cs1, y, rfl, hat1, hyk, hcy⟩ := hb.elem (k := k) (by omega)
    have hcy' : cs1[o1 + (k : Int).toNat * 1]? = some (.int .i64 y) := by simpa using hcy
    refine EV.skip ?_
    repeat (first | with_reducible refine k_sn ?_ | with_reducible refine k_sr ?_ | with_reducible refine k_se ?_ | with_reducible refine k_bn ?_ | with_reducible refine k_br ?_ | with_reducible refine k_lr ?_ | with_reducible refine k_le ?_ | with_reducible refine k_sp ?_ | with_reducible refine k_bp ?_ | with_reducible refine k_lp ?_ | (with_reducible refine k_be ?_ ?_; exact rfl) | (with_reducible refine k_bf ?_ ?_; exact rfl))
    refine w_seq (w_block (w_seq (.ops ?_)))
    repeat (first | refine s_skip rfl rfl ?_ | refine s_mv rfl rfl (by conv => lhs; whnf) ?_ | refine s_asg rfl rfl (by conv => lhs; whnf) ?_ | refine s_len rfl rfl rfl ?_ | refine s_lss rfl rfl rfl rfl ?_ | refine s_leq rfl rfl rfl rfl ?_ | refine s_gtr rfl rfl rfl rfl ?_ | refine s_geq rfl rfl rfl rfl ?_ | refine s_eql rfl rfl rfl rfl ?_ | refine s_neq rfl rfl rfl rfl ?_ | refine s_not rfl rfl rfl ?_ | refine s_pickT rfl rfl rfl (by conv => lhs; whnf) ?_ | refine s_pickF rfl rfl rfl (by conv => lhs; whnf) ?_ | refine s_extract rfl rfl rfl rfl ?_ | refine s_fieldA rfl rfl rfl ?_ | refine s_iface rfl rfl (by conv => lhs; whnf) ?_ | refine s_build rfl rfl rfl ?_)
    refine s_idxSl rfl rfl rfl rfl (by omega) (by omega) ?_
    refine s_loadR rfl rfl rfl hat hcx' ?_
    repeat (first | refine s_skip rfl rfl ?_ | refine s_mv rfl rfl (by conv => lhs; whnf) ?_ | refine s_asg rfl rfl (by conv => lhs; whnf) ?_ | refine s_len rfl rfl rfl ?_ | refine s_lss rfl rfl rfl rfl ?_ | refine s_leq rfl rfl rfl rfl ?_ | refine s_gtr rfl rfl rfl rfl ?_ | refine s_geq rfl rfl rfl rfl ?_ | refine s_eql rfl rfl rfl rfl ?_ | refine s_neq rfl rfl rfl rfl ?_ | refine s_not rfl rfl rfl ?_ | refine s_pickT rfl rfl rfl (by conv => lhs; whnf) ?_ | refine s_pickF rfl rfl rfl (by conv => lhs; whnf) ?_ | refine s_extract rfl rfl rfl rfl ?_ | refine s_fieldA rfl rfl rfl ?_ | refine s_iface rfl rfl (by conv => lhs; whnf) ?_ | refine s_build rfl rfl rfl ?_)
    refine s_idxSl rfl rfl rfl rfl (by omega) (by omega) ?_
    refine s_loadR rfl rfl rfl hat1 hcy' ?_
    repeat (first | refine s_skip rfl rfl ?_ | refine s_mv rfl rfl (by conv => lhs; whnf) ?_ | refine s_asg rfl rfl (by conv => lhs; whnf) ?_ | refine s_len rfl rfl rfl ?_ | refine s_lss rfl rfl rfl rfl ?_ | refine s_leq rfl rfl rfl rfl ?_ | refine s_gtr rfl rfl rfl rfl ?_ | refine s_geq rfl rfl rfl rfl ?_ | refine s_eql rfl rfl rfl rfl ?_ | refine s_neq rfl rfl rfl rfl ?_ | refine s_not rfl rfl rfl ?_ | refine s_pickT rfl rfl rfl (by conv => lhs; whnf) ?_ | refine s_pickF rfl rfl rfl (by conv => lhs; whnf) ?_ | refine s_extract rfl rfl rfl rfl ?_ | refine s_fieldA rfl rfl rfl ?_ | refine s_iface rfl rfl (by conv => lhs; whnf) ?_ | refine s_build rfl rfl rfl ?_)
    refine OPS.nil ?_
    repeat (first | with_reducible refine k_sn ?_ | with_reducible refine k_sr ?_ | with_reducible refine k_se ?_ | with_reducible refine k_bn ?_ | with_reducible refine k_br ?_ | with_reducible refine k_lr ?_ | with_reducible refine k_le ?_ | with_reducible refine k_sp ?_ | with_reducible refine k_bp ?_ | with_reducible refine k_lp ?_ | (with_reducible refine k_be ?_ ?_; exact rfl) | (with_reducible refine k_bf ?_ ?_; exact rfl))
    refine w_cond (decide (x ≠ y)) rfl (fun hd => ?_) (fun hd => ?_)
    · refine w_seq (.ops ?_)
      repeat (first | refine s_skip rfl rfl ?_ | refine s_mv rfl rfl (by conv => lhs; whnf) ?_ | refine s_asg rfl rfl (by conv => lhs; whnf) ?_ | refine s_len rfl rfl rfl ?_ | refine s_lss rfl rfl rfl rfl ?_ | refine s_leq rfl rfl rfl rfl ?_ | refine s_gtr rfl rfl rfl rfl ?_ | refine s_geq rfl rfl rfl rfl ?_ | refine s_eql rfl rfl rfl rfl ?_ | refine s_neq rfl rfl rfl rfl ?_ | refine s_not rfl rfl rfl ?_ | refine s_pickT rfl rfl rfl (by conv => lhs; whnf) ?_ | refine s_pickF rfl rfl rfl (by conv => lhs; whnf) ?_ | refine s_extract rfl rfl rfl rfl ?_ | refine s_fieldA rfl rfl rfl ?_ | refine s_iface rfl rfl (by conv => lhs; whnf) ?_ | refine s_build rfl rfl rfl ?_)
      refine OPS.nil ?_
      repeat (first | with_reducible refine k_sn ?_ | with_reducible refine k_sr ?_ | with_reducible refine k_se ?_ | with_reducible refine k_bn ?_ | with_reducible refine k_br ?_ | with_reducible refine k_lr ?_ | with_reducible refine k_le ?_ | with_reducible refine k_sp ?_ | with_reducible refine k_bp ?_ | with_reducible refine k_lp ?_ | (with_reducible refine k_be ?_ ?_; exact rfl) | (with_reducible refine k_bf ?_ ?_; exact rfl))
      refine EV.ret ?_
      repeat (first | with_reducible refine k_sn ?_ | with_reducible refine k_sr ?_ | with_reducible refine k_se ?_ | with_reducible refine k_bn ?_ | with_reducible refine k_br ?_ | with_reducible refine k_lr ?_ | with_reducible refine k_le ?_ | with_reducible refine k_sp ?_ | with_reducible refine k_bp ?_ | with_reducible refine k_lp ?_ | (with_reducible refine k_be ?_ ?_; exact rfl) | (with_reducible refine k_bf ?_ ?_; exact rfl))
      refine r_tmp 4 rfl (by conv => lhs; whnf) ⟨rfl, ?_, rfl⟩
      have hne := of_decide_eq_true hd
      rw [show decide (xs = ys) = false from decide_eq_false (fun e => by rw [e, hyk] at hxk; cases hxk; exact hne rfl)]
    have hxy : x = y := Decidable.not_not.1 (of_decide_eq_false hd)
    refine EV.skip ?_
    repeat (first | with_reducible refine k_sn ?_ | with_reducible refine k_sr ?_ | with_reducible refine k_se ?_ | with_reducible refine k_bn ?_ | with_reducible refine k_br ?_ | with_reducible refine k_lr ?_ | with_reducible refine k_le ?_ | with_reducible refine k_sp ?_ | with_reducible refine k_bp ?_ | with_reducible refine k_lp ?_ | (with_reducible refine k_be ?_ ?_; exact rfl) | (with_reducible refine k_bf ?_ ?_; exact rfl))
    refine .ops ?_
    repeat (first | refine s_skip rfl rfl ?_ | refine s_mv rfl rfl (by conv => lhs; whnf) ?_ | refine s_asg rfl rfl (by conv => lhs; whnf) ?_ | refine s_len rfl rfl rfl ?_ | refine s_lss rfl rfl rfl rfl ?_ | refine s_leq rfl rfl rfl rfl ?_ | refine s_gtr rfl rfl rfl rfl ?_ | refine s_geq rfl rfl rfl rfl ?_ | refine s_eql rfl rfl rfl rfl ?_ | refine s_neq rfl rfl rfl rfl ?_ | refine s_not rfl rfl rfl ?_ | refine s_pickT rfl rfl rfl (by conv => lhs; whnf) ?_ | refine s_pickF rfl rfl rfl (by conv => lhs; whnf) ?_ | refine s_extract rfl rfl rfl rfl ?_ | refine s_fieldA rfl rfl rfl ?_ | refine s_iface rfl rfl (by conv => lhs; whnf) ?_ | refine s_build rfl rfl rfl ?_)
    refine s_add rfl rfl rfl rfl (by omega) (by omega) ?_
    repeat (first | refine s_skip rfl rfl ?_ | refine s_mv rfl rfl (by conv => lhs; whnf) ?_ | refine s_asg rfl rfl (by conv => lhs; whnf) ?_ | refine s_len rfl rfl rfl ?_ | refine s_lss rfl rfl rfl rfl ?_ | refine s_leq rfl rfl rfl rfl ?_ | refine s_gtr rfl rfl rfl rfl ?_ | refine s_geq rfl rfl rfl rfl ?_ | refine s_eql rfl rfl rfl rfl ?_ | refine s_neq rfl rfl rfl rfl ?_ | refine s_not rfl rfl rfl ?_ | refine s_pickT rfl rfl rfl (by conv => lhs; whnf) ?_ | refine s_pickF rfl rfl rfl (by conv => lhs; whnf) ?_ | refine s_extract rfl rfl rfl rfl ?_ | refine s_fieldA rfl rfl rfl ?_ | refine s_iface rfl rfl (by conv => lhs; whnf) ?_ | refine s_build rfl rfl rfl ?_)
    refine .nil ?_
    refine k_ln (l0 := [(0, _), (1, _), (5, .int .i64 ((k + 1 : Nat) : Int))]) (xs.length - (k + 1)) (by omega) ⟨rfl, rfl, rfl, trivial⟩ ?_
    refine ⟨k + 1, by omega, rfl, rfl, fun j hj => ?_⟩
    by_cases e : j = k
    · subst e; rw [hxk, hyk, hxy]
    · exact hsame j (by omega)
  · refine EV.exit ?_
    repeat (first | with_reducible refine k_sn ?_ | with_reducible refine k_sr ?_ | with_reducible refine k_se ?_ | with_reducible refine k_bn ?_ | with_reducible refine k_br ?_ | with_reducible refine k_lr ?_ | with_reducible refine k_le ?_ | with_reducible refine k_sp ?_ | with_reducible refine k_bp ?_ | with_reducible refine k_lp ?_ | (with_reducible refine k_be ?_ ?_; exact rfl) | (with_reducible refine k_bf ?_ ?_; exact rfl))
    refine w_seq (.ops ?_)
    repeat (first | refine s_skip rfl rfl ?_ | refine s_mv rfl rfl (by conv => lhs; whnf) ?_ | refine s_asg rfl rfl (by conv => lhs; whnf) ?_ | refine s_len rfl rfl rfl ?_ | refine s_lss rfl rfl rfl rfl ?_ | refine s_leq rfl rfl rfl rfl ?_ | refine s_gtr rfl rfl rfl rfl ?_ | refine s_geq rfl rfl rfl rfl ?_ | refine s_eql rfl rfl rfl rfl ?_ | refine s_neq rfl rfl rfl rfl ?_ | refine s_not rfl rfl rfl ?_ | refine s_pickT rfl rfl rfl (by conv => lhs; whnf) ?_ | refine s_pickF rfl rfl rfl (by conv => lhs; whnf) ?_ | refine s_extract rfl rfl rfl rfl ?_ | refine s_fieldA rfl rfl rfl ?_ | refine s_iface rfl rfl (by conv => lhs; whnf) ?_ | refine s_build rfl rfl rfl ?_)
    refine OPS.nil ?_
    repeat (first | with_reducible refine k_sn ?_ | with_reducible refine k_sr ?_ | with_reducible refine k_se ?_ | with_reducible refine k_bn ?_ | with_reducible refine k_br ?_ | with_reducible refine k_lr ?_ | with_reducible refine k_le ?_ | with_reducible refine k_sp ?_ | with_reducible refine k_bp ?_ | with_reducible refine k_lp ?_ | (with_reducible refine k_be ?_ ?_; exact rfl) | (with_reducible refine k_bf ?_ ?_; exact rfl))
    refine EV.ret ?_
    repeat (first | with_reducible refine k_sn ?_ | with_reducible refine k_sr ?_ | with_reducible refine k_se ?_ | with_reducible refine k_bn ?_ | with_reducible refine k_br ?_ | with_reducible refine k_lr ?_ | with_reducible refine k_le ?_ | with_reducible refine k_sp ?_ | with_reducible refine k_bp ?_ | with_reducible refine k_lp ?_ | (with_reducible refine k_be ?_ ?_; exact rfl) | (with_reducible refine k_bf ?_ ?_; exact rfl))
    refine r_tmp 4 rfl (by conv => lhs; whnf) ⟨rfl, ?_, rfl⟩
    have hkm : k = xs.length := by have := of_decide_eq_false hc; omega
    have : xs = ys := by
      apply List.ext_getElem?
      intro j
      by_cases hj : j < k
      · exact hsame j hj
      · rw [List.getElem?_eq_none (by omega), List.getElem?_eq_none (by omega)]
    rw [show decide (xs = ys) = true from decide_eq_true this]
end Go.Proofs.YtfakljdleblkoaaGreat
