/-
  The law ImagesComposeSpec, on the ideal machine.
-/
import Derived.Test.YtfakljdleblkoaaGreatFnG
import Derived.Test.YtfakljdleblkoaaGreatSaneC
set_option linter.unusedSimpArgs false
set_option linter.unusedVariables false
set_option maxHeartbeats 1000000
set_option maxRecDepth 20000
namespace Go.Proofs.YtfakljdleblkoaaGreat
open Go.Ideal

noncomputable def c4 : CFunc := ⟨63, [(.tmp 4)], (.seq (.ops [2, 3, 4] [⟨⟨(some 2), none, (.box (.tmp 0) 36)⟩, []⟩, ⟨⟨(some 3), none, (.box (.tmp 1) 36)⟩, []⟩, ⟨⟨(some 4), none, (.asg (.const (.bool false)))⟩, []⟩]) (.seq (.seq (.ops [13, 14] [⟨⟨(some 13), none, (.call (.func 10) [])⟩, []⟩, ⟨⟨(some 14), none, (.un .not (.tmp 13))⟩, []⟩]) (.cond (.tmp 14) (.seq (.ops [4] [⟨⟨(some 4), none, (.asg (.const (.bool false)))⟩, []⟩]) .ret) .skip)) (.seq (.seq (.ops [15, 16, 17, 18, 19, 20, 21, 22] [⟨⟨(some 15), none, (.loadN 2 (.tmp 2))⟩, []⟩, ⟨⟨(some 16), none, (.call (.func 12) [(.tmp 15)])⟩, []⟩, ⟨⟨(some 17), none, (.un .not (.tmp 16))⟩, []⟩, ⟨⟨(some 18), none, (.mv (.tmp 17))⟩, []⟩, ⟨⟨(some 19), (some ⟨18, false⟩), (.loadN 2 (.tmp 3))⟩, []⟩, ⟨⟨(some 20), (some ⟨18, false⟩), (.call (.func 12) [(.tmp 19)])⟩, []⟩, ⟨⟨(some 21), (some ⟨18, false⟩), (.un .not (.tmp 20))⟩, []⟩, ⟨⟨(some 22), none, (.pick (.tmp 18) (.const (.bool true)) (.tmp 21))⟩, []⟩]) (.cond (.tmp 22) (.seq (.ops [4] [⟨⟨(some 4), none, (.asg (.const (.bool true)))⟩, []⟩]) .ret) .skip)) (.seq (.ops [24, 25, 26, 23, 27, 28, 5, 6] [⟨⟨(some 24), none, (.loadN 2 (.tmp 2))⟩, []⟩, ⟨⟨(some 25), none, (.loadN 2 (.tmp 3))⟩, []⟩, ⟨⟨(some 26), none, (.call (.func 15) [(.tmp 24), (.tmp 25)])⟩, []⟩, ⟨⟨(some 23), none, (.mv (.tmp 26))⟩, []⟩, ⟨⟨(some 27), none, (.extract (.tmp 23) 0)⟩, []⟩, ⟨⟨(some 28), none, (.extract (.tmp 23) 1)⟩, []⟩, ⟨⟨(some 5), none, (.new [(.slice none 0 0), (.slice none 0 0)] 36)⟩, []⟩, ⟨⟨none, none, (.store 2 (.tmp 5) (.tmp 27))⟩, []⟩, ⟨⟨(some 6), none, (.asg (.tmp 28))⟩, []⟩]) (.seq (.ops [30, 31, 32, 29, 33, 34, 7, 8] [⟨⟨(some 30), none, (.loadN 2 (.tmp 2))⟩, []⟩, ⟨⟨(some 31), none, (.loadN 2 (.tmp 3))⟩, []⟩, ⟨⟨(some 32), none, (.call (.func 16) [(.tmp 30), (.tmp 31)])⟩, []⟩, ⟨⟨(some 29), none, (.mv (.tmp 32))⟩, []⟩, ⟨⟨(some 33), none, (.extract (.tmp 29) 0)⟩, []⟩, ⟨⟨(some 34), none, (.extract (.tmp 29) 1)⟩, []⟩, ⟨⟨(some 7), none, (.new [(.slice none 0 0), (.slice none 0 0)] 36)⟩, []⟩, ⟨⟨none, none, (.store 2 (.tmp 7) (.tmp 33))⟩, []⟩, ⟨⟨(some 8), none, (.asg (.tmp 34))⟩, []⟩]) (.seq (.ops [36, 37, 35, 38, 39, 9, 10] [⟨⟨(some 36), none, (.loadN 2 (.tmp 2))⟩, []⟩, ⟨⟨(some 37), none, (.call (.func 17) [(.tmp 36)])⟩, []⟩, ⟨⟨(some 35), none, (.mv (.tmp 37))⟩, []⟩, ⟨⟨(some 38), none, (.extract (.tmp 35) 0)⟩, []⟩, ⟨⟨(some 39), none, (.extract (.tmp 35) 1)⟩, []⟩, ⟨⟨(some 9), none, (.new [(.slice none 0 0), (.slice none 0 0)] 36)⟩, []⟩, ⟨⟨none, none, (.store 2 (.tmp 9) (.tmp 38))⟩, []⟩, ⟨⟨(some 10), none, (.asg (.tmp 39))⟩, []⟩]) (.seq (.ops [41, 42, 40, 43, 44, 11, 12] [⟨⟨(some 41), none, (.loadN 2 (.tmp 2))⟩, []⟩, ⟨⟨(some 42), none, (.call (.func 18) [(.tmp 41)])⟩, []⟩, ⟨⟨(some 40), none, (.mv (.tmp 42))⟩, []⟩, ⟨⟨(some 43), none, (.extract (.tmp 40) 0)⟩, []⟩, ⟨⟨(some 44), none, (.extract (.tmp 40) 1)⟩, []⟩, ⟨⟨(some 11), none, (.new [(.slice none 0 0), (.slice none 0 0)] 36)⟩, []⟩, ⟨⟨none, none, (.store 2 (.tmp 11) (.tmp 43))⟩, []⟩, ⟨⟨(some 12), none, (.asg (.tmp 44))⟩, []⟩]) (.seq (.ops [45, 46, 47, 48, 49, 50, 51, 52, 53, 54, 55, 56, 57, 58, 59, 60, 61, 62, 4] [⟨⟨(some 45), none, (.loadN 2 (.tmp 5))⟩, []⟩, ⟨⟨(some 46), none, (.loadN 2 (.tmp 7))⟩, []⟩, ⟨⟨(some 47), none, (.call (.func 19) [(.tmp 45), (.tmp 46)])⟩, []⟩, ⟨⟨(some 48), none, (.mv (.tmp 47))⟩, []⟩, ⟨⟨(some 49), (some ⟨48, true⟩), (.mv (.tmp 6))⟩, []⟩, ⟨⟨(some 50), (some ⟨48, true⟩), (.mv (.tmp 8))⟩, []⟩, ⟨⟨(some 51), (some ⟨48, true⟩), (.bin .eql 40 (.tmp 49) (.tmp 50))⟩, []⟩, ⟨⟨(some 52), none, (.pick (.tmp 48) (.tmp 51) (.const (.bool false)))⟩, []⟩, ⟨⟨(some 53), none, (.mv (.tmp 52))⟩, []⟩, ⟨⟨(some 54), (some ⟨53, true⟩), (.loadN 2 (.tmp 9))⟩, []⟩, ⟨⟨(some 55), (some ⟨53, true⟩), (.loadN 2 (.tmp 11))⟩, []⟩, ⟨⟨(some 56), (some ⟨53, true⟩), (.call (.func 19) [(.tmp 54), (.tmp 55)])⟩, []⟩, ⟨⟨(some 57), none, (.pick (.tmp 53) (.tmp 56) (.const (.bool false)))⟩, []⟩, ⟨⟨(some 58), none, (.mv (.tmp 57))⟩, []⟩, ⟨⟨(some 59), (some ⟨58, true⟩), (.mv (.tmp 10))⟩, []⟩, ⟨⟨(some 60), (some ⟨58, true⟩), (.mv (.tmp 12))⟩, []⟩, ⟨⟨(some 61), (some ⟨58, true⟩), (.bin .eql 40 (.tmp 59) (.tmp 60))⟩, []⟩, ⟨⟨(some 62), none, (.pick (.tmp 58) (.tmp 61) (.const (.bool false)))⟩, []⟩, ⟨⟨(some 4), none, (.asg (.tmp 62))⟩, []⟩]) .ret))))))))⟩
theorem f4 : (envOf Tryz.prog noCut noMemo).F 4 = some c4 := by kernel_rfl

theorem sane_any (h : IH) : CALL Tryz.prog ⟨.func 10, [], [], none⟩ h (fun r pm h' => pm = none ∧ r = .ok (.bool true) ∧ h' = h) :=
  .memo ⟨.leaf, 0, 0⟩ (.bool true) rfl rfl rfl (Nat.zero_le _) (by rw [globals]; exact Nat.zero_le _) (by intro i o ho; cases ho) _ sane_true (fun r pm h' q => q) ⟨rfl, rfl, rfl⟩

theorem compL_len (xs ys : List Int) : (compL xs ys).1.length ≤ ys.length := by
  unfold compL; split
  · simp [prodL]
  · simp
theorem invL_len (xs : List Int) : (invL xs).1.length ≤ xs.length := by
  unfold invL; split
  · simp [invK_length]
  · simp
theorem both_len1 (c d : List Int × Int) : (both c d).1.1.length ≤ c.1.length := by
  unfold both; split <;> simp
theorem both_len2 (c d : List Int × Int) : (both c d).1.2.length ≤ d.1.length := by
  unfold both; split <;> simp

theorem law_ok {h : IH} {va vb : Value} {ac asy bc bsy : List Int} (ha : SymAt h va ac asy) (hb : SymAt h vb bc bsy) :
    CALL Tryz.prog ⟨.func 4, [va, vb], [], none⟩ h (fun r pm h' => pm = none ∧ r = .ok (.bool true) ∧ Agree h h') := by
  obtain ⟨vac, vas, rfl, hac, has⟩ := ha
  obtain ⟨vbc, vbs, rfl, hbc, hbs⟩ := hb
  refine c_fn c4 f4 ?_
  show EV _ _ (act 63 [(1, .agg ⟨[vbc, vbs]⟩), (0, .agg ⟨[vac, vas]⟩)] [] none none) h _
  refine w_seq (.ops ?_)
  refine s_box rfl rfl rfl ?_
  intro h1 hA1 hb1 hn1
  refine s_box rfl rfl rfl ?_
  intro h2 hA2 hb2 hn2
  have A2 := hb1.agree hA2
  have A3 := hb2
  have G := hA1.trans hA2
  repeat (first | refine s_skip rfl rfl ?_ | refine s_mv rfl rfl (by conv => lhs; whnf) ?_ | refine s_asg rfl rfl (by conv => lhs; whnf) ?_ | refine s_len rfl rfl rfl ?_ | refine s_lss rfl rfl rfl rfl ?_ | refine s_leq rfl rfl rfl rfl ?_ | refine s_gtr rfl rfl rfl rfl ?_ | refine s_geq rfl rfl rfl rfl ?_ | refine s_eql rfl rfl rfl rfl ?_ | refine s_neq rfl rfl rfl rfl ?_ | refine s_not rfl rfl rfl ?_ | refine s_pickT rfl rfl rfl (by conv => lhs; whnf) ?_ | refine s_pickF rfl rfl rfl (by conv => lhs; whnf) ?_ | refine s_extract rfl rfl rfl rfl ?_ | refine s_fieldA rfl rfl rfl ?_ | refine s_iface rfl rfl (by conv => lhs; whnf) ?_ | refine s_build rfl rfl rfl ?_)
  refine OPS.nil ?_
  repeat (first | with_reducible refine k_sn ?_ | with_reducible refine k_sr ?_ | with_reducible refine k_se ?_ | with_reducible refine k_bn ?_ | with_reducible refine k_br ?_ | with_reducible refine k_lr ?_ | with_reducible refine k_le ?_ | with_reducible refine k_sp ?_ | with_reducible refine k_bp ?_ | with_reducible refine k_lp ?_ | (with_reducible refine k_be ?_ ?_; exact rfl) | (with_reducible refine k_bf ?_ ?_; exact rfl))
  refine w_seq (w_seq (.ops ?_))
  refine s_call rfl rfl (.func 10) rfl _ (sane_any h2) (fun _ _ _ r hr => by cases hr) ?_ (fun ch h' hm => by cases hm.2.1) (fun r p h' hm => hm.1)
  rintro v h3 ⟨_, hv, rfl⟩
  cases hv
  repeat (first | refine s_skip rfl rfl ?_ | refine s_mv rfl rfl (by conv => lhs; whnf) ?_ | refine s_asg rfl rfl (by conv => lhs; whnf) ?_ | refine s_len rfl rfl rfl ?_ | refine s_lss rfl rfl rfl rfl ?_ | refine s_leq rfl rfl rfl rfl ?_ | refine s_gtr rfl rfl rfl rfl ?_ | refine s_geq rfl rfl rfl rfl ?_ | refine s_eql rfl rfl rfl rfl ?_ | refine s_neq rfl rfl rfl rfl ?_ | refine s_not rfl rfl rfl ?_ | refine s_pickT rfl rfl rfl (by conv => lhs; whnf) ?_ | refine s_pickF rfl rfl rfl (by conv => lhs; whnf) ?_ | refine s_extract rfl rfl rfl rfl ?_ | refine s_fieldA rfl rfl rfl ?_ | refine s_iface rfl rfl (by conv => lhs; whnf) ?_ | refine s_build rfl rfl rfl ?_)
  refine OPS.nil ?_
  repeat (first | with_reducible refine k_sn ?_ | with_reducible refine k_sr ?_ | with_reducible refine k_se ?_ | with_reducible refine k_bn ?_ | with_reducible refine k_br ?_ | with_reducible refine k_lr ?_ | with_reducible refine k_le ?_ | with_reducible refine k_sp ?_ | with_reducible refine k_bp ?_ | with_reducible refine k_lp ?_ | (with_reducible refine k_be ?_ ?_; exact rfl) | (with_reducible refine k_bf ?_ ?_; exact rfl))
  refine w_cond false rfl (fun e => by cases e) (fun _ => ?_)
  refine EV.skip ?_
  repeat (first | with_reducible refine k_sn ?_ | with_reducible refine k_sr ?_ | with_reducible refine k_se ?_ | with_reducible refine k_bn ?_ | with_reducible refine k_br ?_ | with_reducible refine k_lr ?_ | with_reducible refine k_le ?_ | with_reducible refine k_sp ?_ | with_reducible refine k_bp ?_ | with_reducible refine k_lp ?_ | (with_reducible refine k_be ?_ ?_; exact rfl) | (with_reducible refine k_bf ?_ ?_; exact rfl))
  refine w_seq (w_seq (.ops ?_))
  refine s_loadN rfl rfl rfl A2 (show ltake (ldrop [_, _] 0) 2 = some [_, _] from rfl) ?_
  refine s_call rfl rfl (.func 12) rfl _ (few_ok (c := ac) (s := asy) ⟨vac, vas, rfl, hac.agree G, has.agree G⟩) (fun _ _ _ r hr => by cases hr) ?_ (fun ch h' hm => by cases hm.2.1) (fun r p h' hm => hm.1)
  rintro v h3 ⟨_, hv, hA3⟩
  cases hv
  have A2 := A2.agree hA3
  have A3 := A3.agree hA3
  have G := G.trans hA3
  repeat (first | refine s_skip rfl rfl ?_ | refine s_mv rfl rfl (by conv => lhs; whnf) ?_ | refine s_asg rfl rfl (by conv => lhs; whnf) ?_ | refine s_len rfl rfl rfl ?_ | refine s_lss rfl rfl rfl rfl ?_ | refine s_leq rfl rfl rfl rfl ?_ | refine s_gtr rfl rfl rfl rfl ?_ | refine s_geq rfl rfl rfl rfl ?_ | refine s_eql rfl rfl rfl rfl ?_ | refine s_neq rfl rfl rfl rfl ?_ | refine s_not rfl rfl rfl ?_ | refine s_pickT rfl rfl rfl (by conv => lhs; whnf) ?_ | refine s_pickF rfl rfl rfl (by conv => lhs; whnf) ?_ | refine s_extract rfl rfl rfl rfl ?_ | refine s_fieldA rfl rfl rfl ?_ | refine s_iface rfl rfl (by conv => lhs; whnf) ?_ | refine s_build rfl rfl rfl ?_)
  by_cases ha20 : ac.length ≤ 20 ∧ asy.length ≤ 20
  rotate_left
  · rw [decide_eq_false ha20]
    repeat (first | refine s_skip rfl rfl ?_ | refine s_mv rfl rfl (by conv => lhs; whnf) ?_ | refine s_asg rfl rfl (by conv => lhs; whnf) ?_ | refine s_len rfl rfl rfl ?_ | refine s_lss rfl rfl rfl rfl ?_ | refine s_leq rfl rfl rfl rfl ?_ | refine s_gtr rfl rfl rfl rfl ?_ | refine s_geq rfl rfl rfl rfl ?_ | refine s_eql rfl rfl rfl rfl ?_ | refine s_neq rfl rfl rfl rfl ?_ | refine s_not rfl rfl rfl ?_ | refine s_pickT rfl rfl rfl (by conv => lhs; whnf) ?_ | refine s_pickF rfl rfl rfl (by conv => lhs; whnf) ?_ | refine s_extract rfl rfl rfl rfl ?_ | refine s_fieldA rfl rfl rfl ?_ | refine s_iface rfl rfl (by conv => lhs; whnf) ?_ | refine s_build rfl rfl rfl ?_)
    refine OPS.nil ?_
    repeat (first | with_reducible refine k_sn ?_ | with_reducible refine k_sr ?_ | with_reducible refine k_se ?_ | with_reducible refine k_bn ?_ | with_reducible refine k_br ?_ | with_reducible refine k_lr ?_ | with_reducible refine k_le ?_ | with_reducible refine k_sp ?_ | with_reducible refine k_bp ?_ | with_reducible refine k_lp ?_ | (with_reducible refine k_be ?_ ?_; exact rfl) | (with_reducible refine k_bf ?_ ?_; exact rfl))
    refine w_cond true rfl (fun _ => ?_) (fun e => by cases e)
    refine w_seq (.ops ?_)
    repeat (first | refine s_skip rfl rfl ?_ | refine s_mv rfl rfl (by conv => lhs; whnf) ?_ | refine s_asg rfl rfl (by conv => lhs; whnf) ?_ | refine s_len rfl rfl rfl ?_ | refine s_lss rfl rfl rfl rfl ?_ | refine s_leq rfl rfl rfl rfl ?_ | refine s_gtr rfl rfl rfl rfl ?_ | refine s_geq rfl rfl rfl rfl ?_ | refine s_eql rfl rfl rfl rfl ?_ | refine s_neq rfl rfl rfl rfl ?_ | refine s_not rfl rfl rfl ?_ | refine s_pickT rfl rfl rfl (by conv => lhs; whnf) ?_ | refine s_pickF rfl rfl rfl (by conv => lhs; whnf) ?_ | refine s_extract rfl rfl rfl rfl ?_ | refine s_fieldA rfl rfl rfl ?_ | refine s_iface rfl rfl (by conv => lhs; whnf) ?_ | refine s_build rfl rfl rfl ?_)
    refine OPS.nil ?_
    repeat (first | with_reducible refine k_sn ?_ | with_reducible refine k_sr ?_ | with_reducible refine k_se ?_ | with_reducible refine k_bn ?_ | with_reducible refine k_br ?_ | with_reducible refine k_lr ?_ | with_reducible refine k_le ?_ | with_reducible refine k_sp ?_ | with_reducible refine k_bp ?_ | with_reducible refine k_lp ?_ | (with_reducible refine k_be ?_ ?_; exact rfl) | (with_reducible refine k_bf ?_ ?_; exact rfl))
    refine EV.ret ?_
    repeat (first | with_reducible refine k_sn ?_ | with_reducible refine k_sr ?_ | with_reducible refine k_se ?_ | with_reducible refine k_bn ?_ | with_reducible refine k_br ?_ | with_reducible refine k_lr ?_ | with_reducible refine k_le ?_ | with_reducible refine k_sp ?_ | with_reducible refine k_bp ?_ | with_reducible refine k_lp ?_ | (with_reducible refine k_be ?_ ?_; exact rfl) | (with_reducible refine k_bf ?_ ?_; exact rfl))
    exact r_tmp 4 rfl (by conv => lhs; whnf) ⟨rfl, rfl, G⟩
  rw [decide_eq_true ha20]
  repeat (first | refine s_skip rfl rfl ?_ | refine s_mv rfl rfl (by conv => lhs; whnf) ?_ | refine s_asg rfl rfl (by conv => lhs; whnf) ?_ | refine s_len rfl rfl rfl ?_ | refine s_lss rfl rfl rfl rfl ?_ | refine s_leq rfl rfl rfl rfl ?_ | refine s_gtr rfl rfl rfl rfl ?_ | refine s_geq rfl rfl rfl rfl ?_ | refine s_eql rfl rfl rfl rfl ?_ | refine s_neq rfl rfl rfl rfl ?_ | refine s_not rfl rfl rfl ?_ | refine s_pickT rfl rfl rfl (by conv => lhs; whnf) ?_ | refine s_pickF rfl rfl rfl (by conv => lhs; whnf) ?_ | refine s_extract rfl rfl rfl rfl ?_ | refine s_fieldA rfl rfl rfl ?_ | refine s_iface rfl rfl (by conv => lhs; whnf) ?_ | refine s_build rfl rfl rfl ?_)
  refine s_loadN rfl rfl rfl A3 (show ltake (ldrop [_, _] 0) 2 = some [_, _] from rfl) ?_
  refine s_call rfl rfl (.func 12) rfl _ (few_ok (c := bc) (s := bsy) ⟨vbc, vbs, rfl, hbc.agree G, hbs.agree G⟩) (fun _ _ _ r hr => by cases hr) ?_ (fun ch h' hm => by cases hm.2.1) (fun r p h' hm => hm.1)
  rintro v h4 ⟨_, hv, hA4⟩
  cases hv
  have A2 := A2.agree hA4
  have A3 := A3.agree hA4
  have G := G.trans hA4
  repeat (first | refine s_skip rfl rfl ?_ | refine s_mv rfl rfl (by conv => lhs; whnf) ?_ | refine s_asg rfl rfl (by conv => lhs; whnf) ?_ | refine s_len rfl rfl rfl ?_ | refine s_lss rfl rfl rfl rfl ?_ | refine s_leq rfl rfl rfl rfl ?_ | refine s_gtr rfl rfl rfl rfl ?_ | refine s_geq rfl rfl rfl rfl ?_ | refine s_eql rfl rfl rfl rfl ?_ | refine s_neq rfl rfl rfl rfl ?_ | refine s_not rfl rfl rfl ?_ | refine s_pickT rfl rfl rfl (by conv => lhs; whnf) ?_ | refine s_pickF rfl rfl rfl (by conv => lhs; whnf) ?_ | refine s_extract rfl rfl rfl rfl ?_ | refine s_fieldA rfl rfl rfl ?_ | refine s_iface rfl rfl (by conv => lhs; whnf) ?_ | refine s_build rfl rfl rfl ?_)
  by_cases hb20 : bc.length ≤ 20 ∧ bsy.length ≤ 20
  rotate_left
  · rw [decide_eq_false hb20]
    repeat (first | refine s_skip rfl rfl ?_ | refine s_mv rfl rfl (by conv => lhs; whnf) ?_ | refine s_asg rfl rfl (by conv => lhs; whnf) ?_ | refine s_len rfl rfl rfl ?_ | refine s_lss rfl rfl rfl rfl ?_ | refine s_leq rfl rfl rfl rfl ?_ | refine s_gtr rfl rfl rfl rfl ?_ | refine s_geq rfl rfl rfl rfl ?_ | refine s_eql rfl rfl rfl rfl ?_ | refine s_neq rfl rfl rfl rfl ?_ | refine s_not rfl rfl rfl ?_ | refine s_pickT rfl rfl rfl (by conv => lhs; whnf) ?_ | refine s_pickF rfl rfl rfl (by conv => lhs; whnf) ?_ | refine s_extract rfl rfl rfl rfl ?_ | refine s_fieldA rfl rfl rfl ?_ | refine s_iface rfl rfl (by conv => lhs; whnf) ?_ | refine s_build rfl rfl rfl ?_)
    refine OPS.nil ?_
    repeat (first | with_reducible refine k_sn ?_ | with_reducible refine k_sr ?_ | with_reducible refine k_se ?_ | with_reducible refine k_bn ?_ | with_reducible refine k_br ?_ | with_reducible refine k_lr ?_ | with_reducible refine k_le ?_ | with_reducible refine k_sp ?_ | with_reducible refine k_bp ?_ | with_reducible refine k_lp ?_ | (with_reducible refine k_be ?_ ?_; exact rfl) | (with_reducible refine k_bf ?_ ?_; exact rfl))
    refine w_cond true rfl (fun _ => ?_) (fun e => by cases e)
    refine w_seq (.ops ?_)
    repeat (first | refine s_skip rfl rfl ?_ | refine s_mv rfl rfl (by conv => lhs; whnf) ?_ | refine s_asg rfl rfl (by conv => lhs; whnf) ?_ | refine s_len rfl rfl rfl ?_ | refine s_lss rfl rfl rfl rfl ?_ | refine s_leq rfl rfl rfl rfl ?_ | refine s_gtr rfl rfl rfl rfl ?_ | refine s_geq rfl rfl rfl rfl ?_ | refine s_eql rfl rfl rfl rfl ?_ | refine s_neq rfl rfl rfl rfl ?_ | refine s_not rfl rfl rfl ?_ | refine s_pickT rfl rfl rfl (by conv => lhs; whnf) ?_ | refine s_pickF rfl rfl rfl (by conv => lhs; whnf) ?_ | refine s_extract rfl rfl rfl rfl ?_ | refine s_fieldA rfl rfl rfl ?_ | refine s_iface rfl rfl (by conv => lhs; whnf) ?_ | refine s_build rfl rfl rfl ?_)
    refine OPS.nil ?_
    repeat (first | with_reducible refine k_sn ?_ | with_reducible refine k_sr ?_ | with_reducible refine k_se ?_ | with_reducible refine k_bn ?_ | with_reducible refine k_br ?_ | with_reducible refine k_lr ?_ | with_reducible refine k_le ?_ | with_reducible refine k_sp ?_ | with_reducible refine k_bp ?_ | with_reducible refine k_lp ?_ | (with_reducible refine k_be ?_ ?_; exact rfl) | (with_reducible refine k_bf ?_ ?_; exact rfl))
    refine EV.ret ?_
    repeat (first | with_reducible refine k_sn ?_ | with_reducible refine k_sr ?_ | with_reducible refine k_se ?_ | with_reducible refine k_bn ?_ | with_reducible refine k_br ?_ | with_reducible refine k_lr ?_ | with_reducible refine k_le ?_ | with_reducible refine k_sp ?_ | with_reducible refine k_bp ?_ | with_reducible refine k_lp ?_ | (with_reducible refine k_be ?_ ?_; exact rfl) | (with_reducible refine k_bf ?_ ?_; exact rfl))
    exact r_tmp 4 rfl (by conv => lhs; whnf) ⟨rfl, rfl, G⟩
  rw [decide_eq_true hb20]
  repeat (first | refine s_skip rfl rfl ?_ | refine s_mv rfl rfl (by conv => lhs; whnf) ?_ | refine s_asg rfl rfl (by conv => lhs; whnf) ?_ | refine s_len rfl rfl rfl ?_ | refine s_lss rfl rfl rfl rfl ?_ | refine s_leq rfl rfl rfl rfl ?_ | refine s_gtr rfl rfl rfl rfl ?_ | refine s_geq rfl rfl rfl rfl ?_ | refine s_eql rfl rfl rfl rfl ?_ | refine s_neq rfl rfl rfl rfl ?_ | refine s_not rfl rfl rfl ?_ | refine s_pickT rfl rfl rfl (by conv => lhs; whnf) ?_ | refine s_pickF rfl rfl rfl (by conv => lhs; whnf) ?_ | refine s_extract rfl rfl rfl rfl ?_ | refine s_fieldA rfl rfl rfl ?_ | refine s_iface rfl rfl (by conv => lhs; whnf) ?_ | refine s_build rfl rfl rfl ?_)
  refine OPS.nil ?_
  repeat (first | with_reducible refine k_sn ?_ | with_reducible refine k_sr ?_ | with_reducible refine k_se ?_ | with_reducible refine k_bn ?_ | with_reducible refine k_br ?_ | with_reducible refine k_lr ?_ | with_reducible refine k_le ?_ | with_reducible refine k_sp ?_ | with_reducible refine k_bp ?_ | with_reducible refine k_lp ?_ | (with_reducible refine k_be ?_ ?_; exact rfl) | (with_reducible refine k_bf ?_ ?_; exact rfl))
  refine w_cond false rfl (fun e => by cases e) (fun _ => ?_)
  refine EV.skip ?_
  repeat (first | with_reducible refine k_sn ?_ | with_reducible refine k_sr ?_ | with_reducible refine k_se ?_ | with_reducible refine k_bn ?_ | with_reducible refine k_br ?_ | with_reducible refine k_lr ?_ | with_reducible refine k_le ?_ | with_reducible refine k_sp ?_ | with_reducible refine k_bp ?_ | with_reducible refine k_lp ?_ | (with_reducible refine k_be ?_ ?_; exact rfl) | (with_reducible refine k_bf ?_ ?_; exact rfl))
  refine w_seq (.ops ?_)
  refine s_loadN rfl rfl rfl A2 (show ltake (ldrop [_, _] 0) 2 = some [_, _] from rfl) ?_
  refine s_loadN rfl rfl rfl A3 (show ltake (ldrop [_, _] 0) 2 = some [_, _] from rfl) ?_
  refine s_call rfl rfl (.func 15) rfl _ (icomp_ok (ac := ac) (asy := asy) (bc := bc) (bsy := bsy) ⟨vac, vas, rfl, hac.agree G, has.agree G⟩ ⟨vbc, vbs, rfl, hbc.agree G, hbs.agree G⟩ (by omega) (by omega) (by omega) (by omega)) (fun _ _ _ r hr => by cases hr) ?_ (fun ch h' hm => by obtain ⟨_, ⟨_, hv, _⟩, _⟩ := hm; cases hv) (fun r p h' hm => hm.1)
  rintro v h5 ⟨_, ⟨v1, hv, x1, x2, e1, Ix1, Ix2⟩, hA⟩
  cases hv
  subst e1
  have A2 := A2.agree hA
  have A3 := A3.agree hA
  have G := G.trans hA
  obtain ⟨qx1, cx1, rfl⟩ := Ix1.form
  obtain ⟨qx2, cx2, rfl⟩ := Ix2.form
  repeat (first | refine s_skip rfl rfl ?_ | refine s_mv rfl rfl (by conv => lhs; whnf) ?_ | refine s_asg rfl rfl (by conv => lhs; whnf) ?_ | refine s_len rfl rfl rfl ?_ | refine s_lss rfl rfl rfl rfl ?_ | refine s_leq rfl rfl rfl rfl ?_ | refine s_gtr rfl rfl rfl rfl ?_ | refine s_geq rfl rfl rfl rfl ?_ | refine s_eql rfl rfl rfl rfl ?_ | refine s_neq rfl rfl rfl rfl ?_ | refine s_not rfl rfl rfl ?_ | refine s_pickT rfl rfl rfl (by conv => lhs; whnf) ?_ | refine s_pickF rfl rfl rfl (by conv => lhs; whnf) ?_ | refine s_extract rfl rfl rfl rfl ?_ | refine s_fieldA rfl rfl rfl ?_ | refine s_iface rfl rfl (by conv => lhs; whnf) ?_ | refine s_build rfl rfl rfl ?_)
  refine s_new rfl rfl ?_
  intro h6 hA hbn hnn
  refine s_storeN rfl rfl rfl rfl hbn (show lover [.slice none 0 0, .slice none 0 0] 0 [_, _] = some [_, _] from rfl) ?_
  intro h7 hT
  have hA := hA.turn hT (Nat.le_refl _)
  have A5 := hT.at_
  have A2 := A2.agree hA
  have A3 := A3.agree hA
  have Ix1 := Ix1.agree hA
  have Ix2 := Ix2.agree hA
  have G := G.trans hA
  repeat (first | refine s_skip rfl rfl ?_ | refine s_mv rfl rfl (by conv => lhs; whnf) ?_ | refine s_asg rfl rfl (by conv => lhs; whnf) ?_ | refine s_len rfl rfl rfl ?_ | refine s_lss rfl rfl rfl rfl ?_ | refine s_leq rfl rfl rfl rfl ?_ | refine s_gtr rfl rfl rfl rfl ?_ | refine s_geq rfl rfl rfl rfl ?_ | refine s_eql rfl rfl rfl rfl ?_ | refine s_neq rfl rfl rfl rfl ?_ | refine s_not rfl rfl rfl ?_ | refine s_pickT rfl rfl rfl (by conv => lhs; whnf) ?_ | refine s_pickF rfl rfl rfl (by conv => lhs; whnf) ?_ | refine s_extract rfl rfl rfl rfl ?_ | refine s_fieldA rfl rfl rfl ?_ | refine s_iface rfl rfl (by conv => lhs; whnf) ?_ | refine s_build rfl rfl rfl ?_)
  refine OPS.nil ?_
  repeat (first | with_reducible refine k_sn ?_ | with_reducible refine k_sr ?_ | with_reducible refine k_se ?_ | with_reducible refine k_bn ?_ | with_reducible refine k_br ?_ | with_reducible refine k_lr ?_ | with_reducible refine k_le ?_ | with_reducible refine k_sp ?_ | with_reducible refine k_bp ?_ | with_reducible refine k_lp ?_ | (with_reducible refine k_be ?_ ?_; exact rfl) | (with_reducible refine k_bf ?_ ?_; exact rfl))
  refine w_seq (.ops ?_)
  refine s_loadN rfl rfl rfl A2 (show ltake (ldrop [_, _] 0) 2 = some [_, _] from rfl) ?_
  refine s_loadN rfl rfl rfl A3 (show ltake (ldrop [_, _] 0) 2 = some [_, _] from rfl) ?_
  refine s_call rfl rfl (.func 16) rfl _ (rcomp_ok (ac := ac) (asy := asy) (bc := bc) (bsy := bsy) ⟨vac, vas, rfl, hac.agree G, has.agree G⟩ ⟨vbc, vbs, rfl, hbc.agree G, hbs.agree G⟩ (by omega) (by omega) (by omega) (by omega)) (fun _ _ _ r hr => by cases hr) ?_ (fun ch h' hm => by obtain ⟨_, ⟨_, hv, _⟩, _⟩ := hm; cases hv) (fun r p h' hm => hm.1)
  rintro v h8 ⟨_, ⟨v1, hv, y1, y2, e1, Iy1, Iy2⟩, hA⟩
  cases hv
  subst e1
  have A2 := A2.agree hA
  have A3 := A3.agree hA
  have A5 := A5.agree hA
  have Ix1 := Ix1.agree hA
  have Ix2 := Ix2.agree hA
  have G := G.trans hA
  obtain ⟨qy1, cy1, rfl⟩ := Iy1.form
  obtain ⟨qy2, cy2, rfl⟩ := Iy2.form
  repeat (first | refine s_skip rfl rfl ?_ | refine s_mv rfl rfl (by conv => lhs; whnf) ?_ | refine s_asg rfl rfl (by conv => lhs; whnf) ?_ | refine s_len rfl rfl rfl ?_ | refine s_lss rfl rfl rfl rfl ?_ | refine s_leq rfl rfl rfl rfl ?_ | refine s_gtr rfl rfl rfl rfl ?_ | refine s_geq rfl rfl rfl rfl ?_ | refine s_eql rfl rfl rfl rfl ?_ | refine s_neq rfl rfl rfl rfl ?_ | refine s_not rfl rfl rfl ?_ | refine s_pickT rfl rfl rfl (by conv => lhs; whnf) ?_ | refine s_pickF rfl rfl rfl (by conv => lhs; whnf) ?_ | refine s_extract rfl rfl rfl rfl ?_ | refine s_fieldA rfl rfl rfl ?_ | refine s_iface rfl rfl (by conv => lhs; whnf) ?_ | refine s_build rfl rfl rfl ?_)
  refine s_new rfl rfl ?_
  intro h9 hA hbn hnn
  refine s_storeN rfl rfl rfl rfl hbn (show lover [.slice none 0 0, .slice none 0 0] 0 [_, _] = some [_, _] from rfl) ?_
  intro h10 hT
  have hA := hA.turn hT (Nat.le_refl _)
  have A7 := hT.at_
  have A2 := A2.agree hA
  have A3 := A3.agree hA
  have A5 := A5.agree hA
  have Ix1 := Ix1.agree hA
  have Ix2 := Ix2.agree hA
  have Iy1 := Iy1.agree hA
  have Iy2 := Iy2.agree hA
  have G := G.trans hA
  repeat (first | refine s_skip rfl rfl ?_ | refine s_mv rfl rfl (by conv => lhs; whnf) ?_ | refine s_asg rfl rfl (by conv => lhs; whnf) ?_ | refine s_len rfl rfl rfl ?_ | refine s_lss rfl rfl rfl rfl ?_ | refine s_leq rfl rfl rfl rfl ?_ | refine s_gtr rfl rfl rfl rfl ?_ | refine s_geq rfl rfl rfl rfl ?_ | refine s_eql rfl rfl rfl rfl ?_ | refine s_neq rfl rfl rfl rfl ?_ | refine s_not rfl rfl rfl ?_ | refine s_pickT rfl rfl rfl (by conv => lhs; whnf) ?_ | refine s_pickF rfl rfl rfl (by conv => lhs; whnf) ?_ | refine s_extract rfl rfl rfl rfl ?_ | refine s_fieldA rfl rfl rfl ?_ | refine s_iface rfl rfl (by conv => lhs; whnf) ?_ | refine s_build rfl rfl rfl ?_)
  refine OPS.nil ?_
  repeat (first | with_reducible refine k_sn ?_ | with_reducible refine k_sr ?_ | with_reducible refine k_se ?_ | with_reducible refine k_bn ?_ | with_reducible refine k_br ?_ | with_reducible refine k_lr ?_ | with_reducible refine k_le ?_ | with_reducible refine k_sp ?_ | with_reducible refine k_bp ?_ | with_reducible refine k_lp ?_ | (with_reducible refine k_be ?_ ?_; exact rfl) | (with_reducible refine k_bf ?_ ?_; exact rfl))
  refine w_seq (.ops ?_)
  refine s_loadN rfl rfl rfl A2 (show ltake (ldrop [_, _] 0) 2 = some [_, _] from rfl) ?_
  refine s_call rfl rfl (.func 17) rfl _ (iinv_ok (ac := ac) (asy := asy) ⟨vac, vas, rfl, hac.agree G, has.agree G⟩ (by omega) (by omega)) (fun _ _ _ r hr => by cases hr) ?_ (fun ch h' hm => by obtain ⟨_, ⟨_, hv, _⟩, _⟩ := hm; cases hv) (fun r p h' hm => hm.1)
  rintro v h11 ⟨_, ⟨v1, hv, z1, z2, e1, Iz1, Iz2⟩, hA⟩
  cases hv
  subst e1
  have A2 := A2.agree hA
  have A3 := A3.agree hA
  have A5 := A5.agree hA
  have A7 := A7.agree hA
  have Ix1 := Ix1.agree hA
  have Ix2 := Ix2.agree hA
  have Iy1 := Iy1.agree hA
  have Iy2 := Iy2.agree hA
  have G := G.trans hA
  obtain ⟨qz1, cz1, rfl⟩ := Iz1.form
  obtain ⟨qz2, cz2, rfl⟩ := Iz2.form
  repeat (first | refine s_skip rfl rfl ?_ | refine s_mv rfl rfl (by conv => lhs; whnf) ?_ | refine s_asg rfl rfl (by conv => lhs; whnf) ?_ | refine s_len rfl rfl rfl ?_ | refine s_lss rfl rfl rfl rfl ?_ | refine s_leq rfl rfl rfl rfl ?_ | refine s_gtr rfl rfl rfl rfl ?_ | refine s_geq rfl rfl rfl rfl ?_ | refine s_eql rfl rfl rfl rfl ?_ | refine s_neq rfl rfl rfl rfl ?_ | refine s_not rfl rfl rfl ?_ | refine s_pickT rfl rfl rfl (by conv => lhs; whnf) ?_ | refine s_pickF rfl rfl rfl (by conv => lhs; whnf) ?_ | refine s_extract rfl rfl rfl rfl ?_ | refine s_fieldA rfl rfl rfl ?_ | refine s_iface rfl rfl (by conv => lhs; whnf) ?_ | refine s_build rfl rfl rfl ?_)
  refine s_new rfl rfl ?_
  intro h12 hA hbn hnn
  refine s_storeN rfl rfl rfl rfl hbn (show lover [.slice none 0 0, .slice none 0 0] 0 [_, _] = some [_, _] from rfl) ?_
  intro h13 hT
  have hA := hA.turn hT (Nat.le_refl _)
  have A9 := hT.at_
  have A2 := A2.agree hA
  have A3 := A3.agree hA
  have A5 := A5.agree hA
  have A7 := A7.agree hA
  have Ix1 := Ix1.agree hA
  have Ix2 := Ix2.agree hA
  have Iy1 := Iy1.agree hA
  have Iy2 := Iy2.agree hA
  have Iz1 := Iz1.agree hA
  have Iz2 := Iz2.agree hA
  have G := G.trans hA
  repeat (first | refine s_skip rfl rfl ?_ | refine s_mv rfl rfl (by conv => lhs; whnf) ?_ | refine s_asg rfl rfl (by conv => lhs; whnf) ?_ | refine s_len rfl rfl rfl ?_ | refine s_lss rfl rfl rfl rfl ?_ | refine s_leq rfl rfl rfl rfl ?_ | refine s_gtr rfl rfl rfl rfl ?_ | refine s_geq rfl rfl rfl rfl ?_ | refine s_eql rfl rfl rfl rfl ?_ | refine s_neq rfl rfl rfl rfl ?_ | refine s_not rfl rfl rfl ?_ | refine s_pickT rfl rfl rfl (by conv => lhs; whnf) ?_ | refine s_pickF rfl rfl rfl (by conv => lhs; whnf) ?_ | refine s_extract rfl rfl rfl rfl ?_ | refine s_fieldA rfl rfl rfl ?_ | refine s_iface rfl rfl (by conv => lhs; whnf) ?_ | refine s_build rfl rfl rfl ?_)
  refine OPS.nil ?_
  repeat (first | with_reducible refine k_sn ?_ | with_reducible refine k_sr ?_ | with_reducible refine k_se ?_ | with_reducible refine k_bn ?_ | with_reducible refine k_br ?_ | with_reducible refine k_lr ?_ | with_reducible refine k_le ?_ | with_reducible refine k_sp ?_ | with_reducible refine k_bp ?_ | with_reducible refine k_lp ?_ | (with_reducible refine k_be ?_ ?_; exact rfl) | (with_reducible refine k_bf ?_ ?_; exact rfl))
  refine w_seq (.ops ?_)
  refine s_loadN rfl rfl rfl A2 (show ltake (ldrop [_, _] 0) 2 = some [_, _] from rfl) ?_
  refine s_call rfl rfl (.func 18) rfl _ (rinv_ok (ac := ac) (asy := asy) ⟨vac, vas, rfl, hac.agree G, has.agree G⟩ (by omega) (by omega)) (fun _ _ _ r hr => by cases hr) ?_ (fun ch h' hm => by obtain ⟨_, ⟨_, hv, _⟩, _⟩ := hm; cases hv) (fun r p h' hm => hm.1)
  rintro v h14 ⟨_, ⟨v1, hv, w1, w2, e1, Iw1, Iw2⟩, hA⟩
  cases hv
  subst e1
  have A2 := A2.agree hA
  have A3 := A3.agree hA
  have A5 := A5.agree hA
  have A7 := A7.agree hA
  have A9 := A9.agree hA
  have Ix1 := Ix1.agree hA
  have Ix2 := Ix2.agree hA
  have Iy1 := Iy1.agree hA
  have Iy2 := Iy2.agree hA
  have Iz1 := Iz1.agree hA
  have Iz2 := Iz2.agree hA
  have G := G.trans hA
  obtain ⟨qw1, cw1, rfl⟩ := Iw1.form
  obtain ⟨qw2, cw2, rfl⟩ := Iw2.form
  repeat (first | refine s_skip rfl rfl ?_ | refine s_mv rfl rfl (by conv => lhs; whnf) ?_ | refine s_asg rfl rfl (by conv => lhs; whnf) ?_ | refine s_len rfl rfl rfl ?_ | refine s_lss rfl rfl rfl rfl ?_ | refine s_leq rfl rfl rfl rfl ?_ | refine s_gtr rfl rfl rfl rfl ?_ | refine s_geq rfl rfl rfl rfl ?_ | refine s_eql rfl rfl rfl rfl ?_ | refine s_neq rfl rfl rfl rfl ?_ | refine s_not rfl rfl rfl ?_ | refine s_pickT rfl rfl rfl (by conv => lhs; whnf) ?_ | refine s_pickF rfl rfl rfl (by conv => lhs; whnf) ?_ | refine s_extract rfl rfl rfl rfl ?_ | refine s_fieldA rfl rfl rfl ?_ | refine s_iface rfl rfl (by conv => lhs; whnf) ?_ | refine s_build rfl rfl rfl ?_)
  refine s_new rfl rfl ?_
  intro h15 hA hbn hnn
  refine s_storeN rfl rfl rfl rfl hbn (show lover [.slice none 0 0, .slice none 0 0] 0 [_, _] = some [_, _] from rfl) ?_
  intro h16 hT
  have hA := hA.turn hT (Nat.le_refl _)
  have A11 := hT.at_
  have A2 := A2.agree hA
  have A3 := A3.agree hA
  have A5 := A5.agree hA
  have A7 := A7.agree hA
  have A9 := A9.agree hA
  have Ix1 := Ix1.agree hA
  have Ix2 := Ix2.agree hA
  have Iy1 := Iy1.agree hA
  have Iy2 := Iy2.agree hA
  have Iz1 := Iz1.agree hA
  have Iz2 := Iz2.agree hA
  have Iw1 := Iw1.agree hA
  have Iw2 := Iw2.agree hA
  have G := G.trans hA
  repeat (first | refine s_skip rfl rfl ?_ | refine s_mv rfl rfl (by conv => lhs; whnf) ?_ | refine s_asg rfl rfl (by conv => lhs; whnf) ?_ | refine s_len rfl rfl rfl ?_ | refine s_lss rfl rfl rfl rfl ?_ | refine s_leq rfl rfl rfl rfl ?_ | refine s_gtr rfl rfl rfl rfl ?_ | refine s_geq rfl rfl rfl rfl ?_ | refine s_eql rfl rfl rfl rfl ?_ | refine s_neq rfl rfl rfl rfl ?_ | refine s_not rfl rfl rfl ?_ | refine s_pickT rfl rfl rfl (by conv => lhs; whnf) ?_ | refine s_pickF rfl rfl rfl (by conv => lhs; whnf) ?_ | refine s_extract rfl rfl rfl rfl ?_ | refine s_fieldA rfl rfl rfl ?_ | refine s_iface rfl rfl (by conv => lhs; whnf) ?_ | refine s_build rfl rfl rfl ?_)
  refine OPS.nil ?_
  repeat (first | with_reducible refine k_sn ?_ | with_reducible refine k_sr ?_ | with_reducible refine k_se ?_ | with_reducible refine k_bn ?_ | with_reducible refine k_br ?_ | with_reducible refine k_lr ?_ | with_reducible refine k_le ?_ | with_reducible refine k_sp ?_ | with_reducible refine k_bp ?_ | with_reducible refine k_lp ?_ | (with_reducible refine k_be ?_ ?_; exact rfl) | (with_reducible refine k_bf ?_ ?_; exact rfl))
  have lx1 : (both (compL ac bc) (compL asy bsy)).1.1.length ≤ 1000000 := by
    have := both_len1 (compL ac bc) (compL asy bsy)
    have := compL_len ac bc
    omega
  have lx2 : (both (compL ac bc) (compL asy bsy)).1.2.length ≤ 1000000 := by
    have := both_len2 (compL ac bc) (compL asy bsy)
    have := compL_len asy bsy
    omega
  have lz1 : (both (invL ac) (invL asy)).1.1.length ≤ 1000000 := by
    have := both_len1 (invL ac) (invL asy)
    have := invL_len ac
    omega
  have lz2 : (both (invL ac) (invL asy)).1.2.length ≤ 1000000 := by
    have := both_len2 (invL ac) (invL asy)
    have := invL_len asy
    omega
  refine w_seq (.ops ?_)
  refine s_loadN rfl rfl rfl A5 (show ltake (ldrop [_, _] 0) 2 = some [_, _] from rfl) ?_
  refine s_loadN rfl rfl rfl A7 (show ltake (ldrop [_, _] 0) 2 = some [_, _] from rfl) ?_
  refine s_call rfl rfl (.func 19) rfl _ (symsame_ok ⟨_, _, rfl, Ix1, Ix2⟩ ⟨_, _, rfl, Iy1, Iy2⟩ lx1 lx2) (fun _ _ _ r hr => by cases hr) ?_ (fun ch h' hm => by cases hm.2.1) (fun r p h' hm => hm.1)
  rintro v h17 ⟨_, hv, hA⟩
  cases hv
  have A9 := A9.agree hA
  have A11 := A11.agree hA
  have Iz1 := Iz1.agree hA
  have Iz2 := Iz2.agree hA
  have Iw1 := Iw1.agree hA
  have Iw2 := Iw2.agree hA
  have G := G.trans hA
  rw [decide_eq_true ⟨rfl, rfl⟩]
  repeat (first | refine s_skip rfl rfl ?_ | refine s_mv rfl rfl (by conv => lhs; whnf) ?_ | refine s_asg rfl rfl (by conv => lhs; whnf) ?_ | refine s_len rfl rfl rfl ?_ | refine s_lss rfl rfl rfl rfl ?_ | refine s_leq rfl rfl rfl rfl ?_ | refine s_gtr rfl rfl rfl rfl ?_ | refine s_geq rfl rfl rfl rfl ?_ | refine s_eql rfl rfl rfl rfl ?_ | refine s_neq rfl rfl rfl rfl ?_ | refine s_not rfl rfl rfl ?_ | refine s_pickT rfl rfl rfl (by conv => lhs; whnf) ?_ | refine s_pickF rfl rfl rfl (by conv => lhs; whnf) ?_ | refine s_extract rfl rfl rfl rfl ?_ | refine s_fieldA rfl rfl rfl ?_ | refine s_iface rfl rfl (by conv => lhs; whnf) ?_ | refine s_build rfl rfl rfl ?_)
  rw [decide_eq_true rfl]
  repeat (first | refine s_skip rfl rfl ?_ | refine s_mv rfl rfl (by conv => lhs; whnf) ?_ | refine s_asg rfl rfl (by conv => lhs; whnf) ?_ | refine s_len rfl rfl rfl ?_ | refine s_lss rfl rfl rfl rfl ?_ | refine s_leq rfl rfl rfl rfl ?_ | refine s_gtr rfl rfl rfl rfl ?_ | refine s_geq rfl rfl rfl rfl ?_ | refine s_eql rfl rfl rfl rfl ?_ | refine s_neq rfl rfl rfl rfl ?_ | refine s_not rfl rfl rfl ?_ | refine s_pickT rfl rfl rfl (by conv => lhs; whnf) ?_ | refine s_pickF rfl rfl rfl (by conv => lhs; whnf) ?_ | refine s_extract rfl rfl rfl rfl ?_ | refine s_fieldA rfl rfl rfl ?_ | refine s_iface rfl rfl (by conv => lhs; whnf) ?_ | refine s_build rfl rfl rfl ?_)
  refine s_loadN rfl rfl rfl A9 (show ltake (ldrop [_, _] 0) 2 = some [_, _] from rfl) ?_
  refine s_loadN rfl rfl rfl A11 (show ltake (ldrop [_, _] 0) 2 = some [_, _] from rfl) ?_
  refine s_call rfl rfl (.func 19) rfl _ (symsame_ok ⟨_, _, rfl, Iz1, Iz2⟩ ⟨_, _, rfl, Iw1, Iw2⟩ lz1 lz2) (fun _ _ _ r hr => by cases hr) ?_ (fun ch h' hm => by cases hm.2.1) (fun r p h' hm => hm.1)
  rintro v h18 ⟨_, hv, hA⟩
  cases hv
  have G := G.trans hA
  rw [decide_eq_true ⟨rfl, rfl⟩]
  repeat (first | refine s_skip rfl rfl ?_ | refine s_mv rfl rfl (by conv => lhs; whnf) ?_ | refine s_asg rfl rfl (by conv => lhs; whnf) ?_ | refine s_len rfl rfl rfl ?_ | refine s_lss rfl rfl rfl rfl ?_ | refine s_leq rfl rfl rfl rfl ?_ | refine s_gtr rfl rfl rfl rfl ?_ | refine s_geq rfl rfl rfl rfl ?_ | refine s_eql rfl rfl rfl rfl ?_ | refine s_neq rfl rfl rfl rfl ?_ | refine s_not rfl rfl rfl ?_ | refine s_pickT rfl rfl rfl (by conv => lhs; whnf) ?_ | refine s_pickF rfl rfl rfl (by conv => lhs; whnf) ?_ | refine s_extract rfl rfl rfl rfl ?_ | refine s_fieldA rfl rfl rfl ?_ | refine s_iface rfl rfl (by conv => lhs; whnf) ?_ | refine s_build rfl rfl rfl ?_)
  rw [decide_eq_true rfl]
  repeat (first | refine s_skip rfl rfl ?_ | refine s_mv rfl rfl (by conv => lhs; whnf) ?_ | refine s_asg rfl rfl (by conv => lhs; whnf) ?_ | refine s_len rfl rfl rfl ?_ | refine s_lss rfl rfl rfl rfl ?_ | refine s_leq rfl rfl rfl rfl ?_ | refine s_gtr rfl rfl rfl rfl ?_ | refine s_geq rfl rfl rfl rfl ?_ | refine s_eql rfl rfl rfl rfl ?_ | refine s_neq rfl rfl rfl rfl ?_ | refine s_not rfl rfl rfl ?_ | refine s_pickT rfl rfl rfl (by conv => lhs; whnf) ?_ | refine s_pickF rfl rfl rfl (by conv => lhs; whnf) ?_ | refine s_extract rfl rfl rfl rfl ?_ | refine s_fieldA rfl rfl rfl ?_ | refine s_iface rfl rfl (by conv => lhs; whnf) ?_ | refine s_build rfl rfl rfl ?_)
  refine OPS.nil ?_
  repeat (first | with_reducible refine k_sn ?_ | with_reducible refine k_sr ?_ | with_reducible refine k_se ?_ | with_reducible refine k_bn ?_ | with_reducible refine k_br ?_ | with_reducible refine k_lr ?_ | with_reducible refine k_le ?_ | with_reducible refine k_sp ?_ | with_reducible refine k_bp ?_ | with_reducible refine k_lp ?_ | (with_reducible refine k_be ?_ ?_; exact rfl) | (with_reducible refine k_bf ?_ ?_; exact rfl))
  refine EV.ret ?_
  repeat (first | with_reducible refine k_sn ?_ | with_reducible refine k_sr ?_ | with_reducible refine k_se ?_ | with_reducible refine k_bn ?_ | with_reducible refine k_br ?_ | with_reducible refine k_lr ?_ | with_reducible refine k_le ?_ | with_reducible refine k_sp ?_ | with_reducible refine k_bp ?_ | with_reducible refine k_lp ?_ | (with_reducible refine k_be ?_ ?_; exact rfl) | (with_reducible refine k_bf ?_ ?_; exact rfl))
  exact r_tmp 4 rfl (by conv => lhs; whnf) ⟨rfl, rfl, G⟩
end Go.Proofs.YtfakljdleblkoaaGreat
