/-
  images.Compose and images.Inverse.
-/
import Derived.Test.YtfakljdleblkoaaGreatFnE
set_option linter.unusedSimpArgs false
set_option linter.unusedVariables false
set_option maxHeartbeats 1000000
set_option maxRecDepth 20000
namespace Go.Proofs.YtfakljdleblkoaaGreat
open Go.Ideal

theorem compL_snd (xs ys : List Int) : (compL xs ys).2 = 0 ∨ (compL xs ys).2 = 110 := by
  unfold compL; split
  · exact .inl rfl
  · exact .inr rfl
theorem invL_snd (xs : List Int) : (invL xs).2 = 0 ∨ (invL xs).2 = 110 := by
  unfold invL; split
  · exact .inl rfl
  · exact .inr rfl

theorem icomp_ok {h : IH} {va vb : Value} {ac asy bc bsy : List Int} (ha : SymAt h va ac asy) (hb : SymAt h vb bc bsy) (l1 : ac.length ≤ 1000000) (l2 : asy.length ≤ 1000000) (l3 : bc.length ≤ 1000000) (l4 : bsy.length ≤ 1000000) :
    CALL Tryz.prog ⟨.func 15, [va, vb], [], none⟩ h (SymK h (both (compL ac bc) (compL asy bsy))) := by
  obtain ⟨vac, vas, rfl, hac, has⟩ := ha
  obtain ⟨vbc, vbs, rfl, hbc, hbs⟩ := hb
  refine c_defersF c15 f15 ?_
  show EV _ _ (act 27 [(1, .agg ⟨[vbc, vbs]⟩), (0, .agg ⟨[vac, vas]⟩)] [] none none) h _
  refine w_seq (.ops ?_)
  refine s_box rfl rfl rfl ?_
  intro h1 hA1 hb1 hn1
  refine s_box rfl rfl rfl ?_
  intro h2 hA2 hb2 hn2
  refine s_new rfl rfl ?_
  intro h3 hA3 hb3 hn3
  refine s_new rfl rfl ?_
  intro h4 hA4 hb4 hn4
  have A1 := ((hb1.agree hA2).agree hA3).agree hA4
  have A2 := (hb2.agree hA3).agree hA4
  have A4 := hb3.agree hA4
  have A5 := hb4
  have G := ((hA1.trans hA2).trans hA3).trans hA4
  have hne : h2.next ≠ h3.next := by omega
  have h4n : h.next ≤ h2.next := by omega
  have h5n : h.next ≤ h3.next := by omega
  repeat (first | refine s_skip rfl rfl ?_ | refine s_mv rfl rfl (by conv => lhs; whnf) ?_ | refine s_asg rfl rfl (by conv => lhs; whnf) ?_ | refine s_len rfl rfl rfl ?_ | refine s_lss rfl rfl rfl rfl ?_ | refine s_leq rfl rfl rfl rfl ?_ | refine s_gtr rfl rfl rfl rfl ?_ | refine s_geq rfl rfl rfl rfl ?_ | refine s_eql rfl rfl rfl rfl ?_ | refine s_neq rfl rfl rfl rfl ?_ | refine s_not rfl rfl rfl ?_ | refine s_pickT rfl rfl rfl (by conv => lhs; whnf) ?_ | refine s_pickF rfl rfl rfl (by conv => lhs; whnf) ?_ | refine s_extract rfl rfl rfl rfl ?_ | refine s_fieldA rfl rfl rfl ?_ | refine s_iface rfl rfl (by conv => lhs; whnf) ?_ | refine s_build rfl rfl rfl ?_)
  refine OPS.nil ?_
  repeat (first | with_reducible refine k_sn ?_ | with_reducible refine k_sr ?_ | with_reducible refine k_se ?_ | with_reducible refine k_bn ?_ | with_reducible refine k_br ?_ | with_reducible refine k_lr ?_ | with_reducible refine k_le ?_ | with_reducible refine k_sp ?_ | with_reducible refine k_bp ?_ | with_reducible refine k_lp ?_ | (with_reducible refine k_be ?_ ?_; exact rfl) | (with_reducible refine k_bf ?_ ?_; exact rfl))
  refine w_seq (.ops ?_)
  refine s_dcall rfl rfl rfl ?_
  repeat (first | refine s_skip rfl rfl ?_ | refine s_mv rfl rfl (by conv => lhs; whnf) ?_ | refine s_asg rfl rfl (by conv => lhs; whnf) ?_ | refine s_len rfl rfl rfl ?_ | refine s_lss rfl rfl rfl rfl ?_ | refine s_leq rfl rfl rfl rfl ?_ | refine s_gtr rfl rfl rfl rfl ?_ | refine s_geq rfl rfl rfl rfl ?_ | refine s_eql rfl rfl rfl rfl ?_ | refine s_neq rfl rfl rfl rfl ?_ | refine s_not rfl rfl rfl ?_ | refine s_pickT rfl rfl rfl (by conv => lhs; whnf) ?_ | refine s_pickF rfl rfl rfl (by conv => lhs; whnf) ?_ | refine s_extract rfl rfl rfl rfl ?_ | refine s_fieldA rfl rfl rfl ?_ | refine s_iface rfl rfl (by conv => lhs; whnf) ?_ | refine s_build rfl rfl rfl ?_)
  refine OPS.nil ?_
  repeat (first | with_reducible refine k_sn ?_ | with_reducible refine k_sr ?_ | with_reducible refine k_se ?_ | with_reducible refine k_bn ?_ | with_reducible refine k_br ?_ | with_reducible refine k_lr ?_ | with_reducible refine k_le ?_ | with_reducible refine k_sp ?_ | with_reducible refine k_bp ?_ | with_reducible refine k_lp ?_ | (with_reducible refine k_be ?_ ?_; exact rfl) | (with_reducible refine k_bf ?_ ?_; exact rfl))
  have hpan : ∀ (l' : List (Nat × Value)) (h' : IH), lk l' 4 = ptr h2.next → lk l' 5 = ptr h3.next → At h' h2.next (.cells [.slice none 0 0, .slice none 0 0]) → At h' h3.next (.cells [.int .i64 0]) → Agree h h' → (both (compL ac bc) (compL asy bsy)) = (([], []), 230) →
      LEAVE Tryz.prog c15 (envT l') [{ target := .fn (.func 34) ⟨[]⟩, args := ⟨[ptr h3.next]⟩ }] (.panicking [{ v := .iface 40 (.int .i64 230), recovered := false }]) h' (fun r h'' => SymK h (both (compL ac bc) (compL asy bsy)) r none h'') := by
    intro l' h' q4 q5 A4' A5' G' hb
    refine leave_pan2 rfl q4 q5 A4' A5' hne ?_
    intro h'' hT
    rw [hb]
    exact ⟨rfl, ⟨_, rfl, _, _, rfl, nil_ints _, nil_ints _⟩, G'.turn hT h5n⟩
  refine w_seq (.ops ?_)
  refine s_fieldA rfl rfl rfl ?_
  refine s_load1 rfl rfl rfl A1 rfl ?_
  refine s_fieldA rfl rfl rfl ?_
  refine s_load1 rfl rfl rfl A2 rfl ?_
  refine s_fieldA rfl rfl rfl ?_
  refine s_load1 rfl rfl rfl A1 rfl ?_
  refine s_fieldA rfl rfl rfl ?_
  refine s_load1 rfl rfl rfl A2 rfl ?_
  refine s_call rfl rfl _ rfl _ (comp36_ok (hac.agree G) (hbc.agree G) l1 l3) ?_ ?_ (fun ch h' hm => by obtain ⟨_, ⟨_, hv, _⟩, _⟩ := hm; cases hv) (fun r p h' hm => hm.1)
  · intro v h' hm r hr
    simp only [List.mem_cons, List.not_mem_nil, or_false] at hr
    rcases hr with rfl | rfl
    · exact ⟨_, _, run_load1 rfl (A2.agree hm.2.2) rfl, fun d' e => by cases e; rfl⟩
    · exact ⟨_, _, run_load1 rfl (A1.agree hm.2.2) rfl, fun d' e => by cases e; rfl⟩
  rintro v h5 ⟨_, ⟨v1, hv, hi1, hn1'⟩, hA5⟩
  cases hv
  repeat (first | refine s_skip rfl rfl ?_ | refine s_mv rfl rfl (by conv => lhs; whnf) ?_ | refine s_asg rfl rfl (by conv => lhs; whnf) ?_ | refine s_len rfl rfl rfl ?_ | refine s_lss rfl rfl rfl rfl ?_ | refine s_leq rfl rfl rfl rfl ?_ | refine s_gtr rfl rfl rfl rfl ?_ | refine s_geq rfl rfl rfl rfl ?_ | refine s_eql rfl rfl rfl rfl ?_ | refine s_neq rfl rfl rfl rfl ?_ | refine s_not rfl rfl rfl ?_ | refine s_pickT rfl rfl rfl (by conv => lhs; whnf) ?_ | refine s_pickF rfl rfl rfl (by conv => lhs; whnf) ?_ | refine s_extract rfl rfl rfl rfl ?_ | refine s_fieldA rfl rfl rfl ?_ | refine s_iface rfl rfl (by conv => lhs; whnf) ?_ | refine s_build rfl rfl rfl ?_)
  have A4' := A4.agree hA5
  have A5' := A5.agree hA5
  refine s_call rfl rfl (.func 35) rfl _ must_ok ?_ ?_ ?_ (fun r p h' hm => hm.1)
  · rintro v h' ⟨_, rfl, _⟩ r hr
    simp only [List.mem_cons, List.not_mem_nil, or_false] at hr
    rcases hr with rfl | rfl
    · exact ⟨_, _, run_load1 rfl (A2.agree hA5) rfl, fun d' e => by cases e; rfl⟩
    · exact ⟨_, _, run_load1 rfl (A1.agree hA5) rfl, fun d' e => by cases e; rfl⟩
  · rintro w1 h6 ⟨_, rfl, e0, e1⟩
    have he : ((compL ac bc)).2 = 0 := by
      apply Classical.byContradiction
      intro hne0
      have := e1 hne0
      cases this
    have e0' := e0 he
    injection e0' with e0'
    subst e0'
    refine s_call rfl rfl _ rfl _ (comp36_ok (has.agree (G.trans hA5)) (hbs.agree (G.trans hA5)) l2 l4) (fun _ _ _ r hr => by cases hr) ?_ (fun ch h' hm => by obtain ⟨_, ⟨_, hv, _⟩, _⟩ := hm; cases hv) (fun r p h' hm => hm.1)
    rintro v h7 ⟨_, ⟨v2, hv, hi2, hn2'⟩, hA7⟩
    cases hv
    repeat (first | refine s_skip rfl rfl ?_ | refine s_mv rfl rfl (by conv => lhs; whnf) ?_ | refine s_asg rfl rfl (by conv => lhs; whnf) ?_ | refine s_len rfl rfl rfl ?_ | refine s_lss rfl rfl rfl rfl ?_ | refine s_leq rfl rfl rfl rfl ?_ | refine s_gtr rfl rfl rfl rfl ?_ | refine s_geq rfl rfl rfl rfl ?_ | refine s_eql rfl rfl rfl rfl ?_ | refine s_neq rfl rfl rfl rfl ?_ | refine s_not rfl rfl rfl ?_ | refine s_pickT rfl rfl rfl (by conv => lhs; whnf) ?_ | refine s_pickF rfl rfl rfl (by conv => lhs; whnf) ?_ | refine s_extract rfl rfl rfl rfl ?_ | refine s_fieldA rfl rfl rfl ?_ | refine s_iface rfl rfl (by conv => lhs; whnf) ?_ | refine s_build rfl rfl rfl ?_)
    refine s_call rfl rfl (.func 35) rfl _ must_ok (fun _ _ _ r hr => by cases hr) ?_ ?_ (fun r p h' hm => hm.1)
    · rintro w2 h8 ⟨_, rfl, e0, e1⟩
      have he2 : ((compL asy bsy)).2 = 0 := by
        apply Classical.byContradiction
        intro hne0
        have := e1 hne0
        cases this
      have e0' := e0 he2
      injection e0' with e0'
      subst e0'
      obtain ⟨q1, c1, rfl⟩ := hi1.form
      obtain ⟨q2, c2, rfl⟩ := hi2.form
      repeat (first | refine s_skip rfl rfl ?_ | refine s_mv rfl rfl (by conv => lhs; whnf) ?_ | refine s_asg rfl rfl (by conv => lhs; whnf) ?_ | refine s_len rfl rfl rfl ?_ | refine s_lss rfl rfl rfl rfl ?_ | refine s_leq rfl rfl rfl rfl ?_ | refine s_gtr rfl rfl rfl rfl ?_ | refine s_geq rfl rfl rfl rfl ?_ | refine s_eql rfl rfl rfl rfl ?_ | refine s_neq rfl rfl rfl rfl ?_ | refine s_not rfl rfl rfl ?_ | refine s_pickT rfl rfl rfl (by conv => lhs; whnf) ?_ | refine s_pickF rfl rfl rfl (by conv => lhs; whnf) ?_ | refine s_extract rfl rfl rfl rfl ?_ | refine s_fieldA rfl rfl rfl ?_ | refine s_iface rfl rfl (by conv => lhs; whnf) ?_ | refine s_build rfl rfl rfl ?_)
      refine OPS.nil ?_
      repeat (first | with_reducible refine k_sn ?_ | with_reducible refine k_sr ?_ | with_reducible refine k_se ?_ | with_reducible refine k_bn ?_ | with_reducible refine k_br ?_ | with_reducible refine k_lr ?_ | with_reducible refine k_le ?_ | with_reducible refine k_sp ?_ | with_reducible refine k_bp ?_ | with_reducible refine k_lp ?_ | (with_reducible refine k_be ?_ ?_; exact rfl) | (with_reducible refine k_bf ?_ ?_; exact rfl))
      refine w_seq (.ops ?_)
      repeat (first | refine s_skip rfl rfl ?_ | refine s_mv rfl rfl (by conv => lhs; whnf) ?_ | refine s_asg rfl rfl (by conv => lhs; whnf) ?_ | refine s_len rfl rfl rfl ?_ | refine s_lss rfl rfl rfl rfl ?_ | refine s_leq rfl rfl rfl rfl ?_ | refine s_gtr rfl rfl rfl rfl ?_ | refine s_geq rfl rfl rfl rfl ?_ | refine s_eql rfl rfl rfl rfl ?_ | refine s_neq rfl rfl rfl rfl ?_ | refine s_not rfl rfl rfl ?_ | refine s_pickT rfl rfl rfl (by conv => lhs; whnf) ?_ | refine s_pickF rfl rfl rfl (by conv => lhs; whnf) ?_ | refine s_extract rfl rfl rfl rfl ?_ | refine s_fieldA rfl rfl rfl ?_ | refine s_iface rfl rfl (by conv => lhs; whnf) ?_ | refine s_build rfl rfl rfl ?_)
      refine s_storeN rfl rfl rfl rfl (A4'.agree hA7) (show lover [.slice none 0 0, .slice none 0 0] 0 [_, _] = some [_, _] from rfl) ?_
      intro h9 hT9
      refine s_store1 rfl rfl (by conv => lhs; whnf) rfl ((A5'.agree hA7).turn hT9 (Ne.symm hne)) (by simp) ?_
      intro h10 hT10
      repeat (first | refine s_skip rfl rfl ?_ | refine s_mv rfl rfl (by conv => lhs; whnf) ?_ | refine s_asg rfl rfl (by conv => lhs; whnf) ?_ | refine s_len rfl rfl rfl ?_ | refine s_lss rfl rfl rfl rfl ?_ | refine s_leq rfl rfl rfl rfl ?_ | refine s_gtr rfl rfl rfl rfl ?_ | refine s_geq rfl rfl rfl rfl ?_ | refine s_eql rfl rfl rfl rfl ?_ | refine s_neq rfl rfl rfl rfl ?_ | refine s_not rfl rfl rfl ?_ | refine s_pickT rfl rfl rfl (by conv => lhs; whnf) ?_ | refine s_pickF rfl rfl rfl (by conv => lhs; whnf) ?_ | refine s_extract rfl rfl rfl rfl ?_ | refine s_fieldA rfl rfl rfl ?_ | refine s_iface rfl rfl (by conv => lhs; whnf) ?_ | refine s_build rfl rfl rfl ?_)
      refine OPS.nil ?_
      repeat (first | with_reducible refine k_sn ?_ | with_reducible refine k_sr ?_ | with_reducible refine k_se ?_ | with_reducible refine k_bn ?_ | with_reducible refine k_br ?_ | with_reducible refine k_lr ?_ | with_reducible refine k_le ?_ | with_reducible refine k_sp ?_ | with_reducible refine k_bp ?_ | with_reducible refine k_lp ?_ | (with_reducible refine k_be ?_ ?_; exact rfl) | (with_reducible refine k_bf ?_ ?_; exact rfl))
      refine EV.ret ?_
      repeat (first | with_reducible refine k_sn ?_ | with_reducible refine k_sr ?_ | with_reducible refine k_se ?_ | with_reducible refine k_bn ?_ | with_reducible refine k_br ?_ | with_reducible refine k_lr ?_ | with_reducible refine k_le ?_ | with_reducible refine k_sp ?_ | with_reducible refine k_bp ?_ | with_reducible refine k_lp ?_ | (with_reducible refine k_be ?_ ?_; exact rfl) | (with_reducible refine k_bf ?_ ?_; exact rfl))
      refine l_ret ?_
      refine leave_ret2 rfl rfl rfl (hT9.at_.turn hT10 hne) hT10.at_ ?_
      have GG := ((((G.trans hA5).trans hA7).turn hT9 h4n)).turn hT10 h5n
      have hbo : both (compL ac bc) (compL asy bsy) = ((((compL ac bc)).1, ((compL asy bsy)).1), 0) := by rw [both, if_pos ⟨he, he2⟩]
      rw [hbo]
      have k1 : h3.next < h4.next := by omega
      have k2 : h2.next < h4.next := by omega
      have k3 := hA5.next
      have i1 := ints_turn (ints_turn (hi1.agree hA7) hT9 hn1' k2) hT10 hn1' k1
      have i2 := ints_turn (ints_turn hi2 hT9 hn2' (by omega)) hT10 hn2' (by omega)
      exact ⟨rfl, ⟨_, rfl, _, _, rfl, i1, i2⟩, GG⟩
    · rintro ch h8 ⟨_, rfl, e0, e1⟩
      have he2 : ((compL asy bsy)).2 ≠ 0 := by
        intro he
        have := e0 he
        cases this
      have := e1 he2
      cases this
      rw [forget_act]
      repeat (first | with_reducible refine k_sn ?_ | with_reducible refine k_sr ?_ | with_reducible refine k_se ?_ | with_reducible refine k_bn ?_ | with_reducible refine k_br ?_ | with_reducible refine k_lr ?_ | with_reducible refine k_le ?_ | with_reducible refine k_sp ?_ | with_reducible refine k_bp ?_ | with_reducible refine k_lp ?_ | (with_reducible refine k_be ?_ ?_; exact rfl) | (with_reducible refine k_bf ?_ ?_; exact rfl))
      refine l_pan ?_
      exact hpan _ _ rfl rfl (A4'.agree hA7) (A5'.agree hA7) ((G.trans hA5).trans hA7) (by rw [both, if_neg (fun q => he2 q.2)])
  · rintro ch h6 ⟨_, rfl, e0, e1⟩
    have he : ((compL ac bc)).2 ≠ 0 := by
      intro he
      have := e0 he
      cases this
    have := e1 he
    cases this
    rw [forget_act]
    repeat (first | with_reducible refine k_sn ?_ | with_reducible refine k_sr ?_ | with_reducible refine k_se ?_ | with_reducible refine k_bn ?_ | with_reducible refine k_br ?_ | with_reducible refine k_lr ?_ | with_reducible refine k_le ?_ | with_reducible refine k_sp ?_ | with_reducible refine k_bp ?_ | with_reducible refine k_lp ?_ | (with_reducible refine k_be ?_ ?_; exact rfl) | (with_reducible refine k_bf ?_ ?_; exact rfl))
    refine l_pan ?_
    exact hpan _ _ rfl rfl A4' A5' (G.trans hA5) (by rw [both, if_neg (fun q => he q.1)])

theorem iinv_ok {h : IH} {va : Value} {ac asy : List Int} (ha : SymAt h va ac asy) (l1 : ac.length ≤ 1000000) (l2 : asy.length ≤ 1000000) :
    CALL Tryz.prog ⟨.func 17, [va], [], none⟩ h (SymK h (both (invL ac) (invL asy))) := by
  obtain ⟨vac, vas, rfl, hac, has⟩ := ha
  refine c_defersF c17 f17 ?_
  show EV _ _ (act 21 [(0, .agg ⟨[vac, vas]⟩)] [] none none) h _
  refine w_seq (.ops ?_)
  refine s_box rfl rfl rfl ?_
  intro h1 hA1 hb1 hn1
  refine s_new rfl rfl ?_
  intro h3 hA3 hb3 hn3
  refine s_new rfl rfl ?_
  intro h4 hA4 hb4 hn4
  have A1 := (hb1.agree hA3).agree hA4
  have A4 := hb3.agree hA4
  have A5 := hb4
  have G := (hA1.trans hA3).trans hA4
  have hne : h1.next ≠ h3.next := by omega
  have h4n : h.next ≤ h1.next := by omega
  have h5n : h.next ≤ h3.next := by omega
  repeat (first | refine s_skip rfl rfl ?_ | refine s_mv rfl rfl (by conv => lhs; whnf) ?_ | refine s_asg rfl rfl (by conv => lhs; whnf) ?_ | refine s_len rfl rfl rfl ?_ | refine s_lss rfl rfl rfl rfl ?_ | refine s_leq rfl rfl rfl rfl ?_ | refine s_gtr rfl rfl rfl rfl ?_ | refine s_geq rfl rfl rfl rfl ?_ | refine s_eql rfl rfl rfl rfl ?_ | refine s_neq rfl rfl rfl rfl ?_ | refine s_not rfl rfl rfl ?_ | refine s_pickT rfl rfl rfl (by conv => lhs; whnf) ?_ | refine s_pickF rfl rfl rfl (by conv => lhs; whnf) ?_ | refine s_extract rfl rfl rfl rfl ?_ | refine s_fieldA rfl rfl rfl ?_ | refine s_iface rfl rfl (by conv => lhs; whnf) ?_ | refine s_build rfl rfl rfl ?_)
  refine OPS.nil ?_
  repeat (first | with_reducible refine k_sn ?_ | with_reducible refine k_sr ?_ | with_reducible refine k_se ?_ | with_reducible refine k_bn ?_ | with_reducible refine k_br ?_ | with_reducible refine k_lr ?_ | with_reducible refine k_le ?_ | with_reducible refine k_sp ?_ | with_reducible refine k_bp ?_ | with_reducible refine k_lp ?_ | (with_reducible refine k_be ?_ ?_; exact rfl) | (with_reducible refine k_bf ?_ ?_; exact rfl))
  refine w_seq (.ops ?_)
  refine s_dcall rfl rfl rfl ?_
  repeat (first | refine s_skip rfl rfl ?_ | refine s_mv rfl rfl (by conv => lhs; whnf) ?_ | refine s_asg rfl rfl (by conv => lhs; whnf) ?_ | refine s_len rfl rfl rfl ?_ | refine s_lss rfl rfl rfl rfl ?_ | refine s_leq rfl rfl rfl rfl ?_ | refine s_gtr rfl rfl rfl rfl ?_ | refine s_geq rfl rfl rfl rfl ?_ | refine s_eql rfl rfl rfl rfl ?_ | refine s_neq rfl rfl rfl rfl ?_ | refine s_not rfl rfl rfl ?_ | refine s_pickT rfl rfl rfl (by conv => lhs; whnf) ?_ | refine s_pickF rfl rfl rfl (by conv => lhs; whnf) ?_ | refine s_extract rfl rfl rfl rfl ?_ | refine s_fieldA rfl rfl rfl ?_ | refine s_iface rfl rfl (by conv => lhs; whnf) ?_ | refine s_build rfl rfl rfl ?_)
  refine OPS.nil ?_
  repeat (first | with_reducible refine k_sn ?_ | with_reducible refine k_sr ?_ | with_reducible refine k_se ?_ | with_reducible refine k_bn ?_ | with_reducible refine k_br ?_ | with_reducible refine k_lr ?_ | with_reducible refine k_le ?_ | with_reducible refine k_sp ?_ | with_reducible refine k_bp ?_ | with_reducible refine k_lp ?_ | (with_reducible refine k_be ?_ ?_; exact rfl) | (with_reducible refine k_bf ?_ ?_; exact rfl))
  have hpan : ∀ (l' : List (Nat × Value)) (h' : IH), lk l' 2 = ptr h1.next → lk l' 3 = ptr h3.next → At h' h1.next (.cells [.slice none 0 0, .slice none 0 0]) → At h' h3.next (.cells [.int .i64 0]) → Agree h h' → (both (invL ac) (invL asy)) = (([], []), 230) →
      LEAVE Tryz.prog c17 (envT l') [{ target := .fn (.func 34) ⟨[]⟩, args := ⟨[ptr h3.next]⟩ }] (.panicking [{ v := .iface 40 (.int .i64 230), recovered := false }]) h' (fun r h'' => SymK h (both (invL ac) (invL asy)) r none h'') := by
    intro l' h' q4 q5 A4' A5' G' hb
    refine leave_pan2 rfl q4 q5 A4' A5' hne ?_
    intro h'' hT
    rw [hb]
    exact ⟨rfl, ⟨_, rfl, _, _, rfl, nil_ints _, nil_ints _⟩, G'.turn hT h5n⟩
  refine w_seq (.ops ?_)
  refine s_fieldA rfl rfl rfl ?_
  refine s_load1 rfl rfl rfl A1 rfl ?_
  refine s_fieldA rfl rfl rfl ?_
  refine s_load1 rfl rfl rfl A1 rfl ?_
  refine s_call rfl rfl _ rfl _ (inv38_ok (hac.agree G) l1) ?_ ?_ (fun ch h' hm => by obtain ⟨_, ⟨_, hv, _⟩, _⟩ := hm; cases hv) (fun r p h' hm => hm.1)
  · intro v h' hm r hr
    simp only [List.mem_cons, List.not_mem_nil, or_false] at hr
    subst hr
    exact ⟨_, _, run_load1 rfl (A1.agree hm.2.2) rfl, fun d' e => by cases e; rfl⟩
  rintro v h5 ⟨_, ⟨v1, hv, hi1, hn1'⟩, hA5⟩
  cases hv
  repeat (first | refine s_skip rfl rfl ?_ | refine s_mv rfl rfl (by conv => lhs; whnf) ?_ | refine s_asg rfl rfl (by conv => lhs; whnf) ?_ | refine s_len rfl rfl rfl ?_ | refine s_lss rfl rfl rfl rfl ?_ | refine s_leq rfl rfl rfl rfl ?_ | refine s_gtr rfl rfl rfl rfl ?_ | refine s_geq rfl rfl rfl rfl ?_ | refine s_eql rfl rfl rfl rfl ?_ | refine s_neq rfl rfl rfl rfl ?_ | refine s_not rfl rfl rfl ?_ | refine s_pickT rfl rfl rfl (by conv => lhs; whnf) ?_ | refine s_pickF rfl rfl rfl (by conv => lhs; whnf) ?_ | refine s_extract rfl rfl rfl rfl ?_ | refine s_fieldA rfl rfl rfl ?_ | refine s_iface rfl rfl (by conv => lhs; whnf) ?_ | refine s_build rfl rfl rfl ?_)
  have A4' := A4.agree hA5
  have A5' := A5.agree hA5
  refine s_call rfl rfl (.func 35) rfl _ must_ok ?_ ?_ ?_ (fun r p h' hm => hm.1)
  · rintro v h' ⟨_, rfl, _⟩ r hr
    simp only [List.mem_cons, List.not_mem_nil, or_false] at hr
    subst hr
    exact ⟨_, _, run_load1 rfl (A1.agree hA5) rfl, fun d' e => by cases e; rfl⟩
  · rintro w1 h6 ⟨_, rfl, e0, e1⟩
    have he : ((invL ac)).2 = 0 := by
      apply Classical.byContradiction
      intro hne0
      have := e1 hne0
      cases this
    have e0' := e0 he
    injection e0' with e0'
    subst e0'
    refine s_call rfl rfl _ rfl _ (inv38_ok (has.agree (G.trans hA5)) l2) (fun _ _ _ r hr => by cases hr) ?_ (fun ch h' hm => by obtain ⟨_, ⟨_, hv, _⟩, _⟩ := hm; cases hv) (fun r p h' hm => hm.1)
    rintro v h7 ⟨_, ⟨v2, hv, hi2, hn2'⟩, hA7⟩
    cases hv
    repeat (first | refine s_skip rfl rfl ?_ | refine s_mv rfl rfl (by conv => lhs; whnf) ?_ | refine s_asg rfl rfl (by conv => lhs; whnf) ?_ | refine s_len rfl rfl rfl ?_ | refine s_lss rfl rfl rfl rfl ?_ | refine s_leq rfl rfl rfl rfl ?_ | refine s_gtr rfl rfl rfl rfl ?_ | refine s_geq rfl rfl rfl rfl ?_ | refine s_eql rfl rfl rfl rfl ?_ | refine s_neq rfl rfl rfl rfl ?_ | refine s_not rfl rfl rfl ?_ | refine s_pickT rfl rfl rfl (by conv => lhs; whnf) ?_ | refine s_pickF rfl rfl rfl (by conv => lhs; whnf) ?_ | refine s_extract rfl rfl rfl rfl ?_ | refine s_fieldA rfl rfl rfl ?_ | refine s_iface rfl rfl (by conv => lhs; whnf) ?_ | refine s_build rfl rfl rfl ?_)
    refine s_call rfl rfl (.func 35) rfl _ must_ok (fun _ _ _ r hr => by cases hr) ?_ ?_ (fun r p h' hm => hm.1)
    · rintro w2 h8 ⟨_, rfl, e0, e1⟩
      have he2 : ((invL asy)).2 = 0 := by
        apply Classical.byContradiction
        intro hne0
        have := e1 hne0
        cases this
      have e0' := e0 he2
      injection e0' with e0'
      subst e0'
      obtain ⟨q1, c1, rfl⟩ := hi1.form
      obtain ⟨q2, c2, rfl⟩ := hi2.form
      repeat (first | refine s_skip rfl rfl ?_ | refine s_mv rfl rfl (by conv => lhs; whnf) ?_ | refine s_asg rfl rfl (by conv => lhs; whnf) ?_ | refine s_len rfl rfl rfl ?_ | refine s_lss rfl rfl rfl rfl ?_ | refine s_leq rfl rfl rfl rfl ?_ | refine s_gtr rfl rfl rfl rfl ?_ | refine s_geq rfl rfl rfl rfl ?_ | refine s_eql rfl rfl rfl rfl ?_ | refine s_neq rfl rfl rfl rfl ?_ | refine s_not rfl rfl rfl ?_ | refine s_pickT rfl rfl rfl (by conv => lhs; whnf) ?_ | refine s_pickF rfl rfl rfl (by conv => lhs; whnf) ?_ | refine s_extract rfl rfl rfl rfl ?_ | refine s_fieldA rfl rfl rfl ?_ | refine s_iface rfl rfl (by conv => lhs; whnf) ?_ | refine s_build rfl rfl rfl ?_)
      refine OPS.nil ?_
      repeat (first | with_reducible refine k_sn ?_ | with_reducible refine k_sr ?_ | with_reducible refine k_se ?_ | with_reducible refine k_bn ?_ | with_reducible refine k_br ?_ | with_reducible refine k_lr ?_ | with_reducible refine k_le ?_ | with_reducible refine k_sp ?_ | with_reducible refine k_bp ?_ | with_reducible refine k_lp ?_ | (with_reducible refine k_be ?_ ?_; exact rfl) | (with_reducible refine k_bf ?_ ?_; exact rfl))
      refine w_seq (.ops ?_)
      repeat (first | refine s_skip rfl rfl ?_ | refine s_mv rfl rfl (by conv => lhs; whnf) ?_ | refine s_asg rfl rfl (by conv => lhs; whnf) ?_ | refine s_len rfl rfl rfl ?_ | refine s_lss rfl rfl rfl rfl ?_ | refine s_leq rfl rfl rfl rfl ?_ | refine s_gtr rfl rfl rfl rfl ?_ | refine s_geq rfl rfl rfl rfl ?_ | refine s_eql rfl rfl rfl rfl ?_ | refine s_neq rfl rfl rfl rfl ?_ | refine s_not rfl rfl rfl ?_ | refine s_pickT rfl rfl rfl (by conv => lhs; whnf) ?_ | refine s_pickF rfl rfl rfl (by conv => lhs; whnf) ?_ | refine s_extract rfl rfl rfl rfl ?_ | refine s_fieldA rfl rfl rfl ?_ | refine s_iface rfl rfl (by conv => lhs; whnf) ?_ | refine s_build rfl rfl rfl ?_)
      refine s_storeN rfl rfl rfl rfl (A4'.agree hA7) (show lover [.slice none 0 0, .slice none 0 0] 0 [_, _] = some [_, _] from rfl) ?_
      intro h9 hT9
      refine s_store1 rfl rfl (by conv => lhs; whnf) rfl ((A5'.agree hA7).turn hT9 (Ne.symm hne)) (by simp) ?_
      intro h10 hT10
      repeat (first | refine s_skip rfl rfl ?_ | refine s_mv rfl rfl (by conv => lhs; whnf) ?_ | refine s_asg rfl rfl (by conv => lhs; whnf) ?_ | refine s_len rfl rfl rfl ?_ | refine s_lss rfl rfl rfl rfl ?_ | refine s_leq rfl rfl rfl rfl ?_ | refine s_gtr rfl rfl rfl rfl ?_ | refine s_geq rfl rfl rfl rfl ?_ | refine s_eql rfl rfl rfl rfl ?_ | refine s_neq rfl rfl rfl rfl ?_ | refine s_not rfl rfl rfl ?_ | refine s_pickT rfl rfl rfl (by conv => lhs; whnf) ?_ | refine s_pickF rfl rfl rfl (by conv => lhs; whnf) ?_ | refine s_extract rfl rfl rfl rfl ?_ | refine s_fieldA rfl rfl rfl ?_ | refine s_iface rfl rfl (by conv => lhs; whnf) ?_ | refine s_build rfl rfl rfl ?_)
      refine OPS.nil ?_
      repeat (first | with_reducible refine k_sn ?_ | with_reducible refine k_sr ?_ | with_reducible refine k_se ?_ | with_reducible refine k_bn ?_ | with_reducible refine k_br ?_ | with_reducible refine k_lr ?_ | with_reducible refine k_le ?_ | with_reducible refine k_sp ?_ | with_reducible refine k_bp ?_ | with_reducible refine k_lp ?_ | (with_reducible refine k_be ?_ ?_; exact rfl) | (with_reducible refine k_bf ?_ ?_; exact rfl))
      refine EV.ret ?_
      repeat (first | with_reducible refine k_sn ?_ | with_reducible refine k_sr ?_ | with_reducible refine k_se ?_ | with_reducible refine k_bn ?_ | with_reducible refine k_br ?_ | with_reducible refine k_lr ?_ | with_reducible refine k_le ?_ | with_reducible refine k_sp ?_ | with_reducible refine k_bp ?_ | with_reducible refine k_lp ?_ | (with_reducible refine k_be ?_ ?_; exact rfl) | (with_reducible refine k_bf ?_ ?_; exact rfl))
      refine l_ret ?_
      refine leave_ret2 rfl rfl rfl (hT9.at_.turn hT10 hne) hT10.at_ ?_
      have GG := ((((G.trans hA5).trans hA7).turn hT9 h4n)).turn hT10 h5n
      have hbo : both (invL ac) (invL asy) = ((((invL ac)).1, ((invL asy)).1), 0) := by rw [both, if_pos ⟨he, he2⟩]
      rw [hbo]
      have k1 : h3.next < h4.next := by omega
      have k2 : h1.next < h4.next := by omega
      have k3 := hA5.next
      have i1 := ints_turn (ints_turn (hi1.agree hA7) hT9 hn1' k2) hT10 hn1' k1
      have i2 := ints_turn (ints_turn hi2 hT9 hn2' (by omega)) hT10 hn2' (by omega)
      exact ⟨rfl, ⟨_, rfl, _, _, rfl, i1, i2⟩, GG⟩
    · rintro ch h8 ⟨_, rfl, e0, e1⟩
      have he2 : ((invL asy)).2 ≠ 0 := by
        intro he
        have := e0 he
        cases this
      have := e1 he2
      cases this
      rw [forget_act]
      repeat (first | with_reducible refine k_sn ?_ | with_reducible refine k_sr ?_ | with_reducible refine k_se ?_ | with_reducible refine k_bn ?_ | with_reducible refine k_br ?_ | with_reducible refine k_lr ?_ | with_reducible refine k_le ?_ | with_reducible refine k_sp ?_ | with_reducible refine k_bp ?_ | with_reducible refine k_lp ?_ | (with_reducible refine k_be ?_ ?_; exact rfl) | (with_reducible refine k_bf ?_ ?_; exact rfl))
      refine l_pan ?_
      exact hpan _ _ rfl rfl (A4'.agree hA7) (A5'.agree hA7) ((G.trans hA5).trans hA7) (by rw [both, if_neg (fun q => he2 q.2)])
  · rintro ch h6 ⟨_, rfl, e0, e1⟩
    have he : ((invL ac)).2 ≠ 0 := by
      intro he
      have := e0 he
      cases this
    have := e1 he
    cases this
    rw [forget_act]
    repeat (first | with_reducible refine k_sn ?_ | with_reducible refine k_sr ?_ | with_reducible refine k_se ?_ | with_reducible refine k_bn ?_ | with_reducible refine k_br ?_ | with_reducible refine k_lr ?_ | with_reducible refine k_le ?_ | with_reducible refine k_sp ?_ | with_reducible refine k_bp ?_ | with_reducible refine k_lp ?_ | (with_reducible refine k_be ?_ ?_; exact rfl) | (with_reducible refine k_bf ?_ ?_; exact rfl))
    refine l_pan ?_
    exact hpan _ _ rfl rfl A4' A5' (G.trans hA5) (by rw [both, if_neg (fun q => he q.1)])
end Go.Proofs.YtfakljdleblkoaaGreat
