/-
  The reference's Compose and Inverse.
-/
import Derived.Test.YtfakljdleblkoaaGreatFnF
set_option linter.unusedSimpArgs false
set_option linter.unusedVariables false
set_option maxHeartbeats 1000000
set_option maxRecDepth 20000
namespace Go.Proofs.YtfakljdleblkoaaGreat
open Go.Ideal

theorem r_cell_tmp {cf : CFunc} {K : KR} {n : Nat} {l : List (Nat × Value)} {pm : Option FrameMode} {ro : Option Nat} {h : IH} (a t : Tmp) {b : Nat} {v1 v2 v : Value} (hr : cf.results = [.cellN 2 a, .tmp t]) (ha : lk l a = ptr b) (hat : At h b (.cells [v1, v2])) (hv : lk l t = v)
    (hk : K (.ok (.tuple ⟨[.agg ⟨[v1, v2]⟩, v]⟩)) pm h) : retK cf K .ret (act n l [] pm ro) h :=
  ⟨_, by rw [hr]; exact results2 (resI_cellN ha hat rfl) resI_tmp, rfl, by rw [hv]; exact hk⟩

theorem rcomp_ok {h : IH} {va vb : Value} {ac asy bc bsy : List Int} (ha : SymAt h va ac asy) (hb : SymAt h vb bc bsy) (l1 : ac.length ≤ 1000000) (l2 : asy.length ≤ 1000000) (l3 : bc.length ≤ 1000000) (l4 : bsy.length ≤ 1000000) :
    CALL Tryz.prog ⟨.func 16, [va, vb], [], none⟩ h (SymK h (both (compL ac bc) (compL asy bsy))) := by
  obtain ⟨vac, vas, rfl, hac, has⟩ := ha
  obtain ⟨vbc, vbs, rfl, hbc, hbs⟩ := hb
  refine c_fn c16 f16 ?_
  show EV _ _ (act 36 [(1, .agg ⟨[vbc, vbs]⟩), (0, .agg ⟨[vac, vas]⟩)] [] none none) h _
  refine w_seq (.ops ?_)
  refine s_box rfl rfl rfl ?_
  intro h1 hA1 hb1 hn1
  refine s_box rfl rfl rfl ?_
  intro h2 hA2 hb2 hn2
  refine s_new rfl rfl ?_
  intro h4 hA4 hb4 hn4
  have A1 := (hb1.agree hA2).agree hA4
  have A2 := hb2.agree hA4
  have A4 := hb4
  have G := (hA1.trans hA2).trans hA4
  have h4n : h.next ≤ h2.next := by omega
  repeat (first | refine s_skip rfl rfl ?_ | refine s_mv rfl rfl (by conv => lhs; whnf) ?_ | refine s_asg rfl rfl (by conv => lhs; whnf) ?_ | refine s_len rfl rfl rfl ?_ | refine s_lss rfl rfl rfl rfl ?_ | refine s_leq rfl rfl rfl rfl ?_ | refine s_gtr rfl rfl rfl rfl ?_ | refine s_geq rfl rfl rfl rfl ?_ | refine s_eql rfl rfl rfl rfl ?_ | refine s_neq rfl rfl rfl rfl ?_ | refine s_not rfl rfl rfl ?_ | refine s_pickT rfl rfl rfl (by conv => lhs; whnf) ?_ | refine s_pickF rfl rfl rfl (by conv => lhs; whnf) ?_ | refine s_extract rfl rfl rfl rfl ?_ | refine s_fieldA rfl rfl rfl ?_ | refine s_iface rfl rfl (by conv => lhs; whnf) ?_ | refine s_build rfl rfl rfl ?_)
  refine OPS.nil ?_
  repeat (first | with_reducible refine k_sn ?_ | with_reducible refine k_sr ?_ | with_reducible refine k_se ?_ | with_reducible refine k_bn ?_ | with_reducible refine k_br ?_ | with_reducible refine k_lr ?_ | with_reducible refine k_le ?_ | with_reducible refine k_sp ?_ | with_reducible refine k_bp ?_ | with_reducible refine k_lp ?_ | (with_reducible refine k_be ?_ ?_; exact rfl) | (with_reducible refine k_bf ?_ ?_; exact rfl))
  refine w_seq (.ops ?_)
  refine s_fieldA rfl rfl rfl ?_
  refine s_load1 rfl rfl rfl A1 rfl ?_
  refine s_fieldA rfl rfl rfl ?_
  refine s_load1 rfl rfl rfl A2 rfl ?_
  refine s_call rfl rfl _ rfl _ (comp37_ok (hac.agree G) (hbc.agree G) l1 l3) (fun _ _ _ r hr => by cases hr) ?_ (fun ch h' hm => by obtain ⟨_, ⟨_, hv, _⟩, _⟩ := hm; cases hv) (fun r p h' hm => hm.1)
  rintro v h5 ⟨_, ⟨v1, hv, hi1, hn1'⟩, hA5⟩
  cases hv
  repeat (first | refine s_skip rfl rfl ?_ | refine s_mv rfl rfl (by conv => lhs; whnf) ?_ | refine s_asg rfl rfl (by conv => lhs; whnf) ?_ | refine s_len rfl rfl rfl ?_ | refine s_lss rfl rfl rfl rfl ?_ | refine s_leq rfl rfl rfl rfl ?_ | refine s_gtr rfl rfl rfl rfl ?_ | refine s_geq rfl rfl rfl rfl ?_ | refine s_eql rfl rfl rfl rfl ?_ | refine s_neq rfl rfl rfl rfl ?_ | refine s_not rfl rfl rfl ?_ | refine s_pickT rfl rfl rfl (by conv => lhs; whnf) ?_ | refine s_pickF rfl rfl rfl (by conv => lhs; whnf) ?_ | refine s_extract rfl rfl rfl rfl ?_ | refine s_fieldA rfl rfl rfl ?_ | refine s_iface rfl rfl (by conv => lhs; whnf) ?_ | refine s_build rfl rfl rfl ?_)
  refine OPS.nil ?_
  repeat (first | with_reducible refine k_sn ?_ | with_reducible refine k_sr ?_ | with_reducible refine k_se ?_ | with_reducible refine k_bn ?_ | with_reducible refine k_br ?_ | with_reducible refine k_lr ?_ | with_reducible refine k_le ?_ | with_reducible refine k_sp ?_ | with_reducible refine k_bp ?_ | with_reducible refine k_lp ?_ | (with_reducible refine k_be ?_ ?_; exact rfl) | (with_reducible refine k_bf ?_ ?_; exact rfl))
  refine w_seq (.ops ?_)
  have A1 := A1.agree hA5
  have A2 := A2.agree hA5
  have A4 := A4.agree hA5
  refine s_fieldA rfl rfl rfl ?_
  refine s_load1 rfl rfl rfl A1 rfl ?_
  refine s_fieldA rfl rfl rfl ?_
  refine s_load1 rfl rfl rfl A2 rfl ?_
  refine s_call rfl rfl _ rfl _ (comp37_ok (has.agree (G.trans hA5)) (hbs.agree (G.trans hA5)) l2 l4) (fun _ _ _ r hr => by cases hr) ?_ (fun ch h' hm => by obtain ⟨_, ⟨_, hv, _⟩, _⟩ := hm; cases hv) (fun r p h' hm => hm.1)
  rintro v h6 ⟨_, ⟨v2, hv, hi2, hn2'⟩, hA6⟩
  cases hv
  have A4 := A4.agree hA6
  have GG := (G.trans hA5).trans hA6
  have hi1 := hi1.agree hA6
  have k2 : h2.next < h4.next := by omega
  have k3 := hA5.next
  obtain ⟨q1, c1, rfl⟩ := hi1.form
  obtain ⟨q2, c2, rfl⟩ := hi2.form
  repeat (first | refine s_skip rfl rfl ?_ | refine s_mv rfl rfl (by conv => lhs; whnf) ?_ | refine s_asg rfl rfl (by conv => lhs; whnf) ?_ | refine s_len rfl rfl rfl ?_ | refine s_lss rfl rfl rfl rfl ?_ | refine s_leq rfl rfl rfl rfl ?_ | refine s_gtr rfl rfl rfl rfl ?_ | refine s_geq rfl rfl rfl rfl ?_ | refine s_eql rfl rfl rfl rfl ?_ | refine s_neq rfl rfl rfl rfl ?_ | refine s_not rfl rfl rfl ?_ | refine s_pickT rfl rfl rfl (by conv => lhs; whnf) ?_ | refine s_pickF rfl rfl rfl (by conv => lhs; whnf) ?_ | refine s_extract rfl rfl rfl rfl ?_ | refine s_fieldA rfl rfl rfl ?_ | refine s_iface rfl rfl (by conv => lhs; whnf) ?_ | refine s_build rfl rfl rfl ?_)
  refine OPS.nil ?_
  repeat (first | with_reducible refine k_sn ?_ | with_reducible refine k_sr ?_ | with_reducible refine k_se ?_ | with_reducible refine k_bn ?_ | with_reducible refine k_br ?_ | with_reducible refine k_lr ?_ | with_reducible refine k_le ?_ | with_reducible refine k_sp ?_ | with_reducible refine k_bp ?_ | with_reducible refine k_lp ?_ | (with_reducible refine k_be ?_ ?_; exact rfl) | (with_reducible refine k_bf ?_ ?_; exact rfl))
  refine w_seq (w_seq (.ops ?_))
  repeat (first | refine s_skip rfl rfl ?_ | refine s_mv rfl rfl (by conv => lhs; whnf) ?_ | refine s_asg rfl rfl (by conv => lhs; whnf) ?_ | refine s_len rfl rfl rfl ?_ | refine s_lss rfl rfl rfl rfl ?_ | refine s_leq rfl rfl rfl rfl ?_ | refine s_gtr rfl rfl rfl rfl ?_ | refine s_geq rfl rfl rfl rfl ?_ | refine s_eql rfl rfl rfl rfl ?_ | refine s_neq rfl rfl rfl rfl ?_ | refine s_not rfl rfl rfl ?_ | refine s_pickT rfl rfl rfl (by conv => lhs; whnf) ?_ | refine s_pickF rfl rfl rfl (by conv => lhs; whnf) ?_ | refine s_extract rfl rfl rfl rfl ?_ | refine s_fieldA rfl rfl rfl ?_ | refine s_iface rfl rfl (by conv => lhs; whnf) ?_ | refine s_build rfl rfl rfl ?_)
  by_cases he : ((compL ac bc)).2 ≠ 0
  · rw [decide_eq_true he]
    repeat (first | refine s_skip rfl rfl ?_ | refine s_mv rfl rfl (by conv => lhs; whnf) ?_ | refine s_asg rfl rfl (by conv => lhs; whnf) ?_ | refine s_len rfl rfl rfl ?_ | refine s_lss rfl rfl rfl rfl ?_ | refine s_leq rfl rfl rfl rfl ?_ | refine s_gtr rfl rfl rfl rfl ?_ | refine s_geq rfl rfl rfl rfl ?_ | refine s_eql rfl rfl rfl rfl ?_ | refine s_neq rfl rfl rfl rfl ?_ | refine s_not rfl rfl rfl ?_ | refine s_pickT rfl rfl rfl (by conv => lhs; whnf) ?_ | refine s_pickF rfl rfl rfl (by conv => lhs; whnf) ?_ | refine s_extract rfl rfl rfl rfl ?_ | refine s_fieldA rfl rfl rfl ?_ | refine s_iface rfl rfl (by conv => lhs; whnf) ?_ | refine s_build rfl rfl rfl ?_)
    refine OPS.nil ?_
    repeat (first | with_reducible refine k_sn ?_ | with_reducible refine k_sr ?_ | with_reducible refine k_se ?_ | with_reducible refine k_bn ?_ | with_reducible refine k_br ?_ | with_reducible refine k_lr ?_ | with_reducible refine k_le ?_ | with_reducible refine k_sp ?_ | with_reducible refine k_bp ?_ | with_reducible refine k_lp ?_ | (with_reducible refine k_be ?_ ?_; exact rfl) | (with_reducible refine k_bf ?_ ?_; exact rfl))
    refine w_cond true rfl (fun _ => ?_) (fun e => by cases e)
    refine w_seq (.ops ?_)
    repeat (first | refine s_skip rfl rfl ?_ | refine s_mv rfl rfl (by conv => lhs; whnf) ?_ | refine s_asg rfl rfl (by conv => lhs; whnf) ?_ | refine s_len rfl rfl rfl ?_ | refine s_lss rfl rfl rfl rfl ?_ | refine s_leq rfl rfl rfl rfl ?_ | refine s_gtr rfl rfl rfl rfl ?_ | refine s_geq rfl rfl rfl rfl ?_ | refine s_eql rfl rfl rfl rfl ?_ | refine s_neq rfl rfl rfl rfl ?_ | refine s_not rfl rfl rfl ?_ | refine s_pickT rfl rfl rfl (by conv => lhs; whnf) ?_ | refine s_pickF rfl rfl rfl (by conv => lhs; whnf) ?_ | refine s_extract rfl rfl rfl rfl ?_ | refine s_fieldA rfl rfl rfl ?_ | refine s_iface rfl rfl (by conv => lhs; whnf) ?_ | refine s_build rfl rfl rfl ?_)
    refine s_storeN rfl rfl rfl rfl A4 (show lover [.slice none 0 0, .slice none 0 0] 0 [_, _] = some [_, _] from rfl) ?_
    intro h7 hT7
    repeat (first | refine s_skip rfl rfl ?_ | refine s_mv rfl rfl (by conv => lhs; whnf) ?_ | refine s_asg rfl rfl (by conv => lhs; whnf) ?_ | refine s_len rfl rfl rfl ?_ | refine s_lss rfl rfl rfl rfl ?_ | refine s_leq rfl rfl rfl rfl ?_ | refine s_gtr rfl rfl rfl rfl ?_ | refine s_geq rfl rfl rfl rfl ?_ | refine s_eql rfl rfl rfl rfl ?_ | refine s_neq rfl rfl rfl rfl ?_ | refine s_not rfl rfl rfl ?_ | refine s_pickT rfl rfl rfl (by conv => lhs; whnf) ?_ | refine s_pickF rfl rfl rfl (by conv => lhs; whnf) ?_ | refine s_extract rfl rfl rfl rfl ?_ | refine s_fieldA rfl rfl rfl ?_ | refine s_iface rfl rfl (by conv => lhs; whnf) ?_ | refine s_build rfl rfl rfl ?_)
    refine OPS.nil ?_
    repeat (first | with_reducible refine k_sn ?_ | with_reducible refine k_sr ?_ | with_reducible refine k_se ?_ | with_reducible refine k_bn ?_ | with_reducible refine k_br ?_ | with_reducible refine k_lr ?_ | with_reducible refine k_le ?_ | with_reducible refine k_sp ?_ | with_reducible refine k_bp ?_ | with_reducible refine k_lp ?_ | (with_reducible refine k_be ?_ ?_; exact rfl) | (with_reducible refine k_bf ?_ ?_; exact rfl))
    refine EV.ret ?_
    repeat (first | with_reducible refine k_sn ?_ | with_reducible refine k_sr ?_ | with_reducible refine k_se ?_ | with_reducible refine k_bn ?_ | with_reducible refine k_br ?_ | with_reducible refine k_lr ?_ | with_reducible refine k_le ?_ | with_reducible refine k_sp ?_ | with_reducible refine k_bp ?_ | with_reducible refine k_lp ?_ | (with_reducible refine k_be ?_ ?_; exact rfl) | (with_reducible refine k_bf ?_ ?_; exact rfl))
    refine r_cell_tmp 4 5 rfl rfl hT7.at_ (by conv => lhs; whnf) ?_
    rw [show both (compL ac bc) (compL asy bsy) = (([], []), 230) by rw [both, if_neg (fun q => he q.1)]]
    exact ⟨rfl, ⟨_, rfl, _, _, rfl, nil_ints _, nil_ints _⟩, GG.turn hT7 h4n⟩
  rw [decide_eq_false he]
  have he : ((compL ac bc)).2 = 0 := Decidable.not_not.1 he
  repeat (first | refine s_skip rfl rfl ?_ | refine s_mv rfl rfl (by conv => lhs; whnf) ?_ | refine s_asg rfl rfl (by conv => lhs; whnf) ?_ | refine s_len rfl rfl rfl ?_ | refine s_lss rfl rfl rfl rfl ?_ | refine s_leq rfl rfl rfl rfl ?_ | refine s_gtr rfl rfl rfl rfl ?_ | refine s_geq rfl rfl rfl rfl ?_ | refine s_eql rfl rfl rfl rfl ?_ | refine s_neq rfl rfl rfl rfl ?_ | refine s_not rfl rfl rfl ?_ | refine s_pickT rfl rfl rfl (by conv => lhs; whnf) ?_ | refine s_pickF rfl rfl rfl (by conv => lhs; whnf) ?_ | refine s_extract rfl rfl rfl rfl ?_ | refine s_fieldA rfl rfl rfl ?_ | refine s_iface rfl rfl (by conv => lhs; whnf) ?_ | refine s_build rfl rfl rfl ?_)
  by_cases he2 : ((compL asy bsy)).2 ≠ 0
  · rw [decide_eq_true he2]
    repeat (first | refine s_skip rfl rfl ?_ | refine s_mv rfl rfl (by conv => lhs; whnf) ?_ | refine s_asg rfl rfl (by conv => lhs; whnf) ?_ | refine s_len rfl rfl rfl ?_ | refine s_lss rfl rfl rfl rfl ?_ | refine s_leq rfl rfl rfl rfl ?_ | refine s_gtr rfl rfl rfl rfl ?_ | refine s_geq rfl rfl rfl rfl ?_ | refine s_eql rfl rfl rfl rfl ?_ | refine s_neq rfl rfl rfl rfl ?_ | refine s_not rfl rfl rfl ?_ | refine s_pickT rfl rfl rfl (by conv => lhs; whnf) ?_ | refine s_pickF rfl rfl rfl (by conv => lhs; whnf) ?_ | refine s_extract rfl rfl rfl rfl ?_ | refine s_fieldA rfl rfl rfl ?_ | refine s_iface rfl rfl (by conv => lhs; whnf) ?_ | refine s_build rfl rfl rfl ?_)
    refine OPS.nil ?_
    repeat (first | with_reducible refine k_sn ?_ | with_reducible refine k_sr ?_ | with_reducible refine k_se ?_ | with_reducible refine k_bn ?_ | with_reducible refine k_br ?_ | with_reducible refine k_lr ?_ | with_reducible refine k_le ?_ | with_reducible refine k_sp ?_ | with_reducible refine k_bp ?_ | with_reducible refine k_lp ?_ | (with_reducible refine k_be ?_ ?_; exact rfl) | (with_reducible refine k_bf ?_ ?_; exact rfl))
    refine w_cond true rfl (fun _ => ?_) (fun e => by cases e)
    refine w_seq (.ops ?_)
    repeat (first | refine s_skip rfl rfl ?_ | refine s_mv rfl rfl (by conv => lhs; whnf) ?_ | refine s_asg rfl rfl (by conv => lhs; whnf) ?_ | refine s_len rfl rfl rfl ?_ | refine s_lss rfl rfl rfl rfl ?_ | refine s_leq rfl rfl rfl rfl ?_ | refine s_gtr rfl rfl rfl rfl ?_ | refine s_geq rfl rfl rfl rfl ?_ | refine s_eql rfl rfl rfl rfl ?_ | refine s_neq rfl rfl rfl rfl ?_ | refine s_not rfl rfl rfl ?_ | refine s_pickT rfl rfl rfl (by conv => lhs; whnf) ?_ | refine s_pickF rfl rfl rfl (by conv => lhs; whnf) ?_ | refine s_extract rfl rfl rfl rfl ?_ | refine s_fieldA rfl rfl rfl ?_ | refine s_iface rfl rfl (by conv => lhs; whnf) ?_ | refine s_build rfl rfl rfl ?_)
    refine s_storeN rfl rfl rfl rfl A4 (show lover [.slice none 0 0, .slice none 0 0] 0 [_, _] = some [_, _] from rfl) ?_
    intro h7 hT7
    repeat (first | refine s_skip rfl rfl ?_ | refine s_mv rfl rfl (by conv => lhs; whnf) ?_ | refine s_asg rfl rfl (by conv => lhs; whnf) ?_ | refine s_len rfl rfl rfl ?_ | refine s_lss rfl rfl rfl rfl ?_ | refine s_leq rfl rfl rfl rfl ?_ | refine s_gtr rfl rfl rfl rfl ?_ | refine s_geq rfl rfl rfl rfl ?_ | refine s_eql rfl rfl rfl rfl ?_ | refine s_neq rfl rfl rfl rfl ?_ | refine s_not rfl rfl rfl ?_ | refine s_pickT rfl rfl rfl (by conv => lhs; whnf) ?_ | refine s_pickF rfl rfl rfl (by conv => lhs; whnf) ?_ | refine s_extract rfl rfl rfl rfl ?_ | refine s_fieldA rfl rfl rfl ?_ | refine s_iface rfl rfl (by conv => lhs; whnf) ?_ | refine s_build rfl rfl rfl ?_)
    refine OPS.nil ?_
    repeat (first | with_reducible refine k_sn ?_ | with_reducible refine k_sr ?_ | with_reducible refine k_se ?_ | with_reducible refine k_bn ?_ | with_reducible refine k_br ?_ | with_reducible refine k_lr ?_ | with_reducible refine k_le ?_ | with_reducible refine k_sp ?_ | with_reducible refine k_bp ?_ | with_reducible refine k_lp ?_ | (with_reducible refine k_be ?_ ?_; exact rfl) | (with_reducible refine k_bf ?_ ?_; exact rfl))
    refine EV.ret ?_
    repeat (first | with_reducible refine k_sn ?_ | with_reducible refine k_sr ?_ | with_reducible refine k_se ?_ | with_reducible refine k_bn ?_ | with_reducible refine k_br ?_ | with_reducible refine k_lr ?_ | with_reducible refine k_le ?_ | with_reducible refine k_sp ?_ | with_reducible refine k_bp ?_ | with_reducible refine k_lp ?_ | (with_reducible refine k_be ?_ ?_; exact rfl) | (with_reducible refine k_bf ?_ ?_; exact rfl))
    refine r_cell_tmp 4 5 rfl rfl hT7.at_ (by conv => lhs; whnf) ?_
    rw [show both (compL ac bc) (compL asy bsy) = (([], []), 230) by rw [both, if_neg (fun q => he2 q.2)]]
    exact ⟨rfl, ⟨_, rfl, _, _, rfl, nil_ints _, nil_ints _⟩, GG.turn hT7 h4n⟩
  rw [decide_eq_false he2]
  have he2 : ((compL asy bsy)).2 = 0 := Decidable.not_not.1 he2
  repeat (first | refine s_skip rfl rfl ?_ | refine s_mv rfl rfl (by conv => lhs; whnf) ?_ | refine s_asg rfl rfl (by conv => lhs; whnf) ?_ | refine s_len rfl rfl rfl ?_ | refine s_lss rfl rfl rfl rfl ?_ | refine s_leq rfl rfl rfl rfl ?_ | refine s_gtr rfl rfl rfl rfl ?_ | refine s_geq rfl rfl rfl rfl ?_ | refine s_eql rfl rfl rfl rfl ?_ | refine s_neq rfl rfl rfl rfl ?_ | refine s_not rfl rfl rfl ?_ | refine s_pickT rfl rfl rfl (by conv => lhs; whnf) ?_ | refine s_pickF rfl rfl rfl (by conv => lhs; whnf) ?_ | refine s_extract rfl rfl rfl rfl ?_ | refine s_fieldA rfl rfl rfl ?_ | refine s_iface rfl rfl (by conv => lhs; whnf) ?_ | refine s_build rfl rfl rfl ?_)
  refine OPS.nil ?_
  repeat (first | with_reducible refine k_sn ?_ | with_reducible refine k_sr ?_ | with_reducible refine k_se ?_ | with_reducible refine k_bn ?_ | with_reducible refine k_br ?_ | with_reducible refine k_lr ?_ | with_reducible refine k_le ?_ | with_reducible refine k_sp ?_ | with_reducible refine k_bp ?_ | with_reducible refine k_lp ?_ | (with_reducible refine k_be ?_ ?_; exact rfl) | (with_reducible refine k_bf ?_ ?_; exact rfl))
  refine w_cond false rfl (fun e => by cases e) (fun _ => ?_)
  refine EV.skip ?_
  repeat (first | with_reducible refine k_sn ?_ | with_reducible refine k_sr ?_ | with_reducible refine k_se ?_ | with_reducible refine k_bn ?_ | with_reducible refine k_br ?_ | with_reducible refine k_lr ?_ | with_reducible refine k_le ?_ | with_reducible refine k_sp ?_ | with_reducible refine k_bp ?_ | with_reducible refine k_lp ?_ | (with_reducible refine k_be ?_ ?_; exact rfl) | (with_reducible refine k_bf ?_ ?_; exact rfl))
  refine w_seq (.ops ?_)
  repeat (first | refine s_skip rfl rfl ?_ | refine s_mv rfl rfl (by conv => lhs; whnf) ?_ | refine s_asg rfl rfl (by conv => lhs; whnf) ?_ | refine s_len rfl rfl rfl ?_ | refine s_lss rfl rfl rfl rfl ?_ | refine s_leq rfl rfl rfl rfl ?_ | refine s_gtr rfl rfl rfl rfl ?_ | refine s_geq rfl rfl rfl rfl ?_ | refine s_eql rfl rfl rfl rfl ?_ | refine s_neq rfl rfl rfl rfl ?_ | refine s_not rfl rfl rfl ?_ | refine s_pickT rfl rfl rfl (by conv => lhs; whnf) ?_ | refine s_pickF rfl rfl rfl (by conv => lhs; whnf) ?_ | refine s_extract rfl rfl rfl rfl ?_ | refine s_fieldA rfl rfl rfl ?_ | refine s_iface rfl rfl (by conv => lhs; whnf) ?_ | refine s_build rfl rfl rfl ?_)
  refine s_storeN rfl rfl rfl rfl A4 (show lover [.slice none 0 0, .slice none 0 0] 0 [_, _] = some [_, _] from rfl) ?_
  intro h7 hT7
  repeat (first | refine s_skip rfl rfl ?_ | refine s_mv rfl rfl (by conv => lhs; whnf) ?_ | refine s_asg rfl rfl (by conv => lhs; whnf) ?_ | refine s_len rfl rfl rfl ?_ | refine s_lss rfl rfl rfl rfl ?_ | refine s_leq rfl rfl rfl rfl ?_ | refine s_gtr rfl rfl rfl rfl ?_ | refine s_geq rfl rfl rfl rfl ?_ | refine s_eql rfl rfl rfl rfl ?_ | refine s_neq rfl rfl rfl rfl ?_ | refine s_not rfl rfl rfl ?_ | refine s_pickT rfl rfl rfl (by conv => lhs; whnf) ?_ | refine s_pickF rfl rfl rfl (by conv => lhs; whnf) ?_ | refine s_extract rfl rfl rfl rfl ?_ | refine s_fieldA rfl rfl rfl ?_ | refine s_iface rfl rfl (by conv => lhs; whnf) ?_ | refine s_build rfl rfl rfl ?_)
  refine OPS.nil ?_
  repeat (first | with_reducible refine k_sn ?_ | with_reducible refine k_sr ?_ | with_reducible refine k_se ?_ | with_reducible refine k_bn ?_ | with_reducible refine k_br ?_ | with_reducible refine k_lr ?_ | with_reducible refine k_le ?_ | with_reducible refine k_sp ?_ | with_reducible refine k_bp ?_ | with_reducible refine k_lp ?_ | (with_reducible refine k_be ?_ ?_; exact rfl) | (with_reducible refine k_bf ?_ ?_; exact rfl))
  refine EV.ret ?_
  repeat (first | with_reducible refine k_sn ?_ | with_reducible refine k_sr ?_ | with_reducible refine k_se ?_ | with_reducible refine k_bn ?_ | with_reducible refine k_br ?_ | with_reducible refine k_lr ?_ | with_reducible refine k_le ?_ | with_reducible refine k_sp ?_ | with_reducible refine k_bp ?_ | with_reducible refine k_lp ?_ | (with_reducible refine k_be ?_ ?_; exact rfl) | (with_reducible refine k_bf ?_ ?_; exact rfl))
  refine r_cell_tmp 4 5 rfl rfl hT7.at_ (by conv => lhs; whnf) ?_
  rw [show both (compL ac bc) (compL asy bsy) = ((((compL ac bc)).1, ((compL asy bsy)).1), 0) by rw [both, if_pos ⟨he, he2⟩]]
  exact ⟨rfl, ⟨_, rfl, _, _, rfl, ints_turn hi1 hT7 hn1' k2, ints_turn hi2 hT7 hn2' (by omega)⟩, GG.turn hT7 h4n⟩

theorem rinv_ok {h : IH} {va : Value} {ac asy : List Int} (ha : SymAt h va ac asy) (l1 : ac.length ≤ 1000000) (l2 : asy.length ≤ 1000000) :
    CALL Tryz.prog ⟨.func 18, [va], [], none⟩ h (SymK h (both (invL ac) (invL asy))) := by
  obtain ⟨vac, vas, rfl, hac, has⟩ := ha
  refine c_fn c18 f18 ?_
  show EV _ _ (act 30 [(0, .agg ⟨[vac, vas]⟩)] [] none none) h _
  refine w_seq (.ops ?_)
  refine s_box rfl rfl rfl ?_
  intro h1 hA1 hb1 hn1
  refine s_new rfl rfl ?_
  intro h4 hA4 hb4 hn4
  have A1 := hb1.agree hA4
  have A2 := A1
  have A4 := hb4
  have G := hA1.trans hA4
  have h4n : h.next ≤ h1.next := by omega
  repeat (first | refine s_skip rfl rfl ?_ | refine s_mv rfl rfl (by conv => lhs; whnf) ?_ | refine s_asg rfl rfl (by conv => lhs; whnf) ?_ | refine s_len rfl rfl rfl ?_ | refine s_lss rfl rfl rfl rfl ?_ | refine s_leq rfl rfl rfl rfl ?_ | refine s_gtr rfl rfl rfl rfl ?_ | refine s_geq rfl rfl rfl rfl ?_ | refine s_eql rfl rfl rfl rfl ?_ | refine s_neq rfl rfl rfl rfl ?_ | refine s_not rfl rfl rfl ?_ | refine s_pickT rfl rfl rfl (by conv => lhs; whnf) ?_ | refine s_pickF rfl rfl rfl (by conv => lhs; whnf) ?_ | refine s_extract rfl rfl rfl rfl ?_ | refine s_fieldA rfl rfl rfl ?_ | refine s_iface rfl rfl (by conv => lhs; whnf) ?_ | refine s_build rfl rfl rfl ?_)
  refine OPS.nil ?_
  repeat (first | with_reducible refine k_sn ?_ | with_reducible refine k_sr ?_ | with_reducible refine k_se ?_ | with_reducible refine k_bn ?_ | with_reducible refine k_br ?_ | with_reducible refine k_lr ?_ | with_reducible refine k_le ?_ | with_reducible refine k_sp ?_ | with_reducible refine k_bp ?_ | with_reducible refine k_lp ?_ | (with_reducible refine k_be ?_ ?_; exact rfl) | (with_reducible refine k_bf ?_ ?_; exact rfl))
  refine w_seq (.ops ?_)
  refine s_fieldA rfl rfl rfl ?_
  refine s_load1 rfl rfl rfl A1 rfl ?_
  refine s_call rfl rfl _ rfl _ (inv39_ok (hac.agree G) l1) (fun _ _ _ r hr => by cases hr) ?_ (fun ch h' hm => by obtain ⟨_, ⟨_, hv, _⟩, _⟩ := hm; cases hv) (fun r p h' hm => hm.1)
  rintro v h5 ⟨_, ⟨v1, hv, hi1, hn1'⟩, hA5⟩
  cases hv
  repeat (first | refine s_skip rfl rfl ?_ | refine s_mv rfl rfl (by conv => lhs; whnf) ?_ | refine s_asg rfl rfl (by conv => lhs; whnf) ?_ | refine s_len rfl rfl rfl ?_ | refine s_lss rfl rfl rfl rfl ?_ | refine s_leq rfl rfl rfl rfl ?_ | refine s_gtr rfl rfl rfl rfl ?_ | refine s_geq rfl rfl rfl rfl ?_ | refine s_eql rfl rfl rfl rfl ?_ | refine s_neq rfl rfl rfl rfl ?_ | refine s_not rfl rfl rfl ?_ | refine s_pickT rfl rfl rfl (by conv => lhs; whnf) ?_ | refine s_pickF rfl rfl rfl (by conv => lhs; whnf) ?_ | refine s_extract rfl rfl rfl rfl ?_ | refine s_fieldA rfl rfl rfl ?_ | refine s_iface rfl rfl (by conv => lhs; whnf) ?_ | refine s_build rfl rfl rfl ?_)
  refine OPS.nil ?_
  repeat (first | with_reducible refine k_sn ?_ | with_reducible refine k_sr ?_ | with_reducible refine k_se ?_ | with_reducible refine k_bn ?_ | with_reducible refine k_br ?_ | with_reducible refine k_lr ?_ | with_reducible refine k_le ?_ | with_reducible refine k_sp ?_ | with_reducible refine k_bp ?_ | with_reducible refine k_lp ?_ | (with_reducible refine k_be ?_ ?_; exact rfl) | (with_reducible refine k_bf ?_ ?_; exact rfl))
  refine w_seq (.ops ?_)
  have A1 := A1.agree hA5
  have A2 := A2.agree hA5
  have A4 := A4.agree hA5
  refine s_fieldA rfl rfl rfl ?_
  refine s_load1 rfl rfl rfl A1 rfl ?_
  refine s_call rfl rfl _ rfl _ (inv39_ok (has.agree (G.trans hA5)) l2) (fun _ _ _ r hr => by cases hr) ?_ (fun ch h' hm => by obtain ⟨_, ⟨_, hv, _⟩, _⟩ := hm; cases hv) (fun r p h' hm => hm.1)
  rintro v h6 ⟨_, ⟨v2, hv, hi2, hn2'⟩, hA6⟩
  cases hv
  have A4 := A4.agree hA6
  have GG := (G.trans hA5).trans hA6
  have hi1 := hi1.agree hA6
  have k2 : h1.next < h4.next := by omega
  have k3 := hA5.next
  obtain ⟨q1, c1, rfl⟩ := hi1.form
  obtain ⟨q2, c2, rfl⟩ := hi2.form
  repeat (first | refine s_skip rfl rfl ?_ | refine s_mv rfl rfl (by conv => lhs; whnf) ?_ | refine s_asg rfl rfl (by conv => lhs; whnf) ?_ | refine s_len rfl rfl rfl ?_ | refine s_lss rfl rfl rfl rfl ?_ | refine s_leq rfl rfl rfl rfl ?_ | refine s_gtr rfl rfl rfl rfl ?_ | refine s_geq rfl rfl rfl rfl ?_ | refine s_eql rfl rfl rfl rfl ?_ | refine s_neq rfl rfl rfl rfl ?_ | refine s_not rfl rfl rfl ?_ | refine s_pickT rfl rfl rfl (by conv => lhs; whnf) ?_ | refine s_pickF rfl rfl rfl (by conv => lhs; whnf) ?_ | refine s_extract rfl rfl rfl rfl ?_ | refine s_fieldA rfl rfl rfl ?_ | refine s_iface rfl rfl (by conv => lhs; whnf) ?_ | refine s_build rfl rfl rfl ?_)
  refine OPS.nil ?_
  repeat (first | with_reducible refine k_sn ?_ | with_reducible refine k_sr ?_ | with_reducible refine k_se ?_ | with_reducible refine k_bn ?_ | with_reducible refine k_br ?_ | with_reducible refine k_lr ?_ | with_reducible refine k_le ?_ | with_reducible refine k_sp ?_ | with_reducible refine k_bp ?_ | with_reducible refine k_lp ?_ | (with_reducible refine k_be ?_ ?_; exact rfl) | (with_reducible refine k_bf ?_ ?_; exact rfl))
  refine w_seq (w_seq (.ops ?_))
  repeat (first | refine s_skip rfl rfl ?_ | refine s_mv rfl rfl (by conv => lhs; whnf) ?_ | refine s_asg rfl rfl (by conv => lhs; whnf) ?_ | refine s_len rfl rfl rfl ?_ | refine s_lss rfl rfl rfl rfl ?_ | refine s_leq rfl rfl rfl rfl ?_ | refine s_gtr rfl rfl rfl rfl ?_ | refine s_geq rfl rfl rfl rfl ?_ | refine s_eql rfl rfl rfl rfl ?_ | refine s_neq rfl rfl rfl rfl ?_ | refine s_not rfl rfl rfl ?_ | refine s_pickT rfl rfl rfl (by conv => lhs; whnf) ?_ | refine s_pickF rfl rfl rfl (by conv => lhs; whnf) ?_ | refine s_extract rfl rfl rfl rfl ?_ | refine s_fieldA rfl rfl rfl ?_ | refine s_iface rfl rfl (by conv => lhs; whnf) ?_ | refine s_build rfl rfl rfl ?_)
  by_cases he : ((invL ac)).2 ≠ 0
  · rw [decide_eq_true he]
    repeat (first | refine s_skip rfl rfl ?_ | refine s_mv rfl rfl (by conv => lhs; whnf) ?_ | refine s_asg rfl rfl (by conv => lhs; whnf) ?_ | refine s_len rfl rfl rfl ?_ | refine s_lss rfl rfl rfl rfl ?_ | refine s_leq rfl rfl rfl rfl ?_ | refine s_gtr rfl rfl rfl rfl ?_ | refine s_geq rfl rfl rfl rfl ?_ | refine s_eql rfl rfl rfl rfl ?_ | refine s_neq rfl rfl rfl rfl ?_ | refine s_not rfl rfl rfl ?_ | refine s_pickT rfl rfl rfl (by conv => lhs; whnf) ?_ | refine s_pickF rfl rfl rfl (by conv => lhs; whnf) ?_ | refine s_extract rfl rfl rfl rfl ?_ | refine s_fieldA rfl rfl rfl ?_ | refine s_iface rfl rfl (by conv => lhs; whnf) ?_ | refine s_build rfl rfl rfl ?_)
    refine OPS.nil ?_
    repeat (first | with_reducible refine k_sn ?_ | with_reducible refine k_sr ?_ | with_reducible refine k_se ?_ | with_reducible refine k_bn ?_ | with_reducible refine k_br ?_ | with_reducible refine k_lr ?_ | with_reducible refine k_le ?_ | with_reducible refine k_sp ?_ | with_reducible refine k_bp ?_ | with_reducible refine k_lp ?_ | (with_reducible refine k_be ?_ ?_; exact rfl) | (with_reducible refine k_bf ?_ ?_; exact rfl))
    refine w_cond true rfl (fun _ => ?_) (fun e => by cases e)
    refine w_seq (.ops ?_)
    repeat (first | refine s_skip rfl rfl ?_ | refine s_mv rfl rfl (by conv => lhs; whnf) ?_ | refine s_asg rfl rfl (by conv => lhs; whnf) ?_ | refine s_len rfl rfl rfl ?_ | refine s_lss rfl rfl rfl rfl ?_ | refine s_leq rfl rfl rfl rfl ?_ | refine s_gtr rfl rfl rfl rfl ?_ | refine s_geq rfl rfl rfl rfl ?_ | refine s_eql rfl rfl rfl rfl ?_ | refine s_neq rfl rfl rfl rfl ?_ | refine s_not rfl rfl rfl ?_ | refine s_pickT rfl rfl rfl (by conv => lhs; whnf) ?_ | refine s_pickF rfl rfl rfl (by conv => lhs; whnf) ?_ | refine s_extract rfl rfl rfl rfl ?_ | refine s_fieldA rfl rfl rfl ?_ | refine s_iface rfl rfl (by conv => lhs; whnf) ?_ | refine s_build rfl rfl rfl ?_)
    refine s_storeN rfl rfl rfl rfl A4 (show lover [.slice none 0 0, .slice none 0 0] 0 [_, _] = some [_, _] from rfl) ?_
    intro h7 hT7
    repeat (first | refine s_skip rfl rfl ?_ | refine s_mv rfl rfl (by conv => lhs; whnf) ?_ | refine s_asg rfl rfl (by conv => lhs; whnf) ?_ | refine s_len rfl rfl rfl ?_ | refine s_lss rfl rfl rfl rfl ?_ | refine s_leq rfl rfl rfl rfl ?_ | refine s_gtr rfl rfl rfl rfl ?_ | refine s_geq rfl rfl rfl rfl ?_ | refine s_eql rfl rfl rfl rfl ?_ | refine s_neq rfl rfl rfl rfl ?_ | refine s_not rfl rfl rfl ?_ | refine s_pickT rfl rfl rfl (by conv => lhs; whnf) ?_ | refine s_pickF rfl rfl rfl (by conv => lhs; whnf) ?_ | refine s_extract rfl rfl rfl rfl ?_ | refine s_fieldA rfl rfl rfl ?_ | refine s_iface rfl rfl (by conv => lhs; whnf) ?_ | refine s_build rfl rfl rfl ?_)
    refine OPS.nil ?_
    repeat (first | with_reducible refine k_sn ?_ | with_reducible refine k_sr ?_ | with_reducible refine k_se ?_ | with_reducible refine k_bn ?_ | with_reducible refine k_br ?_ | with_reducible refine k_lr ?_ | with_reducible refine k_le ?_ | with_reducible refine k_sp ?_ | with_reducible refine k_bp ?_ | with_reducible refine k_lp ?_ | (with_reducible refine k_be ?_ ?_; exact rfl) | (with_reducible refine k_bf ?_ ?_; exact rfl))
    refine EV.ret ?_
    repeat (first | with_reducible refine k_sn ?_ | with_reducible refine k_sr ?_ | with_reducible refine k_se ?_ | with_reducible refine k_bn ?_ | with_reducible refine k_br ?_ | with_reducible refine k_lr ?_ | with_reducible refine k_le ?_ | with_reducible refine k_sp ?_ | with_reducible refine k_bp ?_ | with_reducible refine k_lp ?_ | (with_reducible refine k_be ?_ ?_; exact rfl) | (with_reducible refine k_bf ?_ ?_; exact rfl))
    refine r_cell_tmp 2 3 rfl rfl hT7.at_ (by conv => lhs; whnf) ?_
    rw [show both (invL ac) (invL asy) = (([], []), 230) by rw [both, if_neg (fun q => he q.1)]]
    exact ⟨rfl, ⟨_, rfl, _, _, rfl, nil_ints _, nil_ints _⟩, GG.turn hT7 h4n⟩
  rw [decide_eq_false he]
  have he : ((invL ac)).2 = 0 := Decidable.not_not.1 he
  repeat (first | refine s_skip rfl rfl ?_ | refine s_mv rfl rfl (by conv => lhs; whnf) ?_ | refine s_asg rfl rfl (by conv => lhs; whnf) ?_ | refine s_len rfl rfl rfl ?_ | refine s_lss rfl rfl rfl rfl ?_ | refine s_leq rfl rfl rfl rfl ?_ | refine s_gtr rfl rfl rfl rfl ?_ | refine s_geq rfl rfl rfl rfl ?_ | refine s_eql rfl rfl rfl rfl ?_ | refine s_neq rfl rfl rfl rfl ?_ | refine s_not rfl rfl rfl ?_ | refine s_pickT rfl rfl rfl (by conv => lhs; whnf) ?_ | refine s_pickF rfl rfl rfl (by conv => lhs; whnf) ?_ | refine s_extract rfl rfl rfl rfl ?_ | refine s_fieldA rfl rfl rfl ?_ | refine s_iface rfl rfl (by conv => lhs; whnf) ?_ | refine s_build rfl rfl rfl ?_)
  by_cases he2 : ((invL asy)).2 ≠ 0
  · rw [decide_eq_true he2]
    repeat (first | refine s_skip rfl rfl ?_ | refine s_mv rfl rfl (by conv => lhs; whnf) ?_ | refine s_asg rfl rfl (by conv => lhs; whnf) ?_ | refine s_len rfl rfl rfl ?_ | refine s_lss rfl rfl rfl rfl ?_ | refine s_leq rfl rfl rfl rfl ?_ | refine s_gtr rfl rfl rfl rfl ?_ | refine s_geq rfl rfl rfl rfl ?_ | refine s_eql rfl rfl rfl rfl ?_ | refine s_neq rfl rfl rfl rfl ?_ | refine s_not rfl rfl rfl ?_ | refine s_pickT rfl rfl rfl (by conv => lhs; whnf) ?_ | refine s_pickF rfl rfl rfl (by conv => lhs; whnf) ?_ | refine s_extract rfl rfl rfl rfl ?_ | refine s_fieldA rfl rfl rfl ?_ | refine s_iface rfl rfl (by conv => lhs; whnf) ?_ | refine s_build rfl rfl rfl ?_)
    refine OPS.nil ?_
    repeat (first | with_reducible refine k_sn ?_ | with_reducible refine k_sr ?_ | with_reducible refine k_se ?_ | with_reducible refine k_bn ?_ | with_reducible refine k_br ?_ | with_reducible refine k_lr ?_ | with_reducible refine k_le ?_ | with_reducible refine k_sp ?_ | with_reducible refine k_bp ?_ | with_reducible refine k_lp ?_ | (with_reducible refine k_be ?_ ?_; exact rfl) | (with_reducible refine k_bf ?_ ?_; exact rfl))
    refine w_cond true rfl (fun _ => ?_) (fun e => by cases e)
    refine w_seq (.ops ?_)
    repeat (first | refine s_skip rfl rfl ?_ | refine s_mv rfl rfl (by conv => lhs; whnf) ?_ | refine s_asg rfl rfl (by conv => lhs; whnf) ?_ | refine s_len rfl rfl rfl ?_ | refine s_lss rfl rfl rfl rfl ?_ | refine s_leq rfl rfl rfl rfl ?_ | refine s_gtr rfl rfl rfl rfl ?_ | refine s_geq rfl rfl rfl rfl ?_ | refine s_eql rfl rfl rfl rfl ?_ | refine s_neq rfl rfl rfl rfl ?_ | refine s_not rfl rfl rfl ?_ | refine s_pickT rfl rfl rfl (by conv => lhs; whnf) ?_ | refine s_pickF rfl rfl rfl (by conv => lhs; whnf) ?_ | refine s_extract rfl rfl rfl rfl ?_ | refine s_fieldA rfl rfl rfl ?_ | refine s_iface rfl rfl (by conv => lhs; whnf) ?_ | refine s_build rfl rfl rfl ?_)
    refine s_storeN rfl rfl rfl rfl A4 (show lover [.slice none 0 0, .slice none 0 0] 0 [_, _] = some [_, _] from rfl) ?_
    intro h7 hT7
    repeat (first | refine s_skip rfl rfl ?_ | refine s_mv rfl rfl (by conv => lhs; whnf) ?_ | refine s_asg rfl rfl (by conv => lhs; whnf) ?_ | refine s_len rfl rfl rfl ?_ | refine s_lss rfl rfl rfl rfl ?_ | refine s_leq rfl rfl rfl rfl ?_ | refine s_gtr rfl rfl rfl rfl ?_ | refine s_geq rfl rfl rfl rfl ?_ | refine s_eql rfl rfl rfl rfl ?_ | refine s_neq rfl rfl rfl rfl ?_ | refine s_not rfl rfl rfl ?_ | refine s_pickT rfl rfl rfl (by conv => lhs; whnf) ?_ | refine s_pickF rfl rfl rfl (by conv => lhs; whnf) ?_ | refine s_extract rfl rfl rfl rfl ?_ | refine s_fieldA rfl rfl rfl ?_ | refine s_iface rfl rfl (by conv => lhs; whnf) ?_ | refine s_build rfl rfl rfl ?_)
    refine OPS.nil ?_
    repeat (first | with_reducible refine k_sn ?_ | with_reducible refine k_sr ?_ | with_reducible refine k_se ?_ | with_reducible refine k_bn ?_ | with_reducible refine k_br ?_ | with_reducible refine k_lr ?_ | with_reducible refine k_le ?_ | with_reducible refine k_sp ?_ | with_reducible refine k_bp ?_ | with_reducible refine k_lp ?_ | (with_reducible refine k_be ?_ ?_; exact rfl) | (with_reducible refine k_bf ?_ ?_; exact rfl))
    refine EV.ret ?_
    repeat (first | with_reducible refine k_sn ?_ | with_reducible refine k_sr ?_ | with_reducible refine k_se ?_ | with_reducible refine k_bn ?_ | with_reducible refine k_br ?_ | with_reducible refine k_lr ?_ | with_reducible refine k_le ?_ | with_reducible refine k_sp ?_ | with_reducible refine k_bp ?_ | with_reducible refine k_lp ?_ | (with_reducible refine k_be ?_ ?_; exact rfl) | (with_reducible refine k_bf ?_ ?_; exact rfl))
    refine r_cell_tmp 2 3 rfl rfl hT7.at_ (by conv => lhs; whnf) ?_
    rw [show both (invL ac) (invL asy) = (([], []), 230) by rw [both, if_neg (fun q => he2 q.2)]]
    exact ⟨rfl, ⟨_, rfl, _, _, rfl, nil_ints _, nil_ints _⟩, GG.turn hT7 h4n⟩
  rw [decide_eq_false he2]
  have he2 : ((invL asy)).2 = 0 := Decidable.not_not.1 he2
  repeat (first | refine s_skip rfl rfl ?_ | refine s_mv rfl rfl (by conv => lhs; whnf) ?_ | refine s_asg rfl rfl (by conv => lhs; whnf) ?_ | refine s_len rfl rfl rfl ?_ | refine s_lss rfl rfl rfl rfl ?_ | refine s_leq rfl rfl rfl rfl ?_ | refine s_gtr rfl rfl rfl rfl ?_ | refine s_geq rfl rfl rfl rfl ?_ | refine s_eql rfl rfl rfl rfl ?_ | refine s_neq rfl rfl rfl rfl ?_ | refine s_not rfl rfl rfl ?_ | refine s_pickT rfl rfl rfl (by conv => lhs; whnf) ?_ | refine s_pickF rfl rfl rfl (by conv => lhs; whnf) ?_ | refine s_extract rfl rfl rfl rfl ?_ | refine s_fieldA rfl rfl rfl ?_ | refine s_iface rfl rfl (by conv => lhs; whnf) ?_ | refine s_build rfl rfl rfl ?_)
  refine OPS.nil ?_
  repeat (first | with_reducible refine k_sn ?_ | with_reducible refine k_sr ?_ | with_reducible refine k_se ?_ | with_reducible refine k_bn ?_ | with_reducible refine k_br ?_ | with_reducible refine k_lr ?_ | with_reducible refine k_le ?_ | with_reducible refine k_sp ?_ | with_reducible refine k_bp ?_ | with_reducible refine k_lp ?_ | (with_reducible refine k_be ?_ ?_; exact rfl) | (with_reducible refine k_bf ?_ ?_; exact rfl))
  refine w_cond false rfl (fun e => by cases e) (fun _ => ?_)
  refine EV.skip ?_
  repeat (first | with_reducible refine k_sn ?_ | with_reducible refine k_sr ?_ | with_reducible refine k_se ?_ | with_reducible refine k_bn ?_ | with_reducible refine k_br ?_ | with_reducible refine k_lr ?_ | with_reducible refine k_le ?_ | with_reducible refine k_sp ?_ | with_reducible refine k_bp ?_ | with_reducible refine k_lp ?_ | (with_reducible refine k_be ?_ ?_; exact rfl) | (with_reducible refine k_bf ?_ ?_; exact rfl))
  refine w_seq (.ops ?_)
  repeat (first | refine s_skip rfl rfl ?_ | refine s_mv rfl rfl (by conv => lhs; whnf) ?_ | refine s_asg rfl rfl (by conv => lhs; whnf) ?_ | refine s_len rfl rfl rfl ?_ | refine s_lss rfl rfl rfl rfl ?_ | refine s_leq rfl rfl rfl rfl ?_ | refine s_gtr rfl rfl rfl rfl ?_ | refine s_geq rfl rfl rfl rfl ?_ | refine s_eql rfl rfl rfl rfl ?_ | refine s_neq rfl rfl rfl rfl ?_ | refine s_not rfl rfl rfl ?_ | refine s_pickT rfl rfl rfl (by conv => lhs; whnf) ?_ | refine s_pickF rfl rfl rfl (by conv => lhs; whnf) ?_ | refine s_extract rfl rfl rfl rfl ?_ | refine s_fieldA rfl rfl rfl ?_ | refine s_iface rfl rfl (by conv => lhs; whnf) ?_ | refine s_build rfl rfl rfl ?_)
  refine s_storeN rfl rfl rfl rfl A4 (show lover [.slice none 0 0, .slice none 0 0] 0 [_, _] = some [_, _] from rfl) ?_
  intro h7 hT7
  repeat (first | refine s_skip rfl rfl ?_ | refine s_mv rfl rfl (by conv => lhs; whnf) ?_ | refine s_asg rfl rfl (by conv => lhs; whnf) ?_ | refine s_len rfl rfl rfl ?_ | refine s_lss rfl rfl rfl rfl ?_ | refine s_leq rfl rfl rfl rfl ?_ | refine s_gtr rfl rfl rfl rfl ?_ | refine s_geq rfl rfl rfl rfl ?_ | refine s_eql rfl rfl rfl rfl ?_ | refine s_neq rfl rfl rfl rfl ?_ | refine s_not rfl rfl rfl ?_ | refine s_pickT rfl rfl rfl (by conv => lhs; whnf) ?_ | refine s_pickF rfl rfl rfl (by conv => lhs; whnf) ?_ | refine s_extract rfl rfl rfl rfl ?_ | refine s_fieldA rfl rfl rfl ?_ | refine s_iface rfl rfl (by conv => lhs; whnf) ?_ | refine s_build rfl rfl rfl ?_)
  refine OPS.nil ?_
  repeat (first | with_reducible refine k_sn ?_ | with_reducible refine k_sr ?_ | with_reducible refine k_se ?_ | with_reducible refine k_bn ?_ | with_reducible refine k_br ?_ | with_reducible refine k_lr ?_ | with_reducible refine k_le ?_ | with_reducible refine k_sp ?_ | with_reducible refine k_bp ?_ | with_reducible refine k_lp ?_ | (with_reducible refine k_be ?_ ?_; exact rfl) | (with_reducible refine k_bf ?_ ?_; exact rfl))
  refine EV.ret ?_
  repeat (first | with_reducible refine k_sn ?_ | with_reducible refine k_sr ?_ | with_reducible refine k_se ?_ | with_reducible refine k_bn ?_ | with_reducible refine k_br ?_ | with_reducible refine k_lr ?_ | with_reducible refine k_le ?_ | with_reducible refine k_sp ?_ | with_reducible refine k_bp ?_ | with_reducible refine k_lp ?_ | (with_reducible refine k_be ?_ ?_; exact rfl) | (with_reducible refine k_bf ?_ ?_; exact rfl))
  refine r_cell_tmp 2 3 rfl rfl hT7.at_ (by conv => lhs; whnf) ?_
  rw [show both (invL ac) (invL asy) = ((((invL ac)).1, ((invL asy)).1), 0) by rw [both, if_pos ⟨he, he2⟩]]
  exact ⟨rfl, ⟨_, rfl, _, _, rfl, ints_turn hi1 hT7 hn1' k2, ints_turn hi2 hT7 hn2' (by omega)⟩, GG.turn hT7 h4n⟩
end Go.Proofs.YtfakljdleblkoaaGreat
