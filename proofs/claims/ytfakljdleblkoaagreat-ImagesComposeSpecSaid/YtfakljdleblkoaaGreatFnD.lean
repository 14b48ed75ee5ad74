/-
  Inverses of lists.
-/
import Derived.Test.YtfakljdleblkoaaGreatFnC
set_option linter.unusedSimpArgs false
set_option linter.unusedVariables false
set_option maxHeartbeats 400000
set_option maxRecDepth 20000
namespace Go.Proofs.YtfakljdleblkoaaGreat
open Go.Ideal

/-- the inverse, as far as element k -/
def invK (xs : List Int) : Nat → List Int
  | 0 => List.replicate xs.length 0
  | k + 1 => (invK xs k).set (xs.getD k 0).toNat (k : Int)

theorem invK_length (xs : List Int) : ∀ k, (invK xs k).length = xs.length
  | 0 => by simp [invK]
  | k + 1 => by simp [invK, invK_length xs k]

def invL (xs : List Int) : List Int × Int := if xs.length ≤ 256 ∧ permB xs xs.length = true then (invK xs xs.length, 0) else ([], 110)

def InvK (h : IH) (xs : List Int) : KR := fun r pm h' => pm = none ∧ (∃ v, r = .ok (.tuple ⟨[v, .int .i64 (invL xs).2]⟩) ∧ IntsAt h' v (invL xs).1 ∧ NewV h.next v) ∧ Agree h h'

theorem ints_at {h : IH} {b m : Nat} {xs : List Int} (hm : xs.length = m) (a : At h b (.cells (xs.map (.int .i64 ·)))) : IntsAt h (.slice (some ⟨b, 0, some 0⟩) m m) xs := by
  subst hm
  refine .inr ⟨b, 0, 0, xs.length, _, rfl, a.c, fun k x hk => ?_⟩
  rw [Nat.zero_add, List.getElem?_map, hk]; rfl

/-- the loop of Inverse at element k -/
def inI38 (v : Value) (xs : List Int) (h : IH) : Nat → IAct → IH → Prop := fun r a h1 => ∃ k b, k + r = xs.length ∧ a = act 32 [(2, .slice (some ⟨b, 0, some 0⟩) xs.length xs.length), (19, v), (20, .int .i64 (xs.length : Int)), (21, .int .i64 (k : Int))] [] none none ∧
  Agree h h1 ∧ At h1 b (.cells ((invK xs k).map (.int .i64 ·))) ∧ h.next ≤ b

theorem inv38_ok {h : IH} {v : Value} {xs : List Int} (hx : IntsAt h v xs) (hxl : xs.length ≤ 1000000) :
    CALL Tryz.prog ⟨.func 38, [v], [], none⟩ h (InvK h xs) := by
  obtain ⟨a0, c0, rfl⟩ := hx.form
  refine c_fn c38 f38 ?_
  show EV _ _ (act 32 [(0, .slice a0 xs.length c0)] [] none none) h _
  refine w_seq (.ops ?_)
  repeat (first | refine s_skip rfl rfl ?_ | refine s_mv rfl rfl (by conv => lhs; whnf) ?_ | refine s_asg rfl rfl (by conv => lhs; whnf) ?_ | refine s_len rfl rfl rfl ?_ | refine s_lss rfl rfl rfl rfl ?_ | refine s_leq rfl rfl rfl rfl ?_ | refine s_gtr rfl rfl rfl rfl ?_ | refine s_geq rfl rfl rfl rfl ?_ | refine s_eql rfl rfl rfl rfl ?_ | refine s_neq rfl rfl rfl rfl ?_ | refine s_not rfl rfl rfl ?_ | refine s_pickT rfl rfl rfl (by conv => lhs; whnf) ?_ | refine s_pickF rfl rfl rfl (by conv => lhs; whnf) ?_ | refine s_extract rfl rfl rfl rfl ?_ | refine s_fieldA rfl rfl rfl ?_ | refine s_iface rfl rfl (by conv => lhs; whnf) ?_ | refine s_build rfl rfl rfl ?_)
  refine OPS.nil ?_
  repeat (first | with_reducible refine k_sn ?_ | with_reducible refine k_sr ?_ | with_reducible refine k_se ?_ | with_reducible refine k_bn ?_ | with_reducible refine k_br ?_ | with_reducible refine k_lr ?_ | with_reducible refine k_le ?_ | with_reducible refine k_sp ?_ | with_reducible refine k_bp ?_ | with_reducible refine k_lp ?_ | (with_reducible refine k_be ?_ ?_; exact rfl) | (with_reducible refine k_bf ?_ ?_; exact rfl))
  refine w_seq (w_seq (.ops ?_))
  repeat (first | refine s_skip rfl rfl ?_ | refine s_mv rfl rfl (by conv => lhs; whnf) ?_ | refine s_asg rfl rfl (by conv => lhs; whnf) ?_ | refine s_len rfl rfl rfl ?_ | refine s_lss rfl rfl rfl rfl ?_ | refine s_leq rfl rfl rfl rfl ?_ | refine s_gtr rfl rfl rfl rfl ?_ | refine s_geq rfl rfl rfl rfl ?_ | refine s_eql rfl rfl rfl rfl ?_ | refine s_neq rfl rfl rfl rfl ?_ | refine s_not rfl rfl rfl ?_ | refine s_pickT rfl rfl rfl (by conv => lhs; whnf) ?_ | refine s_pickF rfl rfl rfl (by conv => lhs; whnf) ?_ | refine s_extract rfl rfl rfl rfl ?_ | refine s_fieldA rfl rfl rfl ?_ | refine s_iface rfl rfl (by conv => lhs; whnf) ?_ | refine s_build rfl rfl rfl ?_)
  by_cases h0 : (256 : Int) < (xs.length : Int)
  · rw [decide_eq_true h0]
    repeat (first | refine s_skip rfl rfl ?_ | refine s_mv rfl rfl (by conv => lhs; whnf) ?_ | refine s_asg rfl rfl (by conv => lhs; whnf) ?_ | refine s_len rfl rfl rfl ?_ | refine s_lss rfl rfl rfl rfl ?_ | refine s_leq rfl rfl rfl rfl ?_ | refine s_gtr rfl rfl rfl rfl ?_ | refine s_geq rfl rfl rfl rfl ?_ | refine s_eql rfl rfl rfl rfl ?_ | refine s_neq rfl rfl rfl rfl ?_ | refine s_not rfl rfl rfl ?_ | refine s_pickT rfl rfl rfl (by conv => lhs; whnf) ?_ | refine s_pickF rfl rfl rfl (by conv => lhs; whnf) ?_ | refine s_extract rfl rfl rfl rfl ?_ | refine s_fieldA rfl rfl rfl ?_ | refine s_iface rfl rfl (by conv => lhs; whnf) ?_ | refine s_build rfl rfl rfl ?_)
    refine OPS.nil ?_
    repeat (first | with_reducible refine k_sn ?_ | with_reducible refine k_sr ?_ | with_reducible refine k_se ?_ | with_reducible refine k_bn ?_ | with_reducible refine k_br ?_ | with_reducible refine k_lr ?_ | with_reducible refine k_le ?_ | with_reducible refine k_sp ?_ | with_reducible refine k_bp ?_ | with_reducible refine k_lp ?_ | (with_reducible refine k_be ?_ ?_; exact rfl) | (with_reducible refine k_bf ?_ ?_; exact rfl))
    refine w_cond true rfl (fun _ => ?_) (fun e => by cases e)
    refine w_seq (.ops ?_)
    repeat (first | refine s_skip rfl rfl ?_ | refine s_mv rfl rfl (by conv => lhs; whnf) ?_ | refine s_asg rfl rfl (by conv => lhs; whnf) ?_ | refine s_len rfl rfl rfl ?_ | refine s_lss rfl rfl rfl rfl ?_ | refine s_leq rfl rfl rfl rfl ?_ | refine s_gtr rfl rfl rfl rfl ?_ | refine s_geq rfl rfl rfl rfl ?_ | refine s_eql rfl rfl rfl rfl ?_ | refine s_neq rfl rfl rfl rfl ?_ | refine s_not rfl rfl rfl ?_ | refine s_pickT rfl rfl rfl (by conv => lhs; whnf) ?_ | refine s_pickF rfl rfl rfl (by conv => lhs; whnf) ?_ | refine s_extract rfl rfl rfl rfl ?_ | refine s_fieldA rfl rfl rfl ?_ | refine s_iface rfl rfl (by conv => lhs; whnf) ?_ | refine s_build rfl rfl rfl ?_)
    refine OPS.nil ?_
    repeat (first | with_reducible refine k_sn ?_ | with_reducible refine k_sr ?_ | with_reducible refine k_se ?_ | with_reducible refine k_bn ?_ | with_reducible refine k_br ?_ | with_reducible refine k_lr ?_ | with_reducible refine k_le ?_ | with_reducible refine k_sp ?_ | with_reducible refine k_bp ?_ | with_reducible refine k_lp ?_ | (with_reducible refine k_be ?_ ?_; exact rfl) | (with_reducible refine k_bf ?_ ?_; exact rfl))
    refine EV.ret ?_
    repeat (first | with_reducible refine k_sn ?_ | with_reducible refine k_sr ?_ | with_reducible refine k_se ?_ | with_reducible refine k_bn ?_ | with_reducible refine k_br ?_ | with_reducible refine k_lr ?_ | with_reducible refine k_le ?_ | with_reducible refine k_sp ?_ | with_reducible refine k_bp ?_ | with_reducible refine k_lp ?_ | (with_reducible refine k_be ?_ ?_; exact rfl) | (with_reducible refine k_bf ?_ ?_; exact rfl))
    refine r_tmp2 2 3 rfl (by conv => lhs; whnf) (by conv => lhs; whnf) ⟨rfl, ⟨.slice none 0 0, ?_, ?_, new_nil _⟩, Agree.refl _⟩
    · rw [invL, if_neg (by omega)]
    · rw [invL, if_neg (by omega)]; exact nil_ints _
  rw [decide_eq_false h0]
  repeat (first | refine s_skip rfl rfl ?_ | refine s_mv rfl rfl (by conv => lhs; whnf) ?_ | refine s_asg rfl rfl (by conv => lhs; whnf) ?_ | refine s_len rfl rfl rfl ?_ | refine s_lss rfl rfl rfl rfl ?_ | refine s_leq rfl rfl rfl rfl ?_ | refine s_gtr rfl rfl rfl rfl ?_ | refine s_geq rfl rfl rfl rfl ?_ | refine s_eql rfl rfl rfl rfl ?_ | refine s_neq rfl rfl rfl rfl ?_ | refine s_not rfl rfl rfl ?_ | refine s_pickT rfl rfl rfl (by conv => lhs; whnf) ?_ | refine s_pickF rfl rfl rfl (by conv => lhs; whnf) ?_ | refine s_extract rfl rfl rfl rfl ?_ | refine s_fieldA rfl rfl rfl ?_ | refine s_iface rfl rfl (by conv => lhs; whnf) ?_ | refine s_build rfl rfl rfl ?_)
  refine s_call rfl rfl (.func 60) rfl _ (permutes_ok hx (by omega) xs.length (by omega)) (fun _ _ _ r hr => by cases hr) ?_ (fun ch h' hm => by cases hm.2.1) (fun r p h' hm => hm.1)
  rintro v h1 ⟨_, hv, hA1⟩
  cases hv
  cases hp : permB xs xs.length with
  | false =>
    repeat (first | refine s_skip rfl rfl ?_ | refine s_mv rfl rfl (by conv => lhs; whnf) ?_ | refine s_asg rfl rfl (by conv => lhs; whnf) ?_ | refine s_len rfl rfl rfl ?_ | refine s_lss rfl rfl rfl rfl ?_ | refine s_leq rfl rfl rfl rfl ?_ | refine s_gtr rfl rfl rfl rfl ?_ | refine s_geq rfl rfl rfl rfl ?_ | refine s_eql rfl rfl rfl rfl ?_ | refine s_neq rfl rfl rfl rfl ?_ | refine s_not rfl rfl rfl ?_ | refine s_pickT rfl rfl rfl (by conv => lhs; whnf) ?_ | refine s_pickF rfl rfl rfl (by conv => lhs; whnf) ?_ | refine s_extract rfl rfl rfl rfl ?_ | refine s_fieldA rfl rfl rfl ?_ | refine s_iface rfl rfl (by conv => lhs; whnf) ?_ | refine s_build rfl rfl rfl ?_)
    refine OPS.nil ?_
    repeat (first | with_reducible refine k_sn ?_ | with_reducible refine k_sr ?_ | with_reducible refine k_se ?_ | with_reducible refine k_bn ?_ | with_reducible refine k_br ?_ | with_reducible refine k_lr ?_ | with_reducible refine k_le ?_ | with_reducible refine k_sp ?_ | with_reducible refine k_bp ?_ | with_reducible refine k_lp ?_ | (with_reducible refine k_be ?_ ?_; exact rfl) | (with_reducible refine k_bf ?_ ?_; exact rfl))
    refine w_cond true rfl (fun _ => ?_) (fun e => by cases e)
    refine w_seq (.ops ?_)
    repeat (first | refine s_skip rfl rfl ?_ | refine s_mv rfl rfl (by conv => lhs; whnf) ?_ | refine s_asg rfl rfl (by conv => lhs; whnf) ?_ | refine s_len rfl rfl rfl ?_ | refine s_lss rfl rfl rfl rfl ?_ | refine s_leq rfl rfl rfl rfl ?_ | refine s_gtr rfl rfl rfl rfl ?_ | refine s_geq rfl rfl rfl rfl ?_ | refine s_eql rfl rfl rfl rfl ?_ | refine s_neq rfl rfl rfl rfl ?_ | refine s_not rfl rfl rfl ?_ | refine s_pickT rfl rfl rfl (by conv => lhs; whnf) ?_ | refine s_pickF rfl rfl rfl (by conv => lhs; whnf) ?_ | refine s_extract rfl rfl rfl rfl ?_ | refine s_fieldA rfl rfl rfl ?_ | refine s_iface rfl rfl (by conv => lhs; whnf) ?_ | refine s_build rfl rfl rfl ?_)
    refine OPS.nil ?_
    repeat (first | with_reducible refine k_sn ?_ | with_reducible refine k_sr ?_ | with_reducible refine k_se ?_ | with_reducible refine k_bn ?_ | with_reducible refine k_br ?_ | with_reducible refine k_lr ?_ | with_reducible refine k_le ?_ | with_reducible refine k_sp ?_ | with_reducible refine k_bp ?_ | with_reducible refine k_lp ?_ | (with_reducible refine k_be ?_ ?_; exact rfl) | (with_reducible refine k_bf ?_ ?_; exact rfl))
    refine EV.ret ?_
    repeat (first | with_reducible refine k_sn ?_ | with_reducible refine k_sr ?_ | with_reducible refine k_se ?_ | with_reducible refine k_bn ?_ | with_reducible refine k_br ?_ | with_reducible refine k_lr ?_ | with_reducible refine k_le ?_ | with_reducible refine k_sp ?_ | with_reducible refine k_bp ?_ | with_reducible refine k_lp ?_ | (with_reducible refine k_be ?_ ?_; exact rfl) | (with_reducible refine k_bf ?_ ?_; exact rfl))
    refine r_tmp2 2 3 rfl (by conv => lhs; whnf) (by conv => lhs; whnf) ⟨rfl, ⟨.slice none 0 0, ?_, ?_, new_nil _⟩, hA1⟩
    · rw [invL, if_neg (by rw [hp]; simp)]
    · rw [invL, if_neg (by rw [hp]; simp)]; exact nil_ints _
  | true =>
    have hin := (permB_mem hp).2
    repeat (first | refine s_skip rfl rfl ?_ | refine s_mv rfl rfl (by conv => lhs; whnf) ?_ | refine s_asg rfl rfl (by conv => lhs; whnf) ?_ | refine s_len rfl rfl rfl ?_ | refine s_lss rfl rfl rfl rfl ?_ | refine s_leq rfl rfl rfl rfl ?_ | refine s_gtr rfl rfl rfl rfl ?_ | refine s_geq rfl rfl rfl rfl ?_ | refine s_eql rfl rfl rfl rfl ?_ | refine s_neq rfl rfl rfl rfl ?_ | refine s_not rfl rfl rfl ?_ | refine s_pickT rfl rfl rfl (by conv => lhs; whnf) ?_ | refine s_pickF rfl rfl rfl (by conv => lhs; whnf) ?_ | refine s_extract rfl rfl rfl rfl ?_ | refine s_fieldA rfl rfl rfl ?_ | refine s_iface rfl rfl (by conv => lhs; whnf) ?_ | refine s_build rfl rfl rfl ?_)
    refine OPS.nil ?_
    repeat (first | with_reducible refine k_sn ?_ | with_reducible refine k_sr ?_ | with_reducible refine k_se ?_ | with_reducible refine k_bn ?_ | with_reducible refine k_br ?_ | with_reducible refine k_lr ?_ | with_reducible refine k_le ?_ | with_reducible refine k_sp ?_ | with_reducible refine k_bp ?_ | with_reducible refine k_lp ?_ | (with_reducible refine k_be ?_ ?_; exact rfl) | (with_reducible refine k_bf ?_ ?_; exact rfl))
    refine w_cond false rfl (fun e => by cases e) (fun _ => ?_)
    refine EV.skip ?_
    repeat (first | with_reducible refine k_sn ?_ | with_reducible refine k_sr ?_ | with_reducible refine k_se ?_ | with_reducible refine k_bn ?_ | with_reducible refine k_br ?_ | with_reducible refine k_lr ?_ | with_reducible refine k_le ?_ | with_reducible refine k_sp ?_ | with_reducible refine k_bp ?_ | with_reducible refine k_lp ?_ | (with_reducible refine k_be ?_ ?_; exact rfl) | (with_reducible refine k_bf ?_ ?_; exact rfl))
    refine w_seq (.ops ?_)
    repeat (first | refine s_skip rfl rfl ?_ | refine s_mv rfl rfl (by conv => lhs; whnf) ?_ | refine s_asg rfl rfl (by conv => lhs; whnf) ?_ | refine s_len rfl rfl rfl ?_ | refine s_lss rfl rfl rfl rfl ?_ | refine s_leq rfl rfl rfl rfl ?_ | refine s_gtr rfl rfl rfl rfl ?_ | refine s_geq rfl rfl rfl rfl ?_ | refine s_eql rfl rfl rfl rfl ?_ | refine s_neq rfl rfl rfl rfl ?_ | refine s_not rfl rfl rfl ?_ | refine s_pickT rfl rfl rfl (by conv => lhs; whnf) ?_ | refine s_pickF rfl rfl rfl (by conv => lhs; whnf) ?_ | refine s_extract rfl rfl rfl rfl ?_ | refine s_fieldA rfl rfl rfl ?_ | refine s_iface rfl rfl (by conv => lhs; whnf) ?_ | refine s_build rfl rfl rfl ?_)
    refine s_mkslice (m := xs.length) rfl rfl rfl rfl (by omega) ?_
    intro h2 hA2 hb2 hn2
    repeat (first | refine s_skip rfl rfl ?_ | refine s_mv rfl rfl (by conv => lhs; whnf) ?_ | refine s_asg rfl rfl (by conv => lhs; whnf) ?_ | refine s_len rfl rfl rfl ?_ | refine s_lss rfl rfl rfl rfl ?_ | refine s_leq rfl rfl rfl rfl ?_ | refine s_gtr rfl rfl rfl rfl ?_ | refine s_geq rfl rfl rfl rfl ?_ | refine s_eql rfl rfl rfl rfl ?_ | refine s_neq rfl rfl rfl rfl ?_ | refine s_not rfl rfl rfl ?_ | refine s_pickT rfl rfl rfl (by conv => lhs; whnf) ?_ | refine s_pickF rfl rfl rfl (by conv => lhs; whnf) ?_ | refine s_extract rfl rfl rfl rfl ?_ | refine s_fieldA rfl rfl rfl ?_ | refine s_iface rfl rfl (by conv => lhs; whnf) ?_ | refine s_build rfl rfl rfl ?_)
    refine OPS.nil ?_
    repeat (first | with_reducible refine k_sn ?_ | with_reducible refine k_sr ?_ | with_reducible refine k_se ?_ | with_reducible refine k_bn ?_ | with_reducible refine k_br ?_ | with_reducible refine k_lr ?_ | with_reducible refine k_le ?_ | with_reducible refine k_sp ?_ | with_reducible refine k_bp ?_ | with_reducible refine k_lp ?_ | (with_reducible refine k_be ?_ ?_; exact rfl) | (with_reducible refine k_bf ?_ ?_; exact rfl))
    refine w_seq (w_seq (.ops ?_))
    repeat (first | refine s_skip rfl rfl ?_ | refine s_mv rfl rfl (by conv => lhs; whnf) ?_ | refine s_asg rfl rfl (by conv => lhs; whnf) ?_ | refine s_len rfl rfl rfl ?_ | refine s_lss rfl rfl rfl rfl ?_ | refine s_leq rfl rfl rfl rfl ?_ | refine s_gtr rfl rfl rfl rfl ?_ | refine s_geq rfl rfl rfl rfl ?_ | refine s_eql rfl rfl rfl rfl ?_ | refine s_neq rfl rfl rfl rfl ?_ | refine s_not rfl rfl rfl ?_ | refine s_pickT rfl rfl rfl (by conv => lhs; whnf) ?_ | refine s_pickF rfl rfl rfl (by conv => lhs; whnf) ?_ | refine s_extract rfl rfl rfl rfl ?_ | refine s_fieldA rfl rfl rfl ?_ | refine s_iface rfl rfl (by conv => lhs; whnf) ?_ | refine s_build rfl rfl rfl ?_)
    refine OPS.nil ?_
    repeat (first | with_reducible refine k_sn ?_ | with_reducible refine k_sr ?_ | with_reducible refine k_se ?_ | with_reducible refine k_bn ?_ | with_reducible refine k_br ?_ | with_reducible refine k_lr ?_ | with_reducible refine k_le ?_ | with_reducible refine k_sp ?_ | with_reducible refine k_bp ?_ | with_reducible refine k_lp ?_ | (with_reducible refine k_be ?_ ?_; exact rfl) | (with_reducible refine k_bf ?_ ?_; exact rfl))
    refine w_block ?_
    refine w_weak (weaker_act (l0 := [(2, .slice (some ⟨h1.next, 0, some 0⟩) xs.length xs.length), (19, .slice a0 xs.length c0), (20, .int .i64 (xs.length : Int)), (21, .int .i64 ((0 : Nat) : Int))]) ⟨rfl, rfl, rfl, rfl, trivial⟩) ?_
    refine w_loop (inI38 (.slice a0 xs.length c0) xs h) ?_ xs.length _ _ ⟨0, h1.next, by omega, rfl, hA1.trans hA2, ?_, hA1.next⟩
    · rintro r a h3 ⟨k, b, hk, rfl, hA3, hb3, hbn⟩
      refine w_seq (.ops ?_)
      repeat (first | refine s_skip rfl rfl ?_ | refine s_mv rfl rfl (by conv => lhs; whnf) ?_ | refine s_asg rfl rfl (by conv => lhs; whnf) ?_ | refine s_len rfl rfl rfl ?_ | refine s_lss rfl rfl rfl rfl ?_ | refine s_leq rfl rfl rfl rfl ?_ | refine s_gtr rfl rfl rfl rfl ?_ | refine s_geq rfl rfl rfl rfl ?_ | refine s_eql rfl rfl rfl rfl ?_ | refine s_neq rfl rfl rfl rfl ?_ | refine s_not rfl rfl rfl ?_ | refine s_pickT rfl rfl rfl (by conv => lhs; whnf) ?_ | refine s_pickF rfl rfl rfl (by conv => lhs; whnf) ?_ | refine s_extract rfl rfl rfl rfl ?_ | refine s_fieldA rfl rfl rfl ?_ | refine s_iface rfl rfl (by conv => lhs; whnf) ?_ | refine s_build rfl rfl rfl ?_)
      refine OPS.nil ?_
      repeat (first | with_reducible refine k_sn ?_ | with_reducible refine k_sr ?_ | with_reducible refine k_se ?_ | with_reducible refine k_bn ?_ | with_reducible refine k_br ?_ | with_reducible refine k_lr ?_ | with_reducible refine k_le ?_ | with_reducible refine k_sp ?_ | with_reducible refine k_bp ?_ | with_reducible refine k_lp ?_ | (with_reducible refine k_be ?_ ?_; exact rfl) | (with_reducible refine k_bf ?_ ?_; exact rfl))
      refine w_seq (w_cond (decide ((k : Int) < (xs.length : Int))) rfl (fun hc => ?_) (fun hc => ?_))
      · have hkm : k < xs.length := by have := of_decide_eq_true hc; omega
        obtain ⟨_, i0, o0, f0, cs0, x, rfl, hat, hxk, hcx⟩ := hx.elem (k := k) (by omega)
        have hcx' : cs0[o0 + (k : Int).toNat * 1]? = some (.int .i64 x) := by simpa using hcx
        have hxr := hin x (List.mem_of_getElem? hxk)
        obtain ⟨j, rfl⟩ := Int.eq_ofNat_of_zero_le hxr.1
        refine EV.skip ?_
        repeat (first | with_reducible refine k_sn ?_ | with_reducible refine k_sr ?_ | with_reducible refine k_se ?_ | with_reducible refine k_bn ?_ | with_reducible refine k_br ?_ | with_reducible refine k_lr ?_ | with_reducible refine k_le ?_ | with_reducible refine k_sp ?_ | with_reducible refine k_bp ?_ | with_reducible refine k_lp ?_ | (with_reducible refine k_be ?_ ?_; exact rfl) | (with_reducible refine k_bf ?_ ?_; exact rfl))
        refine w_seq (w_block (w_seq (.ops ?_)))
        repeat (first | refine s_skip rfl rfl ?_ | refine s_mv rfl rfl (by conv => lhs; whnf) ?_ | refine s_asg rfl rfl (by conv => lhs; whnf) ?_ | refine s_len rfl rfl rfl ?_ | refine s_lss rfl rfl rfl rfl ?_ | refine s_leq rfl rfl rfl rfl ?_ | refine s_gtr rfl rfl rfl rfl ?_ | refine s_geq rfl rfl rfl rfl ?_ | refine s_eql rfl rfl rfl rfl ?_ | refine s_neq rfl rfl rfl rfl ?_ | refine s_not rfl rfl rfl ?_ | refine s_pickT rfl rfl rfl (by conv => lhs; whnf) ?_ | refine s_pickF rfl rfl rfl (by conv => lhs; whnf) ?_ | refine s_extract rfl rfl rfl rfl ?_ | refine s_fieldA rfl rfl rfl ?_ | refine s_iface rfl rfl (by conv => lhs; whnf) ?_ | refine s_build rfl rfl rfl ?_)
        refine s_idxSl rfl rfl rfl rfl (by omega) (by omega) ?_
        refine s_loadR rfl rfl rfl (hat.agree hA3) hcx' ?_
        repeat (first | refine s_skip rfl rfl ?_ | refine s_mv rfl rfl (by conv => lhs; whnf) ?_ | refine s_asg rfl rfl (by conv => lhs; whnf) ?_ | refine s_len rfl rfl rfl ?_ | refine s_lss rfl rfl rfl rfl ?_ | refine s_leq rfl rfl rfl rfl ?_ | refine s_gtr rfl rfl rfl rfl ?_ | refine s_geq rfl rfl rfl rfl ?_ | refine s_eql rfl rfl rfl rfl ?_ | refine s_neq rfl rfl rfl rfl ?_ | refine s_not rfl rfl rfl ?_ | refine s_pickT rfl rfl rfl (by conv => lhs; whnf) ?_ | refine s_pickF rfl rfl rfl (by conv => lhs; whnf) ?_ | refine s_extract rfl rfl rfl rfl ?_ | refine s_fieldA rfl rfl rfl ?_ | refine s_iface rfl rfl (by conv => lhs; whnf) ?_ | refine s_build rfl rfl rfl ?_)
        refine OPS.nil ?_
        repeat (first | with_reducible refine k_sn ?_ | with_reducible refine k_sr ?_ | with_reducible refine k_se ?_ | with_reducible refine k_bn ?_ | with_reducible refine k_br ?_ | with_reducible refine k_lr ?_ | with_reducible refine k_le ?_ | with_reducible refine k_sp ?_ | with_reducible refine k_bp ?_ | with_reducible refine k_lp ?_ | (with_reducible refine k_be ?_ ?_; exact rfl) | (with_reducible refine k_bf ?_ ?_; exact rfl))
        refine .ops ?_
        repeat (first | refine s_skip rfl rfl ?_ | refine s_mv rfl rfl (by conv => lhs; whnf) ?_ | refine s_asg rfl rfl (by conv => lhs; whnf) ?_ | refine s_len rfl rfl rfl ?_ | refine s_lss rfl rfl rfl rfl ?_ | refine s_leq rfl rfl rfl rfl ?_ | refine s_gtr rfl rfl rfl rfl ?_ | refine s_geq rfl rfl rfl rfl ?_ | refine s_eql rfl rfl rfl rfl ?_ | refine s_neq rfl rfl rfl rfl ?_ | refine s_not rfl rfl rfl ?_ | refine s_pickT rfl rfl rfl (by conv => lhs; whnf) ?_ | refine s_pickF rfl rfl rfl (by conv => lhs; whnf) ?_ | refine s_extract rfl rfl rfl rfl ?_ | refine s_fieldA rfl rfl rfl ?_ | refine s_iface rfl rfl (by conv => lhs; whnf) ?_ | refine s_build rfl rfl rfl ?_)
        refine s_idxSl rfl rfl rfl rfl (by omega) (by omega) ?_
        refine s_store1 rfl rfl (by conv => lhs; whnf) rfl hb3 (by rw [List.length_map, invK_length]; simp; omega) ?_
        intro h4 hT4
        repeat (first | refine s_skip rfl rfl ?_ | refine s_mv rfl rfl (by conv => lhs; whnf) ?_ | refine s_asg rfl rfl (by conv => lhs; whnf) ?_ | refine s_len rfl rfl rfl ?_ | refine s_lss rfl rfl rfl rfl ?_ | refine s_leq rfl rfl rfl rfl ?_ | refine s_gtr rfl rfl rfl rfl ?_ | refine s_geq rfl rfl rfl rfl ?_ | refine s_eql rfl rfl rfl rfl ?_ | refine s_neq rfl rfl rfl rfl ?_ | refine s_not rfl rfl rfl ?_ | refine s_pickT rfl rfl rfl (by conv => lhs; whnf) ?_ | refine s_pickF rfl rfl rfl (by conv => lhs; whnf) ?_ | refine s_extract rfl rfl rfl rfl ?_ | refine s_fieldA rfl rfl rfl ?_ | refine s_iface rfl rfl (by conv => lhs; whnf) ?_ | refine s_build rfl rfl rfl ?_)
        refine OPS.nil ?_
        repeat (first | with_reducible refine k_sn ?_ | with_reducible refine k_sr ?_ | with_reducible refine k_se ?_ | with_reducible refine k_bn ?_ | with_reducible refine k_br ?_ | with_reducible refine k_lr ?_ | with_reducible refine k_le ?_ | with_reducible refine k_sp ?_ | with_reducible refine k_bp ?_ | with_reducible refine k_lp ?_ | (with_reducible refine k_be ?_ ?_; exact rfl) | (with_reducible refine k_bf ?_ ?_; exact rfl))
        refine .ops ?_
        repeat (first | refine s_skip rfl rfl ?_ | refine s_mv rfl rfl (by conv => lhs; whnf) ?_ | refine s_asg rfl rfl (by conv => lhs; whnf) ?_ | refine s_len rfl rfl rfl ?_ | refine s_lss rfl rfl rfl rfl ?_ | refine s_leq rfl rfl rfl rfl ?_ | refine s_gtr rfl rfl rfl rfl ?_ | refine s_geq rfl rfl rfl rfl ?_ | refine s_eql rfl rfl rfl rfl ?_ | refine s_neq rfl rfl rfl rfl ?_ | refine s_not rfl rfl rfl ?_ | refine s_pickT rfl rfl rfl (by conv => lhs; whnf) ?_ | refine s_pickF rfl rfl rfl (by conv => lhs; whnf) ?_ | refine s_extract rfl rfl rfl rfl ?_ | refine s_fieldA rfl rfl rfl ?_ | refine s_iface rfl rfl (by conv => lhs; whnf) ?_ | refine s_build rfl rfl rfl ?_)
        refine s_add rfl rfl rfl rfl (by omega) (by omega) ?_
        repeat (first | refine s_skip rfl rfl ?_ | refine s_mv rfl rfl (by conv => lhs; whnf) ?_ | refine s_asg rfl rfl (by conv => lhs; whnf) ?_ | refine s_len rfl rfl rfl ?_ | refine s_lss rfl rfl rfl rfl ?_ | refine s_leq rfl rfl rfl rfl ?_ | refine s_gtr rfl rfl rfl rfl ?_ | refine s_geq rfl rfl rfl rfl ?_ | refine s_eql rfl rfl rfl rfl ?_ | refine s_neq rfl rfl rfl rfl ?_ | refine s_not rfl rfl rfl ?_ | refine s_pickT rfl rfl rfl (by conv => lhs; whnf) ?_ | refine s_pickF rfl rfl rfl (by conv => lhs; whnf) ?_ | refine s_extract rfl rfl rfl rfl ?_ | refine s_fieldA rfl rfl rfl ?_ | refine s_iface rfl rfl (by conv => lhs; whnf) ?_ | refine s_build rfl rfl rfl ?_)
        refine .nil ?_
        refine k_ln (l0 := [(2, .slice (some ⟨b, 0, some 0⟩) xs.length xs.length), (19, _), (20, .int .i64 (xs.length : Int)), (21, .int .i64 ((k + 1 : Nat) : Int))]) (xs.length - (k + 1)) (by omega) ⟨rfl, rfl, rfl, rfl, trivial⟩ ?_
        refine ⟨k + 1, b, by omega, rfl, hA3.turn hT4 hbn, ?_, hbn⟩
        have := hT4.at_
        rw [← List.map_set] at this
        simp only [invK]
        rw [List.getD_eq_getElem?_getD, hxk]
        simpa using this
      · refine EV.exit ?_
        repeat (first | with_reducible refine k_sn ?_ | with_reducible refine k_sr ?_ | with_reducible refine k_se ?_ | with_reducible refine k_bn ?_ | with_reducible refine k_br ?_ | with_reducible refine k_lr ?_ | with_reducible refine k_le ?_ | with_reducible refine k_sp ?_ | with_reducible refine k_bp ?_ | with_reducible refine k_lp ?_ | (with_reducible refine k_be ?_ ?_; exact rfl) | (with_reducible refine k_bf ?_ ?_; exact rfl))
        refine w_seq (.ops ?_)
        repeat (first | refine s_skip rfl rfl ?_ | refine s_mv rfl rfl (by conv => lhs; whnf) ?_ | refine s_asg rfl rfl (by conv => lhs; whnf) ?_ | refine s_len rfl rfl rfl ?_ | refine s_lss rfl rfl rfl rfl ?_ | refine s_leq rfl rfl rfl rfl ?_ | refine s_gtr rfl rfl rfl rfl ?_ | refine s_geq rfl rfl rfl rfl ?_ | refine s_eql rfl rfl rfl rfl ?_ | refine s_neq rfl rfl rfl rfl ?_ | refine s_not rfl rfl rfl ?_ | refine s_pickT rfl rfl rfl (by conv => lhs; whnf) ?_ | refine s_pickF rfl rfl rfl (by conv => lhs; whnf) ?_ | refine s_extract rfl rfl rfl rfl ?_ | refine s_fieldA rfl rfl rfl ?_ | refine s_iface rfl rfl (by conv => lhs; whnf) ?_ | refine s_build rfl rfl rfl ?_)
        refine OPS.nil ?_
        repeat (first | with_reducible refine k_sn ?_ | with_reducible refine k_sr ?_ | with_reducible refine k_se ?_ | with_reducible refine k_bn ?_ | with_reducible refine k_br ?_ | with_reducible refine k_lr ?_ | with_reducible refine k_le ?_ | with_reducible refine k_sp ?_ | with_reducible refine k_bp ?_ | with_reducible refine k_lp ?_ | (with_reducible refine k_be ?_ ?_; exact rfl) | (with_reducible refine k_bf ?_ ?_; exact rfl))
        refine EV.ret ?_
        repeat (first | with_reducible refine k_sn ?_ | with_reducible refine k_sr ?_ | with_reducible refine k_se ?_ | with_reducible refine k_bn ?_ | with_reducible refine k_br ?_ | with_reducible refine k_lr ?_ | with_reducible refine k_le ?_ | with_reducible refine k_sp ?_ | with_reducible refine k_bp ?_ | with_reducible refine k_lp ?_ | (with_reducible refine k_be ?_ ?_; exact rfl) | (with_reducible refine k_bf ?_ ?_; exact rfl))
        have hkm : k = xs.length := by have := of_decide_eq_false hc; omega
        subst hkm
        refine r_tmp2 2 3 rfl (by conv => lhs; whnf) (by conv => lhs; whnf) ⟨rfl, ⟨.slice (some ⟨b, 0, some 0⟩) xs.length xs.length, ?_, ?_, new_sl hbn⟩, hA3⟩
        · rw [invL, if_pos ⟨by omega, hp⟩]
        · rw [invL, if_pos ⟨by omega, hp⟩]; exact ints_at (invK_length xs _) hb3
    · rw [zeros_one] at hb2
      have e : (invK xs 0).map (fun x => Value.int .i64 x) = List.replicate xs.length (.int .i64 0) := by simp [invK]
      rw [e]; exact hb2

/-- the loop of Inverse at element k -/
def inI39 (v : Value) (xs : List Int) (h : IH) : Nat → IAct → IH → Prop := fun r a h1 => ∃ k b, k + r = xs.length ∧ a = act 33 [(0, v), (4, .slice (some ⟨b, 0, some 0⟩) xs.length xs.length), (5, .int .i64 (k : Int))] [] none none ∧
  Agree h h1 ∧ At h1 b (.cells ((invK xs k).map (.int .i64 ·))) ∧ h.next ≤ b

theorem inv39_ok {h : IH} {v : Value} {xs : List Int} (hx : IntsAt h v xs) (hxl : xs.length ≤ 1000000) :
    CALL Tryz.prog ⟨.func 39, [v], [], none⟩ h (InvK h xs) := by
  obtain ⟨a0, c0, rfl⟩ := hx.form
  refine c_fn c39 f39 ?_
  show EV _ _ (act 33 [(0, .slice a0 xs.length c0)] [] none none) h _
  refine w_seq (.ops ?_)
  repeat (first | refine s_skip rfl rfl ?_ | refine s_mv rfl rfl (by conv => lhs; whnf) ?_ | refine s_asg rfl rfl (by conv => lhs; whnf) ?_ | refine s_len rfl rfl rfl ?_ | refine s_lss rfl rfl rfl rfl ?_ | refine s_leq rfl rfl rfl rfl ?_ | refine s_gtr rfl rfl rfl rfl ?_ | refine s_geq rfl rfl rfl rfl ?_ | refine s_eql rfl rfl rfl rfl ?_ | refine s_neq rfl rfl rfl rfl ?_ | refine s_not rfl rfl rfl ?_ | refine s_pickT rfl rfl rfl (by conv => lhs; whnf) ?_ | refine s_pickF rfl rfl rfl (by conv => lhs; whnf) ?_ | refine s_extract rfl rfl rfl rfl ?_ | refine s_fieldA rfl rfl rfl ?_ | refine s_iface rfl rfl (by conv => lhs; whnf) ?_ | refine s_build rfl rfl rfl ?_)
  refine OPS.nil ?_
  repeat (first | with_reducible refine k_sn ?_ | with_reducible refine k_sr ?_ | with_reducible refine k_se ?_ | with_reducible refine k_bn ?_ | with_reducible refine k_br ?_ | with_reducible refine k_lr ?_ | with_reducible refine k_le ?_ | with_reducible refine k_sp ?_ | with_reducible refine k_bp ?_ | with_reducible refine k_lp ?_ | (with_reducible refine k_be ?_ ?_; exact rfl) | (with_reducible refine k_bf ?_ ?_; exact rfl))
  refine w_seq (w_seq (.ops ?_))
  repeat (first | refine s_skip rfl rfl ?_ | refine s_mv rfl rfl (by conv => lhs; whnf) ?_ | refine s_asg rfl rfl (by conv => lhs; whnf) ?_ | refine s_len rfl rfl rfl ?_ | refine s_lss rfl rfl rfl rfl ?_ | refine s_leq rfl rfl rfl rfl ?_ | refine s_gtr rfl rfl rfl rfl ?_ | refine s_geq rfl rfl rfl rfl ?_ | refine s_eql rfl rfl rfl rfl ?_ | refine s_neq rfl rfl rfl rfl ?_ | refine s_not rfl rfl rfl ?_ | refine s_pickT rfl rfl rfl (by conv => lhs; whnf) ?_ | refine s_pickF rfl rfl rfl (by conv => lhs; whnf) ?_ | refine s_extract rfl rfl rfl rfl ?_ | refine s_fieldA rfl rfl rfl ?_ | refine s_iface rfl rfl (by conv => lhs; whnf) ?_ | refine s_build rfl rfl rfl ?_)
  by_cases h0 : (256 : Int) < (xs.length : Int)
  · rw [decide_eq_true h0]
    repeat (first | refine s_skip rfl rfl ?_ | refine s_mv rfl rfl (by conv => lhs; whnf) ?_ | refine s_asg rfl rfl (by conv => lhs; whnf) ?_ | refine s_len rfl rfl rfl ?_ | refine s_lss rfl rfl rfl rfl ?_ | refine s_leq rfl rfl rfl rfl ?_ | refine s_gtr rfl rfl rfl rfl ?_ | refine s_geq rfl rfl rfl rfl ?_ | refine s_eql rfl rfl rfl rfl ?_ | refine s_neq rfl rfl rfl rfl ?_ | refine s_not rfl rfl rfl ?_ | refine s_pickT rfl rfl rfl (by conv => lhs; whnf) ?_ | refine s_pickF rfl rfl rfl (by conv => lhs; whnf) ?_ | refine s_extract rfl rfl rfl rfl ?_ | refine s_fieldA rfl rfl rfl ?_ | refine s_iface rfl rfl (by conv => lhs; whnf) ?_ | refine s_build rfl rfl rfl ?_)
    refine OPS.nil ?_
    repeat (first | with_reducible refine k_sn ?_ | with_reducible refine k_sr ?_ | with_reducible refine k_se ?_ | with_reducible refine k_bn ?_ | with_reducible refine k_br ?_ | with_reducible refine k_lr ?_ | with_reducible refine k_le ?_ | with_reducible refine k_sp ?_ | with_reducible refine k_bp ?_ | with_reducible refine k_lp ?_ | (with_reducible refine k_be ?_ ?_; exact rfl) | (with_reducible refine k_bf ?_ ?_; exact rfl))
    refine w_cond true rfl (fun _ => ?_) (fun e => by cases e)
    refine w_seq (.ops ?_)
    repeat (first | refine s_skip rfl rfl ?_ | refine s_mv rfl rfl (by conv => lhs; whnf) ?_ | refine s_asg rfl rfl (by conv => lhs; whnf) ?_ | refine s_len rfl rfl rfl ?_ | refine s_lss rfl rfl rfl rfl ?_ | refine s_leq rfl rfl rfl rfl ?_ | refine s_gtr rfl rfl rfl rfl ?_ | refine s_geq rfl rfl rfl rfl ?_ | refine s_eql rfl rfl rfl rfl ?_ | refine s_neq rfl rfl rfl rfl ?_ | refine s_not rfl rfl rfl ?_ | refine s_pickT rfl rfl rfl (by conv => lhs; whnf) ?_ | refine s_pickF rfl rfl rfl (by conv => lhs; whnf) ?_ | refine s_extract rfl rfl rfl rfl ?_ | refine s_fieldA rfl rfl rfl ?_ | refine s_iface rfl rfl (by conv => lhs; whnf) ?_ | refine s_build rfl rfl rfl ?_)
    refine OPS.nil ?_
    repeat (first | with_reducible refine k_sn ?_ | with_reducible refine k_sr ?_ | with_reducible refine k_se ?_ | with_reducible refine k_bn ?_ | with_reducible refine k_br ?_ | with_reducible refine k_lr ?_ | with_reducible refine k_le ?_ | with_reducible refine k_sp ?_ | with_reducible refine k_bp ?_ | with_reducible refine k_lp ?_ | (with_reducible refine k_be ?_ ?_; exact rfl) | (with_reducible refine k_bf ?_ ?_; exact rfl))
    refine EV.ret ?_
    repeat (first | with_reducible refine k_sn ?_ | with_reducible refine k_sr ?_ | with_reducible refine k_se ?_ | with_reducible refine k_bn ?_ | with_reducible refine k_br ?_ | with_reducible refine k_lr ?_ | with_reducible refine k_le ?_ | with_reducible refine k_sp ?_ | with_reducible refine k_bp ?_ | with_reducible refine k_lp ?_ | (with_reducible refine k_be ?_ ?_; exact rfl) | (with_reducible refine k_bf ?_ ?_; exact rfl))
    refine r_tmp2 2 3 rfl (by conv => lhs; whnf) (by conv => lhs; whnf) ⟨rfl, ⟨.slice none 0 0, ?_, ?_, new_nil _⟩, Agree.refl _⟩
    · rw [invL, if_neg (by omega)]
    · rw [invL, if_neg (by omega)]; exact nil_ints _
  rw [decide_eq_false h0]
  repeat (first | refine s_skip rfl rfl ?_ | refine s_mv rfl rfl (by conv => lhs; whnf) ?_ | refine s_asg rfl rfl (by conv => lhs; whnf) ?_ | refine s_len rfl rfl rfl ?_ | refine s_lss rfl rfl rfl rfl ?_ | refine s_leq rfl rfl rfl rfl ?_ | refine s_gtr rfl rfl rfl rfl ?_ | refine s_geq rfl rfl rfl rfl ?_ | refine s_eql rfl rfl rfl rfl ?_ | refine s_neq rfl rfl rfl rfl ?_ | refine s_not rfl rfl rfl ?_ | refine s_pickT rfl rfl rfl (by conv => lhs; whnf) ?_ | refine s_pickF rfl rfl rfl (by conv => lhs; whnf) ?_ | refine s_extract rfl rfl rfl rfl ?_ | refine s_fieldA rfl rfl rfl ?_ | refine s_iface rfl rfl (by conv => lhs; whnf) ?_ | refine s_build rfl rfl rfl ?_)
  refine s_call rfl rfl (.func 62) rfl _ (is_ok hx xs.length (by omega)) (fun _ _ _ r hr => by cases hr) ?_ (fun ch h' hm => by cases hm.2.1) (fun r p h' hm => hm.1)
  rintro v h1 ⟨_, hv, hA1⟩
  cases hv
  cases hp : permB xs xs.length with
  | false =>
    repeat (first | refine s_skip rfl rfl ?_ | refine s_mv rfl rfl (by conv => lhs; whnf) ?_ | refine s_asg rfl rfl (by conv => lhs; whnf) ?_ | refine s_len rfl rfl rfl ?_ | refine s_lss rfl rfl rfl rfl ?_ | refine s_leq rfl rfl rfl rfl ?_ | refine s_gtr rfl rfl rfl rfl ?_ | refine s_geq rfl rfl rfl rfl ?_ | refine s_eql rfl rfl rfl rfl ?_ | refine s_neq rfl rfl rfl rfl ?_ | refine s_not rfl rfl rfl ?_ | refine s_pickT rfl rfl rfl (by conv => lhs; whnf) ?_ | refine s_pickF rfl rfl rfl (by conv => lhs; whnf) ?_ | refine s_extract rfl rfl rfl rfl ?_ | refine s_fieldA rfl rfl rfl ?_ | refine s_iface rfl rfl (by conv => lhs; whnf) ?_ | refine s_build rfl rfl rfl ?_)
    refine OPS.nil ?_
    repeat (first | with_reducible refine k_sn ?_ | with_reducible refine k_sr ?_ | with_reducible refine k_se ?_ | with_reducible refine k_bn ?_ | with_reducible refine k_br ?_ | with_reducible refine k_lr ?_ | with_reducible refine k_le ?_ | with_reducible refine k_sp ?_ | with_reducible refine k_bp ?_ | with_reducible refine k_lp ?_ | (with_reducible refine k_be ?_ ?_; exact rfl) | (with_reducible refine k_bf ?_ ?_; exact rfl))
    refine w_cond true rfl (fun _ => ?_) (fun e => by cases e)
    refine w_seq (.ops ?_)
    repeat (first | refine s_skip rfl rfl ?_ | refine s_mv rfl rfl (by conv => lhs; whnf) ?_ | refine s_asg rfl rfl (by conv => lhs; whnf) ?_ | refine s_len rfl rfl rfl ?_ | refine s_lss rfl rfl rfl rfl ?_ | refine s_leq rfl rfl rfl rfl ?_ | refine s_gtr rfl rfl rfl rfl ?_ | refine s_geq rfl rfl rfl rfl ?_ | refine s_eql rfl rfl rfl rfl ?_ | refine s_neq rfl rfl rfl rfl ?_ | refine s_not rfl rfl rfl ?_ | refine s_pickT rfl rfl rfl (by conv => lhs; whnf) ?_ | refine s_pickF rfl rfl rfl (by conv => lhs; whnf) ?_ | refine s_extract rfl rfl rfl rfl ?_ | refine s_fieldA rfl rfl rfl ?_ | refine s_iface rfl rfl (by conv => lhs; whnf) ?_ | refine s_build rfl rfl rfl ?_)
    refine OPS.nil ?_
    repeat (first | with_reducible refine k_sn ?_ | with_reducible refine k_sr ?_ | with_reducible refine k_se ?_ | with_reducible refine k_bn ?_ | with_reducible refine k_br ?_ | with_reducible refine k_lr ?_ | with_reducible refine k_le ?_ | with_reducible refine k_sp ?_ | with_reducible refine k_bp ?_ | with_reducible refine k_lp ?_ | (with_reducible refine k_be ?_ ?_; exact rfl) | (with_reducible refine k_bf ?_ ?_; exact rfl))
    refine EV.ret ?_
    repeat (first | with_reducible refine k_sn ?_ | with_reducible refine k_sr ?_ | with_reducible refine k_se ?_ | with_reducible refine k_bn ?_ | with_reducible refine k_br ?_ | with_reducible refine k_lr ?_ | with_reducible refine k_le ?_ | with_reducible refine k_sp ?_ | with_reducible refine k_bp ?_ | with_reducible refine k_lp ?_ | (with_reducible refine k_be ?_ ?_; exact rfl) | (with_reducible refine k_bf ?_ ?_; exact rfl))
    refine r_tmp2 2 3 rfl (by conv => lhs; whnf) (by conv => lhs; whnf) ⟨rfl, ⟨.slice none 0 0, ?_, ?_, new_nil _⟩, hA1⟩
    · rw [invL, if_neg (by rw [hp]; simp)]
    · rw [invL, if_neg (by rw [hp]; simp)]; exact nil_ints _
  | true =>
    have hin := (permB_mem hp).2
    repeat (first | refine s_skip rfl rfl ?_ | refine s_mv rfl rfl (by conv => lhs; whnf) ?_ | refine s_asg rfl rfl (by conv => lhs; whnf) ?_ | refine s_len rfl rfl rfl ?_ | refine s_lss rfl rfl rfl rfl ?_ | refine s_leq rfl rfl rfl rfl ?_ | refine s_gtr rfl rfl rfl rfl ?_ | refine s_geq rfl rfl rfl rfl ?_ | refine s_eql rfl rfl rfl rfl ?_ | refine s_neq rfl rfl rfl rfl ?_ | refine s_not rfl rfl rfl ?_ | refine s_pickT rfl rfl rfl (by conv => lhs; whnf) ?_ | refine s_pickF rfl rfl rfl (by conv => lhs; whnf) ?_ | refine s_extract rfl rfl rfl rfl ?_ | refine s_fieldA rfl rfl rfl ?_ | refine s_iface rfl rfl (by conv => lhs; whnf) ?_ | refine s_build rfl rfl rfl ?_)
    refine OPS.nil ?_
    repeat (first | with_reducible refine k_sn ?_ | with_reducible refine k_sr ?_ | with_reducible refine k_se ?_ | with_reducible refine k_bn ?_ | with_reducible refine k_br ?_ | with_reducible refine k_lr ?_ | with_reducible refine k_le ?_ | with_reducible refine k_sp ?_ | with_reducible refine k_bp ?_ | with_reducible refine k_lp ?_ | (with_reducible refine k_be ?_ ?_; exact rfl) | (with_reducible refine k_bf ?_ ?_; exact rfl))
    refine w_cond false rfl (fun e => by cases e) (fun _ => ?_)
    refine EV.skip ?_
    repeat (first | with_reducible refine k_sn ?_ | with_reducible refine k_sr ?_ | with_reducible refine k_se ?_ | with_reducible refine k_bn ?_ | with_reducible refine k_br ?_ | with_reducible refine k_lr ?_ | with_reducible refine k_le ?_ | with_reducible refine k_sp ?_ | with_reducible refine k_bp ?_ | with_reducible refine k_lp ?_ | (with_reducible refine k_be ?_ ?_; exact rfl) | (with_reducible refine k_bf ?_ ?_; exact rfl))
    refine w_seq (.ops ?_)
    repeat (first | refine s_skip rfl rfl ?_ | refine s_mv rfl rfl (by conv => lhs; whnf) ?_ | refine s_asg rfl rfl (by conv => lhs; whnf) ?_ | refine s_len rfl rfl rfl ?_ | refine s_lss rfl rfl rfl rfl ?_ | refine s_leq rfl rfl rfl rfl ?_ | refine s_gtr rfl rfl rfl rfl ?_ | refine s_geq rfl rfl rfl rfl ?_ | refine s_eql rfl rfl rfl rfl ?_ | refine s_neq rfl rfl rfl rfl ?_ | refine s_not rfl rfl rfl ?_ | refine s_pickT rfl rfl rfl (by conv => lhs; whnf) ?_ | refine s_pickF rfl rfl rfl (by conv => lhs; whnf) ?_ | refine s_extract rfl rfl rfl rfl ?_ | refine s_fieldA rfl rfl rfl ?_ | refine s_iface rfl rfl (by conv => lhs; whnf) ?_ | refine s_build rfl rfl rfl ?_)
    refine s_mkslice (m := xs.length) rfl rfl rfl rfl (by omega) ?_
    intro h2 hA2 hb2 hn2
    repeat (first | refine s_skip rfl rfl ?_ | refine s_mv rfl rfl (by conv => lhs; whnf) ?_ | refine s_asg rfl rfl (by conv => lhs; whnf) ?_ | refine s_len rfl rfl rfl ?_ | refine s_lss rfl rfl rfl rfl ?_ | refine s_leq rfl rfl rfl rfl ?_ | refine s_gtr rfl rfl rfl rfl ?_ | refine s_geq rfl rfl rfl rfl ?_ | refine s_eql rfl rfl rfl rfl ?_ | refine s_neq rfl rfl rfl rfl ?_ | refine s_not rfl rfl rfl ?_ | refine s_pickT rfl rfl rfl (by conv => lhs; whnf) ?_ | refine s_pickF rfl rfl rfl (by conv => lhs; whnf) ?_ | refine s_extract rfl rfl rfl rfl ?_ | refine s_fieldA rfl rfl rfl ?_ | refine s_iface rfl rfl (by conv => lhs; whnf) ?_ | refine s_build rfl rfl rfl ?_)
    refine OPS.nil ?_
    repeat (first | with_reducible refine k_sn ?_ | with_reducible refine k_sr ?_ | with_reducible refine k_se ?_ | with_reducible refine k_bn ?_ | with_reducible refine k_br ?_ | with_reducible refine k_lr ?_ | with_reducible refine k_le ?_ | with_reducible refine k_sp ?_ | with_reducible refine k_bp ?_ | with_reducible refine k_lp ?_ | (with_reducible refine k_be ?_ ?_; exact rfl) | (with_reducible refine k_bf ?_ ?_; exact rfl))
    refine w_seq (w_seq (.ops ?_))
    repeat (first | refine s_skip rfl rfl ?_ | refine s_mv rfl rfl (by conv => lhs; whnf) ?_ | refine s_asg rfl rfl (by conv => lhs; whnf) ?_ | refine s_len rfl rfl rfl ?_ | refine s_lss rfl rfl rfl rfl ?_ | refine s_leq rfl rfl rfl rfl ?_ | refine s_gtr rfl rfl rfl rfl ?_ | refine s_geq rfl rfl rfl rfl ?_ | refine s_eql rfl rfl rfl rfl ?_ | refine s_neq rfl rfl rfl rfl ?_ | refine s_not rfl rfl rfl ?_ | refine s_pickT rfl rfl rfl (by conv => lhs; whnf) ?_ | refine s_pickF rfl rfl rfl (by conv => lhs; whnf) ?_ | refine s_extract rfl rfl rfl rfl ?_ | refine s_fieldA rfl rfl rfl ?_ | refine s_iface rfl rfl (by conv => lhs; whnf) ?_ | refine s_build rfl rfl rfl ?_)
    refine OPS.nil ?_
    repeat (first | with_reducible refine k_sn ?_ | with_reducible refine k_sr ?_ | with_reducible refine k_se ?_ | with_reducible refine k_bn ?_ | with_reducible refine k_br ?_ | with_reducible refine k_lr ?_ | with_reducible refine k_le ?_ | with_reducible refine k_sp ?_ | with_reducible refine k_bp ?_ | with_reducible refine k_lp ?_ | (with_reducible refine k_be ?_ ?_; exact rfl) | (with_reducible refine k_bf ?_ ?_; exact rfl))
    refine w_block ?_
    refine w_weak (weaker_act (l0 := [(0, .slice a0 xs.length c0), (4, .slice (some ⟨h1.next, 0, some 0⟩) xs.length xs.length), (5, .int .i64 ((0 : Nat) : Int))]) ⟨rfl, rfl, rfl, trivial⟩) ?_
    refine w_loop (inI39 (.slice a0 xs.length c0) xs h) ?_ xs.length _ _ ⟨0, h1.next, by omega, rfl, hA1.trans hA2, ?_, hA1.next⟩
    · rintro r a h3 ⟨k, b, hk, rfl, hA3, hb3, hbn⟩
      refine w_seq (w_seq (.ops ?_))
      repeat (first | refine s_skip rfl rfl ?_ | refine s_mv rfl rfl (by conv => lhs; whnf) ?_ | refine s_asg rfl rfl (by conv => lhs; whnf) ?_ | refine s_len rfl rfl rfl ?_ | refine s_lss rfl rfl rfl rfl ?_ | refine s_leq rfl rfl rfl rfl ?_ | refine s_gtr rfl rfl rfl rfl ?_ | refine s_geq rfl rfl rfl rfl ?_ | refine s_eql rfl rfl rfl rfl ?_ | refine s_neq rfl rfl rfl rfl ?_ | refine s_not rfl rfl rfl ?_ | refine s_pickT rfl rfl rfl (by conv => lhs; whnf) ?_ | refine s_pickF rfl rfl rfl (by conv => lhs; whnf) ?_ | refine s_extract rfl rfl rfl rfl ?_ | refine s_fieldA rfl rfl rfl ?_ | refine s_iface rfl rfl (by conv => lhs; whnf) ?_ | refine s_build rfl rfl rfl ?_)
      refine OPS.nil ?_
      repeat (first | with_reducible refine k_sn ?_ | with_reducible refine k_sr ?_ | with_reducible refine k_se ?_ | with_reducible refine k_bn ?_ | with_reducible refine k_br ?_ | with_reducible refine k_lr ?_ | with_reducible refine k_le ?_ | with_reducible refine k_sp ?_ | with_reducible refine k_bp ?_ | with_reducible refine k_lp ?_ | (with_reducible refine k_be ?_ ?_; exact rfl) | (with_reducible refine k_bf ?_ ?_; exact rfl))
      refine w_cond (decide ((k : Int) < (xs.length : Int))) rfl (fun hc => ?_) (fun hc => ?_)
      · have hkm : k < xs.length := by have := of_decide_eq_true hc; omega
        obtain ⟨_, i0, o0, f0, cs0, x, rfl, hat, hxk, hcx⟩ := hx.elem (k := k) (by omega)
        have hcx' : cs0[o0 + (k : Int).toNat * 1]? = some (.int .i64 x) := by simpa using hcx
        have hxr := hin x (List.mem_of_getElem? hxk)
        obtain ⟨j, rfl⟩ := Int.eq_ofNat_of_zero_le hxr.1
        refine EV.skip ?_
        repeat (first | with_reducible refine k_sn ?_ | with_reducible refine k_sr ?_ | with_reducible refine k_se ?_ | with_reducible refine k_bn ?_ | with_reducible refine k_br ?_ | with_reducible refine k_lr ?_ | with_reducible refine k_le ?_ | with_reducible refine k_sp ?_ | with_reducible refine k_bp ?_ | with_reducible refine k_lp ?_ | (with_reducible refine k_be ?_ ?_; exact rfl) | (with_reducible refine k_bf ?_ ?_; exact rfl))
        refine w_seq (w_block (.ops ?_))
        repeat (first | refine s_skip rfl rfl ?_ | refine s_mv rfl rfl (by conv => lhs; whnf) ?_ | refine s_asg rfl rfl (by conv => lhs; whnf) ?_ | refine s_len rfl rfl rfl ?_ | refine s_lss rfl rfl rfl rfl ?_ | refine s_leq rfl rfl rfl rfl ?_ | refine s_gtr rfl rfl rfl rfl ?_ | refine s_geq rfl rfl rfl rfl ?_ | refine s_eql rfl rfl rfl rfl ?_ | refine s_neq rfl rfl rfl rfl ?_ | refine s_not rfl rfl rfl ?_ | refine s_pickT rfl rfl rfl (by conv => lhs; whnf) ?_ | refine s_pickF rfl rfl rfl (by conv => lhs; whnf) ?_ | refine s_extract rfl rfl rfl rfl ?_ | refine s_fieldA rfl rfl rfl ?_ | refine s_iface rfl rfl (by conv => lhs; whnf) ?_ | refine s_build rfl rfl rfl ?_)
        refine s_idxSl rfl rfl rfl rfl (by omega) (by omega) ?_
        refine s_loadR rfl rfl rfl (hat.agree hA3) hcx' ?_
        repeat (first | refine s_skip rfl rfl ?_ | refine s_mv rfl rfl (by conv => lhs; whnf) ?_ | refine s_asg rfl rfl (by conv => lhs; whnf) ?_ | refine s_len rfl rfl rfl ?_ | refine s_lss rfl rfl rfl rfl ?_ | refine s_leq rfl rfl rfl rfl ?_ | refine s_gtr rfl rfl rfl rfl ?_ | refine s_geq rfl rfl rfl rfl ?_ | refine s_eql rfl rfl rfl rfl ?_ | refine s_neq rfl rfl rfl rfl ?_ | refine s_not rfl rfl rfl ?_ | refine s_pickT rfl rfl rfl (by conv => lhs; whnf) ?_ | refine s_pickF rfl rfl rfl (by conv => lhs; whnf) ?_ | refine s_extract rfl rfl rfl rfl ?_ | refine s_fieldA rfl rfl rfl ?_ | refine s_iface rfl rfl (by conv => lhs; whnf) ?_ | refine s_build rfl rfl rfl ?_)
        refine s_idxSl rfl rfl rfl rfl (by omega) (by omega) ?_
        refine s_store1 rfl rfl (by conv => lhs; whnf) rfl hb3 (by rw [List.length_map, invK_length]; simp; omega) ?_
        intro h4 hT4
        repeat (first | refine s_skip rfl rfl ?_ | refine s_mv rfl rfl (by conv => lhs; whnf) ?_ | refine s_asg rfl rfl (by conv => lhs; whnf) ?_ | refine s_len rfl rfl rfl ?_ | refine s_lss rfl rfl rfl rfl ?_ | refine s_leq rfl rfl rfl rfl ?_ | refine s_gtr rfl rfl rfl rfl ?_ | refine s_geq rfl rfl rfl rfl ?_ | refine s_eql rfl rfl rfl rfl ?_ | refine s_neq rfl rfl rfl rfl ?_ | refine s_not rfl rfl rfl ?_ | refine s_pickT rfl rfl rfl (by conv => lhs; whnf) ?_ | refine s_pickF rfl rfl rfl (by conv => lhs; whnf) ?_ | refine s_extract rfl rfl rfl rfl ?_ | refine s_fieldA rfl rfl rfl ?_ | refine s_iface rfl rfl (by conv => lhs; whnf) ?_ | refine s_build rfl rfl rfl ?_)
        refine OPS.nil ?_
        repeat (first | with_reducible refine k_sn ?_ | with_reducible refine k_sr ?_ | with_reducible refine k_se ?_ | with_reducible refine k_bn ?_ | with_reducible refine k_br ?_ | with_reducible refine k_lr ?_ | with_reducible refine k_le ?_ | with_reducible refine k_sp ?_ | with_reducible refine k_bp ?_ | with_reducible refine k_lp ?_ | (with_reducible refine k_be ?_ ?_; exact rfl) | (with_reducible refine k_bf ?_ ?_; exact rfl))
        refine .ops ?_
        repeat (first | refine s_skip rfl rfl ?_ | refine s_mv rfl rfl (by conv => lhs; whnf) ?_ | refine s_asg rfl rfl (by conv => lhs; whnf) ?_ | refine s_len rfl rfl rfl ?_ | refine s_lss rfl rfl rfl rfl ?_ | refine s_leq rfl rfl rfl rfl ?_ | refine s_gtr rfl rfl rfl rfl ?_ | refine s_geq rfl rfl rfl rfl ?_ | refine s_eql rfl rfl rfl rfl ?_ | refine s_neq rfl rfl rfl rfl ?_ | refine s_not rfl rfl rfl ?_ | refine s_pickT rfl rfl rfl (by conv => lhs; whnf) ?_ | refine s_pickF rfl rfl rfl (by conv => lhs; whnf) ?_ | refine s_extract rfl rfl rfl rfl ?_ | refine s_fieldA rfl rfl rfl ?_ | refine s_iface rfl rfl (by conv => lhs; whnf) ?_ | refine s_build rfl rfl rfl ?_)
        refine s_add rfl rfl rfl rfl (by omega) (by omega) ?_
        repeat (first | refine s_skip rfl rfl ?_ | refine s_mv rfl rfl (by conv => lhs; whnf) ?_ | refine s_asg rfl rfl (by conv => lhs; whnf) ?_ | refine s_len rfl rfl rfl ?_ | refine s_lss rfl rfl rfl rfl ?_ | refine s_leq rfl rfl rfl rfl ?_ | refine s_gtr rfl rfl rfl rfl ?_ | refine s_geq rfl rfl rfl rfl ?_ | refine s_eql rfl rfl rfl rfl ?_ | refine s_neq rfl rfl rfl rfl ?_ | refine s_not rfl rfl rfl ?_ | refine s_pickT rfl rfl rfl (by conv => lhs; whnf) ?_ | refine s_pickF rfl rfl rfl (by conv => lhs; whnf) ?_ | refine s_extract rfl rfl rfl rfl ?_ | refine s_fieldA rfl rfl rfl ?_ | refine s_iface rfl rfl (by conv => lhs; whnf) ?_ | refine s_build rfl rfl rfl ?_)
        refine .nil ?_
        refine k_ln (l0 := [(0, _), (4, .slice (some ⟨b, 0, some 0⟩) xs.length xs.length), (5, .int .i64 ((k + 1 : Nat) : Int))]) (xs.length - (k + 1)) (by omega) ⟨rfl, rfl, rfl, trivial⟩ ?_
        refine ⟨k + 1, b, by omega, rfl, hA3.turn hT4 hbn, ?_, hbn⟩
        have := hT4.at_
        rw [← List.map_set] at this
        simp only [invK]
        rw [List.getD_eq_getElem?_getD, hxk]
        simpa using this
      · refine EV.exit ?_
        repeat (first | with_reducible refine k_sn ?_ | with_reducible refine k_sr ?_ | with_reducible refine k_se ?_ | with_reducible refine k_bn ?_ | with_reducible refine k_br ?_ | with_reducible refine k_lr ?_ | with_reducible refine k_le ?_ | with_reducible refine k_sp ?_ | with_reducible refine k_bp ?_ | with_reducible refine k_lp ?_ | (with_reducible refine k_be ?_ ?_; exact rfl) | (with_reducible refine k_bf ?_ ?_; exact rfl))
        refine w_seq (.ops ?_)
        repeat (first | refine s_skip rfl rfl ?_ | refine s_mv rfl rfl (by conv => lhs; whnf) ?_ | refine s_asg rfl rfl (by conv => lhs; whnf) ?_ | refine s_len rfl rfl rfl ?_ | refine s_lss rfl rfl rfl rfl ?_ | refine s_leq rfl rfl rfl rfl ?_ | refine s_gtr rfl rfl rfl rfl ?_ | refine s_geq rfl rfl rfl rfl ?_ | refine s_eql rfl rfl rfl rfl ?_ | refine s_neq rfl rfl rfl rfl ?_ | refine s_not rfl rfl rfl ?_ | refine s_pickT rfl rfl rfl (by conv => lhs; whnf) ?_ | refine s_pickF rfl rfl rfl (by conv => lhs; whnf) ?_ | refine s_extract rfl rfl rfl rfl ?_ | refine s_fieldA rfl rfl rfl ?_ | refine s_iface rfl rfl (by conv => lhs; whnf) ?_ | refine s_build rfl rfl rfl ?_)
        refine OPS.nil ?_
        repeat (first | with_reducible refine k_sn ?_ | with_reducible refine k_sr ?_ | with_reducible refine k_se ?_ | with_reducible refine k_bn ?_ | with_reducible refine k_br ?_ | with_reducible refine k_lr ?_ | with_reducible refine k_le ?_ | with_reducible refine k_sp ?_ | with_reducible refine k_bp ?_ | with_reducible refine k_lp ?_ | (with_reducible refine k_be ?_ ?_; exact rfl) | (with_reducible refine k_bf ?_ ?_; exact rfl))
        refine EV.ret ?_
        repeat (first | with_reducible refine k_sn ?_ | with_reducible refine k_sr ?_ | with_reducible refine k_se ?_ | with_reducible refine k_bn ?_ | with_reducible refine k_br ?_ | with_reducible refine k_lr ?_ | with_reducible refine k_le ?_ | with_reducible refine k_sp ?_ | with_reducible refine k_bp ?_ | with_reducible refine k_lp ?_ | (with_reducible refine k_be ?_ ?_; exact rfl) | (with_reducible refine k_bf ?_ ?_; exact rfl))
        have hkm : k = xs.length := by have := of_decide_eq_false hc; omega
        subst hkm
        refine r_tmp2 2 3 rfl (by conv => lhs; whnf) (by conv => lhs; whnf) ⟨rfl, ⟨.slice (some ⟨b, 0, some 0⟩) xs.length xs.length, ?_, ?_, new_sl hbn⟩, hA3⟩
        · rw [invL, if_pos ⟨by omega, hp⟩]
        · rw [invL, if_pos ⟨by omega, hp⟩]; exact ints_at (invK_length xs _) hb3
    · rw [zeros_one] at hb2
      have e : (invK xs 0).map (fun x => Value.int .i64 x) = List.replicate xs.length (.int .i64 0) := by simp [invK]
      rw [e]; exact hb2
end Go.Proofs.YtfakljdleblkoaaGreat
