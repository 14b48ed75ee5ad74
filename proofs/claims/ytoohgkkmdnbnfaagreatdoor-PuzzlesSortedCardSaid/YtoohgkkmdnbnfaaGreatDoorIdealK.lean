/-
  The ideal machine, 53: the road through what needs no thought; lists put in order.
-/
import Derived.Test.YtoohgkkmdnbnfaaGreatDoorIdealJ
import Derived.KernelRfl
import Derived.Test.YtoohgkkmdnbnfaaGreatDoorIdealI
set_option linter.unusedSimpArgs false
set_option linter.unusedVariables false
namespace Go.Ideal
theorem aSub (_h : True := by repeat (first | exact Sub.nil | (apply Sub.cons; (focus ((repeat (first | with_reducible exact List.mem_cons_self .. | with_reducible apply List.mem_cons_of_mem)); first | done | fail))) | exact Tail.sub (by repeat (first | with_reducible exact Tail.here | with_reducible apply Tail.cons | with_reducible apply Tail.app)))) : True := trivial
theorem aSelL (_h : True := by repeat (first | exact SelL.nil | (apply SelL.cons; (focus (repeat (first | with_reducible exact Sel.here | with_reducible apply Sel.there | with_reducible apply Sel.app)))) | with_reducible exact SelL.all _ | with_reducible exact SelL.self _ _ | with_reducible apply SelL.there)) : True := trivial
theorem aSel (_h : True := by repeat (first | with_reducible exact Sel.here | with_reducible apply Sel.there | with_reducible apply Sel.app)) : True := trivial
theorem aRS (_h : True := by repeat (first | exact RS.nil | (apply RS.tmp; (conv => lhs; whnf)) | (apply RS.cell1; (focus exact rfl); (focus (repeat (first | with_reducible exact Sel.here | with_reducible apply Sel.there | with_reducible apply Sel.app))); (conv => lhs; whnf)) | (apply RS.cellN; (focus exact rfl); (focus (repeat (first | with_reducible exact Sel.here | with_reducible apply Sel.there | with_reducible apply Sel.app))); (conv => lhs; whnf)))) : True := trivial
theorem aMem (_h : True := by (repeat (first | with_reducible exact List.mem_cons_self .. | with_reducible apply List.mem_cons_of_mem)); first | done | fail) : True := trivial
variable {P : Program}
section
variable {B : List Nat} {w0 : Wd} {kl : List OA} {F : List Fact} {K : KO} {ds : List Tmp} {rest : List PStep} {n : Nat} {l : List (Nat × Value)} {D : List Deferred} {pm : Option FrameMode} {ro : Option Nat} {d : Nat} {g : Option (Tmp × Bool)}
theorem d_idxIn {x i : Operand} {v : Value} {xs : List Int} {k : Nat} {kk : IntKind} (hn : Nat.blt d n = true) (hg : gok l g = true) (hx : ev l x = v) (hi : ev l i = .int kk (k : Int)) (hf : fSl intE v xs ∈ F) (h1 : k < xs.length) :
 Red (R (fun h => OPS P ds (⟨⟨some d, g, .idxSl 1 x i⟩, []⟩ :: rest) (act n l D pm ro) h K) B w0 kl F)
  (∀ b o z, xs[k]? = some z → R (fun h => OPS P ds rest (act n ((d, .pointer (some ⟨b, o, none⟩)) :: l) D pm ro) h K) B w0 kl (fRaw b o [.int .i64 z] :: F)) :=
 ⟨fun r => (d_idxI hn hg hx hi hf (by omega) (by omega)).h fun b o z hz => r b o z (by simpa using hz)⟩
theorem d_idxBn {x i : Operand} {v : Value} {xs : List Bool} {k : Nat} {kk : IntKind} (hn : Nat.blt d n = true) (hg : gok l g = true) (hx : ev l x = v) (hi : ev l i = .int kk (k : Int)) (hf : fSl boolE v xs ∈ F) (h1 : k < xs.length) :
 Red (R (fun h => OPS P ds (⟨⟨some d, g, .idxSl 1 x i⟩, []⟩ :: rest) (act n l D pm ro) h K) B w0 kl F)
  (∀ b o z, xs[k]? = some z → R (fun h => OPS P ds rest (act n ((d, .pointer (some ⟨b, o, none⟩)) :: l) D pm ro) h K) B w0 kl (fRaw b o [.bool z] :: F)) :=
 ⟨fun r => (d_idxB hn hg hx hi hf (by omega) (by omega)).h fun b o z hz => r b o z (by simpa using hz)⟩
end
inductive Fill (ρ : Operand → Value) : List Value → List (Nat × Nat × Operand) → List Value → Prop
 | nil {cs : List Value} : Fill ρ cs [] cs
 | cons {cs vs cs' r : List Value} {off size : Nat} {x : Operand} {parts : List (Nat × Nat × Operand)} {v : Value} (h0 : ρ x = v) (h1 : cellsOf v = some vs) (h2 : Nat.beq (llen vs) size = true) (h3 : lover cs off vs = some cs') (t : Fill ρ cs' parts r) : Fill ρ cs ((off, size, x) :: parts) r
theorem Fill.eq {ρ : Operand → Value} : ∀ {zero : List Value} {parts : List (Nat × Nat × Operand)} {cs : List Value}, Fill ρ zero parts cs → fillI ρ zero parts = some cs
 | _, _, _, .nil => rfl
 | cs0, _, _, .cons (off := off) (size := size) (x := x) (parts := parts) h0 h1 h2 h3 t => by
   have ih := t.eq
   show (match cellsOf (ρ x) with
    | none => none
    | some vs => cond (Nat.beq (llen vs) size) (match lover cs0 off vs with
      | some cs => fillI ρ cs parts
      | none => none) none) = _
   simp only [h0, h1, h2, h3, cond, ih]
theorem d_bsl {B : List Nat} {w0 : Wd} {kl : List OA} {F : List Fact} {K : KO} {ds : List Tmp} {rest : List PStep} {n : Nat} {l : List (Nat × Value)} {D : List Deferred} {pm : Option FrameMode} {ro : Option Nat} {d : Nat} {g : Option (Tmp × Bool)}
 {t : TypeId} {len : Nat} {zero cs : List Value} {parts : List (Nat × Nat × Operand)} (hn : Nat.blt d n = true) (hg : gok l g = true) (hx : Fill (ev l) zero parts cs) :
 Red (R (fun h => OPS P ds (⟨⟨some d, g, .bslice t len zero parts⟩, []⟩ :: rest) (act n l D pm ro) h K) B w0 kl F)
 (∀ b, R (fun h => OPS P ds rest (act n ((d, .slice (some ⟨b, 0, some 0⟩) len len) :: l) D pm ro) h K) B w0 (pt b (.cells cs) :: kl) F) := d_bslice hn hg hx.eq
theorem d_bld {B : List Nat} {w0 : Wd} {kl : List OA} {F : List Fact} {K : KO} {ds : List Tmp} {rest : List PStep} {n : Nat} {l : List (Nat × Value)} {D : List Deferred} {pm : Option FrameMode} {ro : Option Nat} {d : Nat} {g : Option (Tmp × Bool)}
 {zero cs : List Value} {parts : List (Nat × Nat × Operand)} (hn : Nat.blt d n = true) (hg : gok l g = true) (hx : Fill (ev l) zero parts cs) :
 Red (R (fun h => OPS P ds (⟨⟨some d, g, .build zero parts⟩, []⟩ :: rest) (act n l D pm ro) h K) B w0 kl F) (R (fun h => OPS P ds rest (act n ((d, .agg ⟨cs⟩) :: l) D pm ro) h K) B w0 kl F) := d_p hn hg (p_build hx.eq)
theorem q_form {B : List Nat} {w0 : Wd} {kl : List OA} {F : List Fact} {α : Type} {E : Enc α} {v : Value} {xs : List α} {Q : IH → Prop} (hf : fSl E v xs ∈ F) (h : ∀ a c, v = .slice a xs.length c → R Q B w0 kl F) : R Q B w0 kl F := fun w s => by
 obtain ⟨a, c, e⟩ := sl_form (s.facts _ hf)
 exact h a c e w s
section
variable {B : List Nat} {w0 : Wd} {kl : List OA} {F : List Fact} {K : KO} {ds : List Tmp} {rest : List PStep} {n : Nat} {l : List (Nat × Value)} {D : List Deferred} {pm : Option FrameMode} {ro : Option Nat} {t1 t2 : Nat}
theorem g_b {e : Bool} (h1 : e = false → R (fun h => OPS P ds rest (act n ((t1, .bool false) :: (t2, .bool false) :: l) D pm ro) h K) B w0 kl F) (h2 : e = true → R (fun h => OPS P ds rest (act n ((t1, .bool true) :: (t2, .bool true) :: l) D pm ro) h K) B w0 kl F) :
 R (fun h => OPS P ds rest (act n ((t1, .bool e) :: (t2, .bool e) :: l) D pm ro) h K) B w0 kl F := by
 cases e
 · exact h1 rfl
 · exact h2 rfl
theorem g_d {p : Prop} {_ : Decidable p} (h1 : ¬ p → R (fun h => OPS P ds rest (act n ((t1, .bool false) :: (t2, .bool false) :: l) D pm ro) h K) B w0 kl F) (h2 : p → R (fun h => OPS P ds rest (act n ((t1, .bool true) :: (t2, .bool true) :: l) D pm ro) h K) B w0 kl F) :
 R (fun h => OPS P ds rest (act n ((t1, .bool (decide p)) :: (t2, .bool (decide p)) :: l) D pm ro) h K) B w0 kl F :=
 g_b (fun e => h1 (of_decide_eq_false e)) (fun e => h2 (of_decide_eq_true e))
theorem g_n {p : Prop} {_ : Decidable p} (h1 : p → R (fun h => OPS P ds rest (act n ((t1, .bool false) :: (t2, .bool false) :: l) D pm ro) h K) B w0 kl F) (h2 : ¬ p → R (fun h => OPS P ds rest (act n ((t1, .bool true) :: (t2, .bool true) :: l) D pm ro) h K) B w0 kl F) :
 R (fun h => OPS P ds rest (act n ((t1, .bool (!decide p)) :: (t2, .bool (!decide p)) :: l) D pm ro) h K) B w0 kl F :=
 g_b (fun e => h1 (by simpa using e)) (fun e => h2 (by simpa using e))
end
section
variable {B : List Nat} {w0 : Wd} {kl kl' : List OA} {F : List Fact} {K : KO} {ds : List Tmp} {rest : List PStep} {n : Nat} {l : List (Nat × Value)} {D : List Deferred} {pm : Option FrameMode} {ro : Option Nat} {d : Nat} {g : Option (Tmp × Bool)}
theorem d_box2 {x : Operand} {t : TypeId} {v : Value} {cs : List Value} (hn : Nat.blt d n = true) (hg : gok l g = true) (hv : ev l x = v) (hx : cellsOf v = some cs) : Red (R (fun h => OPS P ds (⟨⟨some d, g, .box x t⟩, []⟩ :: rest) (act n l D pm ro) h K) B w0 kl F)
 (∀ b, R (fun h => OPS P ds rest (act n ((d, .pointer (some ⟨b, 0, none⟩)) :: l) D pm ro) h K) B w0 (pt b (.cells cs) :: kl) F) := d_box hn hg (by rw [hv]; exact hx)
theorem d_store2 {x y : Operand} {b o m : Nat} {cs vs c : List Value} {v : Value} (hg : gok l g = true) (hx : ev l x = .pointer (some ⟨b, o, none⟩)) (hw : ev l y = v) (hy : cellsOf v = some vs) (hm : Nat.beq (llen vs) m = true)
 (hk : Sel (pt b (.cells cs)) kl kl') (hv : lover cs o vs = some c) :
 Red (R (fun h => OPS P ds (⟨⟨none, g, .store m x y⟩, []⟩ :: rest) (act n l D pm ro) h K) B w0 kl F) (R (fun h => OPS P ds rest (act n l D pm ro) h K) B w0 (pt b (.cells c) :: kl') F) := d_store hg hx (by rw [hw]; exact hy) hm hk hv
end
theorem d_mkf {B : List Nat} {w0 : Wd} {kl : List OA} {F : List Fact} {K : KO} {ds : List Tmp} {rest : List PStep} {n : Nat} {l : List (Nat × Value)} {D : List Deferred} {pm : Option FrameMode} {ro : Option Nat} {d : Nat} {g : Option (Tmp × Bool)}
 {fn : Fn} {first captured : List Operand} {a b : List Value} (hn : Nat.blt d n = true) (hg : gok l g = true) (h1 : EvL (ev l) first a) (h2 : EvL (ev l) captured b) :
 Red (R (fun h => OPS P ds (⟨⟨some d, g, .mkfunc fn first captured⟩, []⟩ :: rest) (act n l D pm ro) h K) B w0 kl F) (R (fun h => OPS P ds rest (act n ((d, .func fn ⟨a⟩ ⟨b⟩) :: l) D pm ro) h K) B w0 kl F) := d_p hn hg (p_mkfunc h1 h2)
theorem go {G G' : Prop} (x : G') (r : Red G G' := by
 repeat (first
  | ((with_reducible apply Red.trans); first
    | with_reducible exact rd_seq
    | with_reducible exact rd_block
    | with_reducible exact rd_ops
    | with_reducible exact rd_scope
    | with_reducible exact rd_skip
    | with_reducible exact rd_exit
    | with_reducible exact rd_ret
    | with_reducible exact rd_nil
    | with_reducible exact rd_sn
    | with_reducible exact rd_sr
    | with_reducible exact rd_se
    | with_reducible exact rd_sp
    | with_reducible exact rd_bn
    | with_reducible exact rd_br
    | with_reducible exact rd_bp
    | with_reducible exact rd_lr
    | with_reducible exact rd_le
    | with_reducible exact rd_lp
    | ((with_reducible apply rd_be); exact rfl)
    | ((with_reducible apply rd_bf); exact rfl)
    | ((with_reducible apply rd_condT); (focus exact rfl))
    | ((with_reducible apply rd_condF); (focus exact rfl))
    | ((with_reducible apply d_skip); (focus exact rfl); (focus exact rfl))
    | ((with_reducible apply d_idxIn); (focus exact rfl); (focus exact rfl); (focus ((conv => lhs; whnf); (first | done | fail))); (focus exact rfl); (focus (((repeat (first | with_reducible exact List.mem_cons_self .. | with_reducible apply List.mem_cons_of_mem)); first | done | fail); (first | done | fail))); (focus ((omega); (first | done | fail))))
    | ((with_reducible apply d_idxBn); (focus exact rfl); (focus exact rfl); (focus ((conv => lhs; whnf); (first | done | fail))); (focus exact rfl); (focus (((repeat (first | with_reducible exact List.mem_cons_self .. | with_reducible apply List.mem_cons_of_mem)); first | done | fail); (first | done | fail))); (focus ((omega); (first | done | fail))))
    | ((with_reducible apply d_idxI); (focus exact rfl); (focus exact rfl); (focus ((conv => lhs; whnf); (first | done | fail))); (focus exact rfl); (focus (((repeat (first | with_reducible exact List.mem_cons_self .. | with_reducible apply List.mem_cons_of_mem)); first | done | fail); (first | done | fail))); (focus ((omega); (first | done | fail))); (focus ((omega); (first | done | fail))))
    | ((with_reducible apply d_idxB); (focus exact rfl); (focus exact rfl); (focus ((conv => lhs; whnf); (first | done | fail))); (focus exact rfl); (focus (((repeat (first | with_reducible exact List.mem_cons_self .. | with_reducible apply List.mem_cons_of_mem)); first | done | fail); (first | done | fail))); (focus ((omega); (first | done | fail))); (focus ((omega); (first | done | fail))))
    | ((with_reducible apply d_p); (focus exact rfl); (focus exact rfl); (focus ((first | ((with_reducible apply p_mv); (focus ((conv => lhs; whnf); (first | done | fail)))) | ((with_reducible apply p_asg); (focus ((conv => lhs; whnf); (first | done | fail)))) | ((with_reducible apply p_len); (focus exact rfl)) | ((with_reducible apply p_lss); (focus exact rfl); (focus exact rfl)) | ((with_reducible apply p_leq); (focus exact rfl); (focus exact rfl)) | ((with_reducible apply p_gtr); (focus exact rfl); (focus exact rfl)) | ((with_reducible apply p_geq); (focus exact rfl); (focus exact rfl)) | ((with_reducible apply p_eql); (focus exact rfl); (focus exact rfl)) | ((with_reducible apply p_neq); (focus exact rfl); (focus exact rfl)) | ((with_reducible apply p_not); (focus exact rfl)) | ((with_reducible apply p_pickT); (focus exact rfl); (focus ((conv => lhs; whnf); (first | done | fail)))) | ((with_reducible apply p_pickF); (focus exact rfl); (focus ((conv => lhs; whnf); (first | done | fail)))) | ((with_reducible apply p_extract); (focus exact rfl); (focus ((conv => lhs; whnf); (first | done | fail)))) | ((with_reducible apply p_fieldA); (focus exact rfl)) | ((with_reducible apply p_field1); (focus exact rfl); (focus ((conv => lhs; whnf); (first | done | fail)))) | ((with_reducible apply p_fieldN); (focus exact rfl); (focus ((conv => lhs; whnf); (first | done | fail)))) | ((with_reducible apply p_iface); (focus ((conv => lhs; whnf); (first | done | fail)))) | ((with_reducible apply p_tassert); (focus exact rfl)) | ((with_reducible apply p_nilck); (focus exact rfl)) | ((with_reducible apply p_nilckF); (focus exact rfl)) | with_reducible exact p_lenArr | ((with_reducible apply p_idxK); (focus exact rfl); (focus exact rfl); (focus exact rfl)) | ((with_reducible apply p_idxN); (focus exact rfl); (focus exact rfl); (focus ((omega); (first | done | fail)))) | ((with_reducible apply p_idx); (focus exact rfl); (focus exact rfl); (focus ((omega); (first | done | fail))); (focus ((omega); (first | done | fail)))) | ((with_reducible apply p_idxArr); (focus exact rfl); (focus exact rfl); (focus ((omega); (first | done | fail))); (focus ((omega); (first | done | fail)))) | ((with_reducible apply p_add); (focus exact rfl); (focus exact rfl); (focus ((omega); (first | done | fail))); (focus ((omega); (first | done | fail)))) | ((with_reducible apply p_sub); (focus exact rfl); (focus exact rfl); (focus ((omega); (first | done | fail))); (focus ((omega); (first | done | fail)))) | ((with_reducible apply p_eqlB); (focus exact rfl); (focus exact rfl); (focus ((first | assumption | kernel_rfl); (first | done | fail)))) | ((with_reducible apply p_neqB); (focus exact rfl); (focus exact rfl); (focus ((first | assumption | kernel_rfl); (first | done | fail)))) | ((with_reducible apply p_eqlS); (focus exact rfl); (focus exact rfl)) | ((with_reducible apply p_neqS); (focus exact rfl); (focus exact rfl)) | ((with_reducible apply p_mul); (focus exact rfl); (focus exact rfl); (focus ((omega); (first | done | fail))); (focus ((omega); (first | done | fail))))); (first | done | fail))))
    | ((with_reducible apply d_mkf); (focus exact rfl); (focus exact rfl); (focus (repeat (first | with_reducible exact EvL.nil | ((with_reducible apply EvL.cons); (conv => lhs; whnf))))); (focus (repeat (first | with_reducible exact EvL.nil | ((with_reducible apply EvL.cons); (conv => lhs; whnf))))))
    | ((with_reducible apply d_bsl); (focus exact rfl); (focus exact rfl); (focus (repeat (first | with_reducible exact Fill.nil | ((with_reducible apply Fill.cons); (conv => lhs; whnf); (conv => lhs; whnf); (focus exact rfl); (conv => lhs; whnf))))))
    | ((with_reducible apply d_bld); (focus exact rfl); (focus exact rfl); (focus (repeat (first | with_reducible exact Fill.nil | ((with_reducible apply Fill.cons); (conv => lhs; whnf); (conv => lhs; whnf); (focus exact rfl); (conv => lhs; whnf))))))
    | ((with_reducible apply d_box2); (focus exact rfl); (focus exact rfl); (focus ((conv => lhs; whnf); (first | done | fail))); (focus ((conv => lhs; whnf); (first | done | fail))))
    | ((with_reducible apply d_new); (focus exact rfl); (focus exact rfl))
    | ((with_reducible apply d_load); (focus exact rfl); (focus exact rfl); (focus exact rfl); (focus ((repeat (first | with_reducible exact Sel.here | with_reducible apply Sel.there | with_reducible apply Sel.app)); (first | done | fail))); (focus ((conv => lhs; whnf); (first | done | fail))))
    | ((with_reducible apply d_loadN); (focus exact rfl); (focus exact rfl); (focus exact rfl); (focus ((repeat (first | with_reducible exact Sel.here | with_reducible apply Sel.there | with_reducible apply Sel.app)); (first | done | fail))); (focus ((conv => lhs; whnf); (first | done | fail))))
    | ((with_reducible apply d_loadF); (focus exact rfl); (focus exact rfl); (focus exact rfl); (focus (((repeat (first | with_reducible exact List.mem_cons_self .. | with_reducible apply List.mem_cons_of_mem)); first | done | fail); (first | done | fail))); (focus ((conv => lhs; whnf); (first | done | fail))))
    | ((with_reducible apply d_loadFj); (focus exact rfl); (focus exact rfl); (focus exact rfl); (focus (((repeat (first | with_reducible exact List.mem_cons_self .. | with_reducible apply List.mem_cons_of_mem)); first | done | fail); (first | done | fail))); (focus ((conv => lhs; whnf); (first | done | fail))))
    | ((with_reducible apply d_loadNF); (focus exact rfl); (focus exact rfl); (focus exact rfl); (focus (((repeat (first | with_reducible exact List.mem_cons_self .. | with_reducible apply List.mem_cons_of_mem)); first | done | fail); (first | done | fail))); (focus ((conv => lhs; whnf); (first | done | fail))))
    | ((with_reducible apply d_loadNFj); (focus exact rfl); (focus exact rfl); (focus exact rfl); (focus (((repeat (first | with_reducible exact List.mem_cons_self .. | with_reducible apply List.mem_cons_of_mem)); first | done | fail); (first | done | fail))); (focus ((conv => lhs; whnf); (first | done | fail))))
    | ((with_reducible apply d_store2); (focus exact rfl); (focus exact rfl); (focus ((conv => lhs; whnf); (first | done | fail))); (focus ((conv => lhs; whnf); (first | done | fail))); (focus exact rfl); (focus ((repeat (first | with_reducible exact Sel.here | with_reducible apply Sel.there | with_reducible apply Sel.app)); (first | done | fail))); (focus ((conv => lhs; whnf); (first | done | fail))))
    | ((with_reducible apply d_lenF); (focus exact rfl); (focus exact rfl); (focus ((conv => lhs; whnf); (first | done | fail))); (focus (((repeat (first | with_reducible exact List.mem_cons_self .. | with_reducible apply List.mem_cons_of_mem)); first | done | fail); (first | done | fail))))
    | ((with_reducible apply d_lenA); (focus exact rfl); (focus exact rfl); (focus ((conv => lhs; whnf); (first | done | fail))); (focus ((repeat (first | with_reducible exact Sel.here | with_reducible apply Sel.there | with_reducible apply Sel.app)); (first | done | fail))))
    | ((with_reducible apply d_pR (re := _ :: _)); (focus exact rfl); (focus exact rfl); (focus ((first | ((with_reducible apply p_mv); (focus ((conv => lhs; whnf); (first | done | fail)))) | ((with_reducible apply p_asg); (focus ((conv => lhs; whnf); (first | done | fail)))) | ((with_reducible apply p_len); (focus exact rfl)) | ((with_reducible apply p_lss); (focus exact rfl); (focus exact rfl)) | ((with_reducible apply p_leq); (focus exact rfl); (focus exact rfl)) | ((with_reducible apply p_gtr); (focus exact rfl); (focus exact rfl)) | ((with_reducible apply p_geq); (focus exact rfl); (focus exact rfl)) | ((with_reducible apply p_eql); (focus exact rfl); (focus exact rfl)) | ((with_reducible apply p_neq); (focus exact rfl); (focus exact rfl)) | ((with_reducible apply p_not); (focus exact rfl)) | ((with_reducible apply p_pickT); (focus exact rfl); (focus ((conv => lhs; whnf); (first | done | fail)))) | ((with_reducible apply p_pickF); (focus exact rfl); (focus ((conv => lhs; whnf); (first | done | fail)))) | ((with_reducible apply p_extract); (focus exact rfl); (focus ((conv => lhs; whnf); (first | done | fail)))) | ((with_reducible apply p_fieldA); (focus exact rfl)) | ((with_reducible apply p_field1); (focus exact rfl); (focus ((conv => lhs; whnf); (first | done | fail)))) | ((with_reducible apply p_fieldN); (focus exact rfl); (focus ((conv => lhs; whnf); (first | done | fail)))) | ((with_reducible apply p_iface); (focus ((conv => lhs; whnf); (first | done | fail)))) | ((with_reducible apply p_tassert); (focus exact rfl)) | ((with_reducible apply p_nilck); (focus exact rfl)) | ((with_reducible apply p_nilckF); (focus exact rfl)) | with_reducible exact p_lenArr | ((with_reducible apply p_idxK); (focus exact rfl); (focus exact rfl); (focus exact rfl)) | ((with_reducible apply p_idxN); (focus exact rfl); (focus exact rfl); (focus ((omega); (first | done | fail)))) | ((with_reducible apply p_idx); (focus exact rfl); (focus exact rfl); (focus ((omega); (first | done | fail))); (focus ((omega); (first | done | fail)))) | ((with_reducible apply p_idxArr); (focus exact rfl); (focus exact rfl); (focus ((omega); (first | done | fail))); (focus ((omega); (first | done | fail)))) | ((with_reducible apply p_add); (focus exact rfl); (focus exact rfl); (focus ((omega); (first | done | fail))); (focus ((omega); (first | done | fail)))) | ((with_reducible apply p_sub); (focus exact rfl); (focus exact rfl); (focus ((omega); (first | done | fail))); (focus ((omega); (first | done | fail)))) | ((with_reducible apply p_eqlB); (focus exact rfl); (focus exact rfl); (focus ((first | assumption | kernel_rfl); (first | done | fail)))) | ((with_reducible apply p_neqB); (focus exact rfl); (focus exact rfl); (focus ((first | assumption | kernel_rfl); (first | done | fail)))) | ((with_reducible apply p_eqlS); (focus exact rfl); (focus exact rfl)) | ((with_reducible apply p_neqS); (focus exact rfl); (focus exact rfl)) | ((with_reducible apply p_mul); (focus exact rfl); (focus exact rfl); (focus ((omega); (first | done | fail))); (focus ((omega); (first | done | fail))))); (first | done | fail))); (focus ((repeat (first | exact same_nil | refine same_load rfl (by repeat (first | with_reducible exact Sel.here | with_reducible apply Sel.there | with_reducible apply Sel.app)) (by first | exact rfl | (conv => lhs; whnf)) rfl ?_ | refine same_loadF rfl (by (repeat (first | with_reducible exact List.mem_cons_self .. | with_reducible apply List.mem_cons_of_mem)); first | done | fail) (by first | exact rfl | (conv => lhs; whnf)) rfl ?_ | refine same_loadFj rfl (by (repeat (first | with_reducible exact List.mem_cons_self .. | with_reducible apply List.mem_cons_of_mem)); first | done | fail) (by first | exact rfl | (conv => lhs; whnf)) rfl ?_ | refine same_loadN rfl (by repeat (first | with_reducible exact Sel.here | with_reducible apply Sel.there | with_reducible apply Sel.app)) (by first | exact rfl | (conv => lhs; whnf)) rfl ?_ | refine same_loadNF rfl (by (repeat (first | with_reducible exact List.mem_cons_self .. | with_reducible apply List.mem_cons_of_mem)); first | done | fail) (by first | exact rfl | (conv => lhs; whnf)) rfl ?_ | refine same_loadNFj rfl (by (repeat (first | with_reducible exact List.mem_cons_self .. | with_reducible apply List.mem_cons_of_mem)); first | done | fail) (by first | exact rfl | (conv => lhs; whnf)) rfl ?_)); (first | done | fail))))
    | ((with_reducible apply d_storeR (re := _ :: _)); (focus exact rfl); (focus exact rfl); (focus ((conv => lhs; whnf); (first | done | fail))); (focus ((conv => lhs; whnf); (first | done | fail))); (focus exact rfl); (focus ((repeat (first | with_reducible exact Sel.here | with_reducible apply Sel.there | with_reducible apply Sel.app)); (first | done | fail))); (focus ((conv => lhs; whnf); (first | done | fail))); (focus ((repeat (first | exact same_nil | refine same_load rfl (by repeat (first | with_reducible exact Sel.here | with_reducible apply Sel.there | with_reducible apply Sel.app)) (by first | exact rfl | (conv => lhs; whnf)) rfl ?_ | refine same_loadF rfl (by (repeat (first | with_reducible exact List.mem_cons_self .. | with_reducible apply List.mem_cons_of_mem)); first | done | fail) (by first | exact rfl | (conv => lhs; whnf)) rfl ?_ | refine same_loadFj rfl (by (repeat (first | with_reducible exact List.mem_cons_self .. | with_reducible apply List.mem_cons_of_mem)); first | done | fail) (by first | exact rfl | (conv => lhs; whnf)) rfl ?_ | refine same_loadN rfl (by repeat (first | with_reducible exact Sel.here | with_reducible apply Sel.there | with_reducible apply Sel.app)) (by first | exact rfl | (conv => lhs; whnf)) rfl ?_ | refine same_loadNF rfl (by (repeat (first | with_reducible exact List.mem_cons_self .. | with_reducible apply List.mem_cons_of_mem)); first | done | fail) (by first | exact rfl | (conv => lhs; whnf)) rfl ?_ | refine same_loadNFj rfl (by (repeat (first | with_reducible exact List.mem_cons_self .. | with_reducible apply List.mem_cons_of_mem)); first | done | fail) (by first | exact rfl | (conv => lhs; whnf)) rfl ?_)); (first | done | fail))))
    | fail)
  | ((with_reducible apply Red.all); intro _)
  | with_reducible apply Red.imp)
 with_reducible exact Red.refl _) : G := r.h x
theorem Tail.sub {α : Type} {F0 : List α} : ∀ {F : List α}, Tail F0 F → Sub F0 F := fun {F} h => by
 have : ∀ k : List α, (∀ x ∈ k, x ∈ F) → Sub k F := by
  intro k
  induction k with
  | nil => intro _; exact .nil
  | cons a k ih => intro hk; exact .cons (hk a (List.mem_cons_self ..)) (ih fun x hx => hk x (List.mem_cons_of_mem _ hx))
 exact this F0 h.mem
inductive AppR {α : Type} : List α → List α → List α → Prop
 | nil {l : List α} : AppR [] l l
 | cons {a : α} {k l m : List α} (h : AppR k l m) : AppR (a :: k) l (a :: m)
 | self {k : List α} : AppR k [] k
 | app {k l : List α} : AppR k l (k ++ l)
theorem AppR.eq {α : Type} : ∀ {k l m : List α}, AppR k l m → k ++ l = m
 | _, _, _, .nil => rfl
 | _, _, _, .self => List.append_nil _
 | _, _, _, .app => rfl
 | _, _, _, .cons h => by rw [List.cons_append, h.eq]
section
variable {B : List Nat} {w0 : Wd} {kl kl' klr : List OA} {F : List Fact} {K : KO} {ds : List Tmp} {rest : List PStep} {n : Nat} {l : List (Nat × Value)} {D : List Deferred} {pm : Option FrameMode} {ro : Option Nat} {d : Nat} {g : Option (Tmp × Bool)}
theorem q_call {Y : Type} {f : Operand} {xs : List Operand} {re : List CStep} {fn : Fn} {first captured vs as : List Value} {k1 : List OA} {F1 : List Fact} {val : Y → Value} {k1' : Y → List OA} {fs : Y → List Fact} {pr : Y → Prop} {kl2 : Y → List OA} {F2 : Y → List Fact}
 (hc : FnC P fn as captured k1 F1 val k1' fs pr) (hn : Nat.blt d n = true := by rfl) (hg : gok l g = true := by rfl) (hf : ev l f = .func fn ⟨first⟩ ⟨captured⟩ := by rfl) (hx : EvL (ev l) xs vs := by repeat (first | with_reducible exact EvL.nil | ((with_reducible apply EvL.cons); (conv => lhs; whnf)))) (ha : first ++ vs = as := by rfl)
 (hk : autoParam (SelL k1 kl klr) aSelL._auto_1) (hF : autoParam (Sub F1 F) aSub._auto_1)
 (hak : ∀ y, AppR (k1' y) klr (kl2 y) := by intro y; repeat (first | exact AppR.nil | apply AppR.cons | exact AppR.self | exact AppR.app)) (haf : ∀ y, AppR (fs y) F (F2 y) := by intro y; repeat (first | exact AppR.nil | apply AppR.cons | exact AppR.self | exact AppR.app))
 (hs : ∀ y, pr y → Same P re (ev ((d, val y) :: l)) ((d, val y) :: l) B w0 (kl2 y) (F2 y) := by intro _ _; repeat (first | exact same_nil | refine same_load rfl (by repeat (first | with_reducible exact Sel.here | with_reducible apply Sel.there | with_reducible apply Sel.app)) (by first | exact rfl | (conv => lhs; whnf)) rfl ?_ | refine same_loadF rfl (by (repeat (first | with_reducible exact List.mem_cons_self .. | with_reducible apply List.mem_cons_of_mem)); first | done | fail) (by first | exact rfl | (conv => lhs; whnf)) rfl ?_ | refine same_loadFj rfl (by (repeat (first | with_reducible exact List.mem_cons_self .. | with_reducible apply List.mem_cons_of_mem)); first | done | fail) (by first | exact rfl | (conv => lhs; whnf)) rfl ?_ | refine same_loadN rfl (by repeat (first | with_reducible exact Sel.here | with_reducible apply Sel.there | with_reducible apply Sel.app)) (by first | exact rfl | (conv => lhs; whnf)) rfl ?_ | refine same_loadNF rfl (by (repeat (first | with_reducible exact List.mem_cons_self .. | with_reducible apply List.mem_cons_of_mem)); first | done | fail) (by first | exact rfl | (conv => lhs; whnf)) rfl ?_ | refine same_loadNFj rfl (by (repeat (first | with_reducible exact List.mem_cons_self .. | with_reducible apply List.mem_cons_of_mem)); first | done | fail) (by first | exact rfl | (conv => lhs; whnf)) rfl ?_ | refine same_p (by first | ((with_reducible apply p_mv); (focus ((conv => lhs; whnf); (first | done | fail)))) | ((with_reducible apply p_asg); (focus ((conv => lhs; whnf); (first | done | fail)))) | ((with_reducible apply p_len); (focus exact rfl)) | ((with_reducible apply p_lss); (focus exact rfl); (focus exact rfl)) | ((with_reducible apply p_leq); (focus exact rfl); (focus exact rfl)) | ((with_reducible apply p_gtr); (focus exact rfl); (focus exact rfl)) | ((with_reducible apply p_geq); (focus exact rfl); (focus exact rfl)) | ((with_reducible apply p_eql); (focus exact rfl); (focus exact rfl)) | ((with_reducible apply p_neq); (focus exact rfl); (focus exact rfl)) | ((with_reducible apply p_not); (focus exact rfl)) | ((with_reducible apply p_pickT); (focus exact rfl); (focus ((conv => lhs; whnf); (first | done | fail)))) | ((with_reducible apply p_pickF); (focus exact rfl); (focus ((conv => lhs; whnf); (first | done | fail)))) | ((with_reducible apply p_extract); (focus exact rfl); (focus ((conv => lhs; whnf); (first | done | fail)))) | ((with_reducible apply p_fieldA); (focus exact rfl)) | ((with_reducible apply p_field1); (focus exact rfl); (focus ((conv => lhs; whnf); (first | done | fail)))) | ((with_reducible apply p_fieldN); (focus exact rfl); (focus ((conv => lhs; whnf); (first | done | fail)))) | ((with_reducible apply p_iface); (focus ((conv => lhs; whnf); (first | done | fail)))) | ((with_reducible apply p_tassert); (focus exact rfl)) | ((with_reducible apply p_nilck); (focus exact rfl)) | ((with_reducible apply p_nilckF); (focus exact rfl)) | with_reducible exact p_lenArr | ((with_reducible apply p_idxK); (focus exact rfl); (focus exact rfl); (focus exact rfl)) | ((with_reducible apply p_idxN); (focus exact rfl); (focus exact rfl); (focus ((omega); (first | done | fail)))) | ((with_reducible apply p_idx); (focus exact rfl); (focus exact rfl); (focus ((omega); (first | done | fail))); (focus ((omega); (first | done | fail)))) | ((with_reducible apply p_idxArr); (focus exact rfl); (focus exact rfl); (focus ((omega); (first | done | fail))); (focus ((omega); (first | done | fail)))) | ((with_reducible apply p_add); (focus exact rfl); (focus exact rfl); (focus ((omega); (first | done | fail))); (focus ((omega); (first | done | fail)))) | ((with_reducible apply p_sub); (focus exact rfl); (focus exact rfl); (focus ((omega); (first | done | fail))); (focus ((omega); (first | done | fail)))) | ((with_reducible apply p_eqlB); (focus exact rfl); (focus exact rfl); (focus ((first | assumption | kernel_rfl); (first | done | fail)))) | ((with_reducible apply p_neqB); (focus exact rfl); (focus exact rfl); (focus ((first | assumption | kernel_rfl); (first | done | fail)))) | ((with_reducible apply p_eqlS); (focus exact rfl); (focus exact rfl)) | ((with_reducible apply p_neqS); (focus exact rfl); (focus exact rfl)) | ((with_reducible apply p_mul); (focus exact rfl); (focus exact rfl); (focus ((omega); (first | done | fail))); (focus ((omega); (first | done | fail))))) rfl ?_))
 (next : ∀ y, pr y → R (fun h => OPS P ds rest (act n ((d, val y) :: l) D pm ro) h K) B w0 (kl2 y) (F2 y)) :
 R (fun h => OPS P ds (⟨⟨some d, g, .call f xs⟩, re⟩ :: rest) (act n l D pm ro) h K) B w0 kl F :=
 o_call hc hn hg hf hx ha hk hF (fun y hy => by rw [(hak y).eq, (haf y).eq]; exact hs y hy) (fun y hy => by rw [(hak y).eq, (haf y).eq]; exact next y hy)
abbrev FnP (P : Program) (f : FuncId) (args : List Value) (F : List Fact) (v : Value) : Prop := FnC P (.func f) args [] [] F (fun _ : Unit => v) (fun _ => []) (fun _ => []) (fun _ => True)
theorem q_beg {Y : Type} {f : FuncId} {args cap : List Value} {kl : List OA} {F : List Fact} {val : Y → Value} {kl' : Y → List OA} {fs : Y → List Fact} {pr : Y → Prop} {c : CCode} {m : Nat} {l0 : List (Nat × Value)} (cf : CFunc) (hF : (envOf P noCut noMemo).F f = some cf)
 (hb : ∀ B w0, R (fun h => EV P c (act m l0 [] none none) h (retK cf (Left B w0 val kl' fs pr))) B w0 kl F)
 (h1 : cf.body = c := by conv => lhs; (reduce; (try simp only [Int.reduceOfNat, Int.reduceNegSucc]))) (h2 : maxN cf.ntmps (llen (args ++ cap)) = m := by conv => lhs; whnf) (h3 : argL 0 (args ++ cap) [] = l0 := by dsimp only [argL, Nat.reduceAdd, List.append_nil, List.cons_append, List.nil_append]) : FnC P (.func f) args cap kl F val kl' fs pr :=
 fn_start cf hF (by rw [h1, h2, h3]; exact hb)
theorem q_idx {α : Type} (E : Enc α) {x i : Operand} {v : Value} {xs : List α} {size : Nat} {k : Nat} {kk : IntKind} {F2 : α → E.Y → List Fact} (hn : Nat.blt d n = true := by rfl) (hg : gok l g = true := by rfl) (hx : ev l x = v := by conv => lhs; whnf) (hi : ev l i = .int kk (k : Int) := by rfl)
 (hf : autoParam (fSl E v xs ∈ F) aMem._auto_1) (hs : E.n = size := by rfl) (h1 : k < xs.length := by omega)
 (ha : ∀ z y, AppR (E.fs z y) F (F2 z y) := by intro z y; repeat (first | exact AppR.nil | apply AppR.cons | exact AppR.self | exact AppR.app))
 (next : ∀ b o z y, xs[k]? = some z → R (fun h => OPS P ds rest (act n ((d, .pointer (some ⟨b, o, none⟩)) :: l) D pm ro) h K) B w0 kl (fRaw b o (E.pat z y) :: F2 z y)) :
 R (fun h => OPS P ds (⟨⟨some d, g, .idxSl size x i⟩, []⟩ :: rest) (act n l D pm ro) h K) B w0 kl F :=
 (d_idx hn hg hx hi hf hs (by omega) (by omega)).h fun b o z y hz => by rw [(ha z y).eq]; exact next b o z y (by simpa using hz)
theorem q_fin {Y : Type} {o : Out} {cf : CFunc} {vs : List Value} {val : Y → Value} {k1 : Y → List OA} {fs : Y → List Fact} {pr : Y → Prop} (y : Y)
 (hr : autoParam (RS l kl cf.results vs) aRS._auto_1) (hv : retV vs = val y := by rfl) (hp : pr y)
 (hk : autoParam (SelL (k1 y) kl klr) aSelL._auto_1) (hF : autoParam (Sub (fs y) F) aSub._auto_1)
 (ho : o = .normal ∨ o = .ret := by first | exact .inl rfl | exact .inr rfl) : R (fun h => retK cf (Left B w0 val k1 fs pr) o (act n l [] none ro) h) B w0 kl F :=
 k_end y hr hv hp hk hF ho
theorem q_frz {A : OA} {fs F2 : List Fact} {Q : IH → Prop} (hA : Frz A fs) (hk : autoParam (Sel A kl kl') aSel._auto_1) (ha : AppR fs F F2 := by repeat (first | exact AppR.nil | apply AppR.cons | exact AppR.self | exact AppR.app)) (h : R Q B w0 kl' F2) : R Q B w0 kl F :=
 st_frz hA hk (by rw [ha.eq]; exact h)
theorem q_loop {X : Type} {c : CCode} {l0 : List (Nat × Value)} {L2 : X → List (Nat × Value)} {KL2 : X → List OA} {FF2 : X → List Fact} (m : X → Nat) (L : X → List (Nat × Value)) (KL : X → List OA) (FF : X → List Fact) (inv : X → Prop) (x0 : X) (hi : inv x0)
 (h0 : DelR l (L x0) l0 := by repeat (first | exact DelR.nil | (apply DelR.drop; (focus exact rfl)) | (apply DelR.keep; (focus exact rfl)))) (hl : sub (L x0 ++ l0) l := by repeat (first | exact trivial | refine ⟨rfl, ?_⟩))
 (hk : autoParam (SelL (KL x0) kl klr) aSelL._auto_1) (hF : autoParam (Sub (FF x0) F) aSub._auto_1)
 (hak : ∀ x, AppR (KL x) klr (KL2 x) := by intro y; repeat (first | exact AppR.nil | apply AppR.cons | exact AppR.self | exact AppR.app)) (haf : ∀ x, AppR (FF x) F (FF2 x) := by intro y; repeat (first | exact AppR.nil | apply AppR.cons | exact AppR.self | exact AppR.app))
 (hal : ∀ x, AppR (L x) l0 (L2 x) := by intro y; repeat (first | exact AppR.nil | apply AppR.cons | exact AppR.self | exact AppR.app))
 (body : ∀ x, inv x → R (fun h => EV P c (act n (L2 x) D pm ro) h (loopK (LI n D pm ro B w0 m L KL FF inv l0 klr F) (m x) K)) B w0 (KL2 x) (FF2 x)) :
 R (fun h => EV P (.loop c) (act n l D pm ro) h K) B w0 kl F :=
 e_loop m L KL FF inv x0 hi l0 hl hk hF fun x hx => by rw [(hak x).eq, (haf x).eq, (hal x).eq]; exact body x hx
theorem q_again {X : Type} {m : X → Nat} {L : X → List (Nat × Value)} {KL : X → List OA} {FF : X → List Fact} {inv : X → Prop} {l0 : List (Nat × Value)} {kl1 kl2 : List OA} {F0 : List Fact} {m0 : Nat} (x : X) (hm : m x < m0) (hi : inv x)
 (hl : sub (L x ++ l0) l := by repeat (first | exact trivial | refine ⟨rfl, ?_⟩)) (ha : AppR (KL x) klr kl1 := by repeat (first | exact AppR.nil | apply AppR.cons | exact AppR.self | exact AppR.app))
 (hk : autoParam (SelL kl1 kl kl2) aSelL._auto_1) (hF : autoParam (Sub (FF x) F) aSub._auto_1)
 (hF0 : Tail F0 F := by repeat (first | exact Tail.here | apply Tail.cons | apply Tail.app)) :
 R (fun h => loopK (LI n D pm ro B w0 m L KL FF inv l0 klr F0) m0 K .normal (act n l D pm ro) h) B w0 kl F :=
 k_loop x hm hi hl (by rw [ha.eq]; exact hk) hF hF0
end
end Go.Ideal
namespace Go.Ideal
noncomputable def wdL (L : Lay) : Wd := ⟨heapL L, fun i => i < (heapL L).next, fun _ h => h⟩
end Go.Ideal
namespace Go.Ideal
open Go.ChangeShapes Go.WideShapes Go.ChangeAt Go.RowKit
variable {P : Program}
def RepE {α : Type} (P : Program) (t : TypeId) (E : Enc α) : Prop := ∀ (w : Wd) (H : Type) (d : DataW H) (cs : List Value), (∀ i, i < w.h.next → w.z i) → Rep P w.h t cs d → ∃ a y, cs = E.pat a y ∧ ∀ f ∈ E.fs a y, f.p w
theorem list_of {α : Type} {p : Nat → α → Prop} : ∀ n, (∀ k, k < n → ∃ a, p k a) → ∃ l : List α, l.length = n ∧ ∀ (k : Nat) a, l[k]? = some a → p k a
 | 0, _ => ⟨[], rfl, fun k a h => by cases h⟩
 | n + 1, h => by
   obtain ⟨l, h1, h2⟩ := list_of n (fun k hk => h k (by omega))
   obtain ⟨a, ha⟩ := h n (by omega)
   refine ⟨l ++ [a], by simp [h1], fun k b hb => ?_⟩
   by_cases hk : k < l.length
   · rw [List.getElem?_append_left hk] at hb; exact h2 k b hb
   · rw [List.getElem?_append_right (by omega)] at hb
     have hk0 : k = n := by have := (List.getElem?_eq_some_iff.1 hb).1; simp at this; omega
     subst hk0
     rw [h1] at hb
     simp at hb
     subst hb; exact ha
def prodE {α β : Type} (E1 : Enc α) (E2 : Enc β) : Enc (α × β) := ⟨E1.n + E2.n, E1.Y × E2.Y, fun a y => E1.pat a.1 y.1 ++ E2.pat a.2 y.2, fun a y => E1.fs a.1 y.1 ++ E2.fs a.2 y.2, fun a y => by rw [List.length_append, E1.len, E2.len]⟩
def unitE : Enc Unit := ⟨0, Unit, fun _ _ => [], fun _ _ => [], fun _ _ => rfl⟩
inductive RepFs (P : Program) : {α : Type} → List Field → Enc α → Prop
 | nil : RepFs P [] unitE
 | cons {α β : Type} {f : Field} {fs : List Field} {E1 : Enc α} {E2 : Enc β} (h : RepE P f.type E1) (hn : P.cellsOf f.type = E1.n) (t : RepFs P fs E2) : RepFs P (f :: fs) (prodE E1 E2)
theorem RepFs.rep {w : Wd} {H : Type} (hz : ∀ i, i < w.h.next → w.z i) : ∀ {α : Type} {fs : List Field} {E : Enc α}, RepFs P fs E → ∀ (o0 : Nat) (cs : List Value) (ds : List (DataW H)), cs.length = (fs.map fun f => P.cellsOf f.type).sum → ds.length = fs.length →
 fs.map (·.offset) = sums o0 (fs.map fun f => P.cellsOf f.type) → (∀ (j : Nat) f d, fs[j]? = some f → ds[j]? = some d → Rep P w.h f.type ((cs.drop (f.offset - o0)).take (P.cellsOf f.type)) d) → ∃ a y, cs = E.pat a y ∧ ∀ f ∈ E.fs a y, f.p w
 | _, _, _, .nil, o0, cs, ds, h1, h2, h3, h4 => ⟨(), (), List.length_eq_zero_iff.1 (by simpa using h1), fun f hf => by cases hf⟩
 | _, _, _, .cons (f := f) (fs := fs) (E1 := E1) (E2 := E2) h hn t, o0, cs, ds, h1, h2, h3, h4 => by
   match ds, h2 with
   | d :: ds, h2 =>
     simp only [List.map_cons, List.sum_cons, sums, List.cons.injEq] at h1 h3
     obtain ⟨ho, h3⟩ := h3
     have r0 := h4 0 f d rfl rfl
     rw [ho, Nat.sub_self, List.drop_zero] at r0
     obtain ⟨a, y, q1, q2⟩ := h w H d _ hz r0
     obtain ⟨b, z, u1, u2⟩ := RepFs.rep hz t (o0 + P.cellsOf f.type) (cs.drop (P.cellsOf f.type)) ds (by rw [List.length_drop]; omega) (by simpa using h2) h3 (fun j g e hg he => by
      have := h4 (j + 1) g e hg he
      rw [List.drop_drop]
      have hle : o0 + P.cellsOf f.type ≤ g.offset := by
       have hj : (fs.map (·.offset))[j]? = some g.offset := by rw [List.getElem?_map, hg]; rfl
       rw [h3] at hj
       have hs : (fs.map fun f => P.cellsOf f.type)[j]? = some (P.cellsOf g.type) := by rw [List.getElem?_map, hg]; rfl
       exact (cuts_get _ ([] : List Value) (o0 + P.cellsOf f.type) j _ _ hj hs).2
      rw [show P.cellsOf f.type + (g.offset - (o0 + P.cellsOf f.type)) = g.offset - o0 by omega]
      exact this)
     refine ⟨(a, b), (y, z), ?_, ?_⟩
     · show cs = E1.pat a y ++ E2.pat b z
       rw [← q1, ← u1, List.take_append_drop]
     · intro g hg
       rcases List.mem_append.1 hg with hg | hg
       · exact q2 g hg
       · exact u2 g hg
theorem RepE.conv {α β : Type} {t : TypeId} {E : Enc α} {E' : Enc β} (h : RepE P t E) (hc : ∀ a y, ∃ b z, E.pat a y = E'.pat b z ∧ E.fs a y = E'.fs b z) : RepE P t E' := fun w H d cs hz r => by
 obtain ⟨a, y, q1, q2⟩ := h w H d cs hz r
 obtain ⟨b, z, e1, e2⟩ := hc a y
 exact ⟨b, z, by rw [q1, e1], fun f hf => q2 f (by rw [e2]; exact hf)⟩
section
variable {H : Type} {enc : TypeId × Value → H} {W : World} {K : TypeId → Prop}
def ArgE (P : Program) (w : Wd) (t : TypeId) (v : Value) {H : Type} (d : DataW H) : Prop := ∃ cs, Rep P w.h t cs d ∧ ((isAggT P t = true ∧ v = .agg ⟨cs⟩) ∨ (isAggT P t = false ∧ cs = [v]))
theorem ArgE.agg {α : Type} {w : Wd} {t : TypeId} {v : Value} {d : DataW H} {E : Enc α} (h : ArgE P w t v d) (hz : ∀ i, i < w.h.next → w.z i) (ha : isAggT P t = true) (hr : RepE P t E) : ∃ a y, v = .agg ⟨E.pat a y⟩ ∧ ∀ f ∈ E.fs a y, f.p w := by
 obtain ⟨cs, r, ⟨_, e⟩ | ⟨e, _⟩⟩ := h
 · obtain ⟨a, y, rfl, q⟩ := hr w H d cs hz r
   exact ⟨a, y, e, q⟩
 · rw [ha] at e; cases e
theorem ArgE.one {α : Type} {w : Wd} {t : TypeId} {v : Value} {d : DataW H} {E : Enc α} (h : ArgE P w t v d) (hz : ∀ i, i < w.h.next → w.z i) (ha : isAggT P t = false) (hr : RepE P t E) : ∃ a y, E.pat a y = [v] ∧ ∀ f ∈ E.fs a y, f.p w := by
 obtain ⟨cs, r, ⟨e, _⟩ | ⟨_, e⟩⟩ := h
 · rw [ha] at e; cases e
 · obtain ⟨a, y, q0, q⟩ := hr w H d cs hz r
   exact ⟨a, y, by rw [← q0, e], q⟩
theorem argE_of {L : Lay} {t : TypeId} {v v0 : Value} {d : DataW H} {w : Wd} (hw : w.h = heapL L) (r : ArgRep P (heapL L) t v d) (hv : VR (injL L) v v0) (hok : Value.okWide P W .any 0 t v0) : ArgE P w t v d := by
 obtain ⟨cs, r1, h2, h3⟩ := r
 refine ⟨cs, by rw [hw]; exact r1, ?_⟩
 cases ha : isAggT P t with
 | true =>
   left
   refine ⟨rfl, ?_⟩
   rcases h3 with e | e
   · subst e
     have hagg : ∃ c, v0 = .agg c := by
      unfold isAggT at ha
      unfold Value.okWide at hok
      split at ha
      · rename_i fs hu; rw [hu] at hok; obtain ⟨c, e, _⟩ := hok; exact ⟨c, e⟩
      · rename_i n e hu; rw [hu] at hok; obtain ⟨c, e, _⟩ := hok; exact ⟨c, e⟩
      · cases ha
     obtain ⟨c, rfl⟩ := hagg
     exfalso
     cases hv <;> simp [cellV] at h2
   · exact e
 | false =>
   right
   refine ⟨rfl, ?_⟩
   rcases h3 with e | e
   · exact e
   · subst e
     exfalso
     cases hv with
     | agg hc hl =>
       cases hu : P.underlying t with
       | none => simp [Value.okWide, Cell.okWide, Cell.ok, hu] at hok
       | some d => cases d <;> simp [Value.okWide, Cell.okWide, Cell.ok, isAggT, hu] at hok ha
theorem argEs {ts : List TypeId} {vs' vs : List Value} {L : Lay} (hv : VRs (injL L) vs' vs) : ∀ (j : Nat) v' , vs'[j]? = some v' → ∃ v, vs[j]? = some v ∧ VR (injL L) v' v := by
 intro j
 induction j generalizing vs' vs with
 | zero =>
   intro v' h
   cases hv with
   | nil => cases h
   | cons h1 h2 => cases h; exact ⟨_, rfl, h1⟩
 | succ j ih =>
   intro v' h
   cases hv with
   | nil => cases h
   | cons h1 h2 => exact ih h2 v' h
theorem trodAll_len {a : Nat} {b : Nat → Bool} {c : Bool} : ∀ {ts : List TypeId} {vs : List Value} {ds : List (DataW H)} {ps : List MemPlace}, DataW.TrodAll enc P W a b c ts vs ds ps → vs.length = ts.length ∧ ds.length = ts.length
 | [], [], [], _, _ => ⟨rfl, rfl⟩
 | _ :: _, _ :: _, _ :: _, _, ⟨_, _, _, h, _⟩ => by
   have := trodAll_len h
   simp [this.1, this.2]
theorem len2 {α : Type} {l : List α} (h : l.length = 2) : ∃ a b, l = [a, b] := by
 match l, h with
 | [a, b], _ => exact ⟨a, b, rfl⟩
end
end Go.Ideal
