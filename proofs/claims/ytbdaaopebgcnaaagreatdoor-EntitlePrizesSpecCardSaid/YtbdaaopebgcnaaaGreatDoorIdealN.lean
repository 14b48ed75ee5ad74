/-
  The ideal machine, 66: functions that may panic; deferred functions that recover.
-/
import Derived.Test.YtbdaaopebgcnaaaGreatDoorIdealM
import Derived.Sort.Row
import Derived.Sort.Grow
import Derived.Test.YtbdaaopebgcnaaaGreatDoorIdealK
import Derived.Laws.StructEq
set_option linter.unusedSimpArgs false
set_option linter.unusedVariables false
set_option linter.unusedSectionVars false
namespace Go.Ideal
variable {P : Program}
section
variable {B : List Nat} {w0 : Wd} {kl kl' klr : List OA} {F : List Fact} {K : KO} {ds : List Tmp} {rest : List PStep} {n : Nat} {l : List (Nat × Value)} {D : List Deferred} {pm : Option FrameMode} {ro : Option Nat} {d : Nat} {g : Option (Tmp × Bool)}
variable {cf : CFunc} {Kr : Ret → IH → Prop}
end
end Go.Ideal
namespace Go.Ideal
variable {P : Program}
def fnd {α : Type} [DecidableEq α] (a : α) : List (α × Value) → Nat → Option (Nat × Value)
 | [], _ => none
 | (b, v) :: l, i => if a = b then some (i, v) else fnd a l (i + 1)
def EntOf {α : Type} (toV : α → Value) (kvs : List (α × Value)) (es : List MapEntry) : Prop := es.map (fun e => (e.key, e.val)) = kvs.map fun p => (toV p.1, p.2)
structure KeyT (P : Program) (kt : TypeId) {α : Type} [DecidableEq α] (toV : α → Value) : Prop where
 chk : ∀ a, checkK P kt (toV a) = true
 find : ∀ a kvs es, EntOf toV kvs es → findK P kt (toV a) es = some (fnd a kvs 0)
 same : ∀ a, Instr.sameBits 10000 (toV a) (toV a) = true
structure MapOK {α : Type} (toV : α → Value) (kvs : List (α × Value)) (es : List MapEntry) (clock : Nat) : Prop where
 ent : EntOf toV kvs es
 lt : ∀ e ∈ es, e.born < clock
 nd : (es.map (·.born)).Nodup
 keys : (kvs.map (·.1)).Nodup
section
variable {B : List Nat} {w0 : Wd} {kl kl' klr : List OA} {F : List Fact} {K : KO} {ds : List Tmp} {rest : List PStep} {n : Nat} {l : List (Nat × Value)} {D : List Deferred} {pm : Option FrameMode} {ro : Option Nat} {d : Nat} {g : Option (Tmp × Bool)}
variable {α : Type} [DecidableEq α] {toV : α → Value}
end
end Go.Ideal
namespace Go.Ideal
open Go.Sort
variable {P : Program}
end Go.Ideal
namespace Go.Ideal
variable {P : Program}
section
variable {B : List Nat} {w0 : Wd} {kl kl' klr : List OA} {F : List Fact} {K : KO} {n : Nat} {l : List (Nat × Value)} {D : List Deferred} {pm : Option FrameMode} {ro : Option Nat}
end
end Go.Ideal
namespace Go.Ideal
variable {P : Program}
section
variable {B : List Nat} {w0 : Wd} {kl kl' klr : List OA} {F : List Fact} {K : KO} {ds : List Tmp} {rest : List PStep} {n : Nat} {l : List (Nat × Value)} {D : List Deferred} {pm : Option FrameMode} {ro : Option Nat} {d : Nat} {g : Option (Tmp × Bool)}
variable {α : Type} {E : Enc α} {v : Value}
end
end Go.Ideal
namespace Go.Ideal
variable {P : Program}
inductive CellEq (P : Program) (ty : TypeId) : Value → Value → Bool → Prop
 | int {a b : Int} (h : P.underlying ty = some (.int .i64)) : CellEq P ty (.int .i64 a) (.int .i64 b) (decide (a = b))
 | str {a b : ByteArray} (h : P.underlying ty = some .string) : CellEq P ty (.string a) (.string b) (decide (a = b))
inductive RowEq (P : Program) (xs ys : List Value) : List Field → Bool → Prop
 | nil : RowEq P xs ys [] true
 | cons {f : Field} {fs : List Field} {a b : Value} {r r' : Bool} (hn : (f.name == "_") = false) (hx : xs[f.offset]? = some a) (hy : ys[f.offset]? = some b) (c : CellEq P f.type a b r) (t : RowEq P xs ys fs r') : RowEq P xs ys (f :: fs) (r && r')
section
variable {l : List (Nat × Value)}
end
end Go.Ideal
