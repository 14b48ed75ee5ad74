/-
  Which ends have been met.
-/
import Derived.Test.YtbdaaopebgcnaaaGreatDoorPlainCM
set_option linter.all false
namespace En
open Rk
def fM(U:List (List Int))(L:Nat->Int)(u:List Int)(C c:Nat):List Bool:=(List.range C).map λj=>(U.any λv=>decide (v.getD j 0=L j))||(decide (j<c)&&decide (u.getD j 0=L j))
theorem uN(U:List (List Int))(L:Nat->Int)(u:List Int)(C c:Nat):(fM U L u C c).length=C:=by unfold fM;rw[List.length_map,List.length_range]
theorem xN{U:List (List Int)}{L:Nat->Int}{u:List Int}{C c j:Nat}(h:j<C):(fM U L u C c)[j]? =some ((U.any λv=>decide (v.getD j 0=L j))||(decide (j<c)&&decide (u.getD j 0=L j))):=by
 unfold fM;rw[List.getElem?_map,List.getElem?_range h];rfl
theorem Bl{U:List (List Int)}{L:Nat->Int}{u:List Int}{C c:Nat}(h:c<C){b:Bool}(hb:b=((U.any λv=>decide (v.getD c 0=L c))||decide (u.getD c 0=L c))):(fM U L u C c).set c b=fM U L u C (c+1):=by
 apply List.ext_getElem?;intro j;by_cases hj:j<C
 ·by_cases e:j=c
  ·subst e;rw[List.getElem?_set_self (by rw[uN];exact hj),xN hj,hb,decide_eq_true (show j<j+1 by omega),Bool.true_and]
  ·rw[List.getElem?_set_ne (Ne.symm e),xN hj,xN hj];congr 2;rw[show decide (j<c+1)=decide (j<c)from decide_eq_decide.2 (by omega)]
 ·rw[List.getElem?_eq_none (by rw[List.length_set,uN];omega),List.getElem?_eq_none (by rw[uN];omega)]
theorem Ue(U:List (List Int))(L:Nat->Int)(u w:List Int)(C:Nat):fM U L u C 0=fM U L w C 0:=by unfold fM;simp
theorem Uf(U:List (List Int))(L:Nat->Int)(u w:List Int)(C:Nat):fM U L u C C=fM (U++[u]) L w C 0:=by
 unfold fM;refine List.map_congr_left λj hj=>?_;have:=List.mem_range.1 hj;rw[List.any_append,decide_eq_true this];simp
theorem Ug(L:Nat->Int)(u:List Int)(C:Nat):fM [] L u C 0=List.replicate C false:=by
 apply List.ext_getElem?;intro j;by_cases hj:j<C
 ·rw[xN hj,List.getElem?_replicate,if_pos hj];simp
 ·rw[List.getElem?_eq_none (by rw[uN];omega),List.getElem?_replicate,if_neg hj]
