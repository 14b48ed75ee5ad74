/-
  ranking.Orders of the open example: six ends, but for the numbers of new blocks one.
-/
import Derived.Test.YtjmgkllpcidhjaaGreatDoorSaneAN
set_option linter.all false
set_option maxRecDepth 10000
namespace Go.Proofs.YtjmgkllpcidhjaaGreatDoor
open Go.Ideal
noncomputable def GR:List Value:=[Mv,ad8]
noncomputable def GU:List Value:=[.slice (some ⟨312,0,some 1⟩) 3 3,.int .i64 (.ofNat 0)]
noncomputable def wV:List (Nat×bB):=(298,.cells [.int .i64 (.ofNat 8),.int .i64 (.ofNat 9)])::(304,.cells [.int .i64 (.ofNat 9),.int .i64 (.ofNat 8)])::(310,.cells [.int .i64 (.ofNat 9),.int .i64 (.ofNat 9)])::(312,.cells [.slice (some ⟨298,0,some 1⟩) 2 2,.slice (some ⟨304,0,some 1⟩) 2 2,.slice (some ⟨310,0,some 1⟩) 2 2])::wU
noncomputable def sg(a b c:Nat)(j:Nat):Nat:=if j=298 then a else if j=304 then b else if j=310 then c else j
noncomputable def yO(a b c:Nat):List Value×List (Nat×bB):=(GU,[(a,.cells [.int .i64 (.ofNat 8),.int .i64 (.ofNat 9)]),(b,.cells [.int .i64 (.ofNat 9),.int .i64 (.ofNat 8)]),(c,.cells [.int .i64 (.ofNat 9),.int .i64 (.ofNat 9)]),(312,.cells [.slice (some ⟨a,0,some 1⟩) 2 2,.slice (some ⟨b,0,some 1⟩) 2 2,.slice (some ⟨c,0,some 1⟩) 2 2])])
noncomputable def MB:List (List Value×List (Nat×bB)):=[yO 298 304 310,yO 298 310 304,yO 304 298 310,yO 304 310 298,yO 310 298 304,yO 310 304 298]
theorem aef:(uB DN 1000000).call ⟨.func 19,GR,[],none⟩ ⟨heapT wU,135,135⟩ (LB 135 MB)=true:=by kernel_rfl
noncomputable def MC(m:Nat)(l:List (Nat×bB)):Bool:=l.all λp=>Nat.blt p.1 m&&(match p.2 with| .cells _=>true|_=>false)
theorem TF{m:Nat}{l:List (Nat×bB)}(h:MC m l=true):∀p∈l,p.1<m/\∃cs,p.2=.cells cs:=λp hp=>by
 unfold MC at h;rw[iB]at h;have:=h p hp;rw[eG]at this;refine⟨jY this.1,?_⟩;have h2:=this.2;split at h2
 ·rename_i cs e;exact⟨cs,e⟩
 ·cases h2
theorem aeg:MC 135 wU=true:=by kernel_rfl
theorem aeh{a b c:Nat}(ha:135<=a)(hb:135<=b)(hc:135<=c)(h1:a≠b)(h2:a≠c)(h3:b≠c)(hs:∀j,j<313->j≠298->j≠304->j≠310->j≠a/\j≠b/\j≠c):LC 135 313 GU wV (yO a b c) (sg a b c):=by
 refine⟨.cons (.sl (by decide) (by decide)) (.cons (.free rfl) .nil),λj hj hj2=>?_,λi j hi hj hi2 hj2 e=>?_,λp hp hge=>?_⟩
 ·unfold sg;repeat' split
  all_goals assumption
 ·have f1:=hs i hi2;have f2:=hs j hj2;unfold sg at e;repeat' split at e
  all_goals omega
 ·unfold wV at hp;rcases aU.1 hp with rfl|hp
  ·exact⟨_,_,rfl,bz ..,.cons (.free rfl) (.cons (.free rfl) .nil)⟩
  rcases aU.1 hp with rfl|hp
  ·exact⟨_,_,rfl,dh _ (bz ..),.cons (.free rfl) (.cons (.free rfl) .nil)⟩
  rcases aU.1 hp with rfl|hp
  ·exact⟨_,_,rfl,dh _ (dh _ (bz ..)),.cons (.free rfl) (.cons (.free rfl) .nil)⟩
  rcases aU.1 hp with rfl|hp
  ·exact⟨_,_,rfl,dh _ (dh _ (dh _ (bz ..))),.cons (.sl (by decide) (by decide)) (.cons (.sl (by decide) (by decide)) (.cons (.sl (by decide) (by decide)) .nil))⟩
  ·have:=(TF aeg p hp).1;omega
theorem aei:∀e∈MB,∃σ,LC 135 313 GU wV e σ:=by
 intro e he;unfold MB at he;simp only[aU,xy,or_false]at he;rcases he with rfl|rfl|rfl|rfl|rfl|rfl<;>exact⟨_,aeh (by decide) (by decide) (by decide) (by decide) (by decide) (by decide) (by intro j h1 h2 h3 h4;omega)⟩
noncomputable def TG:bQ->IH->Option (Value×IH):=wI wU 135 4 wV 313 19 GR (.tuple ⟨GU⟩)
theorem aej{q:bQ}{h:IH}{v:Value}{h':IH}(hk:TG q h=some (v,h')):CALL Tryz.prog q h (λr pm h2=>r=.ok v/\pm=none/\h2=h'):=
 acY follows (xY GQ aef) aei (by decide) (TF (by kernel_rfl)) (λj hj=>by
  unfold wV;simp only[heapT,T.jC];rw[if_neg (by omega),if_neg (by omega),if_neg (by omega),if_neg (by omega)]) hk
noncomputable def ME:Nat->Option (bQ->IH->Option (Value×IH)):=λf=>cond (Nat.beq f 19) (some TG) (Mx f)
theorem aek{f:Nat}{g:bQ->IH->Option (Value×IH)}(hm:ME f=some g){q:bQ}{h:IH}{v:Value}{h':IH}(ht:g q h=some (v,h')):CALL Tryz.prog q h (λr pm h2=>r=.ok v/\pm=none/\h2=h'):=by
 simp only[ME]at hm;cases h1:Nat.beq f 19 with
 |true=>rw[h1]at hm;cases hm;exact aej ht
 |false=>rw[h1]at hm;exact aee hm ht
