/-
  ranking.Orders of the open example: six ends, but for the numbers of new blocks one.
-/
import Derived.Test.YtjmgkllpcidhjaaGreatDoorSaneAE
set_option linter.all false
set_option maxRecDepth 10000
namespace Go.Proofs.YtjmgkllpcidhjaaGreatDoor
open Go.Ideal
noncomputable def A9:List Value:=[Fs,Ue]
noncomputable def uZ:List Value:=[.slice (some ⟨312,0,some 1⟩) 3 3,.int .i64 (.ofNat 0)]
noncomputable def rE:List (Nat×aM):=(298,.cells [.int .i64 (.ofNat 8),.int .i64 (.ofNat 9)])::(304,.cells [.int .i64 (.ofNat 9),.int .i64 (.ofNat 8)])::(310,.cells [.int .i64 (.ofNat 9),.int .i64 (.ofNat 9)])::(312,.cells [.slice (some ⟨298,0,some 1⟩) 2 2,.slice (some ⟨304,0,some 1⟩) 2 2,.slice (some ⟨310,0,some 1⟩) 2 2])::rD
noncomputable def sg(a b c:Nat)(j:Nat):Nat:=if j=298 then a else if j=304 then b else if j=310 then c else j
noncomputable def tO(a b c:Nat):List Value×List (Nat×aM):=(uZ,[(a,.cells [.int .i64 (.ofNat 8),.int .i64 (.ofNat 9)]),(b,.cells [.int .i64 (.ofNat 9),.int .i64 (.ofNat 8)]),(c,.cells [.int .i64 (.ofNat 9),.int .i64 (.ofNat 9)]),(312,.cells [.slice (some ⟨a,0,some 1⟩) 2 2,.slice (some ⟨b,0,some 1⟩) 2 2,.slice (some ⟨c,0,some 1⟩) 2 2])])
noncomputable def Fw:List (List Value×List (Nat×aM)):=[tO 298 304 310,tO 298 310 304,tO 304 298 310,tO 304 310 298,tO 310 298 304,tO 310 304 298]
theorem Ul:(oQ yB 1000000).call ⟨.func 19,A9,[],none⟩ ⟨heapT rD,135,135⟩ (EW 135 Fw)=true:=by kernel_rfl
noncomputable def Fx(m:Nat)(l:List (Nat×aM)):Bool:=l.all λp=>Nat.blt p.1 m&&(match p.2 with| .cells _=>true|_=>false)
theorem KP{m:Nat}{l:List (Nat×aM)}(h:Fx m l=true):∀p∈l,p.1<m/\∃cs,p.2=.cells cs:=λp hp=>by
 unfold Fx at h;rw[iA]at h;have:=h p hp;rw[di]at this;refine⟨gY this.1,?_⟩;have h2:=this.2;split at h2
 ·rename_i cs e;exact⟨cs,e⟩
 ·cases h2
theorem Um:Fx 135 rD=true:=by kernel_rfl
theorem Un{a b c:Nat}(ha:135<=a)(hb:135<=b)(hc:135<=c)(h1:a≠b)(h2:a≠c)(h3:b≠c)(hs:∀j,j<313->j≠298->j≠304->j≠310->j≠a/\j≠b/\j≠c):EX 135 313 uZ rE (tO a b c) (sg a b c):=by
 refine⟨.cons (.sl (by decide) (by decide)) (.cons (.free rfl) .nil),λj hj hj2=>?_,λi j hi hj hi2 hj2 e=>?_,λp hp hge=>?_⟩
 ·unfold sg;repeat' split
  all_goals assumption
 ·have f1:=hs i hi2;have f2:=hs j hj2;unfold sg at e;repeat' split at e
  all_goals omega
 ·unfold rE at hp;rcases bz.1 hp with rfl|hp
  ·exact⟨_,_,rfl,aT ..,.cons (.free rfl) (.cons (.free rfl) .nil)⟩
  rcases bz.1 hp with rfl|hp
  ·exact⟨_,_,rfl,bB _ (aT ..),.cons (.free rfl) (.cons (.free rfl) .nil)⟩
  rcases bz.1 hp with rfl|hp
  ·exact⟨_,_,rfl,bB _ (bB _ (aT ..)),.cons (.free rfl) (.cons (.free rfl) .nil)⟩
  rcases bz.1 hp with rfl|hp
  ·exact⟨_,_,rfl,bB _ (bB _ (bB _ (aT ..))),.cons (.sl (by decide) (by decide)) (.cons (.sl (by decide) (by decide)) (.cons (.sl (by decide) (by decide)) .nil))⟩
  ·have:=(KP Um p hp).1;omega
theorem Uo:∀e∈Fw,∃σ,EX 135 313 uZ rE e σ:=by
 intro e he;unfold Fw at he;simp only[bz,rY,or_false]at he;rcases he with rfl|rfl|rfl|rfl|rfl|rfl<;>exact⟨_,Un (by decide) (by decide) (by decide) (by decide) (by decide) (by decide) (by intro j h1 h2 h3 h4;omega)⟩
noncomputable def KQ:aQ->IH->Option (Value×IH):=ry rD 135 4 rE 313 19 A9 (.tuple ⟨uZ⟩)
theorem Uq{q:aQ}{h:IH}{v:Value}{h':IH}(hk:KQ q h=some (v,h')):CALL Tryz.prog q h (λr pm h2=>r=.ok v/\pm=none/\h2=h'):=
 TJ follows (sW A8 Ul) Uo (by decide) (KP (by kernel_rfl)) (λj hj=>by
  unfold rE;simp only[heapT,T.gV];rw[if_neg (by omega),if_neg (by omega),if_neg (by omega),if_neg (by omega)]) hk
noncomputable def Fy:Nat->Option (aQ->IH->Option (Value×IH)):=λf=>cond (Nat.beq f 19) (some KQ) (Fv f)
theorem Ur{f:Nat}{g:aQ->IH->Option (Value×IH)}(hm:Fy f=some g){q:aQ}{h:IH}{v:Value}{h':IH}(ht:g q h=some (v,h')):CALL Tryz.prog q h (λr pm h2=>r=.ok v/\pm=none/\h2=h'):=by
 simp only[Fy]at hm;cases h1:Nat.beq f 19 with
 |true=>rw[h1]at hm;cases hm;exact Uq ht
 |false=>rw[h1]at hm;exact Uk hm ht
