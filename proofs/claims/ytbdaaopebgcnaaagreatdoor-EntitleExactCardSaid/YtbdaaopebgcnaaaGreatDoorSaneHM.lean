/-
  What the program is; calls of the library that the kit's contracts know.
-/
import Derived.Test.YtbdaaopebgcnaaaGreatDoorChecked
import Derived.Test.YtbdaaopebgcnaaaGreatDoorIdealQM
import Derived.Test.YtbdaaopebgcnaaaGreatDoorShelf
set_option linter.all false
namespace Go.Proofs.YtbdaaopebgcnaaaGreatDoor
open Go.Ideal
theorem follows:Tryz.prog.follows .mixedOrders=true:=by kernel_rfl
theorem globals:Tryz.prog.globals.size=4:=by kernel_rfl
theorem Il:vD Tryz.prog 0=20:=by kernel_rfl
theorem DU:Tryz.prog.globalNamed "internal\x2fstrconv.uint64pow10" =some 0:=by kernel_rfl
theorem MX{k:Nat}(h3:(Tryz.prog.funcs[k]?).map (λf=>(f.body.isSome&&!(f.name== "runtime.NumGoroutine")))=some true):∃fn body,Tryz.prog.funcs[k]? =some fn/\fn.body=some body/\fn.name≠ "runtime.NumGoroutine" :=by
 cases e:Tryz.prog.funcs[k]? with
 |none=>rw[e]at h3;cases h3
 |some fn=>
  rw[e]at h3;have h3:=Option.some.inj h3;rw[fD]at h3;obtain⟨body,hb⟩:=Ou.1 h3.1;exact⟨fn,body,rfl,hb,by simpa using h3.2⟩
theorem aen{q:eH}{h:IH}{v:Value}{h':IH}(hm:Ho 147 q h=some (v,h')):CALL Tryz.prog q h (λr pm h2=>r=.ok v/\pm=none/\h2=h'):=by
 obtain⟨fn,body,h1,h2,h3⟩:=MX (k:=147) (by kernel_rfl);exact acO h1 h2 h3 (λs c w=>Any.strings_IndexByte Tryz.lays137 s c w) hm
noncomputable def Im:Nat->Option (eH->IH->Option (Value×IH)):=λf=>cond (Nat.beq f 147) (some (Ho 147)) none
theorem aeo{f:Nat}{g:eH->IH->Option (Value×IH)}(hm:Im f=some g){q:eH}{h:IH}{v:Value}{h':IH}(ht:g q h=some (v,h')):CALL Tryz.prog q h (λr pm h2=>r=.ok v/\pm=none/\h2=h'):=by
 simp only[Im]at hm;cases h1:Nat.beq f 147 with
 |true=>rw[h1]at hm;cases hm;exact aen ht
 |false=>rw[h1]at hm;cases hm
noncomputable def MZ:Env:=qj Tryz.prog o8 Im
theorem Uh:Af MZ:=CW _ _ _ (by
 intro f q h v h' hm _ _;cases e:Im f with
 |none=>rw[e]at hm;cases hm
 |some g=>rw[e]at hm;exact aeo e hm)
theorem aep:Sk Tryz.prog 132:=λn h0 h1 w ht=>Any.strconv_Itoa Tryz.lays171 n h0 h1 w ht
theorem joins:Joins Tryz.prog 133:=λbk o c xs sep w h1 h2 h3 h4 h5=>Any.strings_Join Tryz.lays156 Tryz.builderExtra bk o c xs sep w h1 h2 h3 h4 h5
theorem xE{f:FuncId}{args:List Value}{v:Value}(hr:∀(h:IH) (K:BR),(Ch MZ 100000).call ⟨.func f,args,[],none⟩ h K=K (.ok v) none h):gy Tryz.prog f args [] v:=λB w s=>by
 have h2:=hr w.h λr pm h'=> @decide (pm=none/\r=.ok v/\h'=w.h) (Classical.propDecidable _);have h1:=KY Uh (h2.trans (@eP _ (Classical.propDecidable _) ⟨rfl,rfl,rfl⟩));refine .wX _ h1 λr pm h' hg=>?_;obtain⟨rfl,rfl,rfl⟩:= @si _ (Classical.propDecidable _) hg;exact⟨rfl,w,(),rfl,s,rfl,trivial⟩
