/-
  The heap in which lex.Lex is called first.
-/
import Derived.Test.YtoohgkkmdnbnfaaGreatDoorChecked
import Derived.Test.YtoohgkkmdnbnfaaGreatDoorIdealPB
import Derived.Test.YtoohgkkmdnbnfaaGreatDoorShelf
set_option linter.all false
namespace Go.Proofs.YtoohgkkmdnbnfaaGreatDoor
open Go.Ideal
def eG(l:List Nat):Value:=.string ⟨⟨l.map UInt8.ofNat⟩⟩
def R5:List Value:=[eG [],.int .i64 0,.int .i64 0,.int .i64 0,.int .i64 0,.slice none 0 0,.slice none 0 0,.slice none 0 0,.slice none 0 0,.slice none 0 0]
def ab1:List Value:=R5++[.int .i64 0,.int .i64 0,.int .i64 0,.slice none 0 0,.slice none 0 0,.slice none 0 0,.slice none 0 0]
def AZ:Value:=eG [107,105,110,100,32,107,32,118,101,114,115,105,111,110,32,49,32,123,32,103,114,105,100,32,115,113,117,97,114,101,32,50,32,98,121,32,50,59,32,115,121,109,98,111,108,115,32,97,32,61,32,49,44,32,98,32,61,32,50,59,32,99,108,117,101,32,99,32,111,110,32,99,101,108,108,115,32,115,121,109,98,111,108,59,32,114,117,108,101,32,114,58,32,101,97,99,104,32,114,111,119,115,32,100,105,102,102,101,114,101,110,116,59,32,114,117,108,101,32,103,58,32,103,105,118,101,110,32,99,59,32,125]
noncomputable def Lg:IH:=((⟨.leaf,6,6⟩:IH).new (.cells ab1)).new (.cells R5)
noncomputable def Gz:IH:=⟨.leaf,6,6⟩
theorem follows:Tryz.prog.follows .mixedOrders=true:=by kernel_rfl
theorem globals:Tryz.prog.globals.size=6:=by kernel_rfl
theorem R6{k:Nat}(h3:(Tryz.prog.funcs[k]?).map (λf=>(f.body.isSome&&!(f.name== "runtime.NumGoroutine")))=some true):∃fn body,Tryz.prog.funcs[k]? =some fn/\fn.body=some body/\fn.name≠ "runtime.NumGoroutine" :=by
 cases e:Tryz.prog.funcs[k]? with
 |none=>rw[e]at h3;cases h3
 |some fn=>
  rw[e]at h3;have h3:=Option.some.inj h3;rw[fZ]at h3;obtain⟨body,hb⟩:=Mq.1 h3.1;exact⟨fn,body,rfl,hb,by simpa using h3.2⟩
theorem ab2{q:dI}{h:IH}{v:Value}{h':IH}(hm:Gc 189 q h=some (v,h')):CALL Tryz.prog q h (λr pm h2=>r=.ok v/\pm=none/\h2=h'):=by
 obtain⟨fn,body,h1,h2,h3⟩:=R6 (k:=189) (by kernel_rfl);exact Z6 h1 h2 h3 (λs c w=>Any.strings_IndexByte Tryz.lays137 s c w) hm
theorem ab3{q:dI}{h:IH}{v:Value}{h':IH}(hm:Gd 244 q h=some (v,h')):CALL Tryz.prog q h (λr pm h2=>r=.ok v/\pm=none/\h2=h'):=by
 obtain⟨fn,body,h1,h2,h3⟩:=R6 (k:=244) (by kernel_rfl);exact Z9 h1 h2 h3 (λs n hl hn w=>(Any.internal_strconv_Atoi Tryz.lays244 s n hl hn w).mono λe w' ⟨he,t,hw⟩=>⟨he,by rw[hw];exact Z7 w _ t⟩) hm
noncomputable def Eb:Nat->Option (dI->IH->Option (Value×IH)):=λf=>cond (Nat.beq f 189) (some (Gc 189)) (cond (Nat.beq f 244) (some (Gd 244)) none)
theorem R7{f:Nat}{g:dI->IH->Option (Value×IH)}(hm:Eb f=some g){q:dI}{h:IH}{v:Value}{h':IH}(ht:g q h=some (v,h')):CALL Tryz.prog q h (λr pm h2=>r=.ok v/\pm=none/\h2=h'):=by
 simp only[Eb]at hm;cases h1:Nat.beq f 189 with
 |true=>rw[h1]at hm;cases hm;exact ab2 ht
 |false=>
  rw[h1]at hm;cases h2:Nat.beq f 244 with
  |true=>rw[h2]at hm;cases hm;exact ab3 ht
  |false=>rw[h2]at hm;cases hm
noncomputable def R8:Env:=mJ Tryz.prog (Fw 254 301) Eb
theorem ab4:uM R8:=wF _ _ _ (by
 intro f q h v h' hm _ _;cases e:Eb f with
 |none=>rw[e]at hm;cases hm
 |some g=>rw[e]at hm;exact R7 e hm)
noncomputable def Lh:Value:=.tuple ⟨[.slice (some ⟨231,0,some 4⟩) 40 40,.int .i64 (.ofNat 0),.int .i64 (.ofNat 0)]⟩
def Li:Nat:=232
noncomputable def Lj:List (Nat×dz):=[
 (6,.cells [eG [],.int .i64 (.ofNat 0),.int .i64 (.ofNat 0),.int .i64 (.ofNat 0),.int .i64 (.ofNat 0),.slice none 0 0,.slice none 0 0,.slice none 0 0,.slice none 0 0,.slice none 0 0,.int .i64 (.ofNat 0),.int .i64 (.ofNat 0),.int .i64 (.ofNat 0),.slice none 0 0,.slice none 0 0,.slice none 0 0,.slice none 0 0]),
 (7,.cells [eG [],.int .i64 (.ofNat 0),.int .i64 (.ofNat 0),.int .i64 (.ofNat 0),.int .i64 (.ofNat 0),.slice none 0 0,.slice none 0 0,.slice none 0 0,.slice none 0 0,.slice none 0 0]),
 (231,.cells [.int .i64 (.ofNat 1),eG [107,105,110,100],.int .i64 (.ofNat 0),.int .i64 (.ofNat 0),.int .i64 (.ofNat 1),eG [107],.int .i64 (.ofNat 0),.int .i64 (.ofNat 5),.int .i64 (.ofNat 1),eG [118,101,114,115,105,111,110],.int .i64 (.ofNat 0),.int .i64 (.ofNat 7),.int .i64 (.ofNat 2),eG [],.int .i64 (.ofNat 1),.int .i64 (.ofNat 15),.int .i64 (.ofNat 3),eG [123],.int .i64 (.ofNat 0),.int .i64 (.ofNat 17),.int .i64 (.ofNat 1),eG [103,114,105,100],.int .i64 (.ofNat 0),.int .i64 (.ofNat 19),.int .i64 (.ofNat 1),eG [115,113,117,97,114,101],.int .i64 (.ofNat 0),.int .i64 (.ofNat 24),.int .i64 (.ofNat 2),eG [],.int .i64 (.ofNat 2),.int .i64 (.ofNat 31),.int .i64 (.ofNat 1),eG [98,121],.int .i64 (.ofNat 0),.int .i64 (.ofNat 33),.int .i64 (.ofNat 2),eG [],.int .i64 (.ofNat 2),.int .i64 (.ofNat 36),.int .i64 (.ofNat 3),eG [59],.int .i64 (.ofNat 0),.int .i64 (.ofNat 37),.int .i64 (.ofNat 1),eG [115,121,109,98,111,108,115],.int .i64 (.ofNat 0),.int .i64 (.ofNat 39),.int .i64 (.ofNat 1),eG [97],.int .i64 (.ofNat 0),.int .i64 (.ofNat 47),.int .i64 (.ofNat 3),eG [61],.int .i64 (.ofNat 0),.int .i64 (.ofNat 49),.int .i64 (.ofNat 2),eG [],.int .i64 (.ofNat 1),.int .i64 (.ofNat 51),.int .i64 (.ofNat 3),eG [44],.int .i64 (.ofNat 0),.int .i64 (.ofNat 52),.int .i64 (.ofNat 1),eG [98],.int .i64 (.ofNat 0),.int .i64 (.ofNat 54),.int .i64 (.ofNat 3),eG [61],.int .i64 (.ofNat 0),.int .i64 (.ofNat 56),.int .i64 (.ofNat 2),eG [],.int .i64 (.ofNat 2),.int .i64 (.ofNat 58),.int .i64 (.ofNat 3),eG [59],.int .i64 (.ofNat 0),.int .i64 (.ofNat 59),.int .i64 (.ofNat 1),eG [99,108,117,101],.int .i64 (.ofNat 0),.int .i64 (.ofNat 61),.int .i64 (.ofNat 1),eG [99],.int .i64 (.ofNat 0),.int .i64 (.ofNat 66),.int .i64 (.ofNat 1),eG [111,110],.int .i64 (.ofNat 0),.int .i64 (.ofNat 68),.int .i64 (.ofNat 1),eG [99,101,108,108,115],.int .i64 (.ofNat 0),.int .i64 (.ofNat 71),.int .i64 (.ofNat 1),eG [115,121,109,98,111,108],.int .i64 (.ofNat 0),.int .i64 (.ofNat 77),.int .i64 (.ofNat 3),eG [59],.int .i64 (.ofNat 0),.int .i64 (.ofNat 83),.int .i64 (.ofNat 1),eG [114,117,108,101],.int .i64 (.ofNat 0),.int .i64 (.ofNat 85),.int .i64 (.ofNat 1),eG [114],.int .i64 (.ofNat 0),.int .i64 (.ofNat 90),.int .i64 (.ofNat 3),eG [58],.int .i64 (.ofNat 0),.int .i64 (.ofNat 91),.int .i64 (.ofNat 1),eG [101,97,99,104],.int .i64 (.ofNat 0),.int .i64 (.ofNat 93),.int .i64 (.ofNat 1),eG [114,111,119,115],.int .i64 (.ofNat 0),.int .i64 (.ofNat 98),.int .i64 (.ofNat 1),eG [100,105,102,102,101,114,101,110,116],.int .i64 (.ofNat 0),.int .i64 (.ofNat 103),.int .i64 (.ofNat 3),eG [59],.int .i64 (.ofNat 0),.int .i64 (.ofNat 112),.int .i64 (.ofNat 1),eG [114,117,108,101],.int .i64 (.ofNat 0),.int .i64 (.ofNat 114),.int .i64 (.ofNat 1),eG [103],.int .i64 (.ofNat 0),.int .i64 (.ofNat 119),.int .i64 (.ofNat 3),eG [58],.int .i64 (.ofNat 0),.int .i64 (.ofNat 120),.int .i64 (.ofNat 1),eG [103,105,118,101,110],.int .i64 (.ofNat 0),.int .i64 (.ofNat 122),.int .i64 (.ofNat 1),eG [99],.int .i64 (.ofNat 0),.int .i64 (.ofNat 128),.int .i64 (.ofNat 3),eG [59],.int .i64 (.ofNat 0),.int .i64 (.ofNat 129),.int .i64 (.ofNat 3),eG [125],.int .i64 (.ofNat 0),.int .i64 (.ofNat 131)])]
theorem ab5:(xZ R8 1000000).call ⟨.func 98,[AZ],[],none⟩ Lg (Ga 6 Lj Li Lh)=true:=by kernel_rfl
noncomputable def Ll:Nat->Option (dI->IH->Option (Value×IH)):=λf=>cond (Nat.beq f 98) (some (AA 6 Lg Lj Li 98 [AZ] Lh)) (Eb f)
theorem ab6{q:dI}{h:IH}{v:Value}{h':IH}(hm:AA 6 Lg Lj Li 98 [AZ] Lh q h=some (v,h')):CALL Tryz.prog q h (λr pm h2=>r=.ok v/\pm=none/\h2=h'):=
 Qz (by kernel_rfl) (Cy ab4 ab5) hm
theorem ab7{f:Nat}{g:dI->IH->Option (Value×IH)}(hm:Ll f=some g){q:dI}{h:IH}{v:Value}{h':IH}(ht:g q h=some (v,h')):CALL Tryz.prog q h (λr pm h2=>r=.ok v/\pm=none/\h2=h'):=by
 simp only[Ll]at hm;cases h1:Nat.beq f 98 with
 |true=>rw[h1]at hm;cases hm;exact ab6 ht
 |false=>rw[h1]at hm;exact R7 hm ht
