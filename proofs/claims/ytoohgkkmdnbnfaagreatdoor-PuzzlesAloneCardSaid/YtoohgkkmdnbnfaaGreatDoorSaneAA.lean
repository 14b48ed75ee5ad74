/-
  The heap in which lex.Lex is called first.
-/
import Derived.Test.YtoohgkkmdnbnfaaGreatDoorChecked
import Derived.Test.YtoohgkkmdnbnfaaGreatDoorIdealPA
import Derived.Test.YtoohgkkmdnbnfaaGreatDoorShelf
set_option linter.all false
namespace Go.Proofs.YtoohgkkmdnbnfaaGreatDoor
open Go.Ideal
def fw(l:List Nat):Value:=.string ⟨⟨l.map UInt8.ofNat⟩⟩
def UG:List Value:=[fw [],.int .i64 0,.int .i64 0,.int .i64 0,.int .i64 0,.slice none 0 0,.slice none 0 0,.slice none 0 0,.slice none 0 0,.slice none 0 0]
def aeG:List Value:=UG++[.int .i64 0,.int .i64 0,.int .i64 0,.slice none 0 0,.slice none 0 0,.slice none 0 0,.slice none 0 0]
def Cr:Value:=fw [107,105,110,100,32,107,32,118,101,114,115,105,111,110,32,49,32,123,32,103,114,105,100,32,115,113,117,97,114,101,32,50,32,98,121,32,50,59,32,115,121,109,98,111,108,115,32,97,32,61,32,49,44,32,98,32,61,32,50,59,32,99,108,117,101,32,99,32,111,110,32,99,101,108,108,115,32,115,121,109,98,111,108,59,32,114,117,108,101,32,114,58,32,101,97,99,104,32,114,111,119,115,32,100,105,102,102,101,114,101,110,116,59,32,114,117,108,101,32,103,58,32,103,105,118,101,110,32,99,59,32,125]
noncomputable def Ni:IH:=((⟨.leaf,6,6⟩:IH).new (.cells aeG)).new (.cells UG)
noncomputable def I7:IH:=⟨.leaf,6,6⟩
theorem follows:Tryz.prog.follows .mixedOrders=true:=by kernel_rfl
theorem globals:Tryz.prog.globals.size=6:=by kernel_rfl
theorem UH{k:Nat}(h3:(Tryz.prog.funcs[k]?).map (λf=>(f.body.isSome&&!(f.name== "runtime.NumGoroutine")))=some true):∃fn body,Tryz.prog.funcs[k]? =some fn/\fn.body=some body/\fn.name≠ "runtime.NumGoroutine" :=by
 cases e:Tryz.prog.funcs[k]? with
 |none=>rw[e]at h3;cases h3
 |some fn=>
  rw[e]at h3;have h3:=Option.some.inj h3;rw[gL]at h3;obtain⟨body,hb⟩:=Oo.1 h3.1;exact⟨fn,body,rfl,hb,by simpa using h3.2⟩
theorem aeH{q:dO}{h:IH}{v:Value}{h':IH}(hm:Ip 189 q h=some (v,h')):CALL Tryz.prog q h (λr pm h2=>r=.ok v/\pm=none/\h2=h'):=by
 obtain⟨fn,body,h1,h2,h3⟩:=UH (k:=189) (by kernel_rfl);exact aci h1 h2 h3 (λs c w=>Any.strings_IndexByte Tryz.lays137 s c w) hm
theorem aeI{q:dO}{h:IH}{v:Value}{h':IH}(hm:Iq 244 q h=some (v,h')):CALL Tryz.prog q h (λr pm h2=>r=.ok v/\pm=none/\h2=h'):=by
 obtain⟨fn,body,h1,h2,h3⟩:=UH (k:=244) (by kernel_rfl);exact acm h1 h2 h3 (λs n hl hn w=>(Any.internal_strconv_Atoi Tryz.lays244 s n hl hn w).mono λe w' ⟨he,t,hw⟩=>⟨he,by rw[hw];exact acj w _ t⟩) hm
noncomputable def FM:Nat->Option (dO->IH->Option (Value×IH)):=λf=>cond (Nat.beq f 189) (some (Ip 189)) (cond (Nat.beq f 244) (some (Iq 244)) none)
theorem UI{f:Nat}{g:dO->IH->Option (Value×IH)}(hm:FM f=some g){q:dO}{h:IH}{v:Value}{h':IH}(ht:g q h=some (v,h')):CALL Tryz.prog q h (λr pm h2=>r=.ok v/\pm=none/\h2=h'):=by
 simp only[FM]at hm;cases h1:Nat.beq f 189 with
 |true=>rw[h1]at hm;cases hm;exact aeH ht
 |false=>
  rw[h1]at hm;cases h2:Nat.beq f 244 with
  |true=>rw[h2]at hm;cases hm;exact aeI ht
  |false=>rw[h2]at hm;cases hm
noncomputable def UJ:Env:=nN Tryz.prog (Hg 254 301) FM
theorem aeJ:vR UJ:=xL _ _ _ (by
 intro f q h v h' hm _ _;cases e:FM f with
 |none=>rw[e]at hm;cases hm
 |some g=>rw[e]at hm;exact UI e hm)
noncomputable def Nj:Value:=.tuple ⟨[.slice (some ⟨231,0,some 4⟩) 40 40,.int .i64 (.ofNat 0),.int .i64 (.ofNat 0)]⟩
def Nk:Nat:=232
noncomputable def Nl:List (Nat×dG):=[
 (6,.cells [fw [],.int .i64 (.ofNat 0),.int .i64 (.ofNat 0),.int .i64 (.ofNat 0),.int .i64 (.ofNat 0),.slice none 0 0,.slice none 0 0,.slice none 0 0,.slice none 0 0,.slice none 0 0,.int .i64 (.ofNat 0),.int .i64 (.ofNat 0),.int .i64 (.ofNat 0),.slice none 0 0,.slice none 0 0,.slice none 0 0,.slice none 0 0]),
 (7,.cells [fw [],.int .i64 (.ofNat 0),.int .i64 (.ofNat 0),.int .i64 (.ofNat 0),.int .i64 (.ofNat 0),.slice none 0 0,.slice none 0 0,.slice none 0 0,.slice none 0 0,.slice none 0 0]),
 (231,.cells [.int .i64 (.ofNat 1),fw [107,105,110,100],.int .i64 (.ofNat 0),.int .i64 (.ofNat 0),.int .i64 (.ofNat 1),fw [107],.int .i64 (.ofNat 0),.int .i64 (.ofNat 5),.int .i64 (.ofNat 1),fw [118,101,114,115,105,111,110],.int .i64 (.ofNat 0),.int .i64 (.ofNat 7),.int .i64 (.ofNat 2),fw [],.int .i64 (.ofNat 1),.int .i64 (.ofNat 15),.int .i64 (.ofNat 3),fw [123],.int .i64 (.ofNat 0),.int .i64 (.ofNat 17),.int .i64 (.ofNat 1),fw [103,114,105,100],.int .i64 (.ofNat 0),.int .i64 (.ofNat 19),.int .i64 (.ofNat 1),fw [115,113,117,97,114,101],.int .i64 (.ofNat 0),.int .i64 (.ofNat 24),.int .i64 (.ofNat 2),fw [],.int .i64 (.ofNat 2),.int .i64 (.ofNat 31),.int .i64 (.ofNat 1),fw [98,121],.int .i64 (.ofNat 0),.int .i64 (.ofNat 33),.int .i64 (.ofNat 2),fw [],.int .i64 (.ofNat 2),.int .i64 (.ofNat 36),.int .i64 (.ofNat 3),fw [59],.int .i64 (.ofNat 0),.int .i64 (.ofNat 37),.int .i64 (.ofNat 1),fw [115,121,109,98,111,108,115],.int .i64 (.ofNat 0),.int .i64 (.ofNat 39),.int .i64 (.ofNat 1),fw [97],.int .i64 (.ofNat 0),.int .i64 (.ofNat 47),.int .i64 (.ofNat 3),fw [61],.int .i64 (.ofNat 0),.int .i64 (.ofNat 49),.int .i64 (.ofNat 2),fw [],.int .i64 (.ofNat 1),.int .i64 (.ofNat 51),.int .i64 (.ofNat 3),fw [44],.int .i64 (.ofNat 0),.int .i64 (.ofNat 52),.int .i64 (.ofNat 1),fw [98],.int .i64 (.ofNat 0),.int .i64 (.ofNat 54),.int .i64 (.ofNat 3),fw [61],.int .i64 (.ofNat 0),.int .i64 (.ofNat 56),.int .i64 (.ofNat 2),fw [],.int .i64 (.ofNat 2),.int .i64 (.ofNat 58),.int .i64 (.ofNat 3),fw [59],.int .i64 (.ofNat 0),.int .i64 (.ofNat 59),.int .i64 (.ofNat 1),fw [99,108,117,101],.int .i64 (.ofNat 0),.int .i64 (.ofNat 61),.int .i64 (.ofNat 1),fw [99],.int .i64 (.ofNat 0),.int .i64 (.ofNat 66),.int .i64 (.ofNat 1),fw [111,110],.int .i64 (.ofNat 0),.int .i64 (.ofNat 68),.int .i64 (.ofNat 1),fw [99,101,108,108,115],.int .i64 (.ofNat 0),.int .i64 (.ofNat 71),.int .i64 (.ofNat 1),fw [115,121,109,98,111,108],.int .i64 (.ofNat 0),.int .i64 (.ofNat 77),.int .i64 (.ofNat 3),fw [59],.int .i64 (.ofNat 0),.int .i64 (.ofNat 83),.int .i64 (.ofNat 1),fw [114,117,108,101],.int .i64 (.ofNat 0),.int .i64 (.ofNat 85),.int .i64 (.ofNat 1),fw [114],.int .i64 (.ofNat 0),.int .i64 (.ofNat 90),.int .i64 (.ofNat 3),fw [58],.int .i64 (.ofNat 0),.int .i64 (.ofNat 91),.int .i64 (.ofNat 1),fw [101,97,99,104],.int .i64 (.ofNat 0),.int .i64 (.ofNat 93),.int .i64 (.ofNat 1),fw [114,111,119,115],.int .i64 (.ofNat 0),.int .i64 (.ofNat 98),.int .i64 (.ofNat 1),fw [100,105,102,102,101,114,101,110,116],.int .i64 (.ofNat 0),.int .i64 (.ofNat 103),.int .i64 (.ofNat 3),fw [59],.int .i64 (.ofNat 0),.int .i64 (.ofNat 112),.int .i64 (.ofNat 1),fw [114,117,108,101],.int .i64 (.ofNat 0),.int .i64 (.ofNat 114),.int .i64 (.ofNat 1),fw [103],.int .i64 (.ofNat 0),.int .i64 (.ofNat 119),.int .i64 (.ofNat 3),fw [58],.int .i64 (.ofNat 0),.int .i64 (.ofNat 120),.int .i64 (.ofNat 1),fw [103,105,118,101,110],.int .i64 (.ofNat 0),.int .i64 (.ofNat 122),.int .i64 (.ofNat 1),fw [99],.int .i64 (.ofNat 0),.int .i64 (.ofNat 128),.int .i64 (.ofNat 3),fw [59],.int .i64 (.ofNat 0),.int .i64 (.ofNat 129),.int .i64 (.ofNat 3),fw [125],.int .i64 (.ofNat 0),.int .i64 (.ofNat 131)])]
theorem aeK:(zl UJ 1000000).call ⟨.func 98,[Cr],[],none⟩ Ni (Im 6 Nl Nk Nj)=true:=by kernel_rfl
noncomputable def Nn:Nat->Option (dO->IH->Option (Value×IH)):=λf=>cond (Nat.beq f 98) (some (Cc 6 Ni Nl Nk 98 [Cr] Nj)) (FM f)
theorem aeL{q:dO}{h:IH}{v:Value}{h':IH}(hm:Cc 6 Ni Nl Nk 98 [Cr] Nj q h=some (v,h')):CALL Tryz.prog q h (λr pm h2=>r=.ok v/\pm=none/\h2=h'):=
 SI (by kernel_rfl) (Eh aeJ aeK) hm
theorem aeM{f:Nat}{g:dO->IH->Option (Value×IH)}(hm:Nn f=some g){q:dO}{h:IH}{v:Value}{h':IH}(ht:g q h=some (v,h')):CALL Tryz.prog q h (λr pm h2=>r=.ok v/\pm=none/\h2=h'):=by
 simp only[Nn]at hm;cases h1:Nat.beq f 98 with
 |true=>rw[h1]at hm;cases hm;exact aeL ht
 |false=>rw[h1]at hm;exact UI hm ht
