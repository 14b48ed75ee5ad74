/-
  What the program is; calls of the library that the kit's contracts know.
-/
import Derived.Test.YtjmgkllpcidhjaaGreatDoorChecked
import Derived.Test.YtjmgkllpcidhjaaGreatDoorIdealQN
import Derived.Test.YtjmgkllpcidhjaaGreatDoorShelf
set_option linter.all false
namespace Go.Proofs.YtjmgkllpcidhjaaGreatDoor
open Go.Ideal
theorem follows:Tryz.prog.follows .mixedOrders=true:=by kernel_rfl
theorem globals:Tryz.prog.globals.size=4:=by kernel_rfl
theorem yN:uI Tryz.prog 0=20:=by kernel_rfl
theorem wT:Tryz.prog.globalNamed "internal\x2fstrconv.uint64pow10" =some 0:=by kernel_rfl
theorem GN{k:Nat}(h3:(Tryz.prog.funcs[k]?).map (λf=>(f.body.isSome&&!(f.name== "runtime.NumGoroutine")))=some true):∃fn body,Tryz.prog.funcs[k]? =some fn/\fn.body=some body/\fn.name≠ "runtime.NumGoroutine" :=by
 cases e:Tryz.prog.funcs[k]? with
 |none=>rw[e]at h3;cases h3
 |some fn=>
  rw[e]at h3;have h3:=Option.some.inj h3;rw[eG]at h3;obtain⟨body,hb⟩:=NH.1 h3.1;exact⟨fn,body,rfl,hb,by simpa using h3.2⟩
theorem ad1{q:bQ}{h:IH}{v:Value}{h':IH}(hm:F9 132 q h=some (v,h')):CALL Tryz.prog q h (λr pm h2=>r=.ok v/\pm=none/\h2=h'):=by
 obtain⟨fn,body,h1,h2,h3⟩:=GN (k:=132) (by kernel_rfl);exact acf h1 h2 h3 (λs c w=>Any.strings_IndexByte Tryz.lays137 s c w) hm
noncomputable def DI:Nat->Option (bQ->IH->Option (Value×IH)):=λf=>cond (Nat.beq f 132) (some (F9 132)) none
theorem Tj{f:Nat}{g:bQ->IH->Option (Value×IH)}(hm:DI f=some g){q:bQ}{h:IH}{v:Value}{h':IH}(ht:g q h=some (v,h')):CALL Tryz.prog q h (λr pm h2=>r=.ok v/\pm=none/\h2=h'):=by
 simp only[DI]at hm;cases h1:Nat.beq f 132 with
 |true=>rw[h1]at hm;cases hm;exact ad1 ht
 |false=>rw[h1]at hm;cases hm
noncomputable def Tk:Env:=pR Tryz.prog pU DI
theorem ad3:wy Tk:=zV _ _ _ (by
 intro f q h v h' hm _ _;cases e:DI f with
 |none=>rw[e]at hm;cases hm
 |some g=>rw[e]at hm;exact Tj e hm)
theorem ad4:Rp Tryz.prog 112:=λn h0 h1 w ht=>Any.strconv_Itoa Tryz.lays171 n h0 h1 w ht
theorem joins:Joins Tryz.prog 113:=λbk o c xs sep w h1 h2 h3 h4 h5=>Any.strings_Join Tryz.lays156 Tryz.builderExtra bk o c xs sep w h1 h2 h3 h4 h5
theorem wO{f:FuncId}{args:List Value}{v:Value}(hr:∀(h:IH) (K:BR),(uB Tk 100000).call ⟨.func f,args,[],none⟩ h K=K (.ok v) none h):eY Tryz.prog f args [] v:=λB w s=>by
 have h2:=hr w.h λr pm h'=> @decide (pm=none/\r=.ok v/\h'=w.h) (Classical.propDecidable _);have h1:=xY ad3 (h2.trans (@eH _ (Classical.propDecidable _) ⟨rfl,rfl,rfl⟩));refine .uK _ h1 λr pm h' hg=>?_;obtain⟨rfl,rfl,rfl⟩:= @nX _ (Classical.propDecidable _) hg;exact⟨rfl,w,(),rfl,s,rfl,trivial⟩
noncomputable def DJ(n:Nat):List Value->Option (List ByteArray):=
 Nat.rec (motive:=λ_=>List Value->Option (List ByteArray)) (λ_=>some []) (λ_ ih l=>match l with
  | .string s::r=>match ih r with
    |some x=>some (s::x)
    |none=>none
  |_=>none) n
theorem Tm:∀(n:Nat) (l:List Value) (xs:List ByteArray),DJ n l=some xs->xs.length=n/\∀(j:Nat) z,xs[j]? =some z->l[j]? =some (.string z)
 |0,l,xs,h=>by cases h;exact⟨rfl,λj z hz=>by simp at hz⟩
 |n+1,[],xs,h=>by cases h
 |n+1,.string s::r,xs,h=>by
  have e:DJ (n+1) (.string s::r)=(match DJ n r with|some x=>some (s::x)|none=>none):=rfl;rw[e]at h;cases hx:DJ n r with
  |none=>rw[hx]at h;cases h
  |some x=>
   rw[hx]at h;cases h;obtain⟨h1,h2⟩:=Tm n r x hx;refine⟨by simp[h1],λj z hz=>?_⟩;match j,hz with
   |0,hz=>simpa using hz
   |j+1,hz=>simpa using h2 j z (by simpa using hz)
 |n+1,.bool _::r,xs,h=>by cases h
 |n+1,.int _ _::r,xs,h=>by cases h
 |n+1,.pointer _::r,xs,h=>by cases h
 |n+1,.slice _ _ _::r,xs,h=>by cases h
 |n+1,.map _::r,xs,h=>by cases h
 |n+1,.nilIface::r,xs,h=>by cases h
 |n+1,.nilFunc::r,xs,h=>by cases h
 |n+1,.iface _ _::r,xs,h=>by cases h
 |n+1,.agg _::r,xs,h=>by cases h
 |n+1,.tuple _::r,xs,h=>by cases h
 |n+1,.func _ _ _::r,xs,h=>by cases h
noncomputable def Tn(h:IH)(b:Nat):List Value:=match h.get b with
 |some (.cells cs)=>cs
 |_=>[]
noncomputable def FX:bQ->IH->Option (Value×IH):=λq h=>
 match q with
 |⟨.func f,[.slice (some ⟨b,0,fl⟩) n c,.string sep],[],none⟩=>cond (Nat.beq f 113) (match DJ n (Tn h b)with
  |some xs=>cond (Nat.blt 0 n&&(Nat.ble n 1000&&Nat.ble (oK xs sep).data.size 100000)) (some (.string (oK xs sep),h)) none
  |none=>none) none
 |_=>none
theorem ad5{q:bQ}{h:IH}{v':Value}{h':IH}(hk:FX q h=some (v',h')):CALL Tryz.prog q h (λr pm h2=>r=.ok v'/\pm=none/\h2=h'):=by
 unfold FX at hk;split at hk
 ·rename_i f b fl n c sep;cases hcd:Nat.beq f 113 with
  |false=>rw[hcd]at hk;cases hk
  |true=>
   rw[hcd]at hk;have e:=fZ hcd;subst e;dsimp only[cond]at hk;split at hk
   ·rename_i xs hxs;obtain⟨h1,h2⟩:=Tm _ _ _ hxs;subst h1;cases hb:(Nat.blt 0 xs.length&&(Nat.ble xs.length 1000&&Nat.ble (oK xs sep).data.size 100000))with
    |false=>rw[hb]at hk;cases hk
    |true=>
     rw[hb]at hk;injection hk with hk;injection hk with k1 k2;subst k1 k2;simp only[eG,nu,pu]at hb;obtain⟨g1,g2,g3⟩:=hb;obtain⟨cs,hcs,hz⟩:∃cs,h.get b=some (.cells cs)/\∀(j:Nat) z,xs[j]? =some z->cs[j]? =some (.string z):=by
      unfold Tn at h2;split at h2
      ·rename_i cs hc;exact⟨cs,hc,h2⟩
      ·have:=h2 0 (xs[0]'g1) (bf _);simp at this
     obtain⟨fn,body,e1,e2,e3⟩:=GN (k:=113) (by kernel_rfl);refine .uK _ (.real (Rq joins e1 e2 e3 (b:=b) (o:=0) (c:=c) (fl:=fl) (xs:=xs) (sep:=sep) (.inl hcs) (λj z hj=>by rw[dD];exact hz j z hj) g1 (by omega) (by omega))) ?_;rintro r pm h2 ⟨a,b,c⟩;exact⟨b,a,c⟩
   ·cases hk
 ·cases hk
noncomputable def DK:Nat->Option (bQ->IH->Option (Value×IH)):=λf=>cond (Nat.beq f 113) (some FX) (DI f)
theorem Tp{f:Nat}{g:bQ->IH->Option (Value×IH)}(hm:DK f=some g){q:bQ}{h:IH}{v:Value}{h':IH}(ht:g q h=some (v,h')):CALL Tryz.prog q h (λr pm h2=>r=.ok v/\pm=none/\h2=h'):=by
 simp only[DK]at hm;cases h1:Nat.beq f 113 with
 |true=>rw[h1]at hm;cases hm;exact ad5 ht
 |false=>rw[h1]at hm;exact Tj hm ht
noncomputable def Tq:Env:=pR Tryz.prog pU DK
theorem ad6:wy Tq:=zV _ _ _ (by
 intro f q h v h' hm _ _;cases e:DK f with
 |none=>rw[e]at hm;cases hm
 |some g=>rw[e]at hm;exact Tp e hm)
noncomputable def Tt:List (Nat×bB):=[(7,.cells [.int .i64 (.ofNat 1),.int .i64 (.ofNat 10),.int .i64 (.ofNat 2),.int .i64 (.ofNat 0),.int .i64 (.ofNat 4),.int .i64 (.ofNat 0)])]
noncomputable def Tu:Value:=.slice (some ⟨7,0,some 0⟩) 3 3
theorem ad7:(uB Tq 1000000).call ⟨.func 37,[Tu],[],none⟩ ⟨heapT Tt,8,8⟩ (gives (.int .i64 (.ofNat 0)) 8)=true:=by kernel_rfl
noncomputable def DL:Nat->Option (bQ->IH->Option (Value×IH)):=λf=>cond (Nat.beq f 37) (some (known Tt 8 37 [Tu] (.int .i64 (.ofNat 0)))) (DK f)
theorem Tv{f:Nat}{g:bQ->IH->Option (Value×IH)}(hm:DL f=some g){q:bQ}{h:IH}{v:Value}{h':IH}(ht:g q h=some (v,h')):CALL Tryz.prog q h (λr pm h2=>r=.ok v/\pm=none/\h2=h'):=by
 simp only[DL]at hm;cases h1:Nat.beq f 37 with
 |true=>
  rw[h1]at hm;cases hm;exact abR follows rfl (by kernel_rfl) (by kernel_rfl) (by show Tryz.prog.globals.size<=8;rw[globals];decide) (.uK _ (xY ad6 ad7) λ_ _ _ hg=>PP hg) ht
 |false=>rw[h1]at hm;exact Tp hm ht
noncomputable def DN:Env:=pR Tryz.prog pU DL
theorem GQ:wy DN:=zV _ _ _ (by
 intro f q h v h' hm _ _;cases e:DL f with
 |none=>rw[e]at hm;cases hm
 |some g=>rw[e]at hm;exact Tv e hm)
noncomputable def Mv:Value:=.agg ⟨[.int .i64 (.ofNat 2),.int .i64 (.ofNat 1),.slice (some ⟨5,0,some 0⟩) 1 1,.slice (some ⟨6,0,some 0⟩) 1 1,.slice (some ⟨7,0,some 0⟩) 3 3,.slice none 0 0]⟩
noncomputable def Tw:Value:=.slice (some ⟨11,0,some 0⟩) 2 2
noncomputable def ad8:Value:=.slice (some ⟨14,0,some 0⟩) 2 2
noncomputable def Tx:List (Nat×bB):=[
 (4,.cells [.int .i64 (.ofNat 2),.int .i64 (.ofNat 1),.slice (some ⟨5,0,some 0⟩) 1 1,.slice (some ⟨6,0,some 0⟩) 1 1,.slice (some ⟨7,0,some 0⟩) 3 3,.slice none 0 0]),
 (5,.cells [.int .i64 (.ofNat 1)]),
 (6,.cells [.int .i64 (.ofNat 4)]),
 (7,.cells [.int .i64 (.ofNat 1),.int .i64 (.ofNat 10),.int .i64 (.ofNat 2),.int .i64 (.ofNat 0),.int .i64 (.ofNat 4),.int .i64 (.ofNat 0)]),
 (8,.cells [.int .i64 (.ofNat 2),.int .i64 (.ofNat 1),.slice (some ⟨5,0,some 0⟩) 1 1,.slice (some ⟨6,0,some 0⟩) 1 1,.slice (some ⟨7,0,some 0⟩) 3 3,.slice none 0 0]),
 (9,.cells [.int .i64 (.ofNat 0),.int .i64 (.ofNat 0),.int .i64 (.ofNat 0),.int .i64 (.ofNat 5),.int .i64 (.ofNat 5),.bool true]),
 (10,.cells [.int .i64 (.ofNat 1),.int .i64 (.ofNat 0),.int .i64 (.ofNat 0),.int .i64 (.ofNat 3),.int .i64 (.ofNat 3),.bool true]),
 (11,.cells [.int .i64 (.ofNat 0),.int .i64 (.ofNat 0),.int .i64 (.ofNat 0),.int .i64 (.ofNat 5),.int .i64 (.ofNat 5),.bool true,.int .i64 (.ofNat 1),.int .i64 (.ofNat 0),.int .i64 (.ofNat 0),.int .i64 (.ofNat 3),.int .i64 (.ofNat 3),.bool true]),
 (12,.cells [.int .i64 (.ofNat 0),.int .i64 (.ofNat 0),.int .i64 (.ofNat 0),.int .i64 (.ofNat 3),.int .i64 (.ofNat 5),.bool true]),
 (13,.cells [.int .i64 (.ofNat 1),.int .i64 (.ofNat 0),.int .i64 (.ofNat 0),.int .i64 (.ofNat 4),.int .i64 (.ofNat 4),.bool true]),
 (14,.cells [.int .i64 (.ofNat 0),.int .i64 (.ofNat 0),.int .i64 (.ofNat 0),.int .i64 (.ofNat 3),.int .i64 (.ofNat 5),.bool true,.int .i64 (.ofNat 1),.int .i64 (.ofNat 0),.int .i64 (.ofNat 0),.int .i64 (.ofNat 4),.int .i64 (.ofNat 4),.bool true]),
 (15,.cells [.int .i64 (.ofNat 5),.int .i64 (.ofNat 3)])]
noncomputable def fxH:IH:=⟨heapT Tx,16,4⟩
noncomputable def Ty:List Value:=[Mv,Tw,.slice (some ⟨15,0,some 0⟩) 2 2]
noncomputable def Tz:Value:=.tuple ⟨[.slice (some ⟨93,0,some 1⟩) 2 2,.int .i64 (.ofNat 0)]⟩
def TA:Nat:=94
noncomputable def Mw:List (Nat×bB):=[
 (4,.cells [.int .i64 (.ofNat 2),.int .i64 (.ofNat 1),.slice (some ⟨5,0,some 0⟩) 1 1,.slice (some ⟨6,0,some 0⟩) 1 1,.slice (some ⟨7,0,some 0⟩) 3 3,.slice none 0 0]),
 (5,.cells [.int .i64 (.ofNat 1)]),
 (6,.cells [.int .i64 (.ofNat 4)]),
 (7,.cells [.int .i64 (.ofNat 1),.int .i64 (.ofNat 10),.int .i64 (.ofNat 2),.int .i64 (.ofNat 0),.int .i64 (.ofNat 4),.int .i64 (.ofNat 0)]),
 (8,.cells [.int .i64 (.ofNat 2),.int .i64 (.ofNat 1),.slice (some ⟨5,0,some 0⟩) 1 1,.slice (some ⟨6,0,some 0⟩) 1 1,.slice (some ⟨7,0,some 0⟩) 3 3,.slice none 0 0]),
 (9,.cells [.int .i64 (.ofNat 0),.int .i64 (.ofNat 0),.int .i64 (.ofNat 0),.int .i64 (.ofNat 5),.int .i64 (.ofNat 5),.bool true]),
 (10,.cells [.int .i64 (.ofNat 1),.int .i64 (.ofNat 0),.int .i64 (.ofNat 0),.int .i64 (.ofNat 3),.int .i64 (.ofNat 3),.bool true]),
 (11,.cells [.int .i64 (.ofNat 0),.int .i64 (.ofNat 0),.int .i64 (.ofNat 0),.int .i64 (.ofNat 5),.int .i64 (.ofNat 5),.bool true,.int .i64 (.ofNat 1),.int .i64 (.ofNat 0),.int .i64 (.ofNat 0),.int .i64 (.ofNat 3),.int .i64 (.ofNat 3),.bool true]),
 (12,.cells [.int .i64 (.ofNat 0),.int .i64 (.ofNat 0),.int .i64 (.ofNat 0),.int .i64 (.ofNat 3),.int .i64 (.ofNat 5),.bool true]),
 (13,.cells [.int .i64 (.ofNat 1),.int .i64 (.ofNat 0),.int .i64 (.ofNat 0),.int .i64 (.ofNat 4),.int .i64 (.ofNat 4),.bool true]),
 (14,.cells [.int .i64 (.ofNat 0),.int .i64 (.ofNat 0),.int .i64 (.ofNat 0),.int .i64 (.ofNat 3),.int .i64 (.ofNat 5),.bool true,.int .i64 (.ofNat 1),.int .i64 (.ofNat 0),.int .i64 (.ofNat 0),.int .i64 (.ofNat 4),.int .i64 (.ofNat 4),.bool true]),
 (15,.cells [.int .i64 (.ofNat 5),.int .i64 (.ofNat 3)]),
 (93,.cells [.int .i64 (.ofNat 8),.int .i64 (.ofNat 9)])]
theorem aea:(uB DN 1000000).call ⟨.func 11,Ty,[],none⟩ fxH (Dk 16 4 Mw TA Tz)=true:=by kernel_rfl
noncomputable def wU:List (Nat×bB):=(94,.cells [.int .i64 (.ofNat 5),.int .i64 (.ofNat 4)])::Mw
noncomputable def TB:List Value:=[Mv,Tw,.slice (some ⟨94,0,some 0⟩) 2 2]
noncomputable def TC:Value:=.tuple ⟨[.slice none 0 0,.int .i64 (.ofNat 1)]⟩
def TD:Nat:=135
theorem aeb:(uB DN 1000000).call ⟨.func 11,TB,[],none⟩ ⟨heapT wU,95,4⟩ (Dk 95 4 wU TD TC)=true:=by kernel_rfl
noncomputable def orElse(a b:bQ->IH->Option (Value×IH)):bQ->IH->Option (Value×IH):=λq h=>match a q h with
 |some x=>some x
 |none=>b q h
theorem aec{P:Program}{a b:bQ->IH->Option (Value×IH)}(ha:∀{q h v h'},a q h=some (v,h')->CALL P q h (λr pm h2=>r=.ok v/\pm=none/\h2=h'))(hb:∀{q h v h'},b q h=some (v,h')->CALL P q h (λr pm h2=>r=.ok v/\pm=none/\h2=h'))
 {q:bQ} {h:IH} {v:Value} {h':IH} (hk:orElse a b q h=some (v,h')):CALL P q h (λr pm h2=>r=.ok v/\pm=none/\h2=h'):=by
 unfold orElse at hk;split at hk
 ·rename_i x hx;cases hk;exact ha hx
 ·exact hb hk
noncomputable def TE:bQ->IH->Option (Value×IH):=orElse (wI Tx 16 4 Mw TA 11 Ty Tz) (wI wU 95 4 wU TD 11 TB TC)
theorem aed{q:bQ}{h:IH}{v:Value}{h':IH}(hk:TE q h=some (v,h')):CALL Tryz.prog q h (λr pm h2=>r=.ok v/\pm=none/\h2=h'):=
 aec (λhk=>LA (xY GQ aea) hk) (λhk=>LA (xY GQ aeb) hk) hk
noncomputable def Mx:Nat->Option (bQ->IH->Option (Value×IH)):=λf=>cond (Nat.beq f 11) (some (TE)) (DL f)
theorem aee{f:Nat}{g:bQ->IH->Option (Value×IH)}(hm:Mx f=some g){q:bQ}{h:IH}{v:Value}{h':IH}(ht:g q h=some (v,h')):CALL Tryz.prog q h (λr pm h2=>r=.ok v/\pm=none/\h2=h'):=by
 simp only[Mx]at hm;cases h1:Nat.beq f 11 with
 |true=>rw[h1]at hm;cases hm;exact aed ht
 |false=>rw[h1]at hm;exact Tv hm ht
