/-
  What the program is; calls of the library that the kit's contracts know.
-/
import Derived.Test.YtjmgkllpcidhjaaGreatDoorChecked
import Derived.Test.YtjmgkllpcidhjaaGreatDoorIdealQE
import Derived.Test.YtjmgkllpcidhjaaGreatDoorShelf
set_option linter.all false
namespace Go.Proofs.YtjmgkllpcidhjaaGreatDoor
open Go.Ideal
theorem follows:Tryz.prog.follows .mixedOrders=true:=by kernel_rfl
theorem globals:Tryz.prog.globals.size=4:=by kernel_rfl
theorem Ko:pE Tryz.prog 0=20:=by kernel_rfl
theorem Fq:Tryz.prog.globalNamed "internal\x2fstrconv.uint64pow10" =some 0:=by kernel_rfl
theorem A7{k:Nat}(h3:(Tryz.prog.funcs[k]?).map (λf=>(f.body.isSome&&!(f.name== "runtime.NumGoroutine")))=some true):∃fn body,Tryz.prog.funcs[k]? =some fn/\fn.body=some body/\fn.name≠ "runtime.NumGoroutine" :=by
 cases e:Tryz.prog.funcs[k]? with
 |none=>rw[e]at h3;cases h3
 |some fn=>
  rw[e]at h3;have h3:=Option.some.inj h3;rw[di]at h3;obtain⟨body,hb⟩:=Option.isSome_iff_exists.1 h3.1;exact⟨fn,body,rfl,hb,by simpa using h3.2⟩
theorem TZ{q:aQ}{h:IH}{v:Value}{h':IH}(hm:AA 132 q h=some (v,h')):CALL Tryz.prog q h (λr pm h2=>r=.ok v/\pm=none/\h2=h'):=by
 obtain⟨fn,body,h1,h2,h3⟩:=A7 (k:=132) (by kernel_rfl);exact Tj h1 h2 h3 (λs c w=>Any.strings_IndexByte Tryz.lays137 s c w) hm
noncomputable def yw:Nat->Option (aQ->IH->Option (Value×IH)):=λf=>cond (Nat.beq f 132) (some (AA 132)) none
theorem Kq{f:Nat}{g:aQ->IH->Option (Value×IH)}(hm:yw f=some g){q:aQ}{h:IH}{v:Value}{h':IH}(ht:g q h=some (v,h')):CALL Tryz.prog q h (λr pm h2=>r=.ok v/\pm=none/\h2=h'):=by
 simp only[yw]at hm;cases h1:Nat.beq f 132 with
 |true=>rw[h1]at hm;cases hm;exact TZ ht
 |false=>rw[h1]at hm;cases hm
noncomputable def Kt:Env:=nN Tryz.prog oU yw
theorem T9:qO Kt:=xG _ _ _ (by
 intro f q h v h' hm _ _;cases e:yw f with
 |none=>rw[e]at hm;cases hm
 |some g=>rw[e]at hm;exact Kq e hm)
theorem Ua:JK Tryz.prog 112:=λn h0 h1 w ht=>Any.strconv_Itoa Tryz.lays171 n h0 h1 w ht
theorem joins:Joins Tryz.prog 113:=λbk o c xs sep w h1 h2 h3 h4 h5=>Any.strings_Join Tryz.lays156 Tryz.builderExtra bk o c xs sep w h1 h2 h3 h4 h5
theorem rz{f:FuncId}{args:List Value}{v:Value}(hr:∀(h:IH) (K:BR),(oQ Kt 100000).call ⟨.func f,args,[],none⟩ h K=K (.ok v) none h):fG Tryz.prog f args [] v:=λB w s=>by
 have h2:=hr w.h λr pm h'=> @decide (pm=none/\r=.ok v/\h'=w.h) (Classical.propDecidable _);have h1:=sW T9 (h2.trans (@gL _ (Classical.propDecidable _) ⟨rfl,rfl,rfl⟩));refine .qM _ h1 λr pm h' hg=>?_;obtain⟨rfl,rfl,rfl⟩:= @BI _ (Classical.propDecidable _) hg;exact⟨rfl,w,(),rfl,s,rfl,trivial⟩
noncomputable def yx(n:Nat):List Value->Option (List ByteArray):=
 Nat.rec (motive:=λ_=>List Value->Option (List ByteArray)) (λ_=>some []) (λ_ ih l=>match l with
  | .string s::r=>match ih r with
    |some x=>some (s::x)
    |none=>none
  |_=>none) n
theorem Ku:∀(n:Nat) (l:List Value) (xs:List ByteArray),yx n l=some xs->xs.length=n/\∀(j:Nat) z,xs[j]? =some z->l[j]? =some (.string z)
 |0,l,xs,h=>by cases h;exact⟨rfl,λj z hz=>by simp at hz⟩
 |n+1,[],xs,h=>by cases h
 |n+1,.string s::r,xs,h=>by
  have e:yx (n+1) (.string s::r)=(match yx n r with|some x=>some (s::x)|none=>none):=rfl;rw[e]at h;cases hx:yx n r with
  |none=>rw[hx]at h;cases h
  |some x=>
   rw[hx]at h;cases h;obtain⟨h1,h2⟩:=Ku n r x hx;refine⟨by simp[h1],λj z hz=>?_⟩;match j,hz with
   |0,hz=>simpa using hz
   |j+1,hz=>simpa using h2 j z (by simpa using hz)
 |n+1,.bool _::r,xs,h=>by cases h
 |n+1,.int _ _::r,xs,h=>by cases h
 |n+1,.pointer _::r,xs,h=>by cases h
 |n+1,.slice _ _ _::r,xs,h=>by cases h
 |n+1,.map _::r,xs,h=>by cases h
 |n+1,.nilIface::r,xs,h=>by cases h
 |n+1,.nilFunc::r,xs,h=>by cases h
 |n+1,.iface _ _::r,xs,h=>by cases h
 |n+1,.agg _::r,xs,h=>by cases h
 |n+1,.tuple _::r,xs,h=>by cases h
 |n+1,.func _ _ _::r,xs,h=>by cases h
noncomputable def Kv(h:IH)(b:Nat):List Value:=match h.get b with
 |some (.cells cs)=>cs
 |_=>[]
noncomputable def Ao:aQ->IH->Option (Value×IH):=λq h=>
 match q with
 |⟨.func f,[.slice (some ⟨b,0,fl⟩) n c,.string sep],[],none⟩=>cond (Nat.beq f 113) (match yx n (Kv h b)with
  |some xs=>cond (Nat.blt 0 n&&(Nat.ble n 1000&&Nat.ble (kQ xs sep).data.size 100000)) (some (.string (kQ xs sep),h)) none
  |none=>none) none
 |_=>none
theorem Ub{q:aQ}{h:IH}{v':Value}{h':IH}(hk:Ao q h=some (v',h')):CALL Tryz.prog q h (λr pm h2=>r=.ok v'/\pm=none/\h2=h'):=by
 unfold Ao at hk;split at hk
 ·rename_i f b fl n c sep;cases hcd:Nat.beq f 113 with
  |false=>rw[hcd]at hk;cases hk
  |true=>
   rw[hcd]at hk;have e:=eD hcd;subst e;dsimp only[cond]at hk;split at hk
   ·rename_i xs hxs;obtain⟨h1,h2⟩:=Ku _ _ _ hxs;subst h1;cases hb:(Nat.blt 0 xs.length&&(Nat.ble xs.length 1000&&Nat.ble (kQ xs sep).data.size 100000))with
    |false=>rw[hb]at hk;cases hk
    |true=>
     rw[hb]at hk;injection hk with hk;injection hk with k1 k2;subst k1 k2;simp only[di,kY,lM]at hb;obtain⟨g1,g2,g3⟩:=hb;obtain⟨cs,hcs,hz⟩:∃cs,h.get b=some (.cells cs)/\∀(j:Nat) z,xs[j]? =some z->cs[j]? =some (.string z):=by
      unfold Kv at h2;split at h2
      ·rename_i cs hc;exact⟨cs,hc,h2⟩
      ·have:=h2 0 (xs[0]'g1) (bO _);simp at this
     obtain⟨fn,body,e1,e2,e3⟩:=A7 (k:=113) (by kernel_rfl);refine .qM _ (.real (JL joins e1 e2 e3 (b:=b) (o:=0) (c:=c) (fl:=fl) (xs:=xs) (sep:=sep) (.inl hcs) (λj z hj=>by rw[eU];exact hz j z hj) g1 (by omega) (by omega))) ?_;rintro r pm h2 ⟨a,b,c⟩;exact⟨b,a,c⟩
   ·cases hk
 ·cases hk
noncomputable def yz:Nat->Option (aQ->IH->Option (Value×IH)):=λf=>cond (Nat.beq f 113) (some Ao) (yw f)
theorem Kw{f:Nat}{g:aQ->IH->Option (Value×IH)}(hm:yz f=some g){q:aQ}{h:IH}{v:Value}{h':IH}(ht:g q h=some (v,h')):CALL Tryz.prog q h (λr pm h2=>r=.ok v/\pm=none/\h2=h'):=by
 simp only[yz]at hm;cases h1:Nat.beq f 113 with
 |true=>rw[h1]at hm;cases hm;exact Ub ht
 |false=>rw[h1]at hm;exact Kq hm ht
noncomputable def Ky:Env:=nN Tryz.prog oU yz
theorem Uc:qO Ky:=xG _ _ _ (by
 intro f q h v h' hm _ _;cases e:yz f with
 |none=>rw[e]at hm;cases hm
 |some g=>rw[e]at hm;exact Kw e hm)
noncomputable def Kz:List (Nat×aM):=[(7,.cells [.int .i64 (.ofNat 1),.int .i64 (.ofNat 10),.int .i64 (.ofNat 2),.int .i64 (.ofNat 0),.int .i64 (.ofNat 4),.int .i64 (.ofNat 0)])]
noncomputable def KA:Value:=.slice (some ⟨7,0,some 0⟩) 3 3
theorem Ud:(oQ Ky 1000000).call ⟨.func 37,[KA],[],none⟩ ⟨heapT Kz,8,8⟩ (gives (.int .i64 (.ofNat 0)) 8)=true:=by kernel_rfl
noncomputable def yA:Nat->Option (aQ->IH->Option (Value×IH)):=λf=>cond (Nat.beq f 37) (some (known Kz 8 37 [KA] (.int .i64 (.ofNat 0)))) (yz f)
theorem KC{f:Nat}{g:aQ->IH->Option (Value×IH)}(hm:yA f=some g){q:aQ}{h:IH}{v:Value}{h':IH}(ht:g q h=some (v,h')):CALL Tryz.prog q h (λr pm h2=>r=.ok v/\pm=none/\h2=h'):=by
 simp only[yA]at hm;cases h1:Nat.beq f 37 with
 |true=>
  rw[h1]at hm;cases hm;exact SE follows rfl (by kernel_rfl) (by kernel_rfl) (by show Tryz.prog.globals.size<=8;rw[globals];decide) (.qM _ (sW Uc Ud) λ_ _ _ hg=>IJ hg) ht
 |false=>rw[h1]at hm;exact Kw hm ht
noncomputable def yB:Env:=nN Tryz.prog oU yA
theorem A8:qO yB:=xG _ _ _ (by
 intro f q h v h' hm _ _;cases e:yA f with
 |none=>rw[e]at hm;cases hm
 |some g=>rw[e]at hm;exact KC e hm)
noncomputable def Fs:Value:=.agg ⟨[.int .i64 (.ofNat 2),.int .i64 (.ofNat 1),.slice (some ⟨5,0,some 0⟩) 1 1,.slice (some ⟨6,0,some 0⟩) 1 1,.slice (some ⟨7,0,some 0⟩) 3 3,.slice none 0 0]⟩
noncomputable def KD:Value:=.slice (some ⟨11,0,some 0⟩) 2 2
noncomputable def Ue:Value:=.slice (some ⟨14,0,some 0⟩) 2 2
noncomputable def KE:List (Nat×aM):=[
 (4,.cells [.int .i64 (.ofNat 2),.int .i64 (.ofNat 1),.slice (some ⟨5,0,some 0⟩) 1 1,.slice (some ⟨6,0,some 0⟩) 1 1,.slice (some ⟨7,0,some 0⟩) 3 3,.slice none 0 0]),
 (5,.cells [.int .i64 (.ofNat 1)]),
 (6,.cells [.int .i64 (.ofNat 4)]),
 (7,.cells [.int .i64 (.ofNat 1),.int .i64 (.ofNat 10),.int .i64 (.ofNat 2),.int .i64 (.ofNat 0),.int .i64 (.ofNat 4),.int .i64 (.ofNat 0)]),
 (8,.cells [.int .i64 (.ofNat 2),.int .i64 (.ofNat 1),.slice (some ⟨5,0,some 0⟩) 1 1,.slice (some ⟨6,0,some 0⟩) 1 1,.slice (some ⟨7,0,some 0⟩) 3 3,.slice none 0 0]),
 (9,.cells [.int .i64 (.ofNat 0),.int .i64 (.ofNat 0),.int .i64 (.ofNat 0),.int .i64 (.ofNat 5),.int .i64 (.ofNat 5),.bool true]),
 (10,.cells [.int .i64 (.ofNat 1),.int .i64 (.ofNat 0),.int .i64 (.ofNat 0),.int .i64 (.ofNat 3),.int .i64 (.ofNat 3),.bool true]),
 (11,.cells [.int .i64 (.ofNat 0),.int .i64 (.ofNat 0),.int .i64 (.ofNat 0),.int .i64 (.ofNat 5),.int .i64 (.ofNat 5),.bool true,.int .i64 (.ofNat 1),.int .i64 (.ofNat 0),.int .i64 (.ofNat 0),.int .i64 (.ofNat 3),.int .i64 (.ofNat 3),.bool true]),
 (12,.cells [.int .i64 (.ofNat 0),.int .i64 (.ofNat 0),.int .i64 (.ofNat 0),.int .i64 (.ofNat 3),.int .i64 (.ofNat 5),.bool true]),
 (13,.cells [.int .i64 (.ofNat 1),.int .i64 (.ofNat 0),.int .i64 (.ofNat 0),.int .i64 (.ofNat 4),.int .i64 (.ofNat 4),.bool true]),
 (14,.cells [.int .i64 (.ofNat 0),.int .i64 (.ofNat 0),.int .i64 (.ofNat 0),.int .i64 (.ofNat 3),.int .i64 (.ofNat 5),.bool true,.int .i64 (.ofNat 1),.int .i64 (.ofNat 0),.int .i64 (.ofNat 0),.int .i64 (.ofNat 4),.int .i64 (.ofNat 4),.bool true]),
 (15,.cells [.int .i64 (.ofNat 5),.int .i64 (.ofNat 3)])]
noncomputable def Uf:IH:=⟨heapT KE,16,4⟩
noncomputable def KF:List Value:=[Fs,KD,.slice (some ⟨15,0,some 0⟩) 2 2]
noncomputable def KG:Value:=.tuple ⟨[.slice (some ⟨93,0,some 1⟩) 2 2,.int .i64 (.ofNat 0)]⟩
def KH:Nat:=94
noncomputable def Fu:List (Nat×aM):=[
 (4,.cells [.int .i64 (.ofNat 2),.int .i64 (.ofNat 1),.slice (some ⟨5,0,some 0⟩) 1 1,.slice (some ⟨6,0,some 0⟩) 1 1,.slice (some ⟨7,0,some 0⟩) 3 3,.slice none 0 0]),
 (5,.cells [.int .i64 (.ofNat 1)]),
 (6,.cells [.int .i64 (.ofNat 4)]),
 (7,.cells [.int .i64 (.ofNat 1),.int .i64 (.ofNat 10),.int .i64 (.ofNat 2),.int .i64 (.ofNat 0),.int .i64 (.ofNat 4),.int .i64 (.ofNat 0)]),
 (8,.cells [.int .i64 (.ofNat 2),.int .i64 (.ofNat 1),.slice (some ⟨5,0,some 0⟩) 1 1,.slice (some ⟨6,0,some 0⟩) 1 1,.slice (some ⟨7,0,some 0⟩) 3 3,.slice none 0 0]),
 (9,.cells [.int .i64 (.ofNat 0),.int .i64 (.ofNat 0),.int .i64 (.ofNat 0),.int .i64 (.ofNat 5),.int .i64 (.ofNat 5),.bool true]),
 (10,.cells [.int .i64 (.ofNat 1),.int .i64 (.ofNat 0),.int .i64 (.ofNat 0),.int .i64 (.ofNat 3),.int .i64 (.ofNat 3),.bool true]),
 (11,.cells [.int .i64 (.ofNat 0),.int .i64 (.ofNat 0),.int .i64 (.ofNat 0),.int .i64 (.ofNat 5),.int .i64 (.ofNat 5),.bool true,.int .i64 (.ofNat 1),.int .i64 (.ofNat 0),.int .i64 (.ofNat 0),.int .i64 (.ofNat 3),.int .i64 (.ofNat 3),.bool true]),
 (12,.cells [.int .i64 (.ofNat 0),.int .i64 (.ofNat 0),.int .i64 (.ofNat 0),.int .i64 (.ofNat 3),.int .i64 (.ofNat 5),.bool true]),
 (13,.cells [.int .i64 (.ofNat 1),.int .i64 (.ofNat 0),.int .i64 (.ofNat 0),.int .i64 (.ofNat 4),.int .i64 (.ofNat 4),.bool true]),
 (14,.cells [.int .i64 (.ofNat 0),.int .i64 (.ofNat 0),.int .i64 (.ofNat 0),.int .i64 (.ofNat 3),.int .i64 (.ofNat 5),.bool true,.int .i64 (.ofNat 1),.int .i64 (.ofNat 0),.int .i64 (.ofNat 0),.int .i64 (.ofNat 4),.int .i64 (.ofNat 4),.bool true]),
 (15,.cells [.int .i64 (.ofNat 5),.int .i64 (.ofNat 3)]),
 (93,.cells [.int .i64 (.ofNat 8),.int .i64 (.ofNat 9)])]
theorem Ug:(oQ yB 1000000).call ⟨.func 11,KF,[],none⟩ Uf (yg 16 4 Fu KH KG)=true:=by kernel_rfl
noncomputable def rD:List (Nat×aM):=(94,.cells [.int .i64 (.ofNat 5),.int .i64 (.ofNat 4)])::Fu
noncomputable def KI:List Value:=[Fs,KD,.slice (some ⟨94,0,some 0⟩) 2 2]
noncomputable def KJ:Value:=.tuple ⟨[.slice none 0 0,.int .i64 (.ofNat 1)]⟩
def KM:Nat:=135
theorem Uh:(oQ yB 1000000).call ⟨.func 11,KI,[],none⟩ ⟨heapT rD,95,4⟩ (yg 95 4 rD KM KJ)=true:=by kernel_rfl
noncomputable def orElse(a b:aQ->IH->Option (Value×IH)):aQ->IH->Option (Value×IH):=λq h=>match a q h with
 |some x=>some x
 |none=>b q h
theorem Ui{P:Program}{a b:aQ->IH->Option (Value×IH)}(ha:∀{q h v h'},a q h=some (v,h')->CALL P q h (λr pm h2=>r=.ok v/\pm=none/\h2=h'))(hb:∀{q h v h'},b q h=some (v,h')->CALL P q h (λr pm h2=>r=.ok v/\pm=none/\h2=h'))
 {q:aQ} {h:IH} {v:Value} {h':IH} (hk:orElse a b q h=some (v,h')):CALL P q h (λr pm h2=>r=.ok v/\pm=none/\h2=h'):=by
 unfold orElse at hk;split at hk
 ·rename_i x hx;cases hk;exact ha hx
 ·exact hb hk
noncomputable def KN:aQ->IH->Option (Value×IH):=orElse (ry KE 16 4 Fu KH 11 KF KG) (ry rD 95 4 rD KM 11 KI KJ)
theorem Uj{q:aQ}{h:IH}{v:Value}{h':IH}(hk:KN q h=some (v,h')):CALL Tryz.prog q h (λr pm h2=>r=.ok v/\pm=none/\h2=h'):=
 Ui (λhk=>EU (sW A8 Ug) hk) (λhk=>EU (sW A8 Uh) hk) hk
noncomputable def Fv:Nat->Option (aQ->IH->Option (Value×IH)):=λf=>cond (Nat.beq f 11) (some (KN)) (yA f)
theorem Uk{f:Nat}{g:aQ->IH->Option (Value×IH)}(hm:Fv f=some g){q:aQ}{h:IH}{v:Value}{h':IH}(ht:g q h=some (v,h')):CALL Tryz.prog q h (λr pm h2=>r=.ok v/\pm=none/\h2=h'):=by
 simp only[Fv]at hm;cases h1:Nat.beq f 11 with
 |true=>rw[h1]at hm;cases hm;exact Uj ht
 |false=>rw[h1]at hm;exact KC hm ht
