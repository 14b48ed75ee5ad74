/-
  slices.IndexFunc, slices.ContainsFunc over numbers.
-/
import Derived.Test.YtjmgkllpcidhjaaGreatDoorIdealQN
import Derived.Test.YtjmgkllpcidhjaaGreatDoorPlainAN
import Derived.Test.YtjmgkllpcidhjaaGreatDoorProg
set_option linter.all false
set_option maxRecDepth 10000
set_option maxHeartbeats 2000000
namespace Go.Proofs.YtjmgkllpcidhjaaGreatDoor
open Go.Ideal Rk
abbrev GX(P:Program)(fn:Fn)(first cap:List Value)(v:Value)(F:List aK)(b:Bool):Prop:=bD P fn (first++[v]) cap [] F (λ_:Unit=>.bool b) (λ_=>[]) (λ_=>[]) (λ_=>True)
theorem aer{fn:Fn}{first cap:List Value}{F1:List aK}{p:Int->Bool}{va:Value}{xs:List Int}(hl:xs.length<9223372036854775808)(hp:∀x∈xs,GX Tryz.prog fn first cap (.int .i64 x) F1 (p x)):
 bD Tryz.prog (.func 83) [va,.func fn ⟨first⟩ ⟨cap⟩] [] [] (ah ae va xs::F1) (λr:Int=>.int .i64 r) (λ_=>[]) (λ_=>[]) (λr=>(0<=r↔xs.any p=true)):=by
 refine aX _ (bN 83) λB w0=>?_;refine go ?_;refine bE (λk=>xs.length - k) (λk:Nat=>[(8,.int .i64 (k:Int))]) (λ_=>[]) (λ_=>[]) (λk=>k<=xs.length/\(xs.take k).any p=false) 0 ⟨by omega,by simp⟩ (body:=?_);rintro k ⟨hk,hno⟩;refine go ?_;refine aC rfl (λh1=>?_) (λh1=>?_)
 ·refine go ?_;intro _ _ x hx;refine aD (hp x (cZ hx)) (next:=λ_ _=>?_);refine go ?_;refine iy rfl (λh2=>?_) (λh2=>?_)
  ·refine go ?_;refine aj (k:Int) (hv:=rfl) (hp:=?_);have:xs.any p=true:=List.any_eq_true.2 ⟨x,cZ hx,h2⟩;simp[this]
  ·refine go ?_;refine aO (k+1) (by omega) ⟨by omega,?_⟩;rw[dx hx,List.any_append,hno];simp[h2]
 refine go ?_;have:k=xs.length:=by omega
 subst this;rw[fK]at hno;refine aj (-1) (hv:=rfl) (hp:=?_);rw[hno];simp
theorem TK{fn:Fn}{first cap:List Value}{F1:List aK}{p:Int->Bool}{va:Value}{xs:List Int}(hl:xs.length<9223372036854775808)(hp:∀x∈xs,GX Tryz.prog fn first cap (.int .i64 x) F1 (p x)):
 bD Tryz.prog (.func 57) [va,.func fn ⟨first⟩ ⟨cap⟩] [] [] (ah ae va xs::F1) (λ_:Unit=>.bool (xs.any p)) (λ_=>[]) (λ_=>[]) (λ_=>True):=by
 refine aX _ (bN 57) λB w0=>?_;refine go ?_;refine aD (aer hl hp) (next:=λr hr=>?_);refine go ?_;refine aj () (hv:=?_) (hp:=trivial);have:decide (0<=r)=xs.any p:=by
  by_cases h:0<=r
  ·rw[eH h,hr.1 h]
  ·rw[gz h];cases e:xs.any p with
   |false=>rfl
   |true=>exact absurd (hr.2 e) h
 rw[<- this];rfl
theorem AP{P:Program}{ρ:Operand->Value}{x:Operand}{a:Int}(hx:ρ x=.int .i64 a)(h1: -9223372036854775808<= -a)(h2: -a<9223372036854775808):Pu P ρ (.un .neg x) (.int .i64 (-a)):=λh=>by
 have h3:dF P (Op.unary .neg (.int .i64 a))=some (.int .i64 (-a)):=by
  show some (Value.int .i64 (IntKind.i64.wrap (0 - a)))=_;rw[Int.zero_sub,wrap64 h1 h2]
 simp only[ak.run,hx,jZ,h3];rfl
theorem GY{a b:Int}{n:Nat}(h:a.natAbs<=n): -(n:Int)<=a.tdiv b/\a.tdiv b<=n:=by
 have hq:(a.tdiv b).natAbs<=a.natAbs:=by rw[Int.natAbs_tdiv];exact Nat.div_le_self _ _
 omega
abbrev pz(st:List Int):List (Int×ae.Y):=st.map λx=>(x,())
abbrev GZ(v:Value)(st:List Int):OA:=sk ae v (pz st)
theorem G5(st:List Int)(k:Nat):(pz st).take k=pz (st.take k):=by unfold pz;rw[List.map_take]
theorem tX(a b:List Int):pz a++pz b=pz (a++b):=by unfold pz;rw[fH]
theorem wW(st:List Int):(pz st).length=st.length:=bC ..
theorem AQ{st:List Int}{k:Nat}{x:Int}(h:st[k]? =some x):(pz st)[k]? =some (x,()):=by unfold pz;rw[bX,h];rfl
theorem ng{st:List Int}{k:Nat}(h:k<st.length):st[k]? =some (st.getD k 0):=by rw[nY,bf h];rfl
theorem aes{st:List Int}{n:Nat}(h:st.length=n+2):st=st.take n++[st.getD n 0]++[st.getD (n+1) 0]:=by
 rw[<- dx (ng (by omega)),<- dx (ng (by omega)),mM (by omega)]
theorem aet{st:List Int}{n:Nat}(h:st.length=n+3):st=st.take n++[st.getD n 0]++[st.getD (n+1) 0]++[st.getD (n+2) 0]:=by
 rw[<- dx (ng (by omega)),<- dx (ng (by omega)),<- dx (ng (by omega)),mM (by omega)]
noncomputable def TL:eX:=⟨27,[(.tmp 4)],(.seq (kO [kS 4 (.bI (.const vS))]) (.seq (.seq (kO [kM 5 1,kS 6 (.bin .lss 3 5 (kI 0))]) (.cond 6 (kO [⟨⟨(some 7),none,(.iface 9 (.const (.string ⟨⟨[99,97,110,110,111,116,32,98,101,32,110,101,103,97,116,105,118,101]⟩⟩)))⟩,[]⟩,kN (.panic 7)]) .skip)) (.seq (.seq (kO [kM 8 1,kM 9 0,kS 10 (.BA 9),kM 11 0,kS 12 (.jf 11),kS 13 (.bin .sub 3 10 12),kS 14 (.bin .sub 3 8 13),kS 1 (.bI 14)]) (.seq (kO [kM 15 1,kS 16 (.bin .gtr 3 15 (kI 0))]) (.cond 16 (kO [kM 17 0,kM 18 0,kS 19 (.BA 18),kS 20 (.ny 4 17 none (some 19) none),kM 21 1,⟨⟨(some 22),none,(.zn 135 4 40 [vI,vE,vI,vI] 20 21)⟩,[]⟩,kM 23 0,kS 24 (.jf 23),kS 25 (.ny 4 22 none (some 24) none),kS 0 (.bI 25)]) .skip))) (.seq (kO [kM 26 0,kS 4 (.bI 26)]) .ret))))⟩
theorem aeu:ja Tryz.prog 123=some TL:=by kernel_rfl
noncomputable def TM:eX:=⟨36,[(.tmp 2)],(.seq (kO [kS 2 (.bI (.const vS))]) (.seq (kO [kS 3 (.bI (kI 0))]) (.seq (.seq (kO [kM 9 0,kS 10 (.jf 9),kS 11 (.mv (kI 0))]) (.block 0 (.loop (.seq (kO [kS 12 (.bin .lss 3 11 10)]) (.seq (.cond 12 .skip (.exit 0)) (.seq (.block 1 (.seq (kO [kS 13 (.fB 1 9 11),kS 14 (.aP 13),kS 5 (.bI 14)]) (.seq (kO [kM 15 3,kM 16 5,kS 17 (.jf 16),kS 18 (.bin .add 3 15 17),kS 3 (.bI 18)]) (.seq (kO [kM 19 3,kS 20 (.bin .lss 3 19 (kI 0))]) (.cond 20 (kO [⟨⟨(some 21),none,(.iface 9 (.const (.string ⟨⟨[108,101,110,32,111,117,116,32,111,102,32,114,97,110,103,101]⟩⟩)))⟩,[]⟩,kN (.panic 21)]) .skip))))) (kO [kS 22 (.bin .add 3 11 (kI 1)),kM 11 22]))))))) (.seq (kO [kM 23 3,kS 24 (kC 123 [(.const vS),23]),kS 6 (.bI 24)]) (.seq (.seq (kO [kM 25 0,kS 26 (.jf 25),kS 27 (.mv (kI 0))]) (.block 2 (.loop (.seq (kO [kS 28 (.bin .lss 3 27 26)]) (.seq (.cond 28 .skip (.exit 2)) (.seq (.block 3 (.seq (kO [kS 29 (.fB 1 25 27),kS 30 (.aP 29),kS 8 (.bI 30)]) (kO [kM 31 6,kM 32 8,kS 33 (.append 135 4 40 31 32),kS 6 (.bI 33)]))) (kO [kS 34 (.bin .add 3 27 (kI 1)),kM 27 34]))))))) (.seq (kO [kM 35 6,kS 2 (.bI 35)]) .ret))))))⟩
theorem aev:ja Tryz.prog 102=some TM:=by kernel_rfl
noncomputable def TN:eX:=⟨2,[(.tmp 0)],(.seq (kO [kS 0 (.bI (.const vS))]) (.seq (kO [⟨⟨(some 1),none,(.dY 9 5 [vE,vE,vE,vE,vE] [⟨0,⟨1,(.const (.string ⟨⟨[112,108,97,99,101]⟩⟩))⟩⟩,⟨1,⟨1,(.const (.string ⟨⟨[115,111,108,118,101,114,115]⟩⟩))⟩⟩,⟨2,⟨1,(.const (.string ⟨⟨[108,101,118,101,108]⟩⟩))⟩⟩,⟨3,⟨1,(.const (.string ⟨⟨[99,108,117,101,115]⟩⟩))⟩⟩,⟨4,⟨1,(.const (.string ⟨⟨[116,114,105,101,115]⟩⟩))⟩⟩])⟩,[]⟩,kS 0 (.bI 1)]) .ret))⟩
theorem aew:ja Tryz.prog 69=some TN:=by kernel_rfl
structure Tok where
 k:Int
 s:ByteArray
 n:Int
 at_:Int
def dJ:Enc Tok:=⟨4,Unit,λx _=>[.int .i64 x.k,.string x.s,.int .i64 x.n,.int .i64 x.at_],λ_ _=>[],λ_ _=>rfl⟩
abbrev G6:List Value:=[.int .i64 0,.string ⟨⟨[]⟩⟩,.int .i64 0,.int .i64 0]
def fu(s:ByteArray):Tok:=⟨3,s,0,0⟩
def jw(s:ByteArray):Tok:=⟨1,s,0,0⟩
inductive wX(F:List aK):List (List Tok×Value)->Prop
 |nil:wX F []
 |cons {l:List Tok} {v:Value} {ps:List (List Tok×Value)} (h:ah dJ v l∈F) (t:wX F ps):wX F ((l,v)::ps)
theorem wX.get{F:List aK}{ps:List (List Tok×Value)}(h:wX F ps):∀p∈ps,ah dJ p.2 p.1∈F:=by
 induction h with
 |nil=>intro p hp;cases hp
 |cons h _ ih=>
  intro p hp;cases hp with
  |head=>exact h
  |tail _ hp=>exact ih p hp
theorem aex{w:Wd}{b m:Nat}{ps:List (List Tok×Value)}(hm:m=ps.length)(h:(dG b 0 (ps.map (·.2))).p w)(h0:0<ps.length)(he:∀p∈ps,(ah dJ p.2 p.1).p w):(ah (aI dJ) (.slice (some ⟨b,0,some 0⟩) m m) (ps.map (·.1))).p w:=by
 subst hm;obtain⟨cells,h1,h2⟩:=h;refine .inr ⟨b,0,0,ps.length,cells,⟨by rw[bC],by rw[bC];exact aH _,.inl rfl⟩,h1,λk x hx=>?_⟩;rw[bX]at hx;cases e:ps[k]? with
 |none=>rw[e]at hx;cases hx
 |some p=>
  rw[e]at hx;cases hx;refine⟨p.2,λj u hj=>?_,λf hf=>?_⟩
  ·match j,hj with
   |0,hj=>
    cases hj;rw[show 0+k*(aI dJ).n+0=0+k by show 0+k*1+0=_;omega];exact h2 k p.2 (by rw[bX,e];rfl)
  ·rw[di.1 hf];exact he p (cZ e)
theorem G7{B:List Nat}{w0:Wd}{kl kl':List OA}{F:List aK}{Q:IH->Prop}{b m:Nat}(ps:List (List Tok×Value)){ls:List (List Tok)}(next:R Q B w0 kl' (ah (aI dJ) (.slice (some ⟨b,0,some 0⟩) m m) ls::F))
 (hls:ps.map (·.1)=ls:=by rfl) (hm:m=ps.length:=by rfl) (h0:0<ps.length:=by exact Nat.succ_pos _) (hF:wX F ps:=by repeat (first|exact wX.nil|(apply wX.cons;(focus (repeat (first|with_reducible exact bz .. |with_reducible apply dh)))))) (hk:ai (pt b (.cells (ps.map (·.2)))) kl kl':=by repeat (first|exact ai.here|apply ai.there)):R Q B w0 kl F:=by
 subst hls;refine bG (eP (b:=b) (cs:=ps.map (·.2))) hk (h:=?_);refine cK (ah (aI dJ) (.slice (some ⟨b,0,some 0⟩) m m) (ps.map (·.1))) (λw hw=>aex hm (hw _ (bz ..)) h0 λp hp=>hw _ (dh _ (hF.get p hp))) ?_;refine λw s=>next w (s.sub ?_)
 exact .cons (bz ..) (jc.sub (.cons (.cons .here)))
theorem aey{m:Nat}(h0:0<m)(hm:m<=8192):bD Tryz.prog (.func 123) [.slice none 0 0,.int .i64 (m:Int)] [] [] [] (λb:Nat=>.slice (some ⟨b,0,some 4⟩) 0 m) (λb=>[pt b (.cells (zeros G6 m))]) (λ_=>[]) (λ_=>True):=by
 refine aX TL aeu λB w0=>?_;refine go ?_;refine(bO rfl rfl (Q5 rfl)).h ?_;refine go ?_;refine aC rfl (λh1=>?_) (λh1=>?_)
 rotate_left
 ·omega
 refine go ?_;refine(bO rfl rfl (Q5 rfl)).h ?_;refine(bO rfl rfl (Q3 rfl rfl)).h ?_;refine go ?_;refine abJ m h0 ⟨by omega,by omega,by omega⟩ (next:=λb=>?_) (hx:=by show Value.int .i64 _=Value.int .i64 _;congr 1);refine go ?_;refine(bO rfl rfl (abL (k:=3) rfl rfl)).h ?_;refine go ?_;exact aj b (hv:=rfl) (hp:=trivial)
def fT(ls:List (List Tok)):Nat:=(ls.map List.length).sum
theorem TP{ls:List (List Tok)}{k:Nat}{l:List Tok}(h:ls[k]? =some l):fT (ls.take (k+1))=fT (ls.take k)+l.length:=by
 unfold fT;rw[dx h,fH,ED];simp
theorem TQ{ls:List (List Tok)}(k:Nat):fT (ls.take k)<=fT ls:=by
 have:fT ls=fT (ls.take k)+fT (ls.drop k):=by
  unfold fT;rw[<- ED,<- fH,xz]
 omega
theorem aez(ls:List (List Tok)):ls.flatten.length=fT ls:=by unfold fT;rw[List.length_flatten]
theorem aeA{ls:List (List Tok)}{k:Nat}{l:List Tok}(h:ls[k]? =some l):(ls.take (k+1)).flatten=(ls.take k).flatten++l:=by
 rw[dx h,List.flatten_append];simp
theorem G8{va:Value}{ls:List (List Tok)}(hn:ls.length<=100)(h0:0<fT ls)(hm:fT ls<=8192):
 bD Tryz.prog (.func 102) [va] [] [] [ah (aI dJ) va ls] (λv:Value=>v) (λ_=>[]) (λv=>[ah dJ v ls.flatten]) (λ_=>True):=by
 have hgn:dJ.n=4:=rfl;refine aX TM aev λB w0=>?_;refine go ?_;refine bE (λk=>ls.length - k) (λk:Nat=>[(11,.int .i64 (k:Int)),(3,.int .i64 (fT (ls.take k):Int))]) (λ_=>[]) (λ_=>[]) (λk=>k<=ls.length) 0 (bF _) (body:=?_);intro k hk;refine go ?_;refine aC rfl (λh1=>?_) (λh1=>?_)
 ·have hle:=TQ (ls:=ls) (k+1);refine go ?_;refine bJ (aI dJ) (k:=k) (next:=λb o x (y:Value) hx=>?_);have ht:=TP hx;refine go ?_;rw[show((fT (ls.take k):Nat):Int)+(x.length:Int)=((fT (ls.take (k+1)):Nat):Int)by omega];refine go ?_;exact aO (k+1) (by omega) (by omega)
 have hkl:k=ls.length:=by omega
 subst hkl;rw[fK];refine go ?_;refine aD (aey h0 hm) (next:=λbg _=>?_);have hzl:=zeros_length G6 (fT ls);rw[show G6.length=4 from rfl]at hzl;generalize hzz:zeros G6 (fT ls)=zs at hzl⊢;rw[show zs=aW dJ []++zs from rfl];refine go ?_;refine bE (λy:Nat×List (Tok×dJ.Y)×List Value=>ls.length - y.1) (λy=>[(27,.int .i64 (y.1:Int)),(6,.slice (some ⟨bg,0,some 4⟩) y.2.1.length (fT ls))]) (λy=>[pt bg (.cells (aW dJ y.2.1++y.2.2))]) (λ_=>[]) (λy=>y.1<=ls.length/\y.2.1.map (·.1)=(ls.take y.1).flatten/\y.2.1.length*4+y.2.2.length=fT ls*4) (0,[],zs) ⟨bF _,rfl,by simp;omega⟩ (body:=?_);rintro⟨k,aa,r⟩ ⟨hk,hxy,hr⟩;dsimp only at hk hxy hr⊢;have hxl:aa.length=fT (ls.take k):=by rw[<- aez,<- hxy,bC]
 refine go ?_;refine aC rfl (λh1=>?_) (λh1=>?_)
 ·have hle:=TQ (ls:=ls) (k+1);refine go ?_;refine bJ (aI dJ) (k:=k) (next:=λb o x (y:Value) hx=>?_);have ht:=TP hx;refine go ?_;refine nI dJ y (xs:=x) (λuZ e1=>?_);refine go ?_;have hz1:uZ.length=x.length:=by rw[<- e1,bC]
  refine abK (m:=aa.length) (f:=some 4) (cap:=fT ls) (b:=bg) dJ uZ (aW dJ aa) r (by rw[qL]) (by rw[hgn];omega) (by omega) ⟨by omega,by omega,by omega⟩ ?_;rw[<- ik,<- Dg,show aa.length+uZ.length=(aa++uZ).length by rw[dW]];refine go ?_;refine aO (k+1,aa++uZ,r.drop (uZ.length*dJ.n)) (by show ls.length - (k+1)<ls.length - k;omega) ⟨by show k+1<=_;omega,?_,?_⟩
  ·show(aa++uZ).map (·.1)=(ls.take (k+1)).flatten;rw[aeA hx,fH,hxy,e1]
  ·show(aa++uZ).length*4+(r.drop (uZ.length*dJ.n)).length=_;rw[dW,jR,hgn];omega
 have hkl:k=ls.length:=by omega
 subst hkl;rw[fK]at hxy hxl;have hr0:r=[]:=sD.1 (by omega);subst hr0;rw[hxl,gQ];refine abC dJ (aa:=aa) (b:=bg) (f:=4) (m:=fT ls) hxl.symm (.inr rfl) ?_;refine abB (E:=dJ) (v:=.slice (some ⟨bg,0,some 4⟩) (fT ls) (fT ls)) (aa:=aa) ?_ (λw h p hp f hf=>by cases hf);rw[hxy];refine go ?_;exact aj (.slice (some ⟨bg,0,some 4⟩) (fT ls) (fT ls)) (hv:=rfl) (hp:=trivial)
theorem aeB{w:Wd}{b:Nat}{t:Tok}(h:(dG b 0 (dJ.pat t ())).p w):(ah dJ (.slice (some ⟨b,0,some 0⟩) 1 1) [t]).p w:=by
 obtain⟨cells,h1,h2⟩:=h;refine .inr ⟨b,0,0,1,cells,⟨rfl,aH _,.inl rfl⟩,h1,λk x hx=>?_⟩;match k,hx with
 |0,hx=>
  cases hx;exact⟨(),λj u hj=>by rw[pF,nV];exact h2 j u hj,λf hf=>by cases hf⟩
theorem MF{B:List Nat}{w0:Wd}{kl kl':List OA}{F:List aK}{Q:IH->Prop}{b:Nat}(t:Tok)(next:R Q B w0 kl' (ah dJ (.slice (some ⟨b,0,some 0⟩) 1 1) [t]::F))
 (hk:ai (pt b (.cells (dJ.pat t ()))) kl kl':=by repeat (first|exact ai.here|apply ai.there)):R Q B w0 kl F:=by
 refine bG (eP (b:=b) (cs:=dJ.pat t ())) hk (h:=?_);refine cK (ah dJ (.slice (some ⟨b,0,some 0⟩) 1 1) [t]) (λw hw=>aeB (hw _ (bz ..))) ?_;exact λw s=>next w (s.sub (.cons (bz ..) (jc.sub (.cons (.cons .here)))))
theorem u6{s:ByteArray}:bD Tryz.prog (.func 103) [.string s] [] [] [] (λb:Nat=>.slice (some ⟨b,0,some 0⟩) 1 1) (λ_=>[]) (λb=>[ah dJ (.slice (some ⟨b,0,some 0⟩) 1 1) [fu s]]) (λ_=>True):=by
 refine aX _ (bN 103) λB w0=>?_;refine go ?_;intro b;refine go ?_;refine MF (b:=b) (fu s) ?_;exact aj b (hv:=rfl) (hp:=trivial)
theorem DR{s:ByteArray}:bD Tryz.prog (.func 106) [.string s] [] [] [] (λb:Nat=>.slice (some ⟨b,0,some 0⟩) 1 1) (λ_=>[]) (λb=>[ah dJ (.slice (some ⟨b,0,some 0⟩) 1 1) [jw s]]) (λ_=>True):=by
 refine aX _ (bN 106) λB w0=>?_;refine go ?_;intro b;refine go ?_;refine MF (b:=b) (jw s) ?_;exact aj b (hv:=rfl) (hp:=trivial)
def kY:List ByteArray:=[⟨⟨[112,108,97,99,101]⟩⟩,⟨⟨[115,111,108,118,101,114,115]⟩⟩,⟨⟨[108,101,118,101,108]⟩⟩,⟨⟨[99,108,117,101,115]⟩⟩,⟨⟨[116,114,105,101,115]⟩⟩]
theorem G9{w:Wd}{b m:Nat}{ss:List ByteArray}(hm:m=ss.length)(h:(dG b 0 (ss.map .string)).p w)(h0:0<ss.length):(ah eZ (.slice (some ⟨b,0,some 0⟩) m m) ss).p w:=by
 subst hm;obtain⟨cells,h1,h2⟩:=h;refine .inr ⟨b,0,0,ss.length,cells,⟨rfl,aH _,.inl rfl⟩,h1,λk x hx=>⟨(),λj u hj=>?_,λf hf=>by cases hf⟩⟩;match j,hj with
 |0,hj=>
  cases hj;rw[show 0+k*eZ.n+0=0+k by show 0+k*1+0=_;omega];exact h2 k _ (by rw[bX,hx];rfl)
theorem MG:bD Tryz.prog (.func 69) [] [] [] [] (λb:Nat=>.slice (some ⟨b,0,some 0⟩) 5 5) (λ_=>[]) (λb=>[dG b 0 (kY.map .string),ah eZ (.slice (some ⟨b,0,some 0⟩) 5 5) kY]) (λ_=>True):=by
 refine aX TN aew λB w0=>?_;refine go ?_;intro b;refine go ?_;refine bG (eP (b:=b) (cs:=kY.map .string)) (hk:=.here) (h:=?_);refine cK (ah eZ (.slice (some ⟨b,0,some 0⟩) 5 5) kY) (λw hw=>G9 rfl (hw _ (bz ..)) (by decide)) ?_;exact aj b (hv:=rfl) (hp:=trivial)
noncomputable def TR:eX:=⟨14,[(.tmp 5)],(.seq (kO [kS 5 (.bI (.const vS))]) (.seq (.ops [6,7,8,9,10,11,12,13,5] [kM 7 0,kS 8 (.aP 2),kM 10 1,⟨⟨(some 6),none,(kC 103 [(.const (.string ⟨⟨[40]⟩⟩))])⟩,[⟨(some 8),none,(.aP 2)⟩]⟩,kS 9 (kC 103 [8]),⟨⟨(some 11),none,(kC 103 [(.const (.string ⟨⟨[41]⟩⟩))])⟩,[]⟩,⟨⟨(some 12),none,(.dY 110 5 [vS,vS,vS,vS,vS] [⟨0,⟨1,6⟩⟩,⟨1,⟨1,7⟩⟩,⟨2,⟨1,9⟩⟩,⟨3,⟨1,10⟩⟩,⟨4,⟨1,11⟩⟩])⟩,[]⟩,kS 13 (kC 102 [12]),kS 5 (.bI 13)]) .ret))⟩
theorem aeC:ja Tryz.prog 101=some TR:=by kernel_rfl
noncomputable def TS:eX:=⟨15,[(.tmp 5)],(.seq (kO [kS 5 (.bI (.const vS))]) (.seq (kO [kS 6 (.aP 2),kS 7 (kC 106 [6]),⟨⟨(some 8),none,(kC 103 [(.const (.string ⟨⟨[40]⟩⟩))])⟩,[]⟩,kM 9 0,⟨⟨(some 10),none,(kC 103 [(.const (.string ⟨⟨[44]⟩⟩))])⟩,[]⟩,kM 11 1,⟨⟨(some 12),none,(kC 103 [(.const (.string ⟨⟨[41]⟩⟩))])⟩,[]⟩,⟨⟨(some 13),none,(.dY 110 6 [vS,vS,vS,vS,vS,vS] [⟨0,⟨1,7⟩⟩,⟨1,⟨1,8⟩⟩,⟨2,⟨1,9⟩⟩,⟨3,⟨1,10⟩⟩,⟨4,⟨1,11⟩⟩,⟨5,⟨1,12⟩⟩])⟩,[]⟩,kS 14 (kC 102 [13]),kS 5 (.bI 14)]) .ret))⟩
theorem aeD:ja Tryz.prog 105=some TS:=by kernel_rfl
noncomputable def TT:eX:=⟨10,[(.tmp 4)],(.seq (kO [kS 4 (.bI (.const vS))]) (.seq (kO [kM 5 0,⟨⟨(some 6),none,(kC 103 [(.const (.string ⟨⟨[60]⟩⟩))])⟩,[]⟩,kM 7 1,⟨⟨(some 8),none,(.dY 110 3 [vS,vS,vS] [⟨0,⟨1,5⟩⟩,⟨1,⟨1,6⟩⟩,⟨2,⟨1,7⟩⟩])⟩,[]⟩,kS 9 (kC 102 [8]),kS 4 (.bI 9)]) .ret))⟩
theorem aeE:ja Tryz.prog 107=some TT:=by kernel_rfl
def mH:List ByteArray:=[⟨⟨[40]⟩⟩,⟨⟨[41]⟩⟩,⟨⟨[43]⟩⟩,⟨⟨[45]⟩⟩,⟨⟨[42]⟩⟩,⟨⟨[47]⟩⟩,⟨⟨[44]⟩⟩,⟨⟨[60]⟩⟩]
def sj:List ByteArray:=[⟨⟨[105,102]⟩⟩,⟨⟨[116,104,101,110]⟩⟩,⟨⟨[101,108,115,101]⟩⟩,⟨⟨[109,105,110]⟩⟩,⟨⟨[109,97,120]⟩⟩]++kY
def qR(t:Tok):Prop:=(∃s∈mH,t=fu s)\/(∃s∈sj,t=jw s)\/∃n,0<=n/\n<=1048576/\t=⟨2,⟨⟨[]⟩⟩,n,0⟩
theorem u7{s:ByteArray}(h:s∈mH):qR (fu s):=.inl ⟨s,h,rfl⟩
theorem DT{s:ByteArray}(h:s∈sj):qR (jw s):=.inr (.inl ⟨s,h,rfl⟩)
structure lK(ts:List Tok):Prop where
 ok:∀t∈ts,qR t
 pos:0<ts.length
theorem nN{t:Tok}{ts:List Tok}(h:qR t)(k:∀x∈ts,qR x):∀x∈t::ts,qR x:=λx hx=>by
 cases hx with
 |head=>exact h
 |tail _ hx=>exact k x hx
theorem wY{xs ts:List Tok}(h:∀x∈xs,qR x)(k:∀x∈ts,qR x):∀x∈xs++ts,qR x:=λx hx=>(gy.1 hx).elim (h x) (k x)
theorem DU:∀x∈([]:List Tok),qR x:=λx hx=>by cases hx
abbrev He:Type:=Value×List Tok
theorem Hf{b:Nat}{s:ByteArray}{va vb:Value}{xs ys:List Tok}(hs:s∈mH)(hx:lK xs)(hy:lK ys)(hxl:xs.length<=2048)(hyl:ys.length<=2048):
 bD Tryz.prog (.func 101) [va,vb] [ptr' b] [] [dG b 0 [.string s],ah dJ va xs,ah dJ vb ys] (λy:He=>y.1) (λ_=>[]) (λy=>[ah dJ y.1 y.2]) (λy=>lK y.2/\y.2.length<=xs.length+ys.length+4):=by
 refine aX TR aeC λB w0=>?_;refine gH (E:=dJ) (v:=va) (xs:=xs) (by simp) λa1 c1 f1=>?_;subst f1;refine gH (E:=dJ) (v:=vb) (xs:=ys) (by simp) λa2 c2 f2=>?_;subst f2;refine go ?_;refine aD (u6 (s:=⟨⟨[40]⟩⟩)) (next:=λv1 _=>?_);refine go ?_;refine aD (u6 (s:=s)) (next:=λv2 _=>?_);refine go ?_;refine aD (u6 (s:=⟨⟨[41]⟩⟩)) (next:=λv3 _=>?_);refine go ?_;intro b2;refine G7 (b:=b2) (m:=5) (ls:=[[fu ⟨⟨[40]⟩⟩],xs,[fu s],ys,[fu ⟨⟨[41]⟩⟩]]) [([fu ⟨⟨[40]⟩⟩],.slice (some ⟨v1,0,some 0⟩) 1 1),(xs,.slice a1 xs.length c1),([fu s],.slice (some ⟨v2,0,some 0⟩) 1 1),(ys,.slice a2 ys.length c2),([fu ⟨⟨[41]⟩⟩],.slice (some ⟨v3,0,some 0⟩) 1 1)] ?_;have hxp:=hx.pos;have hyp:=hy.pos;refine aD (G8 (ls:=[[fu ⟨⟨[40]⟩⟩],xs,[fu s],ys,[fu ⟨⟨[41]⟩⟩]]) (by simp) (by simp[fT];omega) (by simp[fT];omega)) (next:=λv4 _=>?_);refine go ?_;refine aj (v4,[[fu ⟨⟨[40]⟩⟩],xs,[fu s],ys,[fu ⟨⟨[41]⟩⟩]].flatten) (hv:=rfl) (hp:=⟨⟨?_,by simp⟩,by simp;omega⟩);simp only[sF,zl,pG,gL,gQ];exact nN (u7 (by simp[mH])) (wY hx.ok (nN (u7 hs) (wY hy.ok (nN (u7 (by simp[mH])) DU))))
theorem TU{b:Nat}{s:ByteArray}{va vb:Value}{xs ys:List Tok}(hs:s∈sj)(hx:lK xs)(hy:lK ys)(hxl:xs.length<=2048)(hyl:ys.length<=2048):
 bD Tryz.prog (.func 105) [va,vb] [ptr' b] [] [dG b 0 [.string s],ah dJ va xs,ah dJ vb ys] (λy:He=>y.1) (λ_=>[]) (λy=>[ah dJ y.1 y.2]) (λy=>lK y.2/\y.2.length<=xs.length+ys.length+4):=by
 refine aX TS aeD λB w0=>?_;refine gH (E:=dJ) (v:=va) (xs:=xs) (by simp) λa1 c1 f1=>?_;subst f1;refine gH (E:=dJ) (v:=vb) (xs:=ys) (by simp) λa2 c2 f2=>?_;subst f2;refine go ?_;refine aD (DR (s:=s)) (next:=λv1 _=>?_);refine go ?_;refine aD (u6 (s:=⟨⟨[40]⟩⟩)) (next:=λv2 _=>?_);refine go ?_;refine aD (u6 (s:=⟨⟨[44]⟩⟩)) (next:=λv3 _=>?_);refine go ?_;refine aD (u6 (s:=⟨⟨[41]⟩⟩)) (next:=λv4 _=>?_);refine go ?_;intro b2;refine G7 (b:=b2) (m:=6) (ls:=[[jw s],[fu ⟨⟨[40]⟩⟩],xs,[fu ⟨⟨[44]⟩⟩],ys,[fu ⟨⟨[41]⟩⟩]]) [([jw s],.slice (some ⟨v1,0,some 0⟩) 1 1),([fu ⟨⟨[40]⟩⟩],.slice (some ⟨v2,0,some 0⟩) 1 1),(xs,.slice a1 xs.length c1),([fu ⟨⟨[44]⟩⟩],.slice (some ⟨v3,0,some 0⟩) 1 1),(ys,.slice a2 ys.length c2),([fu ⟨⟨[41]⟩⟩],.slice (some ⟨v4,0,some 0⟩) 1 1)] ?_;have hxp:=hx.pos;have hyp:=hy.pos;refine aD (G8 (ls:=[[jw s],[fu ⟨⟨[40]⟩⟩],xs,[fu ⟨⟨[44]⟩⟩],ys,[fu ⟨⟨[41]⟩⟩]]) (by simp) (by simp[fT];omega) (by simp[fT];omega)) (next:=λv5 _=>?_);refine go ?_;refine aj (v5,[[jw s],[fu ⟨⟨[40]⟩⟩],xs,[fu ⟨⟨[44]⟩⟩],ys,[fu ⟨⟨[41]⟩⟩]].flatten) (hv:=rfl) (hp:=⟨⟨?_,by simp⟩,by simp;omega⟩);simp only[sF,zl,pG,gL,gQ];exact nN (DT hs) (nN (u7 (by simp[mH])) (wY hx.ok (nN (u7 (by simp[mH])) (wY hy.ok (nN (u7 (by simp[mH])) DU)))))
theorem aeF{va vb:Value}{xs ys:List Tok}(hx:lK xs)(hy:lK ys)(hxl:xs.length<=2048)(hyl:ys.length<=2048):
 bD Tryz.prog (.func 107) [va,vb] [] [] [ah dJ va xs,ah dJ vb ys] (λy:He=>y.1) (λ_=>[]) (λy=>[ah dJ y.1 y.2]) (λy=>lK y.2/\y.2.length<=xs.length+ys.length+4):=by
 refine aX TT aeE λB w0=>?_;refine gH (E:=dJ) (v:=va) (xs:=xs) (by simp) λa1 c1 f1=>?_;subst f1;refine gH (E:=dJ) (v:=vb) (xs:=ys) (by simp) λa2 c2 f2=>?_;subst f2;refine go ?_;refine aD (u6 (s:=⟨⟨[60]⟩⟩)) (next:=λv1 _=>?_);refine go ?_;intro b2;refine G7 (b:=b2) (m:=3) (ls:=[xs,[fu ⟨⟨[60]⟩⟩],ys]) [(xs,.slice a1 xs.length c1),([fu ⟨⟨[60]⟩⟩],.slice (some ⟨v1,0,some 0⟩) 1 1),(ys,.slice a2 ys.length c2)] ?_;have hxp:=hx.pos;have hyp:=hy.pos;refine aD (G8 (ls:=[xs,[fu ⟨⟨[60]⟩⟩],ys]) (by simp) (by simp[fT];omega) (by simp[fT];omega)) (next:=λv5 _=>?_);refine go ?_;refine aj (v5,[xs,[fu ⟨⟨[60]⟩⟩],ys].flatten) (hv:=rfl) (hp:=⟨⟨?_,by simp;omega⟩,by simp;omega⟩);simp only[sF,zl,pG,gL,gQ];exact wY hx.ok (nN (u7 (by simp[mH])) hy.ok)
theorem Hg{s:ByteArray}:bD Tryz.prog (.func 100) [.string s] [] [] [] (λb:Nat=>.func (.func 101) ⟨[]⟩ ⟨[ptr' b]⟩) (λ_=>[]) (λb=>[dG b 0 [.string s]]) (λ_=>True):=by
 refine aX _ (bN 100) λB w0=>?_;refine go ?_;intro b;refine go ?_;refine bG (eP (b:=b)) (h:=?_);exact aj b (hv:=rfl) (hp:=trivial)
theorem TV{s:ByteArray}:bD Tryz.prog (.func 104) [.string s] [] [] [] (λb:Nat=>.func (.func 105) ⟨[]⟩ ⟨[ptr' b]⟩) (λ_=>[]) (λb=>[dG b 0 [.string s]]) (λ_=>True):=by
 refine aX _ (bN 104) λB w0=>?_;refine go ?_;intro b;refine go ?_;refine bG (eP (b:=b)) (h:=?_);exact aj b (hv:=rfl) (hp:=trivial)
def cz:Enc (List Tok×Bool):=⟨2,Value,λx v=>[v,.bool x.2],λx v=>[ah dJ v x.1],λ_ _=>rfl⟩
abbrev ni:Type:=(List Tok×Bool)×cz.Y
theorem aeG{tv:Value}{c:Bool}(hv:cellsOf tv=some [tv]):eY Tryz.prog 110 [.agg ⟨[tv,.bool c]⟩] [] (.bool c):=by
 refine aX _ (bN 110) λB w0=>?_;refine go ?_;intro b;refine go ?_;exact aj () (hv:=rfl) (hp:=trivial)
theorem aeH{b o f c:Nat}{cs:List Value}{bs:List Bool}(hf:f=0\/f=2)(hl:bs.length<=1000000)(hcs:∀(k:Nat) x,bs[k]? =some x->∃tv,cellsOf tv=some [tv]/\cs[o+k*2]? =some tv/\cs[o+k*2+1]? =some (.bool x)):
 bD Tryz.prog (.func 124) [.slice (some ⟨b,o,some f⟩) bs.length c,.func (.func 110) ⟨[]⟩ ⟨[]⟩] [] [pt b (.cells cs)] [] (λr:Int=>.int .i64 r) (λ_=>[pt b (.cells cs)]) (λ_=>[]) (λr=>(0<=r↔true∈bs)):=by
 refine aX _ (bN 124) λB w0=>?_;refine go ?_;refine bE (λk=>bs.length - k) (λk:Nat=>[(8,.int .i64 (k:Int))]) (λ_=>[]) (λ_=>[]) (λk=>k<=bs.length/\true∉bs.take k) 0 ⟨by omega,by simp⟩ (body:=?_);rintro k ⟨hk,hno⟩;refine go ?_;refine aC rfl (λh1=>?_) (λh1=>?_)
 ·have hx:bs[k]? =some (bs[k]'(by omega)):=bf _;generalize bs[k]'(by omega)=x at hx;obtain⟨tv,t1,t2,t3⟩:=hcs k x hx;refine go ?_;refine(P8 (c:=[tv,.bool x]) rfl rfl rfl .here ?_).h ?_
  ·have hlt:=(dX.1 t3).1;rw[j5,j6,if_pos (by rw[jR];omega)];congr 1;apply jA;intro j;rw[qi,jy];match j with
   |0=>rw[if_pos (by omega)];exact t2
   |1=>rw[if_pos (by omega)];exact t3
   |j+2=>rw[if_neg (by omega)];rfl
  refine go ?_;refine aD (aeG (tv:=tv) (c:=x) t1) (next:=λ_ _=>?_);refine go ?_;refine iy rfl (λh2=>?_) (λh2=>?_)
  ·refine go ?_;refine aj (k:Int) (hv:=rfl) (hp:=?_);have:true∈bs:=h2▸cZ hx;simp[this]
  ·refine go ?_;refine aO (k+1) (by omega) ⟨by omega,?_⟩;rw[dx hx,gy,h2];simp[hno]
 refine go ?_;have:k=bs.length:=by omega
 subst this;rw[fK]at hno;refine aj (-1) (hv:=rfl) (hp:=?_);simp[hno]
theorem aeI{b o f c:Nat}{cs:List Value}{bs:List Bool}(hf:f=0\/f=2)(hl:bs.length<=1000000)(hcs:∀(k:Nat) x,bs[k]? =some x->∃tv,cellsOf tv=some [tv]/\cs[o+k*2]? =some tv/\cs[o+k*2+1]? =some (.bool x)):
 bD Tryz.prog (.func 109) [.slice (some ⟨b,o,some f⟩) bs.length c,.func (.func 110) ⟨[]⟩ ⟨[]⟩] [] [pt b (.cells cs)] [] (λ_:Unit=>.bool (decide (true∈bs))) (λ_=>[pt b (.cells cs)]) (λ_=>[]) (λ_=>True):=by
 refine aX _ (bN 109) λB w0=>?_;refine go ?_;refine aD (aeH hf hl hcs) (next:=λr hr=>?_);refine go ?_;refine aj () (hv:=?_) (hp:=trivial);show Value.bool (decide (0<=r))=_;rw[EB.2 hr]
def vg(fl:List Bool):Prop:=2<=fl.length/\fl[fl.length - 2]? =some false/\fl[fl.length - 1]? =some false
instance (fl:List Bool):Decidable (vg fl):=by unfold vg;infer_instance
def nO(L:List ni):List Bool:=L.map λp=>p.1.2
theorem qf(L:List ni):(nO L).length=L.length:=by unfold nO;rw[bC]
theorem MH{L:List ni}{k:Nat}{p:ni}(h:L[k]? =some p):(nO L)[k]? =some p.1.2:=by unfold nO;rw[bX,h];rfl
theorem TW{bL:Nat}{v:Value}{L:List ni}(hL:L.length<=1000000)(hv:∀p∈L,∃a n c,p.2=Value.slice a n c):
 bD Tryz.prog (.func 108) [.int .i64 2] [ptr' bL] [pt bL (.cells [v]),sk cz v L] [] (λ_:Unit=>.bool (decide (vg (nO L)))) (λ_=>[pt bL (.cells [v]),sk cz v L]) (λ_=>[]) (λ_=>True):=by
 refine aX _ (bN 108) λB w0=>?_;refine go ?_;refine Di cz (v:=v) (aa:=L) ?_;refine go ?_;refine gG (λh1=>?_) (λh1=>?_)
 ·refine go ?_;refine aj () (hv:=?_) (hp:=trivial);rw[gz (λh:vg (nO L)=>by have:=h.1;rw[qf]at this;omega)];rfl
 refine go ?_;refine Di cz (v:=v) (aa:=L) ?_;refine go ?_;refine tJ cz (v:=v) (aa:=L) (by omega) λb f c r hf hr hc e=>?_;subst e;refine(bO rfl rfl (Dh (lo:=L.length - 2) (hi:=L.length) rfl hf (by decide) (.inr ⟨_,rfl,by show Value.int .i64 _=_;congr 1;omega⟩) (.inl ⟨rfl,rfl⟩) (by omega) (by omega))).h ?_;have hp1:L[L.length - 2]? =some (L[L.length - 2]'(by omega)):=bf _;have hp2:L[L.length - 1]? =some (L[L.length - 1]'(by omega)):=bf _;generalize L[L.length - 2]'(by omega)=p1 at hp1;generalize L[L.length - 1]'(by omega)=p2 at hp2;have hs1:cellsOf p1.2=some [p1.2]:=by obtain⟨a,n,c,h⟩:=hv p1 (cZ hp1);rw[h];rfl
 have hs2:cellsOf p2.2=some [p2.2]:=by obtain⟨a,n,c,h⟩:=hv p2 (cZ hp2);rw[h];rfl
 rw[show L.length - (L.length - 2)=[p1.1.2,p2.1.2].length by simp;omega];refine aD (aeI (bs:=[p1.1.2,p2.1.2]) (o:=0+(L.length - 2)*2) (b:=b) (cs:=aW cz L++r) hf (by simp) (λk x hx=>?_)) (next:=λ_ _=>?_)
 ·match k,hx with
  |0,hx=>
   cases hx;exact⟨p1.2,hs1,mo (E:=cz) (j:=0) hp1 rfl (by show _=(L.length - 2)*2+0;omega),mo (E:=cz) (j:=1) hp1 rfl (by show _=(L.length - 2)*2+1;omega)⟩
  |1,hx=>
   cases hx;exact⟨p2.2,hs2,mo (E:=cz) (j:=0) hp2 rfl (by show _=(L.length - 1)*2+0;omega),mo (E:=cz) (j:=1) hp2 rfl (by show _=(L.length - 1)*2+1;omega)⟩
 refine go ?_;refine Ao cz (aa:=L) (b:=b) (f:=f) (c:=c) (m:=L.length) (r:=r) rfl hf hr hc ?_;refine aj () (hv:=?_) (hp:=trivial);show Value.bool (!decide (true∈[p1.1.2,p2.1.2]))=Value.bool (decide (vg (nO L)));congr 1;have e1:=MH hp1;have e2:=MH hp2;have hl:=qf L;rw[<- hl]at e1 e2;have:vg (nO L)↔¬true∈[p1.1.2,p2.1.2]:=by
  unfold vg;rw[e1,e2];cases p1.1.2<;>cases p2.1.2<;>simp[hl]<;>omega
 by_cases hh:true∈[p1.1.2,p2.1.2]
 ·rw[eH hh,gz (λk=>this.1 k hh)];rfl
 ·rw[gz hh,eH (this.2 hh)];rfl
