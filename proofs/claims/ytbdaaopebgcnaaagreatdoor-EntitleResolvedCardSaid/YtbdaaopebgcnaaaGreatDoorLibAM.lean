/-
  slices.IndexFunc, slices.ContainsFunc over numbers.
-/
import Derived.Test.YtbdaaopebgcnaaaGreatDoorIdealQM
import Derived.Test.YtbdaaopebgcnaaaGreatDoorPlainAM
import Derived.Test.YtbdaaopebgcnaaaGreatDoorProg
set_option linter.all false
set_option maxRecDepth 10000
set_option maxHeartbeats 2000000
namespace Go.Proofs.YtbdaaopebgcnaaaGreatDoor
open Go.Ideal Rk
abbrev vP(P:Program)(fn:Fn)(first cap:List Value)(v:Value)(F:List aB)(b:Bool):Prop:=aT P fn (first++[v]) cap [] F (λ_:Unit=>.bool b) (λ_=>[]) (λ_=>[]) (λ_=>True)
theorem abS{fn:Fn}{first cap:List Value}{F1:List aB}{p:Int->Bool}{va:Value}{xs:List Int}(hl:xs.length<9223372036854775808)(hp:∀x∈xs,vP Tryz.prog fn first cap (.int .i64 x) F1 (p x)):
 aT Tryz.prog (.func 58) [va,.func fn ⟨first⟩ ⟨cap⟩] [] [] (ae az va xs::F1) (λr:Int=>.int .i64 r) (λ_=>[]) (λ_=>[]) (λr=>(0<=r↔xs.any p=true)):=by
 refine aV _ (bB 58) λB w0=>?_;refine go ?_;refine dQ (λk=>xs.length - k) (λk:Nat=>[(8,.int .i64 (k:Int))]) (λ_=>[]) (λ_=>[]) (λk=>k<=xs.length/\(xs.take k).any p=false) 0 ⟨by omega,by simp⟩ (body:=?_);rintro k ⟨hk,hno⟩;refine go ?_;refine aM rfl (λh1=>?_) (λh1=>?_)
 ·refine go ?_;intro _ _ x hx;refine aG (hp x (dA hx)) (next:=λ_ _=>?_);refine go ?_;refine jO rfl (λh2=>?_) (λh2=>?_)
  ·refine go ?_;refine aj (k:Int) (hv:=rfl) (hp:=?_);have:xs.any p=true:=wC.2 ⟨x,dA hx,h2⟩;simp[this]
  ·refine go ?_;refine aY (k+1) (by omega) ⟨by omega,?_⟩;rw[fG hx,List.any_append,hno];simp[h2]
 refine go ?_;have:k=xs.length:=by omega
 subst this;rw[iB]at hno;refine aj (-1) (hv:=rfl) (hp:=?_);rw[hno];simp
theorem Kg{fn:Fn}{first cap:List Value}{F1:List aB}{p:Int->Bool}{va:Value}{xs:List Int}(hl:xs.length<9223372036854775808)(hp:∀x∈xs,vP Tryz.prog fn first cap (.int .i64 x) F1 (p x)):
 aT Tryz.prog (.func 26) [va,.func fn ⟨first⟩ ⟨cap⟩] [] [] (ae az va xs::F1) (λ_:Unit=>.bool (xs.any p)) (λ_=>[]) (λ_=>[]) (λ_=>True):=by
 refine aV _ (bB 26) λB w0=>?_;refine go ?_;refine aG (abS hl hp) (next:=λr hr=>?_);refine go ?_;refine aj () (hv:=?_) (hp:=trivial);have:decide (0<=r)=xs.any p:=by
  by_cases h:0<=r
  ·rw[fK h,hr.1 h]
  ·rw[gq h];cases e:xs.any p with
   |false=>rfl
   |true=>exact absurd (hr.2 e) h
 rw[<- this];rfl
theorem QV{P:Program}{ρ:Operand->Value}{x:Operand}{a:Int}(hx:ρ x=.int .i64 a)(h1: -9223372036854775808<= -a)(h2: -a<9223372036854775808):Pu P ρ (.un .neg x) (.int .i64 (-a)):=λh=>by
 have h3:dh P (Op.unary .neg (.int .i64 a))=some (.int .i64 (-a)):=by
  show some (Value.int .i64 (IntKind.i64.wrap (0 - a)))=_;rw[Int.zero_sub,wrap64 h1 h2]
 simp only[ai.run,hx,ji,h3];rfl
theorem QW{a b:Int}{n:Nat}(h:a.natAbs<=n): -(n:Int)<=a.tdiv b/\a.tdiv b<=n:=by
 have hq:(a.tdiv b).natAbs<=a.natAbs:=by rw[Int.natAbs_tdiv];exact Nat.div_le_self _ _
 omega
abbrev pz(st:List Int):List (Int×az.Y):=st.map λx=>(x,())
abbrev Kh(v:Value)(st:List Int):OA:=sk az v (pz st)
theorem abT(st:List Int)(k:Nat):(pz st).take k=pz (st.take k):=by unfold pz;rw[List.map_take]
theorem BP(a b:List Int):pz a++pz b=pz (a++b):=by unfold pz;rw[dM]
theorem FH(st:List Int):(pz st).length=st.length:=bI ..
theorem abU{st:List Int}{k:Nat}{x:Int}(h:st[k]? =some x):(pz st)[k]? =some (x,()):=by unfold pz;rw[cK,h];rfl
theorem zy{st:List Int}{k:Nat}(h:k<st.length):st[k]? =some (st.getD k 0):=by rw[oh,bH h];rfl
theorem abV{st:List Int}{n:Nat}(h:st.length=n+2):st=st.take n++[st.getD n 0]++[st.getD (n+1) 0]:=by
 rw[<- fG (zy (by omega)),<- fG (zy (by omega)),rH (by omega)]
theorem abW{st:List Int}{n:Nat}(h:st.length=n+3):st=st.take n++[st.getD n 0]++[st.getD (n+1) 0]++[st.getD (n+2) 0]:=by
 rw[<- fG (zy (by omega)),<- fG (zy (by omega)),<- fG (zy (by omega)),rH (by omega)]
noncomputable def QX:dW:=⟨27,[(.tmp 4)],(.seq (kO [kS 4 (.aX (.const vS))]) (.seq (.seq (kO [kM 5 1,kS 6 (.bin .lss 3 5 (kI 0))]) (.cond 6 (kO [⟨⟨(some 7),none,(.iface 9 (.const (.string ⟨⟨[99,97,110,110,111,116,32,98,101,32,110,101,103,97,116,105,118,101]⟩⟩)))⟩,[]⟩,kN (.panic 7)]) .skip)) (.seq (.seq (kO [kM 8 1,kM 9 0,kS 10 (.Aa 9),kM 11 0,kS 12 (.iN 11),kS 13 (.bin .sub 3 10 12),kS 14 (.bin .sub 3 8 13),kS 1 (.aX 14)]) (.seq (kO [kM 15 1,kS 16 (.bin .gtr 3 15 (kI 0))]) (.cond 16 (kO [kM 17 0,kM 18 0,kS 19 (.Aa 18),kS 20 (.nD 4 17 none (some 19) none),kM 21 1,⟨⟨(some 22),none,(.x8 172 4 40 [vI,vE,vI,vI] 20 21)⟩,[]⟩,kM 23 0,kS 24 (.iN 23),kS 25 (.nD 4 22 none (some 24) none),kS 0 (.aX 25)]) .skip))) (.seq (kO [kM 26 0,kS 4 (.aX 26)]) .ret))))⟩
theorem abX:jD Tryz.prog 139=some QX:=by kernel_rfl
noncomputable def QY:dW:=⟨36,[(.tmp 2)],(.seq (kO [kS 2 (.aX (.const vS))]) (.seq (kO [kS 3 (.aX (kI 0))]) (.seq (.seq (kO [kM 9 0,kS 10 (.iN 9),kS 11 (.mv (kI 0))]) (.block 0 (.loop (.seq (kO [kS 12 (.bin .lss 3 11 10)]) (.seq (.cond 12 .skip (.exit 0)) (.seq (.block 1 (.seq (kO [kS 13 (.fE 1 9 11),kS 14 (.aH 13),kS 5 (.aX 14)]) (.seq (kO [kM 15 3,kM 16 5,kS 17 (.iN 16),kS 18 (.bin .add 3 15 17),kS 3 (.aX 18)]) (.seq (kO [kM 19 3,kS 20 (.bin .lss 3 19 (kI 0))]) (.cond 20 (kO [⟨⟨(some 21),none,(.iface 9 (.const (.string ⟨⟨[108,101,110,32,111,117,116,32,111,102,32,114,97,110,103,101]⟩⟩)))⟩,[]⟩,kN (.panic 21)]) .skip))))) (kO [kS 22 (.bin .add 3 11 (kI 1)),kM 11 22]))))))) (.seq (kO [kM 23 3,kS 24 (kC 139 [(.const vS),23]),kS 6 (.aX 24)]) (.seq (.seq (kO [kM 25 0,kS 26 (.iN 25),kS 27 (.mv (kI 0))]) (.block 2 (.loop (.seq (kO [kS 28 (.bin .lss 3 27 26)]) (.seq (.cond 28 .skip (.exit 2)) (.seq (.block 3 (.seq (kO [kS 29 (.fE 1 25 27),kS 30 (.aH 29),kS 8 (.aX 30)]) (kO [kM 31 6,kM 32 8,kS 33 (.append 172 4 40 31 32),kS 6 (.aX 33)]))) (kO [kS 34 (.bin .add 3 27 (kI 1)),kM 27 34]))))))) (.seq (kO [kM 35 6,kS 2 (.aX 35)]) .ret))))))⟩
theorem abY:jD Tryz.prog 122=some QY:=by kernel_rfl
noncomputable def QZ:dW:=⟨2,[(.tmp 0)],(.seq (kO [kS 0 (.aX (.const vS))]) (.seq (kO [⟨⟨(some 1),none,(.dV 9 5 [vE,vE,vE,vE,vE] [⟨0,⟨1,(.const (.string ⟨⟨[112,108,97,99,101]⟩⟩))⟩⟩,⟨1,⟨1,(.const (.string ⟨⟨[115,111,108,118,101,114,115]⟩⟩))⟩⟩,⟨2,⟨1,(.const (.string ⟨⟨[108,101,118,101,108]⟩⟩))⟩⟩,⟨3,⟨1,(.const (.string ⟨⟨[99,108,117,101,115]⟩⟩))⟩⟩,⟨4,⟨1,(.const (.string ⟨⟨[116,114,105,101,115]⟩⟩))⟩⟩])⟩,[]⟩,kS 0 (.aX 1)]) .ret))⟩
theorem abZ:jD Tryz.prog 83=some QZ:=by kernel_rfl
structure Tok where
 k:Int
 s:ByteArray
 n:Int
 at_:Int
def dD:Enc Tok:=⟨4,Unit,λx _=>[.int .i64 x.k,.string x.s,.int .i64 x.n,.int .i64 x.at_],λ_ _=>[],λ_ _=>rfl⟩
abbrev FI:List Value:=[.int .i64 0,.string ⟨⟨[]⟩⟩,.int .i64 0,.int .i64 0]
def fA(s:ByteArray):Tok:=⟨3,s,0,0⟩
def jf(s:ByteArray):Tok:=⟨1,s,0,0⟩
inductive vQ(F:List aB):List (List Tok×Value)->Prop
 |nil:vQ F []
 |cons {l:List Tok} {v:Value} {ps:List (List Tok×Value)} (h:ae dD v l∈F) (t:vQ F ps):vQ F ((l,v)::ps)
theorem vQ.get{F:List aB}{ps:List (List Tok×Value)}(h:vQ F ps):∀p∈ps,ae dD p.2 p.1∈F:=by
 induction h with
 |nil=>intro p hp;cases hp
 |cons h _ ih=>
  intro p hp;cases hp with
  |head=>exact h
  |tail _ hp=>exact ih p hp
theorem ab0{w:Wd}{b m:Nat}{ps:List (List Tok×Value)}(hm:m=ps.length)(h:(bU b 0 (ps.map (·.2))).p w)(h0:0<ps.length)(he:∀p∈ps,(ae dD p.2 p.1).p w):(ae (bC dD) (.slice (some ⟨b,0,some 0⟩) m m) (ps.map (·.1))).p w:=by
 subst hm;obtain⟨cells,h1,h2⟩:=h;refine .inr ⟨b,0,0,ps.length,cells,⟨by rw[bI],by rw[bI];exact aC _,.inl rfl⟩,h1,λk x hx=>?_⟩;rw[cK]at hx;cases e:ps[k]? with
 |none=>rw[e]at hx;cases hx
 |some p=>
  rw[e]at hx;cases hx;refine⟨p.2,λj u hj=>?_,λf hf=>?_⟩
  ·match j,hj with
   |0,hj=>
    cases hj;rw[show 0+k*(bC dD).n+0=0+k by show 0+k*1+0=_;omega];exact h2 k p.2 (by rw[cK,e];rfl)
  ·rw[cB.1 hf];exact he p (dA e)
theorem FJ{B:List Nat}{w0:Wd}{kl kl':List OA}{F:List aB}{Q:IH->Prop}{b m:Nat}(ps:List (List Tok×Value)){ls:List (List Tok)}(next:R Q B w0 kl' (ae (bC dD) (.slice (some ⟨b,0,some 0⟩) m m) ls::F))
 (hls:ps.map (·.1)=ls:=by rfl) (hm:m=ps.length:=by rfl) (h0:0<ps.length:=by exact Nat.succ_pos _) (hF:vQ F ps:=by repeat (first|exact vQ.nil|(apply vQ.cons;(focus (repeat (first|with_reducible exact aS .. |with_reducible apply bW)))))) (hk:ah (pt b (.cells (ps.map (·.2)))) kl kl':=by repeat (first|exact ah.here|apply ah.there)):R Q B w0 kl F:=by
 subst hls;refine cu (fT (b:=b) (cs:=ps.map (·.2))) hk (h:=?_);refine bX (ae (bC dD) (.slice (some ⟨b,0,some 0⟩) m m) (ps.map (·.1))) (λw hw=>ab0 hm (hw _ (aS ..)) h0 λp hp=>hw _ (bW _ (hF.get p hp))) ?_;refine λw s=>next w (s.sub ?_)
 exact .cons (aS ..) (iQ.sub (.cons (.cons .here)))
theorem ab1{m:Nat}(h0:0<m)(hm:m<=8192):aT Tryz.prog (.func 139) [.slice none 0 0,.int .i64 (m:Int)] [] [] [] (λb:Nat=>.slice (some ⟨b,0,some 4⟩) 0 m) (λb=>[pt b (.cells (zeros FI m))]) (λ_=>[]) (λ_=>True):=by
 refine aV QX abX λB w0=>?_;refine go ?_;refine(bV rfl rfl (O5 rfl)).h ?_;refine go ?_;refine aM rfl (λh1=>?_) (λh1=>?_)
 rotate_left
 ·omega
 refine go ?_;refine(bV rfl rfl (O5 rfl)).h ?_;refine(bV rfl rfl (Zu rfl rfl)).h ?_;refine go ?_;refine Zq m h0 ⟨by omega,by omega,by omega⟩ (next:=λb=>?_) (hx:=by show Value.int .i64 _=Value.int .i64 _;congr 1);refine go ?_;refine(bV rfl rfl (Zt (k:=3) rfl rfl)).h ?_;refine go ?_;exact aj b (hv:=rfl) (hp:=trivial)
def fU(ls:List (List Tok)):Nat:=(ls.map List.length).sum
theorem Q0{ls:List (List Tok)}{k:Nat}{l:List Tok}(h:ls[k]? =some l):fU (ls.take (k+1))=fU (ls.take k)+l.length:=by
 unfold fU;rw[fG h,dM,CJ];simp
theorem Q3{ls:List (List Tok)}(k:Nat):fU (ls.take k)<=fU ls:=by
 have:fU ls=fU (ls.take k)+fU (ls.drop k):=by
  unfold fU;rw[<- CJ,<- dM,xU]
 omega
theorem ab2(ls:List (List Tok)):ls.flatten.length=fU ls:=by unfold fU;rw[List.length_flatten]
theorem ab3{ls:List (List Tok)}{k:Nat}{l:List Tok}(h:ls[k]? =some l):(ls.take (k+1)).flatten=(ls.take k).flatten++l:=by
 rw[fG h,List.flatten_append];simp
theorem FK{va:Value}{ls:List (List Tok)}(hn:ls.length<=100)(h0:0<fU ls)(hm:fU ls<=8192):
 aT Tryz.prog (.func 122) [va] [] [] [ae (bC dD) va ls] (λv:Value=>v) (λ_=>[]) (λv=>[ae dD v ls.flatten]) (λ_=>True):=by
 have hgn:dD.n=4:=rfl;refine aV QY abY λB w0=>?_;refine go ?_;refine dQ (λk=>ls.length - k) (λk:Nat=>[(11,.int .i64 (k:Int)),(3,.int .i64 (fU (ls.take k):Int))]) (λ_=>[]) (λ_=>[]) (λk=>k<=ls.length) 0 (dY _) (body:=?_);intro k hk;refine go ?_;refine aM rfl (λh1=>?_) (λh1=>?_)
 ·have hle:=Q3 (ls:=ls) (k+1);refine go ?_;refine eX (bC dD) (k:=k) (next:=λb o x (y:Value) hx=>?_);have ht:=Q0 hx;refine go ?_;rw[show((fU (ls.take k):Nat):Int)+(x.length:Int)=((fU (ls.take (k+1)):Nat):Int)by omega];refine go ?_;exact aY (k+1) (by omega) (by omega)
 have hkl:k=ls.length:=by omega
 subst hkl;rw[iB];refine go ?_;refine aG (ab1 h0 hm) (next:=λbg _=>?_);have hzl:=zeros_length FI (fU ls);rw[show FI.length=4 from rfl]at hzl;generalize hzz:zeros FI (fU ls)=zs at hzl⊢;rw[show zs=aK dD []++zs from rfl];refine go ?_;refine dQ (λy:Nat×List (Tok×dD.Y)×List Value=>ls.length - y.1) (λy=>[(27,.int .i64 (y.1:Int)),(6,.slice (some ⟨bg,0,some 4⟩) y.2.1.length (fU ls))]) (λy=>[pt bg (.cells (aK dD y.2.1++y.2.2))]) (λ_=>[]) (λy=>y.1<=ls.length/\y.2.1.map (·.1)=(ls.take y.1).flatten/\y.2.1.length*4+y.2.2.length=fU ls*4) (0,[],zs) ⟨dY _,rfl,by simp;omega⟩ (body:=?_);rintro⟨k,aa,r⟩ ⟨hk,hxy,hr⟩;dsimp only at hk hxy hr⊢;have hxl:aa.length=fU (ls.take k):=by rw[<- ab2,<- hxy,bI]
 refine go ?_;refine aM rfl (λh1=>?_) (λh1=>?_)
 ·have hle:=Q3 (ls:=ls) (k+1);refine go ?_;refine eX (bC dD) (k:=k) (next:=λb o x (y:Value) hx=>?_);have ht:=Q0 hx;refine go ?_;refine pR dD y (xs:=x) (λuk e1=>?_);refine go ?_;have hz1:uk.length=x.length:=by rw[<- e1,bI]
  refine Zr (m:=aa.length) (f:=some 4) (cap:=fU ls) (b:=bg) dD uk (aK dD aa) r (by rw[qR]) (by rw[hgn];omega) (by omega) ⟨by omega,by omega,by omega⟩ ?_;rw[<- gY,<- zm,show aa.length+uk.length=(aa++uk).length by rw[dK]];refine go ?_;refine aY (k+1,aa++uk,r.drop (uk.length*dD.n)) (by show ls.length - (k+1)<ls.length - k;omega) ⟨by show k+1<=_;omega,?_,?_⟩
  ·show(aa++uk).map (·.1)=(ls.take (k+1)).flatten;rw[ab3 hx,dM,hxy,e1]
  ·show(aa++uk).length*4+(r.drop (uk.length*dD.n)).length=_;rw[dK,iY,hgn];omega
 have hkl:k=ls.length:=by omega
 subst hkl;rw[iB]at hxy hxl;have hr0:r=[]:=qc.1 (by omega);subst hr0;rw[hxl,fJ];refine Zh dD (aa:=aa) (b:=bg) (f:=4) (m:=fU ls) hxl.symm (.inr rfl) ?_;refine Zg (E:=dD) (v:=.slice (some ⟨bg,0,some 4⟩) (fU ls) (fU ls)) (aa:=aa) ?_ (λw h p hp f hf=>by cases hf);rw[hxy];refine go ?_;exact aj (.slice (some ⟨bg,0,some 4⟩) (fU ls) (fU ls)) (hv:=rfl) (hp:=trivial)
theorem ab4{w:Wd}{b:Nat}{t:Tok}(h:(bU b 0 (dD.pat t ())).p w):(ae dD (.slice (some ⟨b,0,some 0⟩) 1 1) [t]).p w:=by
 obtain⟨cells,h1,h2⟩:=h;refine .inr ⟨b,0,0,1,cells,⟨rfl,aC _,.inl rfl⟩,h1,λk x hx=>?_⟩;match k,hx with
 |0,hx=>
  cases hx;exact⟨(),λj u hj=>by rw[og,rE];exact h2 j u hj,λf hf=>by cases hf⟩
theorem Ki{B:List Nat}{w0:Wd}{kl kl':List OA}{F:List aB}{Q:IH->Prop}{b:Nat}(t:Tok)(next:R Q B w0 kl' (ae dD (.slice (some ⟨b,0,some 0⟩) 1 1) [t]::F))
 (hk:ah (pt b (.cells (dD.pat t ()))) kl kl':=by repeat (first|exact ah.here|apply ah.there)):R Q B w0 kl F:=by
 refine cu (fT (b:=b) (cs:=dD.pat t ())) hk (h:=?_);refine bX (ae dD (.slice (some ⟨b,0,some 0⟩) 1 1) [t]) (λw hw=>ab4 (hw _ (aS ..))) ?_;exact λw s=>next w (s.sub (.cons (aS ..) (iQ.sub (.cons (.cons .here)))))
theorem ul{s:ByteArray}:aT Tryz.prog (.func 123) [.string s] [] [] [] (λb:Nat=>.slice (some ⟨b,0,some 0⟩) 1 1) (λ_=>[]) (λb=>[ae dD (.slice (some ⟨b,0,some 0⟩) 1 1) [fA s]]) (λ_=>True):=by
 refine aV _ (bB 123) λB w0=>?_;refine go ?_;intro b;refine go ?_;refine Ki (b:=b) (fA s) ?_;exact aj b (hv:=rfl) (hp:=trivial)
theorem BQ{s:ByteArray}:aT Tryz.prog (.func 126) [.string s] [] [] [] (λb:Nat=>.slice (some ⟨b,0,some 0⟩) 1 1) (λ_=>[]) (λb=>[ae dD (.slice (some ⟨b,0,some 0⟩) 1 1) [jf s]]) (λ_=>True):=by
 refine aV _ (bB 126) λB w0=>?_;refine go ?_;intro b;refine go ?_;refine Ki (b:=b) (jf s) ?_;exact aj b (hv:=rfl) (hp:=trivial)
def kv:List ByteArray:=[⟨⟨[112,108,97,99,101]⟩⟩,⟨⟨[115,111,108,118,101,114,115]⟩⟩,⟨⟨[108,101,118,101,108]⟩⟩,⟨⟨[99,108,117,101,115]⟩⟩,⟨⟨[116,114,105,101,115]⟩⟩]
theorem FL{w:Wd}{b m:Nat}{ss:List ByteArray}(hm:m=ss.length)(h:(bU b 0 (ss.map .string)).p w)(h0:0<ss.length):(ae eP (.slice (some ⟨b,0,some 0⟩) m m) ss).p w:=by
 subst hm;obtain⟨cells,h1,h2⟩:=h;refine .inr ⟨b,0,0,ss.length,cells,⟨rfl,aC _,.inl rfl⟩,h1,λk x hx=>⟨(),λj u hj=>?_,λf hf=>by cases hf⟩⟩;match j,hj with
 |0,hj=>
  cases hj;rw[show 0+k*eP.n+0=0+k by show 0+k*1+0=_;omega];exact h2 k _ (by rw[cK,hx];rfl)
theorem Kj:aT Tryz.prog (.func 83) [] [] [] [] (λb:Nat=>.slice (some ⟨b,0,some 0⟩) 5 5) (λ_=>[]) (λb=>[bU b 0 (kv.map .string),ae eP (.slice (some ⟨b,0,some 0⟩) 5 5) kv]) (λ_=>True):=by
 refine aV QZ abZ λB w0=>?_;refine go ?_;intro b;refine go ?_;refine cu (fT (b:=b) (cs:=kv.map .string)) (hk:=.here) (h:=?_);refine bX (ae eP (.slice (some ⟨b,0,some 0⟩) 5 5) kv) (λw hw=>FL rfl (hw _ (aS ..)) (by decide)) ?_;exact aj b (hv:=rfl) (hp:=trivial)
noncomputable def Q4:dW:=⟨14,[(.tmp 5)],(.seq (kO [kS 5 (.aX (.const vS))]) (.seq (.ops [6,7,8,9,10,11,12,13,5] [kM 7 0,kS 8 (.aH 2),kM 10 1,⟨⟨(some 6),none,(kC 123 [(.const (.string ⟨⟨[40]⟩⟩))])⟩,[⟨(some 8),none,(.aH 2)⟩]⟩,kS 9 (kC 123 [8]),⟨⟨(some 11),none,(kC 123 [(.const (.string ⟨⟨[41]⟩⟩))])⟩,[]⟩,⟨⟨(some 12),none,(.dV 155 5 [vS,vS,vS,vS,vS] [⟨0,⟨1,6⟩⟩,⟨1,⟨1,7⟩⟩,⟨2,⟨1,9⟩⟩,⟨3,⟨1,10⟩⟩,⟨4,⟨1,11⟩⟩])⟩,[]⟩,kS 13 (kC 122 [12]),kS 5 (.aX 13)]) .ret))⟩
theorem ab5:jD Tryz.prog 121=some Q4:=by kernel_rfl
noncomputable def Q5:dW:=⟨15,[(.tmp 5)],(.seq (kO [kS 5 (.aX (.const vS))]) (.seq (kO [kS 6 (.aH 2),kS 7 (kC 126 [6]),⟨⟨(some 8),none,(kC 123 [(.const (.string ⟨⟨[40]⟩⟩))])⟩,[]⟩,kM 9 0,⟨⟨(some 10),none,(kC 123 [(.const (.string ⟨⟨[44]⟩⟩))])⟩,[]⟩,kM 11 1,⟨⟨(some 12),none,(kC 123 [(.const (.string ⟨⟨[41]⟩⟩))])⟩,[]⟩,⟨⟨(some 13),none,(.dV 155 6 [vS,vS,vS,vS,vS,vS] [⟨0,⟨1,7⟩⟩,⟨1,⟨1,8⟩⟩,⟨2,⟨1,9⟩⟩,⟨3,⟨1,10⟩⟩,⟨4,⟨1,11⟩⟩,⟨5,⟨1,12⟩⟩])⟩,[]⟩,kS 14 (kC 122 [13]),kS 5 (.aX 14)]) .ret))⟩
theorem ab6:jD Tryz.prog 125=some Q5:=by kernel_rfl
noncomputable def Q6:dW:=⟨10,[(.tmp 4)],(.seq (kO [kS 4 (.aX (.const vS))]) (.seq (kO [kM 5 0,⟨⟨(some 6),none,(kC 123 [(.const (.string ⟨⟨[60]⟩⟩))])⟩,[]⟩,kM 7 1,⟨⟨(some 8),none,(.dV 155 3 [vS,vS,vS] [⟨0,⟨1,5⟩⟩,⟨1,⟨1,6⟩⟩,⟨2,⟨1,7⟩⟩])⟩,[]⟩,kS 9 (kC 122 [8]),kS 4 (.aX 9)]) .ret))⟩
theorem ab7:jD Tryz.prog 127=some Q6:=by kernel_rfl
def lK:List ByteArray:=[⟨⟨[40]⟩⟩,⟨⟨[41]⟩⟩,⟨⟨[43]⟩⟩,⟨⟨[45]⟩⟩,⟨⟨[42]⟩⟩,⟨⟨[47]⟩⟩,⟨⟨[44]⟩⟩,⟨⟨[60]⟩⟩]
def ru:List ByteArray:=[⟨⟨[105,102]⟩⟩,⟨⟨[116,104,101,110]⟩⟩,⟨⟨[101,108,115,101]⟩⟩,⟨⟨[109,105,110]⟩⟩,⟨⟨[109,97,120]⟩⟩]++kv
def p9(t:Tok):Prop:=(∃s∈lK,t=fA s)\/(∃s∈ru,t=jf s)\/∃n,0<=n/\n<=1048576/\t=⟨2,⟨⟨[]⟩⟩,n,0⟩
theorem um{s:ByteArray}(h:s∈lK):p9 (fA s):=.inl ⟨s,h,rfl⟩
theorem BS{s:ByteArray}(h:s∈ru):p9 (jf s):=.inr (.inl ⟨s,h,rfl⟩)
structure kX(ts:List Tok):Prop where
 ok:∀t∈ts,p9 t
 pos:0<ts.length
theorem ng{t:Tok}{ts:List Tok}(h:p9 t)(k:∀x∈ts,p9 x):∀x∈t::ts,p9 x:=λx hx=>by
 cases hx with
 |head=>exact h
 |tail _ hx=>exact k x hx
theorem vR{xs ts:List Tok}(h:∀x∈xs,p9 x)(k:∀x∈ts,p9 x):∀x∈xs++ts,p9 x:=λx hx=>(fI.1 hx).elim (h x) (k x)
theorem BU:∀x∈([]:List Tok),p9 x:=λx hx=>by cases hx
abbrev FM:Type:=Value×List Tok
theorem FN{b:Nat}{s:ByteArray}{va vb:Value}{xs ys:List Tok}(hs:s∈lK)(hx:kX xs)(hy:kX ys)(hxl:xs.length<=2048)(hyl:ys.length<=2048):
 aT Tryz.prog (.func 121) [va,vb] [ptr' b] [] [bU b 0 [.string s],ae dD va xs,ae dD vb ys] (λy:FM=>y.1) (λ_=>[]) (λy=>[ae dD y.1 y.2]) (λy=>kX y.2/\y.2.length<=xs.length+ys.length+4):=by
 refine aV Q4 ab5 λB w0=>?_;refine eU (E:=dD) (v:=va) (xs:=xs) (by simp) λa1 c1 f1=>?_;subst f1;refine eU (E:=dD) (v:=vb) (xs:=ys) (by simp) λa2 c2 f2=>?_;subst f2;refine go ?_;refine aG (ul (s:=⟨⟨[40]⟩⟩)) (next:=λv1 _=>?_);refine go ?_;refine aG (ul (s:=s)) (next:=λv2 _=>?_);refine go ?_;refine aG (ul (s:=⟨⟨[41]⟩⟩)) (next:=λv3 _=>?_);refine go ?_;intro b2;refine FJ (b:=b2) (m:=5) (ls:=[[fA ⟨⟨[40]⟩⟩],xs,[fA s],ys,[fA ⟨⟨[41]⟩⟩]]) [([fA ⟨⟨[40]⟩⟩],.slice (some ⟨v1,0,some 0⟩) 1 1),(xs,.slice a1 xs.length c1),([fA s],.slice (some ⟨v2,0,some 0⟩) 1 1),(ys,.slice a2 ys.length c2),([fA ⟨⟨[41]⟩⟩],.slice (some ⟨v3,0,some 0⟩) 1 1)] ?_;have hxp:=hx.pos;have hyp:=hy.pos;refine aG (FK (ls:=[[fA ⟨⟨[40]⟩⟩],xs,[fA s],ys,[fA ⟨⟨[41]⟩⟩]]) (by simp) (by simp[fU];omega) (by simp[fU];omega)) (next:=λv4 _=>?_);refine go ?_;refine aj (v4,[[fA ⟨⟨[40]⟩⟩],xs,[fA s],ys,[fA ⟨⟨[41]⟩⟩]].flatten) (hv:=rfl) (hp:=⟨⟨?_,by simp⟩,by simp;omega⟩);simp only[rG,xX,fC,dw,fJ];exact ng (um (by simp[lK])) (vR hx.ok (ng (um hs) (vR hy.ok (ng (um (by simp[lK])) BU))))
theorem Q7{b:Nat}{s:ByteArray}{va vb:Value}{xs ys:List Tok}(hs:s∈ru)(hx:kX xs)(hy:kX ys)(hxl:xs.length<=2048)(hyl:ys.length<=2048):
 aT Tryz.prog (.func 125) [va,vb] [ptr' b] [] [bU b 0 [.string s],ae dD va xs,ae dD vb ys] (λy:FM=>y.1) (λ_=>[]) (λy=>[ae dD y.1 y.2]) (λy=>kX y.2/\y.2.length<=xs.length+ys.length+4):=by
 refine aV Q5 ab6 λB w0=>?_;refine eU (E:=dD) (v:=va) (xs:=xs) (by simp) λa1 c1 f1=>?_;subst f1;refine eU (E:=dD) (v:=vb) (xs:=ys) (by simp) λa2 c2 f2=>?_;subst f2;refine go ?_;refine aG (BQ (s:=s)) (next:=λv1 _=>?_);refine go ?_;refine aG (ul (s:=⟨⟨[40]⟩⟩)) (next:=λv2 _=>?_);refine go ?_;refine aG (ul (s:=⟨⟨[44]⟩⟩)) (next:=λv3 _=>?_);refine go ?_;refine aG (ul (s:=⟨⟨[41]⟩⟩)) (next:=λv4 _=>?_);refine go ?_;intro b2;refine FJ (b:=b2) (m:=6) (ls:=[[jf s],[fA ⟨⟨[40]⟩⟩],xs,[fA ⟨⟨[44]⟩⟩],ys,[fA ⟨⟨[41]⟩⟩]]) [([jf s],.slice (some ⟨v1,0,some 0⟩) 1 1),([fA ⟨⟨[40]⟩⟩],.slice (some ⟨v2,0,some 0⟩) 1 1),(xs,.slice a1 xs.length c1),([fA ⟨⟨[44]⟩⟩],.slice (some ⟨v3,0,some 0⟩) 1 1),(ys,.slice a2 ys.length c2),([fA ⟨⟨[41]⟩⟩],.slice (some ⟨v4,0,some 0⟩) 1 1)] ?_;have hxp:=hx.pos;have hyp:=hy.pos;refine aG (FK (ls:=[[jf s],[fA ⟨⟨[40]⟩⟩],xs,[fA ⟨⟨[44]⟩⟩],ys,[fA ⟨⟨[41]⟩⟩]]) (by simp) (by simp[fU];omega) (by simp[fU];omega)) (next:=λv5 _=>?_);refine go ?_;refine aj (v5,[[jf s],[fA ⟨⟨[40]⟩⟩],xs,[fA ⟨⟨[44]⟩⟩],ys,[fA ⟨⟨[41]⟩⟩]].flatten) (hv:=rfl) (hp:=⟨⟨?_,by simp⟩,by simp;omega⟩);simp only[rG,xX,fC,dw,fJ];exact ng (BS hs) (ng (um (by simp[lK])) (vR hx.ok (ng (um (by simp[lK])) (vR hy.ok (ng (um (by simp[lK])) BU)))))
theorem ab8{va vb:Value}{xs ys:List Tok}(hx:kX xs)(hy:kX ys)(hxl:xs.length<=2048)(hyl:ys.length<=2048):
 aT Tryz.prog (.func 127) [va,vb] [] [] [ae dD va xs,ae dD vb ys] (λy:FM=>y.1) (λ_=>[]) (λy=>[ae dD y.1 y.2]) (λy=>kX y.2/\y.2.length<=xs.length+ys.length+4):=by
 refine aV Q6 ab7 λB w0=>?_;refine eU (E:=dD) (v:=va) (xs:=xs) (by simp) λa1 c1 f1=>?_;subst f1;refine eU (E:=dD) (v:=vb) (xs:=ys) (by simp) λa2 c2 f2=>?_;subst f2;refine go ?_;refine aG (ul (s:=⟨⟨[60]⟩⟩)) (next:=λv1 _=>?_);refine go ?_;intro b2;refine FJ (b:=b2) (m:=3) (ls:=[xs,[fA ⟨⟨[60]⟩⟩],ys]) [(xs,.slice a1 xs.length c1),([fA ⟨⟨[60]⟩⟩],.slice (some ⟨v1,0,some 0⟩) 1 1),(ys,.slice a2 ys.length c2)] ?_;have hxp:=hx.pos;have hyp:=hy.pos;refine aG (FK (ls:=[xs,[fA ⟨⟨[60]⟩⟩],ys]) (by simp) (by simp[fU];omega) (by simp[fU];omega)) (next:=λv5 _=>?_);refine go ?_;refine aj (v5,[xs,[fA ⟨⟨[60]⟩⟩],ys].flatten) (hv:=rfl) (hp:=⟨⟨?_,by simp;omega⟩,by simp;omega⟩);simp only[rG,xX,fC,dw,fJ];exact vR hx.ok (ng (um (by simp[lK])) hy.ok)
theorem FO{s:ByteArray}:aT Tryz.prog (.func 120) [.string s] [] [] [] (λb:Nat=>.func (.func 121) ⟨[]⟩ ⟨[ptr' b]⟩) (λ_=>[]) (λb=>[bU b 0 [.string s]]) (λ_=>True):=by
 refine aV _ (bB 120) λB w0=>?_;refine go ?_;intro b;refine go ?_;refine cu (fT (b:=b)) (h:=?_);exact aj b (hv:=rfl) (hp:=trivial)
theorem Q8{s:ByteArray}:aT Tryz.prog (.func 124) [.string s] [] [] [] (λb:Nat=>.func (.func 125) ⟨[]⟩ ⟨[ptr' b]⟩) (λ_=>[]) (λb=>[bU b 0 [.string s]]) (λ_=>True):=by
 refine aV _ (bB 124) λB w0=>?_;refine go ?_;intro b;refine go ?_;refine cu (fT (b:=b)) (h:=?_);exact aj b (hv:=rfl) (hp:=trivial)
def bP:Enc (List Tok×Bool):=⟨2,Value,λx v=>[v,.bool x.2],λx v=>[ae dD v x.1],λ_ _=>rfl⟩
abbrev l7:Type:=(List Tok×Bool)×bP.Y
theorem ab9{tv:Value}{c:Bool}(hv:cellsOf tv=some [tv]):ik Tryz.prog 130 [.agg ⟨[tv,.bool c]⟩] [] (.bool c):=by
 refine aV _ (bB 130) λB w0=>?_;refine go ?_;intro b;refine go ?_;exact aj () (hv:=rfl) (hp:=trivial)
theorem acd{b o f c:Nat}{cs:List Value}{bs:List Bool}(hf:f=0\/f=2)(hl:bs.length<=1000000)(hcs:∀(k:Nat) x,bs[k]? =some x->∃tv,cellsOf tv=some [tv]/\cs[o+k*2]? =some tv/\cs[o+k*2+1]? =some (.bool x)):
 aT Tryz.prog (.func 140) [.slice (some ⟨b,o,some f⟩) bs.length c,.func (.func 130) ⟨[]⟩ ⟨[]⟩] [] [pt b (.cells cs)] [] (λr:Int=>.int .i64 r) (λ_=>[pt b (.cells cs)]) (λ_=>[]) (λr=>(0<=r↔true∈bs)):=by
 refine aV _ (bB 140) λB w0=>?_;refine go ?_;refine dQ (λk=>bs.length - k) (λk:Nat=>[(8,.int .i64 (k:Int))]) (λ_=>[]) (λ_=>[]) (λk=>k<=bs.length/\true∉bs.take k) 0 ⟨by omega,by simp⟩ (body:=?_);rintro k ⟨hk,hno⟩;refine go ?_;refine aM rfl (λh1=>?_) (λh1=>?_)
 ·have hx:bs[k]? =some (bs[k]'(by omega)):=bH _;generalize bs[k]'(by omega)=x at hx;obtain⟨tv,t1,t2,t3⟩:=hcs k x hx;refine go ?_;refine(IY (c:=[tv,.bool x]) rfl rfl rfl .here ?_).h ?_
  ·have hlt:=(dU.1 t3).1;rw[jE,jF,if_pos (by rw[iY];omega)];congr 1;apply jX;intro j;rw[qd,iV];match j with
   |0=>rw[if_pos (by omega)];exact t2
   |1=>rw[if_pos (by omega)];exact t3
   |j+2=>rw[if_neg (by omega)];rfl
  refine go ?_;refine aG (ab9 (tv:=tv) (c:=x) t1) (next:=λ_ _=>?_);refine go ?_;refine jO rfl (λh2=>?_) (λh2=>?_)
  ·refine go ?_;refine aj (k:Int) (hv:=rfl) (hp:=?_);have:true∈bs:=h2▸dA hx;simp[this]
  ·refine go ?_;refine aY (k+1) (by omega) ⟨by omega,?_⟩;rw[fG hx,fI,h2];simp[hno]
 refine go ?_;have:k=bs.length:=by omega
 subst this;rw[iB]at hno;refine aj (-1) (hv:=rfl) (hp:=?_);simp[hno]
theorem ace{b o f c:Nat}{cs:List Value}{bs:List Bool}(hf:f=0\/f=2)(hl:bs.length<=1000000)(hcs:∀(k:Nat) x,bs[k]? =some x->∃tv,cellsOf tv=some [tv]/\cs[o+k*2]? =some tv/\cs[o+k*2+1]? =some (.bool x)):
 aT Tryz.prog (.func 129) [.slice (some ⟨b,o,some f⟩) bs.length c,.func (.func 130) ⟨[]⟩ ⟨[]⟩] [] [pt b (.cells cs)] [] (λ_:Unit=>.bool (decide (true∈bs))) (λ_=>[pt b (.cells cs)]) (λ_=>[]) (λ_=>True):=by
 refine aV _ (bB 129) λB w0=>?_;refine go ?_;refine aG (acd hf hl hcs) (next:=λr hr=>?_);refine go ?_;refine aj () (hv:=?_) (hp:=trivial);show Value.bool (decide (0<=r))=_;rw[xW.2 hr]
def uo(fl:List Bool):Prop:=2<=fl.length/\fl[fl.length - 2]? =some false/\fl[fl.length - 1]? =some false
instance (fl:List Bool):Decidable (uo fl):=by unfold uo;infer_instance
def ni(L:List l7):List Bool:=L.map λp=>p.1.2
theorem oH(L:List l7):(ni L).length=L.length:=by unfold ni;rw[bI]
theorem Kk{L:List l7}{k:Nat}{p:l7}(h:L[k]? =some p):(ni L)[k]? =some p.1.2:=by unfold ni;rw[cK,h];rfl
theorem Q9{bL:Nat}{v:Value}{L:List l7}(hL:L.length<=1000000)(hv:∀p∈L,∃a n c,p.2=Value.slice a n c):
 aT Tryz.prog (.func 128) [.int .i64 2] [ptr' bL] [pt bL (.cells [v]),sk bP v L] [] (λ_:Unit=>.bool (decide (uo (ni L)))) (λ_=>[pt bL (.cells [v]),sk bP v L]) (λ_=>[]) (λ_=>True):=by
 refine aV _ (bB 128) λB w0=>?_;refine go ?_;refine BC bP (v:=v) (aa:=L) ?_;refine go ?_;refine gG (λh1=>?_) (λh1=>?_)
 ·refine go ?_;refine aj () (hv:=?_) (hp:=trivial);rw[gq (λh:uo (ni L)=>by have:=h.1;rw[oH]at this;omega)];rfl
 refine go ?_;refine BC bP (v:=v) (aa:=L) ?_;refine go ?_;refine xm bP (v:=v) (aa:=L) (by omega) λb f c r hf hr hc e=>?_;subst e;refine(bV rfl rfl (EX (lo:=L.length - 2) (hi:=L.length) rfl hf (by decide) (.inr ⟨_,rfl,by show Value.int .i64 _=_;congr 1;omega⟩) (.inl ⟨rfl,rfl⟩) (by omega) (by omega))).h ?_;have hp1:L[L.length - 2]? =some (L[L.length - 2]'(by omega)):=bH _;have hp2:L[L.length - 1]? =some (L[L.length - 1]'(by omega)):=bH _;generalize L[L.length - 2]'(by omega)=p1 at hp1;generalize L[L.length - 1]'(by omega)=p2 at hp2;have hs1:cellsOf p1.2=some [p1.2]:=by obtain⟨a,n,c,h⟩:=hv p1 (dA hp1);rw[h];rfl
 have hs2:cellsOf p2.2=some [p2.2]:=by obtain⟨a,n,c,h⟩:=hv p2 (dA hp2);rw[h];rfl
 rw[show L.length - (L.length - 2)=[p1.1.2,p2.1.2].length by simp;omega];refine aG (ace (bs:=[p1.1.2,p2.1.2]) (o:=0+(L.length - 2)*2) (b:=b) (cs:=aK bP L++r) hf (by simp) (λk x hx=>?_)) (next:=λ_ _=>?_)
 ·match k,hx with
  |0,hx=>
   cases hx;exact⟨p1.2,hs1,pV (E:=bP) (j:=0) hp1 rfl (by show _=(L.length - 2)*2+0;omega),pV (E:=bP) (j:=1) hp1 rfl (by show _=(L.length - 2)*2+1;omega)⟩
  |1,hx=>
   cases hx;exact⟨p2.2,hs2,pV (E:=bP) (j:=0) hp2 rfl (by show _=(L.length - 1)*2+0;omega),pV (E:=bP) (j:=1) hp2 rfl (by show _=(L.length - 1)*2+1;omega)⟩
 refine go ?_;refine Jt bP (aa:=L) (b:=b) (f:=f) (c:=c) (m:=L.length) (r:=r) rfl hf hr hc ?_;refine aj () (hv:=?_) (hp:=trivial);show Value.bool (!decide (true∈[p1.1.2,p2.1.2]))=Value.bool (decide (uo (ni L)));congr 1;have e1:=Kk hp1;have e2:=Kk hp2;have hl:=oH L;rw[<- hl]at e1 e2;have:uo (ni L)↔¬true∈[p1.1.2,p2.1.2]:=by
  unfold uo;rw[e1,e2];cases p1.1.2<;>cases p2.1.2<;>simp[hl]<;>omega
 by_cases hh:true∈[p1.1.2,p2.1.2]
 ·rw[fK hh,gq (λk=>this.1 k hh)];rfl
 ·rw[gq hh,fK (this.2 hh)];rfl
