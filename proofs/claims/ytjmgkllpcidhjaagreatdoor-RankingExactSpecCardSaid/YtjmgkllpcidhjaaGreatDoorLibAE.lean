/-
  slices.IndexFunc, slices.ContainsFunc over numbers.
-/
import Derived.Test.YtjmgkllpcidhjaaGreatDoorIdealQE
import Derived.Test.YtjmgkllpcidhjaaGreatDoorPlainAE
import Derived.Test.YtjmgkllpcidhjaaGreatDoorProg
set_option linter.all false
set_option maxRecDepth 10000
set_option maxHeartbeats 2000000
namespace Go.Proofs.YtjmgkllpcidhjaaGreatDoor
open Go.Ideal Rk
abbrev Bb(P:Program)(fn:Fn)(first cap:List Value)(v:Value)(F:List aH)(b:Bool):Prop:=bJ P fn (first++[v]) cap [] F (λ_:Unit=>.bool b) (λ_=>[]) (λ_=>[]) (λ_=>True)
theorem Uz{fn:Fn}{first cap:List Value}{F1:List aH}{p:Int->Bool}{va:Value}{xs:List Int}(hl:xs.length<9223372036854775808)(hp:∀x∈xs,Bb Tryz.prog fn first cap (.int .i64 x) F1 (p x)):
 bJ Tryz.prog (.func 83) [va,.func fn ⟨first⟩ ⟨cap⟩] [] [] (ah au va xs::F1) (λr:Int=>.int .i64 r) (λ_=>[]) (λ_=>[]) (λr=>(0<=r↔xs.any p=true)):=by
 refine bq _ (bP 83) λB w0=>?_;refine go ?_;refine dZ (λk=>xs.length - k) (λk:Nat=>[(8,.int .i64 (k:Int))]) (λ_=>[]) (λ_=>[]) (λk=>k<=xs.length/\(xs.take k).any p=false) 0 ⟨by omega,by simp⟩ (body:=?_);rintro k ⟨hk,hno⟩;refine go ?_;refine aJ rfl (λh1=>?_) (λh1=>?_)
 ·refine go ?_;intro _ _ x hx;refine aF (hp x (dG hx)) (next:=λ_ _=>?_);refine go ?_;refine jr rfl (λh2=>?_) (λh2=>?_)
  ·refine go ?_;refine av (k:Int) (hv:=rfl) (hp:=?_);have:xs.any p=true:=List.any_eq_true.2 ⟨x,dG hx,h2⟩;simp[this]
  ·refine go ?_;refine bC (k+1) (by omega) ⟨by omega,?_⟩;rw[eT hx,List.any_append,hno];simp[h2]
 refine go ?_;have:k=xs.length:=by omega
 subst this;rw[jc]at hno;refine av (-1) (hv:=rfl) (hp:=?_);rw[hno];simp
theorem KV{fn:Fn}{first cap:List Value}{F1:List aH}{p:Int->Bool}{va:Value}{xs:List Int}(hl:xs.length<9223372036854775808)(hp:∀x∈xs,Bb Tryz.prog fn first cap (.int .i64 x) F1 (p x)):
 bJ Tryz.prog (.func 57) [va,.func fn ⟨first⟩ ⟨cap⟩] [] [] (ah au va xs::F1) (λ_:Unit=>.bool (xs.any p)) (λ_=>[]) (λ_=>[]) (λ_=>True):=by
 refine bq _ (bP 57) λB w0=>?_;refine go ?_;refine aF (Uz hl hp) (next:=λr hr=>?_);refine go ?_;refine av () (hv:=?_) (hp:=trivial);have:decide (0<=r)=xs.any p:=by
  by_cases h:0<=r
  ·rw[gL h,hr.1 h]
  ·rw[jS h];cases e:xs.any p with
   |false=>rfl
   |true=>exact absurd (hr.2 e) h
 rw[<- this];rfl
theorem vQ{P:Program}{ρ:Operand->Value}{x:Operand}{a:Int}(hx:ρ x=.int .i64 a)(h1: -9223372036854775808<= -a)(h2: -a<9223372036854775808):Pu P ρ (.un .neg x) (.int .i64 (-a)):=λh=>by
 have h3:dQ P (Op.unary .neg (.int .i64 a))=some (.int .i64 (-a)):=by
  show some (Value.int .i64 (IntKind.i64.wrap (0 - a)))=_;rw[Int.zero_sub,wrap64 h1 h2]
 simp only[ae.run,hx,jd,h3];rfl
theorem Bc{a b:Int}{n:Nat}(h:a.natAbs<=n): -(n:Int)<=a.tdiv b/\a.tdiv b<=n:=by
 have hq:(a.tdiv b).natAbs<=a.natAbs:=by rw[Int.natAbs_tdiv];exact Nat.div_le_self _ _
 omega
abbrev pz(st:List Int):List (Int×au.Y):=st.map λx=>(x,())
abbrev Bd(v:Value)(st:List Int):OA:=sk au v (pz st)
theorem Be(st:List Int)(k:Nat):(pz st).take k=pz (st.take k):=by unfold pz;rw[List.map_take]
theorem oq(a b:List Int):pz a++pz b=pz (a++b):=by unfold pz;rw[ic]
theorem rF(st:List Int):(pz st).length=st.length:=dw ..
theorem vR{st:List Int}{k:Nat}{x:Int}(h:st[k]? =some x):(pz st)[k]? =some (x,()):=by unfold pz;rw[bT,h];rfl
theorem j3{st:List Int}{k:Nat}(h:k<st.length):st[k]? =some (st.getD k 0):=by rw[si,bO h];rfl
theorem UA{st:List Int}{n:Nat}(h:st.length=n+2):st=st.take n++[st.getD n 0]++[st.getD (n+1) 0]:=by
 rw[<- eT (j3 (by omega)),<- eT (j3 (by omega)),oJ (by omega)]
theorem UB{st:List Int}{n:Nat}(h:st.length=n+3):st=st.take n++[st.getD n 0]++[st.getD (n+1) 0]++[st.getD (n+2) 0]:=by
 rw[<- eT (j3 (by omega)),<- eT (j3 (by omega)),<- eT (j3 (by omega)),oJ (by omega)]
noncomputable def KW:dS:=⟨27,[(.tmp 4)],(.seq (kO [kS 4 (.aN (.const vS))]) (.seq (.seq (kO [kM 5 1,kS 6 (.bin .lss 3 5 (kI 0))]) (.cond 6 (kO [⟨⟨(some 7),none,(.iface 9 (.const (.string ⟨⟨[99,97,110,110,111,116,32,98,101,32,110,101,103,97,116,105,118,101]⟩⟩)))⟩,[]⟩,kN (.panic 7)]) .skip)) (.seq (.seq (kO [kM 8 1,kM 9 0,kS 10 (.wy 9),kM 11 0,kS 12 (.gp 11),kS 13 (.bin .sub 3 10 12),kS 14 (.bin .sub 3 8 13),kS 1 (.aN 14)]) (.seq (kO [kM 15 1,kS 16 (.bin .gtr 3 15 (kI 0))]) (.cond 16 (kO [kM 17 0,kM 18 0,kS 19 (.wy 18),kS 20 (.kr 4 17 none (some 19) none),kM 21 1,⟨⟨(some 22),none,(.uu 135 4 40 [vI,vE,vI,vI] 20 21)⟩,[]⟩,kM 23 0,kS 24 (.gp 23),kS 25 (.kr 4 22 none (some 24) none),kS 0 (.aN 25)]) .skip))) (.seq (kO [kM 26 0,kS 4 (.aN 26)]) .ret))))⟩
theorem UC:iN Tryz.prog 123=some KW:=by kernel_rfl
noncomputable def KX:dS:=⟨36,[(.tmp 2)],(.seq (kO [kS 2 (.aN (.const vS))]) (.seq (kO [kS 3 (.aN (kI 0))]) (.seq (.seq (kO [kM 9 0,kS 10 (.gp 9),kS 11 (.mv (kI 0))]) (.block 0 (.loop (.seq (kO [kS 12 (.bin .lss 3 11 10)]) (.seq (.cond 12 .skip (.exit 0)) (.seq (.block 1 (.seq (kO [kS 13 (.dM 1 9 11),kS 14 (.aB 13),kS 5 (.aN 14)]) (.seq (kO [kM 15 3,kM 16 5,kS 17 (.gp 16),kS 18 (.bin .add 3 15 17),kS 3 (.aN 18)]) (.seq (kO [kM 19 3,kS 20 (.bin .lss 3 19 (kI 0))]) (.cond 20 (kO [⟨⟨(some 21),none,(.iface 9 (.const (.string ⟨⟨[108,101,110,32,111,117,116,32,111,102,32,114,97,110,103,101]⟩⟩)))⟩,[]⟩,kN (.panic 21)]) .skip))))) (kO [kS 22 (.bin .add 3 11 (kI 1)),kM 11 22]))))))) (.seq (kO [kM 23 3,kS 24 (kC 123 [(.const vS),23]),kS 6 (.aN 24)]) (.seq (.seq (kO [kM 25 0,kS 26 (.gp 25),kS 27 (.mv (kI 0))]) (.block 2 (.loop (.seq (kO [kS 28 (.bin .lss 3 27 26)]) (.seq (.cond 28 .skip (.exit 2)) (.seq (.block 3 (.seq (kO [kS 29 (.dM 1 25 27),kS 30 (.aB 29),kS 8 (.aN 30)]) (kO [kM 31 6,kM 32 8,kS 33 (.append 135 4 40 31 32),kS 6 (.aN 33)]))) (kO [kS 34 (.bin .add 3 27 (kI 1)),kM 27 34]))))))) (.seq (kO [kM 35 6,kS 2 (.aN 35)]) .ret))))))⟩
theorem UD:iN Tryz.prog 102=some KX:=by kernel_rfl
noncomputable def KY:dS:=⟨2,[(.tmp 0)],(.seq (kO [kS 0 (.aN (.const vS))]) (.seq (kO [⟨⟨(some 1),none,(.cu 9 5 [vE,vE,vE,vE,vE] [⟨0,⟨1,(.const (.string ⟨⟨[112,108,97,99,101]⟩⟩))⟩⟩,⟨1,⟨1,(.const (.string ⟨⟨[115,111,108,118,101,114,115]⟩⟩))⟩⟩,⟨2,⟨1,(.const (.string ⟨⟨[108,101,118,101,108]⟩⟩))⟩⟩,⟨3,⟨1,(.const (.string ⟨⟨[99,108,117,101,115]⟩⟩))⟩⟩,⟨4,⟨1,(.const (.string ⟨⟨[116,114,105,101,115]⟩⟩))⟩⟩])⟩,[]⟩,kS 0 (.aN 1)]) .ret))⟩
theorem UE:iN Tryz.prog 69=some KY:=by kernel_rfl
structure Tok where
 k:Int
 s:ByteArray
 n:Int
 at_:Int
def bQ:Enc Tok:=⟨4,Unit,λx _=>[.int .i64 x.k,.string x.s,.int .i64 x.n,.int .i64 x.at_],λ_ _=>[],λ_ _=>rfl⟩
abbrev Bf:List Value:=[.int .i64 0,.string ⟨⟨[]⟩⟩,.int .i64 0,.int .i64 0]
def dF(s:ByteArray):Tok:=⟨3,s,0,0⟩
def gK(s:ByteArray):Tok:=⟨1,s,0,0⟩
inductive rG(F:List aH):List (List Tok×Value)->Prop
 |nil:rG F []
 |cons {l:List Tok} {v:Value} {ps:List (List Tok×Value)} (h:ah bQ v l∈F) (t:rG F ps):rG F ((l,v)::ps)
theorem rG.get{F:List aH}{ps:List (List Tok×Value)}(h:rG F ps):∀p∈ps,ah bQ p.2 p.1∈F:=by
 induction h with
 |nil=>intro p hp;cases hp
 |cons h _ ih=>
  intro p hp;cases hp with
  |head=>exact h
  |tail _ hp=>exact ih p hp
theorem UF{w:Wd}{b m:Nat}{ps:List (List Tok×Value)}(hm:m=ps.length)(h:(dK b 0 (ps.map (·.2))).p w)(h0:0<ps.length)(he:∀p∈ps,(ah bQ p.2 p.1).p w):(ah (dV bQ) (.slice (some ⟨b,0,some 0⟩) m m) (ps.map (·.1))).p w:=by
 subst hm;obtain⟨cells,h1,h2⟩:=h;refine .inr ⟨b,0,0,ps.length,cells,⟨by rw[dw],by rw[dw];exact az _,.inl rfl⟩,h1,λk x hx=>?_⟩;rw[bT]at hx;cases e:ps[k]? with
 |none=>rw[e]at hx;cases hx
 |some p=>
  rw[e]at hx;cases hx;refine⟨p.2,λj u hj=>?_,λf hf=>?_⟩
  ·match j,hj with
   |0,hj=>
    cases hj;rw[show 0+k*(dV bQ).n+0=0+k by show 0+k*1+0=_;omega];exact h2 k p.2 (by rw[bT,e];rfl)
  ·rw[dH.1 hf];exact he p (dG e)
theorem Bg{B:List Nat}{w0:Wd}{kl kl':List OA}{F:List aH}{Q:IH->Prop}{b m:Nat}(ps:List (List Tok×Value)){ls:List (List Tok)}(next:R Q B w0 kl' (ah (dV bQ) (.slice (some ⟨b,0,some 0⟩) m m) ls::F))
 (hls:ps.map (·.1)=ls:=by rfl) (hm:m=ps.length:=by rfl) (h0:0<ps.length:=by exact Nat.succ_pos _) (hF:rG F ps:=by repeat (first|exact rG.nil|(apply rG.cons;(focus (repeat (first|with_reducible exact aT .. |with_reducible apply bB)))))) (hk:ak (pt b (.cells (ps.map (·.2)))) kl kl':=by repeat (first|exact ak.here|apply ak.there)):R Q B w0 kl F:=by
 subst hls;refine dB (kL (b:=b) (cs:=ps.map (·.2))) hk (h:=?_);refine bM (ah (dV bQ) (.slice (some ⟨b,0,some 0⟩) m m) (ps.map (·.1))) (λw hw=>UF hm (hw _ (aT ..)) h0 λp hp=>hw _ (bB _ (hF.get p hp))) ?_;refine λw s=>next w (s.sub ?_)
 exact .cons (aT ..) (gJ.sub (.cons (.cons .here)))
theorem UG{m:Nat}(h0:0<m)(hm:m<=8192):bJ Tryz.prog (.func 123) [.slice none 0 0,.int .i64 (m:Int)] [] [] [] (λb:Nat=>.slice (some ⟨b,0,some 4⟩) 0 m) (λb=>[pt b (.cells (zeros Bf m))]) (λ_=>[]) (λ_=>True):=by
 refine bq KW UC λB w0=>?_;refine go ?_;refine(bY rfl rfl (Jw rfl)).h ?_;refine go ?_;refine aJ rfl (λh1=>?_) (λh1=>?_)
 rotate_left
 ·omega
 refine go ?_;refine(bY rfl rfl (Jw rfl)).h ?_;refine(bY rfl rfl (Jv rfl rfl)).h ?_;refine go ?_;refine Sr m h0 ⟨by omega,by omega,by omega⟩ (next:=λb=>?_) (hx:=by show Value.int .i64 _=Value.int .i64 _;congr 1);refine go ?_;refine(bY rfl rfl (Sv (k:=3) rfl rfl)).h ?_;refine go ?_;exact av b (hv:=rfl) (hp:=trivial)
def eB(ls:List (List Tok)):Nat:=(ls.map List.length).sum
theorem KZ{ls:List (List Tok)}{k:Nat}{l:List Tok}(h:ls[k]? =some l):eB (ls.take (k+1))=eB (ls.take k)+l.length:=by
 unfold eB;rw[eT h,ic,zf];simp
theorem K3{ls:List (List Tok)}(k:Nat):eB (ls.take k)<=eB ls:=by
 have:eB ls=eB (ls.take k)+eB (ls.drop k):=by
  unfold eB;rw[<- zf,<- ic,rZ]
 omega
theorem UH(ls:List (List Tok)):ls.flatten.length=eB ls:=by unfold eB;rw[List.length_flatten]
theorem UI{ls:List (List Tok)}{k:Nat}{l:List Tok}(h:ls[k]? =some l):(ls.take (k+1)).flatten=(ls.take k).flatten++l:=by
 rw[eT h,List.flatten_append];simp
theorem Bh{va:Value}{ls:List (List Tok)}(hn:ls.length<=100)(h0:0<eB ls)(hm:eB ls<=8192):
 bJ Tryz.prog (.func 102) [va] [] [] [ah (dV bQ) va ls] (λv:Value=>v) (λ_=>[]) (λv=>[ah bQ v ls.flatten]) (λ_=>True):=by
 have hgn:bQ.n=4:=rfl;refine bq KX UD λB w0=>?_;refine go ?_;refine dZ (λk=>ls.length - k) (λk:Nat=>[(11,.int .i64 (k:Int)),(3,.int .i64 (eB (ls.take k):Int))]) (λ_=>[]) (λ_=>[]) (λk=>k<=ls.length) 0 (dz _) (body:=?_);intro k hk;refine go ?_;refine aJ rfl (λh1=>?_) (λh1=>?_)
 ·have hle:=K3 (ls:=ls) (k+1);refine go ?_;refine dh (dV bQ) (k:=k) (next:=λb o x (y:Value) hx=>?_);have ht:=KZ hx;refine go ?_;rw[show((eB (ls.take k):Nat):Int)+(x.length:Int)=((eB (ls.take (k+1)):Nat):Int)by omega];refine go ?_;exact bC (k+1) (by omega) (by omega)
 have hkl:k=ls.length:=by omega
 subst hkl;rw[jc];refine go ?_;refine aF (UG h0 hm) (next:=λbg _=>?_);have hzl:=zeros_length Bf (eB ls);rw[show Bf.length=4 from rfl]at hzl;generalize hzz:zeros Bf (eB ls)=zs at hzl⊢;rw[show zs=aO bQ []++zs from rfl];refine go ?_;refine dZ (λy:Nat×List (Tok×bQ.Y)×List Value=>ls.length - y.1) (λy=>[(27,.int .i64 (y.1:Int)),(6,.slice (some ⟨bg,0,some 4⟩) y.2.1.length (eB ls))]) (λy=>[pt bg (.cells (aO bQ y.2.1++y.2.2))]) (λ_=>[]) (λy=>y.1<=ls.length/\y.2.1.map (·.1)=(ls.take y.1).flatten/\y.2.1.length*4+y.2.2.length=eB ls*4) (0,[],zs) ⟨dz _,rfl,by simp;omega⟩ (body:=?_);rintro⟨k,aa,r⟩ ⟨hk,hxy,hr⟩;dsimp only at hk hxy hr⊢;have hxl:aa.length=eB (ls.take k):=by rw[<- UH,<- hxy,dw]
 refine go ?_;refine aJ rfl (λh1=>?_) (λh1=>?_)
 ·have hle:=K3 (ls:=ls) (k+1);refine go ?_;refine dh (dV bQ) (k:=k) (next:=λb o x (y:Value) hx=>?_);have ht:=KZ hx;refine go ?_;refine q9 bQ y (xs:=x) (λqb e1=>?_);refine go ?_;have hz1:qb.length=x.length:=by rw[<- e1,dw]
  refine Su (m:=aa.length) (f:=some 4) (cap:=eB ls) (b:=bg) bQ qb (aO bQ aa) r (by rw[pV]) (by rw[hgn];omega) (by omega) ⟨by omega,by omega,by omega⟩ ?_;rw[<- jb,<- x8,show aa.length+qb.length=(aa++qb).length by rw[fE]];refine go ?_;refine bC (k+1,aa++qb,r.drop (qb.length*bQ.n)) (by show ls.length - (k+1)<ls.length - k;omega) ⟨by show k+1<=_;omega,?_,?_⟩
  ·show(aa++qb).map (·.1)=(ls.take (k+1)).flatten;rw[UI hx,ic,hxy,e1]
  ·show(aa++qb).length*4+(r.drop (qb.length*bQ.n)).length=_;rw[fE,jQ,hgn];omega
 have hkl:k=ls.length:=by omega
 subst hkl;rw[jc]at hxy hxl;have hr0:r=[]:=nA.1 (by omega);subst hr0;rw[hxl,jR];refine Sn bQ (aa:=aa) (b:=bg) (f:=4) (m:=eB ls) hxl.symm (.inr rfl) ?_;refine Sm (E:=bQ) (v:=.slice (some ⟨bg,0,some 4⟩) (eB ls) (eB ls)) (aa:=aa) ?_ (λw h p hp f hf=>by cases hf);rw[hxy];refine go ?_;exact av (.slice (some ⟨bg,0,some 4⟩) (eB ls) (eB ls)) (hv:=rfl) (hp:=trivial)
theorem UJ{w:Wd}{b:Nat}{t:Tok}(h:(dK b 0 (bQ.pat t ())).p w):(ah bQ (.slice (some ⟨b,0,some 0⟩) 1 1) [t]).p w:=by
 obtain⟨cells,h1,h2⟩:=h;refine .inr ⟨b,0,0,1,cells,⟨rfl,az _,.inl rfl⟩,h1,λk x hx=>?_⟩;match k,hx with
 |0,hx=>
  cases hx;exact⟨(),λj u hj=>by rw[nG,oH];exact h2 j u hj,λf hf=>by cases hf⟩
theorem FB{B:List Nat}{w0:Wd}{kl kl':List OA}{F:List aH}{Q:IH->Prop}{b:Nat}(t:Tok)(next:R Q B w0 kl' (ah bQ (.slice (some ⟨b,0,some 0⟩) 1 1) [t]::F))
 (hk:ak (pt b (.cells (bQ.pat t ()))) kl kl':=by repeat (first|exact ak.here|apply ak.there)):R Q B w0 kl F:=by
 refine dB (kL (b:=b) (cs:=bQ.pat t ())) hk (h:=?_);refine bM (ah bQ (.slice (some ⟨b,0,some 0⟩) 1 1) [t]) (λw hw=>UJ (hw _ (aT ..))) ?_;exact λw s=>next w (s.sub (.cons (aT ..) (gJ.sub (.cons (.cons .here)))))
theorem qc{s:ByteArray}:bJ Tryz.prog (.func 103) [.string s] [] [] [] (λb:Nat=>.slice (some ⟨b,0,some 0⟩) 1 1) (λ_=>[]) (λb=>[ah bQ (.slice (some ⟨b,0,some 0⟩) 1 1) [dF s]]) (λ_=>True):=by
 refine bq _ (bP 103) λB w0=>?_;refine go ?_;intro b;refine go ?_;refine FB (b:=b) (dF s) ?_;exact av b (hv:=rfl) (hp:=trivial)
theorem yC{s:ByteArray}:bJ Tryz.prog (.func 106) [.string s] [] [] [] (λb:Nat=>.slice (some ⟨b,0,some 0⟩) 1 1) (λ_=>[]) (λb=>[ah bQ (.slice (some ⟨b,0,some 0⟩) 1 1) [gK s]]) (λ_=>True):=by
 refine bq _ (bP 106) λB w0=>?_;refine go ?_;intro b;refine go ?_;refine FB (b:=b) (gK s) ?_;exact av b (hv:=rfl) (hp:=trivial)
def iJ:List ByteArray:=[⟨⟨[112,108,97,99,101]⟩⟩,⟨⟨[115,111,108,118,101,114,115]⟩⟩,⟨⟨[108,101,118,101,108]⟩⟩,⟨⟨[99,108,117,101,115]⟩⟩,⟨⟨[116,114,105,101,115]⟩⟩]
theorem Bi{w:Wd}{b m:Nat}{ss:List ByteArray}(hm:m=ss.length)(h:(dK b 0 (ss.map .string)).p w)(h0:0<ss.length):(ah dA (.slice (some ⟨b,0,some 0⟩) m m) ss).p w:=by
 subst hm;obtain⟨cells,h1,h2⟩:=h;refine .inr ⟨b,0,0,ss.length,cells,⟨rfl,az _,.inl rfl⟩,h1,λk x hx=>⟨(),λj u hj=>?_,λf hf=>by cases hf⟩⟩;match j,hj with
 |0,hj=>
  cases hj;rw[show 0+k*dA.n+0=0+k by show 0+k*1+0=_;omega];exact h2 k _ (by rw[bT,hx];rfl)
theorem FC:bJ Tryz.prog (.func 69) [] [] [] [] (λb:Nat=>.slice (some ⟨b,0,some 0⟩) 5 5) (λ_=>[]) (λb=>[dK b 0 (iJ.map .string),ah dA (.slice (some ⟨b,0,some 0⟩) 5 5) iJ]) (λ_=>True):=by
 refine bq KY UE λB w0=>?_;refine go ?_;intro b;refine go ?_;refine dB (kL (b:=b) (cs:=iJ.map .string)) (hk:=.here) (h:=?_);refine bM (ah dA (.slice (some ⟨b,0,some 0⟩) 5 5) iJ) (λw hw=>Bi rfl (hw _ (aT ..)) (by decide)) ?_;exact av b (hv:=rfl) (hp:=trivial)
noncomputable def K4:dS:=⟨14,[(.tmp 5)],(.seq (kO [kS 5 (.aN (.const vS))]) (.seq (.ops [6,7,8,9,10,11,12,13,5] [kM 7 0,kS 8 (.aB 2),kM 10 1,⟨⟨(some 6),none,(kC 103 [(.const (.string ⟨⟨[40]⟩⟩))])⟩,[⟨(some 8),none,(.aB 2)⟩]⟩,kS 9 (kC 103 [8]),⟨⟨(some 11),none,(kC 103 [(.const (.string ⟨⟨[41]⟩⟩))])⟩,[]⟩,⟨⟨(some 12),none,(.cu 110 5 [vS,vS,vS,vS,vS] [⟨0,⟨1,6⟩⟩,⟨1,⟨1,7⟩⟩,⟨2,⟨1,9⟩⟩,⟨3,⟨1,10⟩⟩,⟨4,⟨1,11⟩⟩])⟩,[]⟩,kS 13 (kC 102 [12]),kS 5 (.aN 13)]) .ret))⟩
theorem UK:iN Tryz.prog 101=some K4:=by kernel_rfl
noncomputable def K5:dS:=⟨15,[(.tmp 5)],(.seq (kO [kS 5 (.aN (.const vS))]) (.seq (kO [kS 6 (.aB 2),kS 7 (kC 106 [6]),⟨⟨(some 8),none,(kC 103 [(.const (.string ⟨⟨[40]⟩⟩))])⟩,[]⟩,kM 9 0,⟨⟨(some 10),none,(kC 103 [(.const (.string ⟨⟨[44]⟩⟩))])⟩,[]⟩,kM 11 1,⟨⟨(some 12),none,(kC 103 [(.const (.string ⟨⟨[41]⟩⟩))])⟩,[]⟩,⟨⟨(some 13),none,(.cu 110 6 [vS,vS,vS,vS,vS,vS] [⟨0,⟨1,7⟩⟩,⟨1,⟨1,8⟩⟩,⟨2,⟨1,9⟩⟩,⟨3,⟨1,10⟩⟩,⟨4,⟨1,11⟩⟩,⟨5,⟨1,12⟩⟩])⟩,[]⟩,kS 14 (kC 102 [13]),kS 5 (.aN 14)]) .ret))⟩
theorem UL:iN Tryz.prog 105=some K5:=by kernel_rfl
noncomputable def K6:dS:=⟨10,[(.tmp 4)],(.seq (kO [kS 4 (.aN (.const vS))]) (.seq (kO [kM 5 0,⟨⟨(some 6),none,(kC 103 [(.const (.string ⟨⟨[60]⟩⟩))])⟩,[]⟩,kM 7 1,⟨⟨(some 8),none,(.cu 110 3 [vS,vS,vS] [⟨0,⟨1,5⟩⟩,⟨1,⟨1,6⟩⟩,⟨2,⟨1,7⟩⟩])⟩,[]⟩,kS 9 (kC 102 [8]),kS 4 (.aN 9)]) .ret))⟩
theorem UM:iN Tryz.prog 107=some K6:=by kernel_rfl
def jB:List ByteArray:=[⟨⟨[40]⟩⟩,⟨⟨[41]⟩⟩,⟨⟨[43]⟩⟩,⟨⟨[45]⟩⟩,⟨⟨[42]⟩⟩,⟨⟨[47]⟩⟩,⟨⟨[44]⟩⟩,⟨⟨[60]⟩⟩]
def ng:List ByteArray:=[⟨⟨[105,102]⟩⟩,⟨⟨[116,104,101,110]⟩⟩,⟨⟨[101,108,115,101]⟩⟩,⟨⟨[109,105,110]⟩⟩,⟨⟨[109,97,120]⟩⟩]++iJ
def mi(t:Tok):Prop:=(∃s∈jB,t=dF s)\/(∃s∈ng,t=gK s)\/∃n,0<=n/\n<=1048576/\t=⟨2,⟨⟨[]⟩⟩,n,0⟩
theorem qd{s:ByteArray}(h:s∈jB):mi (dF s):=.inl ⟨s,h,rfl⟩
theorem yD{s:ByteArray}(h:s∈ng):mi (gK s):=.inr (.inl ⟨s,h,rfl⟩)
structure iY(ts:List Tok):Prop where
 ok:∀t∈ts,mi t
 pos:0<ts.length
theorem j4{t:Tok}{ts:List Tok}(h:mi t)(k:∀x∈ts,mi x):∀x∈t::ts,mi x:=λx hx=>by
 cases hx with
 |head=>exact h
 |tail _ hx=>exact k x hx
theorem rH{xs ts:List Tok}(h:∀x∈xs,mi x)(k:∀x∈ts,mi x):∀x∈xs++ts,mi x:=λx hx=>(gZ.1 hx).elim (h x) (k x)
theorem yE:∀x∈([]:List Tok),mi x:=λx hx=>by cases hx
abbrev Bj:Type:=Value×List Tok
theorem Bl{b:Nat}{s:ByteArray}{va vb:Value}{xs ys:List Tok}(hs:s∈jB)(hx:iY xs)(hy:iY ys)(hxl:xs.length<=2048)(hyl:ys.length<=2048):
 bJ Tryz.prog (.func 101) [va,vb] [ptr' b] [] [dK b 0 [.string s],ah bQ va xs,ah bQ vb ys] (λy:Bj=>y.1) (λ_=>[]) (λy=>[ah bQ y.1 y.2]) (λy=>iY y.2/\y.2.length<=xs.length+ys.length+4):=by
 refine bq K4 UK λB w0=>?_;refine iT (E:=bQ) (v:=va) (xs:=xs) (by simp) λa1 c1 f1=>?_;subst f1;refine iT (E:=bQ) (v:=vb) (xs:=ys) (by simp) λa2 c2 f2=>?_;subst f2;refine go ?_;refine aF (qc (s:=⟨⟨[40]⟩⟩)) (next:=λv1 _=>?_);refine go ?_;refine aF (qc (s:=s)) (next:=λv2 _=>?_);refine go ?_;refine aF (qc (s:=⟨⟨[41]⟩⟩)) (next:=λv3 _=>?_);refine go ?_;intro b2;refine Bg (b:=b2) (m:=5) (ls:=[[dF ⟨⟨[40]⟩⟩],xs,[dF s],ys,[dF ⟨⟨[41]⟩⟩]]) [([dF ⟨⟨[40]⟩⟩],.slice (some ⟨v1,0,some 0⟩) 1 1),(xs,.slice a1 xs.length c1),([dF s],.slice (some ⟨v2,0,some 0⟩) 1 1),(ys,.slice a2 ys.length c2),([dF ⟨⟨[41]⟩⟩],.slice (some ⟨v3,0,some 0⟩) 1 1)] ?_;have hxp:=hx.pos;have hyp:=hy.pos;refine aF (Bh (ls:=[[dF ⟨⟨[40]⟩⟩],xs,[dF s],ys,[dF ⟨⟨[41]⟩⟩]]) (by simp) (by simp[eB];omega) (by simp[eB];omega)) (next:=λv4 _=>?_);refine go ?_;refine av (v4,[[dF ⟨⟨[40]⟩⟩],xs,[dF s],ys,[dF ⟨⟨[41]⟩⟩]].flatten) (hv:=rfl) (hp:=⟨⟨?_,by simp⟩,by simp;omega⟩);simp only[nE,uo,ul,iL,jR];exact j4 (qd (by simp[jB])) (rH hx.ok (j4 (qd hs) (rH hy.ok (j4 (qd (by simp[jB])) yE))))
theorem K7{b:Nat}{s:ByteArray}{va vb:Value}{xs ys:List Tok}(hs:s∈ng)(hx:iY xs)(hy:iY ys)(hxl:xs.length<=2048)(hyl:ys.length<=2048):
 bJ Tryz.prog (.func 105) [va,vb] [ptr' b] [] [dK b 0 [.string s],ah bQ va xs,ah bQ vb ys] (λy:Bj=>y.1) (λ_=>[]) (λy=>[ah bQ y.1 y.2]) (λy=>iY y.2/\y.2.length<=xs.length+ys.length+4):=by
 refine bq K5 UL λB w0=>?_;refine iT (E:=bQ) (v:=va) (xs:=xs) (by simp) λa1 c1 f1=>?_;subst f1;refine iT (E:=bQ) (v:=vb) (xs:=ys) (by simp) λa2 c2 f2=>?_;subst f2;refine go ?_;refine aF (yC (s:=s)) (next:=λv1 _=>?_);refine go ?_;refine aF (qc (s:=⟨⟨[40]⟩⟩)) (next:=λv2 _=>?_);refine go ?_;refine aF (qc (s:=⟨⟨[44]⟩⟩)) (next:=λv3 _=>?_);refine go ?_;refine aF (qc (s:=⟨⟨[41]⟩⟩)) (next:=λv4 _=>?_);refine go ?_;intro b2;refine Bg (b:=b2) (m:=6) (ls:=[[gK s],[dF ⟨⟨[40]⟩⟩],xs,[dF ⟨⟨[44]⟩⟩],ys,[dF ⟨⟨[41]⟩⟩]]) [([gK s],.slice (some ⟨v1,0,some 0⟩) 1 1),([dF ⟨⟨[40]⟩⟩],.slice (some ⟨v2,0,some 0⟩) 1 1),(xs,.slice a1 xs.length c1),([dF ⟨⟨[44]⟩⟩],.slice (some ⟨v3,0,some 0⟩) 1 1),(ys,.slice a2 ys.length c2),([dF ⟨⟨[41]⟩⟩],.slice (some ⟨v4,0,some 0⟩) 1 1)] ?_;have hxp:=hx.pos;have hyp:=hy.pos;refine aF (Bh (ls:=[[gK s],[dF ⟨⟨[40]⟩⟩],xs,[dF ⟨⟨[44]⟩⟩],ys,[dF ⟨⟨[41]⟩⟩]]) (by simp) (by simp[eB];omega) (by simp[eB];omega)) (next:=λv5 _=>?_);refine go ?_;refine av (v5,[[gK s],[dF ⟨⟨[40]⟩⟩],xs,[dF ⟨⟨[44]⟩⟩],ys,[dF ⟨⟨[41]⟩⟩]].flatten) (hv:=rfl) (hp:=⟨⟨?_,by simp⟩,by simp;omega⟩);simp only[nE,uo,ul,iL,jR];exact j4 (yD hs) (j4 (qd (by simp[jB])) (rH hx.ok (j4 (qd (by simp[jB])) (rH hy.ok (j4 (qd (by simp[jB])) yE)))))
theorem UN{va vb:Value}{xs ys:List Tok}(hx:iY xs)(hy:iY ys)(hxl:xs.length<=2048)(hyl:ys.length<=2048):
 bJ Tryz.prog (.func 107) [va,vb] [] [] [ah bQ va xs,ah bQ vb ys] (λy:Bj=>y.1) (λ_=>[]) (λy=>[ah bQ y.1 y.2]) (λy=>iY y.2/\y.2.length<=xs.length+ys.length+4):=by
 refine bq K6 UM λB w0=>?_;refine iT (E:=bQ) (v:=va) (xs:=xs) (by simp) λa1 c1 f1=>?_;subst f1;refine iT (E:=bQ) (v:=vb) (xs:=ys) (by simp) λa2 c2 f2=>?_;subst f2;refine go ?_;refine aF (qc (s:=⟨⟨[60]⟩⟩)) (next:=λv1 _=>?_);refine go ?_;intro b2;refine Bg (b:=b2) (m:=3) (ls:=[xs,[dF ⟨⟨[60]⟩⟩],ys]) [(xs,.slice a1 xs.length c1),([dF ⟨⟨[60]⟩⟩],.slice (some ⟨v1,0,some 0⟩) 1 1),(ys,.slice a2 ys.length c2)] ?_;have hxp:=hx.pos;have hyp:=hy.pos;refine aF (Bh (ls:=[xs,[dF ⟨⟨[60]⟩⟩],ys]) (by simp) (by simp[eB];omega) (by simp[eB];omega)) (next:=λv5 _=>?_);refine go ?_;refine av (v5,[xs,[dF ⟨⟨[60]⟩⟩],ys].flatten) (hv:=rfl) (hp:=⟨⟨?_,by simp;omega⟩,by simp;omega⟩);simp only[nE,uo,ul,iL,jR];exact rH hx.ok (j4 (qd (by simp[jB])) hy.ok)
theorem Bn{s:ByteArray}:bJ Tryz.prog (.func 100) [.string s] [] [] [] (λb:Nat=>.func (.func 101) ⟨[]⟩ ⟨[ptr' b]⟩) (λ_=>[]) (λb=>[dK b 0 [.string s]]) (λ_=>True):=by
 refine bq _ (bP 100) λB w0=>?_;refine go ?_;intro b;refine go ?_;refine dB (kL (b:=b)) (h:=?_);exact av b (hv:=rfl) (hp:=trivial)
theorem K8{s:ByteArray}:bJ Tryz.prog (.func 104) [.string s] [] [] [] (λb:Nat=>.func (.func 105) ⟨[]⟩ ⟨[ptr' b]⟩) (λ_=>[]) (λb=>[dK b 0 [.string s]]) (λ_=>True):=by
 refine bq _ (bP 104) λB w0=>?_;refine go ?_;intro b;refine go ?_;refine dB (kL (b:=b)) (h:=?_);exact av b (hv:=rfl) (hp:=trivial)
def aW:Enc (List Tok×Bool):=⟨2,Value,λx v=>[v,.bool x.2],λx v=>[ah bQ v x.1],λ_ _=>rfl⟩
abbrev jN:Type:=(List Tok×Bool)×aW.Y
theorem UO{tv:Value}{c:Bool}(hv:cellsOf tv=some [tv]):fG Tryz.prog 110 [.agg ⟨[tv,.bool c]⟩] [] (.bool c):=by
 refine bq _ (bP 110) λB w0=>?_;refine go ?_;intro b;refine go ?_;exact av () (hv:=rfl) (hp:=trivial)
theorem UQ{b o f c:Nat}{cs:List Value}{bs:List Bool}(hf:f=0\/f=2)(hl:bs.length<=1000000)(hcs:∀(k:Nat) x,bs[k]? =some x->∃tv,cellsOf tv=some [tv]/\cs[o+k*2]? =some tv/\cs[o+k*2+1]? =some (.bool x)):
 bJ Tryz.prog (.func 124) [.slice (some ⟨b,o,some f⟩) bs.length c,.func (.func 110) ⟨[]⟩ ⟨[]⟩] [] [pt b (.cells cs)] [] (λr:Int=>.int .i64 r) (λ_=>[pt b (.cells cs)]) (λ_=>[]) (λr=>(0<=r↔true∈bs)):=by
 refine bq _ (bP 124) λB w0=>?_;refine go ?_;refine dZ (λk=>bs.length - k) (λk:Nat=>[(8,.int .i64 (k:Int))]) (λ_=>[]) (λ_=>[]) (λk=>k<=bs.length/\true∉bs.take k) 0 ⟨by omega,by simp⟩ (body:=?_);rintro k ⟨hk,hno⟩;refine go ?_;refine aJ rfl (λh1=>?_) (λh1=>?_)
 ·have hx:bs[k]? =some (bs[k]'(by omega)):=bO _;generalize bs[k]'(by omega)=x at hx;obtain⟨tv,t1,t2,t3⟩:=hcs k x hx;refine go ?_;refine(I7 (c:=[tv,.bool x]) rfl rfl rfl .here ?_).h ?_
  ·have hlt:=(fH.1 t3).1;rw[jG,jH,if_pos (by rw[jQ];omega)];congr 1;apply ja;intro j;rw[mo,iK];match j with
   |0=>rw[if_pos (by omega)];exact t2
   |1=>rw[if_pos (by omega)];exact t3
   |j+2=>rw[if_neg (by omega)];rfl
  refine go ?_;refine aF (UO (tv:=tv) (c:=x) t1) (next:=λ_ _=>?_);refine go ?_;refine jr rfl (λh2=>?_) (λh2=>?_)
  ·refine go ?_;refine av (k:Int) (hv:=rfl) (hp:=?_);have:true∈bs:=h2▸dG hx;simp[this]
  ·refine go ?_;refine bC (k+1) (by omega) ⟨by omega,?_⟩;rw[eT hx,gZ,h2];simp[hno]
 refine go ?_;have:k=bs.length:=by omega
 subst this;rw[jc]at hno;refine av (-1) (hv:=rfl) (hp:=?_);simp[hno]
theorem UR{b o f c:Nat}{cs:List Value}{bs:List Bool}(hf:f=0\/f=2)(hl:bs.length<=1000000)(hcs:∀(k:Nat) x,bs[k]? =some x->∃tv,cellsOf tv=some [tv]/\cs[o+k*2]? =some tv/\cs[o+k*2+1]? =some (.bool x)):
 bJ Tryz.prog (.func 109) [.slice (some ⟨b,o,some f⟩) bs.length c,.func (.func 110) ⟨[]⟩ ⟨[]⟩] [] [pt b (.cells cs)] [] (λ_:Unit=>.bool (decide (true∈bs))) (λ_=>[pt b (.cells cs)]) (λ_=>[]) (λ_=>True):=by
 refine bq _ (bP 109) λB w0=>?_;refine go ?_;refine aF (UQ hf hl hcs) (next:=λr hr=>?_);refine go ?_;refine av () (hv:=?_) (hp:=trivial);show Value.bool (decide (0<=r))=_;rw[decide_eq_decide.2 hr]
def qf(fl:List Bool):Prop:=2<=fl.length/\fl[fl.length - 2]? =some false/\fl[fl.length - 1]? =some false
instance (fl:List Bool):Decidable (qf fl):=by unfold qf;infer_instance
def j5(L:List jN):List Bool:=L.map λp=>p.1.2
theorem lJ(L:List jN):(j5 L).length=L.length:=by unfold j5;rw[dw]
theorem FD{L:List jN}{k:Nat}{p:jN}(h:L[k]? =some p):(j5 L)[k]? =some p.1.2:=by unfold j5;rw[bT,h];rfl
theorem K9{bL:Nat}{v:Value}{L:List jN}(hL:L.length<=1000000)(hv:∀p∈L,∃a n c,p.2=Value.slice a n c):
 bJ Tryz.prog (.func 108) [.int .i64 2] [ptr' bL] [pt bL (.cells [v]),sk aW v L] [] (λ_:Unit=>.bool (decide (qf (j5 L)))) (λ_=>[pt bL (.cells [v]),sk aW v L]) (λ_=>[]) (λ_=>True):=by
 refine bq _ (bP 108) λB w0=>?_;refine go ?_;refine yc aW (v:=v) (aa:=L) ?_;refine go ?_;refine gG (λh1=>?_) (λh1=>?_)
 ·refine go ?_;refine av () (hv:=?_) (hp:=trivial);rw[jS (λh:qf (j5 L)=>by have:=h.1;rw[lJ]at this;omega)];rfl
 refine go ?_;refine yc aW (v:=v) (aa:=L) ?_;refine go ?_;refine oh aW (v:=v) (aa:=L) (by omega) λb f c r hf hr hc e=>?_;subst e;refine(bY rfl rfl (x9 (lo:=L.length - 2) (hi:=L.length) rfl hf (by decide) (.inr ⟨_,rfl,by show Value.int .i64 _=_;congr 1;omega⟩) (.inl ⟨rfl,rfl⟩) (by omega) (by omega))).h ?_;have hp1:L[L.length - 2]? =some (L[L.length - 2]'(by omega)):=bO _;have hp2:L[L.length - 1]? =some (L[L.length - 1]'(by omega)):=bO _;generalize L[L.length - 2]'(by omega)=p1 at hp1;generalize L[L.length - 1]'(by omega)=p2 at hp2;have hs1:cellsOf p1.2=some [p1.2]:=by obtain⟨a,n,c,h⟩:=hv p1 (dG hp1);rw[h];rfl
 have hs2:cellsOf p2.2=some [p2.2]:=by obtain⟨a,n,c,h⟩:=hv p2 (dG hp2);rw[h];rfl
 rw[show L.length - (L.length - 2)=[p1.1.2,p2.1.2].length by simp;omega];refine aF (UR (bs:=[p1.1.2,p2.1.2]) (o:=0+(L.length - 2)*2) (b:=b) (cs:=aO aW L++r) hf (by simp) (λk x hx=>?_)) (next:=λ_ _=>?_)
 ·match k,hx with
  |0,hx=>
   cases hx;exact⟨p1.2,hs1,jw (E:=aW) (j:=0) hp1 rfl (by show _=(L.length - 2)*2+0;omega),jw (E:=aW) (j:=1) hp1 rfl (by show _=(L.length - 2)*2+1;omega)⟩
  |1,hx=>
   cases hx;exact⟨p2.2,hs2,jw (E:=aW) (j:=0) hp2 rfl (by show _=(L.length - 1)*2+0;omega),jw (E:=aW) (j:=1) hp2 rfl (by show _=(L.length - 1)*2+1;omega)⟩
 refine go ?_;refine vL aW (aa:=L) (b:=b) (f:=f) (c:=c) (m:=L.length) (r:=r) rfl hf hr hc ?_;refine av () (hv:=?_) (hp:=trivial);show Value.bool (!decide (true∈[p1.1.2,p2.1.2]))=Value.bool (decide (qf (j5 L)));congr 1;have e1:=FD hp1;have e2:=FD hp2;have hl:=lJ L;rw[<- hl]at e1 e2;have:qf (j5 L)↔¬true∈[p1.1.2,p2.1.2]:=by
  unfold qf;rw[e1,e2];cases p1.1.2<;>cases p2.1.2<;>simp[hl]<;>omega
 by_cases hh:true∈[p1.1.2,p2.1.2]
 ·rw[gL hh,jS (λk=>this.1 k hh)];rfl
 ·rw[jS hh,gL (this.2 hh)];rfl
