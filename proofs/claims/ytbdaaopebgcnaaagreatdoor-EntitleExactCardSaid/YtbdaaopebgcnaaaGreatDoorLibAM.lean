/-
  slices.IndexFunc, slices.ContainsFunc over numbers.
-/
import Derived.Test.YtbdaaopebgcnaaaGreatDoorIdealQM
import Derived.Test.YtbdaaopebgcnaaaGreatDoorPlainAM
import Derived.Test.YtbdaaopebgcnaaaGreatDoorProg
set_option linter.all false
set_option maxRecDepth 10000
set_option maxHeartbeats 2000000
namespace Go.Proofs.YtbdaaopebgcnaaaGreatDoor
open Go.Ideal Rk
abbrev xO(P:Program)(fn:Fn)(first cap:List Value)(v:Value)(F:List aD)(b:Bool):Prop:=aX P fn (first++[v]) cap [] F (λ_:Unit=>.bool b) (λ_=>[]) (λ_=>[]) (λ_=>True)
theorem aew{fn:Fn}{first cap:List Value}{F1:List aD}{p:Int->Bool}{va:Value}{xs:List Int}(hl:xs.length<9223372036854775808)(hp:∀x∈xs,xO Tryz.prog fn first cap (.int .i64 x) F1 (p x)):
 aX Tryz.prog (.func 58) [va,.func fn ⟨first⟩ ⟨cap⟩] [] [] (ae ah va xs::F1) (λr:Int=>.int .i64 r) (λ_=>[]) (λ_=>[]) (λr=>(0<=r↔xs.any p=true)):=by
 refine aT _ (bz 58) λB w0=>?_;refine go ?_;refine bR (λk=>xs.length - k) (λk:Nat=>[(8,.int .i64 (k:Int))]) (λ_=>[]) (λ_=>[]) (λk=>k<=xs.length/\(xs.take k).any p=false) 0 ⟨by omega,by simp⟩ (body:=?_);rintro k ⟨hk,hno⟩;refine go ?_;refine aC rfl (λh1=>?_) (λh1=>?_)
 ·refine go ?_;intro _ _ x hx;refine aB (hp x (dA hx)) (next:=λ_ _=>?_);refine go ?_;refine iW rfl (λh2=>?_) (λh2=>?_)
  ·refine go ?_;refine aj (k:Int) (hv:=rfl) (hp:=?_);have:xs.any p=true:=sw.2 ⟨x,dA hx,h2⟩;simp[this]
  ·refine go ?_;refine aL (k+1) (by omega) ⟨by omega,?_⟩;rw[eD hx,zB,hno];simp[h2]
 refine go ?_;have:k=xs.length:=by omega
 subst this;rw[gV]at hno;refine aj (-1) (hv:=rfl) (hp:=?_);rw[hno];simp
theorem M3{fn:Fn}{first cap:List Value}{F1:List aD}{p:Int->Bool}{va:Value}{xs:List Int}(hl:xs.length<9223372036854775808)(hp:∀x∈xs,xO Tryz.prog fn first cap (.int .i64 x) F1 (p x)):
 aX Tryz.prog (.func 26) [va,.func fn ⟨first⟩ ⟨cap⟩] [] [] (ae ah va xs::F1) (λ_:Unit=>.bool (xs.any p)) (λ_=>[]) (λ_=>[]) (λ_=>True):=by
 refine aT _ (bz 26) λB w0=>?_;refine go ?_;refine aB (aew hl hp) (next:=λr hr=>?_);refine go ?_;refine aj () (hv:=?_) (hp:=trivial);have:decide (0<=r)=xs.any p:=by
  by_cases h:0<=r
  ·rw[eP h,hr.1 h]
  ·rw[fB h];cases e:xs.any p with
   |false=>rfl
   |true=>exact absurd (hr.2 e) h
 rw[<- this];rfl
theorem Bn{P:Program}{ρ:Operand->Value}{x:Operand}{a:Int}(hx:ρ x=.int .i64 a)(h1: -9223372036854775808<= -a)(h2: -a<9223372036854775808):Pu P ρ (.un .neg x) (.int .i64 (-a)):=λh=>by
 have h3:dz P (Op.unary .neg (.int .i64 a))=some (.int .i64 (-a)):=by
  show some (Value.int .i64 (IntKind.i64.wrap (0 - a)))=_;rw[Int.zero_sub,wrap64 h1 h2]
 simp only[au.run,hx,ji,h3];rfl
theorem Ip{a b:Int}{n:Nat}(h:a.natAbs<=n): -(n:Int)<=a.tdiv b/\a.tdiv b<=n:=by
 have hq:(a.tdiv b).natAbs<=a.natAbs:=by rw[Int.natAbs_tdiv];exact Nat.div_le_self _ _
 omega
abbrev pz(st:List Int):List (Int×ah.Y):=st.map λx=>(x,())
abbrev Iq(v:Value)(st:List Int):OA:=sk ah v (pz st)
theorem Ir(st:List Int)(k:Nat):(pz st).take k=pz (st.take k):=by unfold pz;rw[List.map_take]
theorem uO(a b:List Int):pz a++pz b=pz (a++b):=by unfold pz;rw[eB]
theorem xP(st:List Int):(pz st).length=st.length:=bI ..
theorem Bo{st:List Int}{k:Nat}{x:Int}(h:st[k]? =some x):(pz st)[k]? =some (x,()):=by unfold pz;rw[bU,h];rfl
theorem oD{st:List Int}{k:Nat}(h:k<st.length):st[k]? =some (st.getD k 0):=by rw[iA,bB h];rfl
theorem aex{st:List Int}{n:Nat}(h:st.length=n+2):st=st.take n++[st.getD n 0]++[st.getD (n+1) 0]:=by
 rw[<- eD (oD (by omega)),<- eD (oD (by omega)),nO (by omega)]
theorem aey{st:List Int}{n:Nat}(h:st.length=n+3):st=st.take n++[st.getD n 0]++[st.getD (n+1) 0]++[st.getD (n+2) 0]:=by
 rw[<- eD (oD (by omega)),<- eD (oD (by omega)),<- eD (oD (by omega)),nO (by omega)]
noncomputable def Um:eU:=⟨27,[(.tmp 4)],(.seq (kO [kS 4 (.bF (.const vS))]) (.seq (.seq (kO [kM 5 1,kS 6 (.bin .lss 3 5 (kI 0))]) (.cond 6 (kO [⟨⟨(some 7),none,(.iface 9 (.const (.string ⟨⟨[99,97,110,110,111,116,32,98,101,32,110,101,103,97,116,105,118,101]⟩⟩)))⟩,[]⟩,kN (.panic 7)]) .skip)) (.seq (.seq (kO [kM 8 1,kM 9 0,kS 10 (.BU 9),kM 11 0,kS 12 (.jw 11),kS 13 (.bin .sub 3 10 12),kS 14 (.bin .sub 3 8 13),kS 1 (.bF 14)]) (.seq (kO [kM 15 1,kS 16 (.bin .gtr 3 15 (kI 0))]) (.cond 16 (kO [kM 17 0,kM 18 0,kS 19 (.BU 18),kS 20 (.nQ 4 17 none (some 19) none),kM 21 1,⟨⟨(some 22),none,(.zF 172 4 40 [vI,vE,vI,vI] 20 21)⟩,[]⟩,kM 23 0,kS 24 (.jw 23),kS 25 (.nQ 4 22 none (some 24) none),kS 0 (.bF 25)]) .skip))) (.seq (kO [kM 26 0,kS 4 (.bF 26)]) .ret))))⟩
theorem aez:jN Tryz.prog 139=some Um:=by kernel_rfl
noncomputable def Un:eU:=⟨36,[(.tmp 2)],(.seq (kO [kS 2 (.bF (.const vS))]) (.seq (kO [kS 3 (.bF (kI 0))]) (.seq (.seq (kO [kM 9 0,kS 10 (.jw 9),kS 11 (.mv (kI 0))]) (.block 0 (.loop (.seq (kO [kS 12 (.bin .lss 3 11 10)]) (.seq (.cond 12 .skip (.exit 0)) (.seq (.block 1 (.seq (kO [kS 13 (.gq 1 9 11),kS 14 (.aM 13),kS 5 (.bF 14)]) (.seq (kO [kM 15 3,kM 16 5,kS 17 (.jw 16),kS 18 (.bin .add 3 15 17),kS 3 (.bF 18)]) (.seq (kO [kM 19 3,kS 20 (.bin .lss 3 19 (kI 0))]) (.cond 20 (kO [⟨⟨(some 21),none,(.iface 9 (.const (.string ⟨⟨[108,101,110,32,111,117,116,32,111,102,32,114,97,110,103,101]⟩⟩)))⟩,[]⟩,kN (.panic 21)]) .skip))))) (kO [kS 22 (.bin .add 3 11 (kI 1)),kM 11 22]))))))) (.seq (kO [kM 23 3,kS 24 (kC 139 [(.const vS),23]),kS 6 (.bF 24)]) (.seq (.seq (kO [kM 25 0,kS 26 (.jw 25),kS 27 (.mv (kI 0))]) (.block 2 (.loop (.seq (kO [kS 28 (.bin .lss 3 27 26)]) (.seq (.cond 28 .skip (.exit 2)) (.seq (.block 3 (.seq (kO [kS 29 (.gq 1 25 27),kS 30 (.aM 29),kS 8 (.bF 30)]) (kO [kM 31 6,kM 32 8,kS 33 (.append 172 4 40 31 32),kS 6 (.bF 33)]))) (kO [kS 34 (.bin .add 3 27 (kI 1)),kM 27 34]))))))) (.seq (kO [kM 35 6,kS 2 (.bF 35)]) .ret))))))⟩
theorem aeA:jN Tryz.prog 122=some Un:=by kernel_rfl
noncomputable def Uo:eU:=⟨2,[(.tmp 0)],(.seq (kO [kS 0 (.bF (.const vS))]) (.seq (kO [⟨⟨(some 1),none,(.eT 9 5 [vE,vE,vE,vE,vE] [⟨0,⟨1,(.const (.string ⟨⟨[112,108,97,99,101]⟩⟩))⟩⟩,⟨1,⟨1,(.const (.string ⟨⟨[115,111,108,118,101,114,115]⟩⟩))⟩⟩,⟨2,⟨1,(.const (.string ⟨⟨[108,101,118,101,108]⟩⟩))⟩⟩,⟨3,⟨1,(.const (.string ⟨⟨[99,108,117,101,115]⟩⟩))⟩⟩,⟨4,⟨1,(.const (.string ⟨⟨[116,114,105,101,115]⟩⟩))⟩⟩])⟩,[]⟩,kS 0 (.bF 1)]) .ret))⟩
theorem aeB:jN Tryz.prog 83=some Uo:=by kernel_rfl
structure Tok where
 k:Int
 s:ByteArray
 n:Int
 at_:Int
def dQ:Enc Tok:=⟨4,Unit,λx _=>[.int .i64 x.k,.string x.s,.int .i64 x.n,.int .i64 x.at_],λ_ _=>[],λ_ _=>rfl⟩
abbrev Iu:List Value:=[.int .i64 0,.string ⟨⟨[]⟩⟩,.int .i64 0,.int .i64 0]
def fO(s:ByteArray):Tok:=⟨3,s,0,0⟩
def jL(s:ByteArray):Tok:=⟨1,s,0,0⟩
inductive xQ(F:List aD):List (List Tok×Value)->Prop
 |nil:xQ F []
 |cons {l:List Tok} {v:Value} {ps:List (List Tok×Value)} (h:ae dQ v l∈F) (t:xQ F ps):xQ F ((l,v)::ps)
theorem xQ.get{F:List aD}{ps:List (List Tok×Value)}(h:xQ F ps):∀p∈ps,ae dQ p.2 p.1∈F:=by
 induction h with
 |nil=>intro p hp;cases hp
 |cons h _ ih=>
  intro p hp;cases hp with
  |head=>exact h
  |tail _ hp=>exact ih p hp
theorem aeC{w:Wd}{b m:Nat}{ps:List (List Tok×Value)}(hm:m=ps.length)(h:(bW b 0 (ps.map (·.2))).p w)(h0:0<ps.length)(he:∀p∈ps,(ae dQ p.2 p.1).p w):(ae (bN dQ) (.slice (some ⟨b,0,some 0⟩) m m) (ps.map (·.1))).p w:=by
 subst hm;obtain⟨cells,h1,h2⟩:=h;refine .inr ⟨b,0,0,ps.length,cells,⟨by rw[bI],by rw[bI];exact aG _,.inl rfl⟩,h1,λk x hx=>?_⟩;rw[bU]at hx;cases e:ps[k]? with
 |none=>rw[e]at hx;cases hx
 |some p=>
  rw[e]at hx;cases hx;refine⟨p.2,λj u hj=>?_,λf hf=>?_⟩
  ·match j,hj with
   |0,hj=>
    cases hj;rw[show 0+k*(bN dQ).n+0=0+k by show 0+k*1+0=_;omega];exact h2 k p.2 (by rw[bU,e];rfl)
  ·rw[cz.1 hf];exact he p (dA e)
theorem Iw{B:List Nat}{w0:Wd}{kl kl':List OA}{F:List aD}{Q:IH->Prop}{b m:Nat}(ps:List (List Tok×Value)){ls:List (List Tok)}(next:R Q B w0 kl' (ae (bN dQ) (.slice (some ⟨b,0,some 0⟩) m m) ls::F))
 (hls:ps.map (·.1)=ls:=by rfl) (hm:m=ps.length:=by rfl) (h0:0<ps.length:=by exact Nat.succ_pos _) (hF:xQ F ps:=by repeat (first|exact xQ.nil|(apply xQ.cons;(focus (repeat (first|with_reducible exact aR .. |with_reducible apply dw)))))) (hk:ai (pt b (.cells (ps.map (·.2)))) kl kl':=by repeat (first|exact ai.here|apply ai.there)):R Q B w0 kl F:=by
 subst hls;refine bP (fQ (b:=b) (cs:=ps.map (·.2))) hk (h:=?_);refine bJ (ae (bN dQ) (.slice (some ⟨b,0,some 0⟩) m m) (ps.map (·.1))) (λw hw=>aeC hm (hw _ (aR ..)) h0 λp hp=>hw _ (dw _ (hF.get p hp))) ?_;refine λw s=>next w (s.sub ?_)
 exact .cons (aR ..) (jB.sub (.cons (.cons .here)))
theorem aeD{m:Nat}(h0:0<m)(hm:m<=8192):aX Tryz.prog (.func 139) [.slice none 0 0,.int .i64 (m:Int)] [] [] [] (λb:Nat=>.slice (some ⟨b,0,some 4⟩) 0 m) (λb=>[pt b (.cells (zeros Iu m))]) (λ_=>[]) (λ_=>True):=by
 refine aT Um aez λB w0=>?_;refine go ?_;refine(bC rfl rfl (RQ rfl)).h ?_;refine go ?_;refine aC rfl (λh1=>?_) (λh1=>?_)
 rotate_left
 ·omega
 refine go ?_;refine(bC rfl rfl (RQ rfl)).h ?_;refine(bC rfl rfl (RP rfl rfl)).h ?_;refine go ?_;refine acg m h0 ⟨by omega,by omega,by omega⟩ (next:=λb=>?_) (hx:=by show Value.int .i64 _=Value.int .i64 _;congr 1);refine go ?_;refine(bC rfl rfl (aci (k:=3) rfl rfl)).h ?_;refine go ?_;exact aj b (hv:=rfl) (hp:=trivial)
def gU(ls:List (List Tok)):Nat:=(ls.map List.length).sum
theorem Uq{ls:List (List Tok)}{k:Nat}{l:List Tok}(h:ls[k]? =some l):gU (ls.take (k+1))=gU (ls.take k)+l.length:=by
 unfold gU;rw[eD h,eB,EM];simp
theorem Ur{ls:List (List Tok)}(k:Nat):gU (ls.take k)<=gU ls:=by
 have:gU ls=gU (ls.take k)+gU (ls.drop k):=by
  unfold gU;rw[<- EM,<- eB,yl]
 omega
theorem aeE(ls:List (List Tok)):ls.flatten.length=gU ls:=by unfold gU;rw[List.length_flatten]
theorem aeF{ls:List (List Tok)}{k:Nat}{l:List Tok}(h:ls[k]? =some l):(ls.take (k+1)).flatten=(ls.take k).flatten++l:=by
 rw[eD h,List.flatten_append];simp
theorem Iy{va:Value}{ls:List (List Tok)}(hn:ls.length<=100)(h0:0<gU ls)(hm:gU ls<=8192):
 aX Tryz.prog (.func 122) [va] [] [] [ae (bN dQ) va ls] (λv:Value=>v) (λ_=>[]) (λv=>[ae dQ v ls.flatten]) (λ_=>True):=by
 have hgn:dQ.n=4:=rfl;refine aT Un aeA λB w0=>?_;refine go ?_;refine bR (λk=>ls.length - k) (λk:Nat=>[(11,.int .i64 (k:Int)),(3,.int .i64 (gU (ls.take k):Int))]) (λ_=>[]) (λ_=>[]) (λk=>k<=ls.length) 0 (cu _) (body:=?_);intro k hk;refine go ?_;refine aC rfl (λh1=>?_) (λh1=>?_)
 ·have hle:=Ur (ls:=ls) (k+1);refine go ?_;refine cZ (bN dQ) (k:=k) (next:=λb o x (y:Value) hx=>?_);have ht:=Uq hx;refine go ?_;rw[show((gU (ls.take k):Nat):Int)+(x.length:Int)=((gU (ls.take (k+1)):Nat):Int)by omega];refine go ?_;exact aL (k+1) (by omega) (by omega)
 have hkl:k=ls.length:=by omega
 subst hkl;rw[gV];refine go ?_;refine aB (aeD h0 hm) (next:=λbg _=>?_);have hzl:=zeros_length Iu (gU ls);rw[show Iu.length=4 from rfl]at hzl;generalize hzz:zeros Iu (gU ls)=zs at hzl⊢;rw[show zs=aP dQ []++zs from rfl];refine go ?_;refine bR (λy:Nat×List (Tok×dQ.Y)×List Value=>ls.length - y.1) (λy=>[(27,.int .i64 (y.1:Int)),(6,.slice (some ⟨bg,0,some 4⟩) y.2.1.length (gU ls))]) (λy=>[pt bg (.cells (aP dQ y.2.1++y.2.2))]) (λ_=>[]) (λy=>y.1<=ls.length/\y.2.1.map (·.1)=(ls.take y.1).flatten/\y.2.1.length*4+y.2.2.length=gU ls*4) (0,[],zs) ⟨cu _,rfl,by simp;omega⟩ (body:=?_);rintro⟨k,aa,r⟩ ⟨hk,hxy,hr⟩;dsimp only at hk hxy hr⊢;have hxl:aa.length=gU (ls.take k):=by rw[<- aeE,<- hxy,bI]
 refine go ?_;refine aC rfl (λh1=>?_) (λh1=>?_)
 ·have hle:=Ur (ls:=ls) (k+1);refine go ?_;refine cZ (bN dQ) (k:=k) (next:=λb o x (y:Value) hx=>?_);have ht:=Uq hx;refine go ?_;refine rJ dQ y (xs:=x) (λvY e1=>?_);refine go ?_;have hz1:vY.length=x.length:=by rw[<- e1,bI]
  refine ach (m:=aa.length) (f:=some 4) (cap:=gU ls) (b:=bg) dQ vY (aP dQ aa) r (by rw[rH]) (by rw[hgn];omega) (by omega) ⟨by omega,by omega,by omega⟩ ?_;rw[<- ig,<- yR,show aa.length+vY.length=(aa++vY).length by rw[dN]];refine go ?_;refine aL (k+1,aa++vY,r.drop (vY.length*dQ.n)) (by show ls.length - (k+1)<ls.length - k;omega) ⟨by show k+1<=_;omega,?_,?_⟩
  ·show(aa++vY).map (·.1)=(ls.take (k+1)).flatten;rw[aeF hx,eB,hxy,e1]
  ·show(aa++vY).length*4+(r.drop (vY.length*dQ.n)).length=_;rw[dN,iZ,hgn];omega
 have hkl:k=ls.length:=by omega
 subst hkl;rw[gV]at hxy hxl;have hr0:r=[]:=qM.1 (by omega);subst hr0;rw[hxl,fU];refine ab3 dQ (aa:=aa) (b:=bg) (f:=4) (m:=gU ls) hxl.symm (.inr rfl) ?_;refine ab2 (E:=dQ) (v:=.slice (some ⟨bg,0,some 4⟩) (gU ls) (gU ls)) (aa:=aa) ?_ (λw h p hp f hf=>by cases hf);rw[hxy];refine go ?_;exact aj (.slice (some ⟨bg,0,some 4⟩) (gU ls) (gU ls)) (hv:=rfl) (hp:=trivial)
theorem aeG{w:Wd}{b:Nat}{t:Tok}(h:(bW b 0 (dQ.pat t ())).p w):(ae dQ (.slice (some ⟨b,0,some 0⟩) 1 1) [t]).p w:=by
 obtain⟨cells,h1,h2⟩:=h;refine .inr ⟨b,0,0,1,cells,⟨rfl,aG _,.inl rfl⟩,h1,λk x hx=>?_⟩;match k,hx with
 |0,hx=>
  cases hx;exact⟨(),λj u hj=>by rw[oQ,jG];exact h2 j u hj,λf hf=>by cases hf⟩
theorem M4{B:List Nat}{w0:Wd}{kl kl':List OA}{F:List aD}{Q:IH->Prop}{b:Nat}(t:Tok)(next:R Q B w0 kl' (ae dQ (.slice (some ⟨b,0,some 0⟩) 1 1) [t]::F))
 (hk:ai (pt b (.cells (dQ.pat t ()))) kl kl':=by repeat (first|exact ai.here|apply ai.there)):R Q B w0 kl F:=by
 refine bP (fQ (b:=b) (cs:=dQ.pat t ())) hk (h:=?_);refine bJ (ae dQ (.slice (some ⟨b,0,some 0⟩) 1 1) [t]) (λw hw=>aeG (hw _ (aR ..))) ?_;exact λw s=>next w (s.sub (.cons (aR ..) (jB.sub (.cons (.cons .here)))))
theorem vZ{s:ByteArray}:aX Tryz.prog (.func 123) [.string s] [] [] [] (λb:Nat=>.slice (some ⟨b,0,some 0⟩) 1 1) (λ_=>[]) (λb=>[ae dQ (.slice (some ⟨b,0,some 0⟩) 1 1) [fO s]]) (λ_=>True):=by
 refine aT _ (bz 123) λB w0=>?_;refine go ?_;intro b;refine go ?_;refine M4 (b:=b) (fO s) ?_;exact aj b (hv:=rfl) (hp:=trivial)
theorem DV{s:ByteArray}:aX Tryz.prog (.func 126) [.string s] [] [] [] (λb:Nat=>.slice (some ⟨b,0,some 0⟩) 1 1) (λ_=>[]) (λb=>[ae dQ (.slice (some ⟨b,0,some 0⟩) 1 1) [jL s]]) (λ_=>True):=by
 refine aT _ (bz 126) λB w0=>?_;refine go ?_;intro b;refine go ?_;refine M4 (b:=b) (jL s) ?_;exact aj b (hv:=rfl) (hp:=trivial)
def lG:List ByteArray:=[⟨⟨[112,108,97,99,101]⟩⟩,⟨⟨[115,111,108,118,101,114,115]⟩⟩,⟨⟨[108,101,118,101,108]⟩⟩,⟨⟨[99,108,117,101,115]⟩⟩,⟨⟨[116,114,105,101,115]⟩⟩]
theorem Iz{w:Wd}{b m:Nat}{ss:List ByteArray}(hm:m=ss.length)(h:(bW b 0 (ss.map .string)).p w)(h0:0<ss.length):(ae fG (.slice (some ⟨b,0,some 0⟩) m m) ss).p w:=by
 subst hm;obtain⟨cells,h1,h2⟩:=h;refine .inr ⟨b,0,0,ss.length,cells,⟨rfl,aG _,.inl rfl⟩,h1,λk x hx=>⟨(),λj u hj=>?_,λf hf=>by cases hf⟩⟩;match j,hj with
 |0,hj=>
  cases hj;rw[show 0+k*fG.n+0=0+k by show 0+k*1+0=_;omega];exact h2 k _ (by rw[bU,hx];rfl)
theorem M5:aX Tryz.prog (.func 83) [] [] [] [] (λb:Nat=>.slice (some ⟨b,0,some 0⟩) 5 5) (λ_=>[]) (λb=>[bW b 0 (lG.map .string),ae fG (.slice (some ⟨b,0,some 0⟩) 5 5) lG]) (λ_=>True):=by
 refine aT Uo aeB λB w0=>?_;refine go ?_;intro b;refine go ?_;refine bP (fQ (b:=b) (cs:=lG.map .string)) (hk:=.here) (h:=?_);refine bJ (ae fG (.slice (some ⟨b,0,some 0⟩) 5 5) lG) (λw hw=>Iz rfl (hw _ (aR ..)) (by decide)) ?_;exact aj b (hv:=rfl) (hp:=trivial)
noncomputable def Us:eU:=⟨14,[(.tmp 5)],(.seq (kO [kS 5 (.bF (.const vS))]) (.seq (.ops [6,7,8,9,10,11,12,13,5] [kM 7 0,kS 8 (.aM 2),kM 10 1,⟨⟨(some 6),none,(kC 123 [(.const (.string ⟨⟨[40]⟩⟩))])⟩,[⟨(some 8),none,(.aM 2)⟩]⟩,kS 9 (kC 123 [8]),⟨⟨(some 11),none,(kC 123 [(.const (.string ⟨⟨[41]⟩⟩))])⟩,[]⟩,⟨⟨(some 12),none,(.eT 155 5 [vS,vS,vS,vS,vS] [⟨0,⟨1,6⟩⟩,⟨1,⟨1,7⟩⟩,⟨2,⟨1,9⟩⟩,⟨3,⟨1,10⟩⟩,⟨4,⟨1,11⟩⟩])⟩,[]⟩,kS 13 (kC 122 [12]),kS 5 (.bF 13)]) .ret))⟩
theorem aeH:jN Tryz.prog 121=some Us:=by kernel_rfl
noncomputable def Ut:eU:=⟨15,[(.tmp 5)],(.seq (kO [kS 5 (.bF (.const vS))]) (.seq (kO [kS 6 (.aM 2),kS 7 (kC 126 [6]),⟨⟨(some 8),none,(kC 123 [(.const (.string ⟨⟨[40]⟩⟩))])⟩,[]⟩,kM 9 0,⟨⟨(some 10),none,(kC 123 [(.const (.string ⟨⟨[44]⟩⟩))])⟩,[]⟩,kM 11 1,⟨⟨(some 12),none,(kC 123 [(.const (.string ⟨⟨[41]⟩⟩))])⟩,[]⟩,⟨⟨(some 13),none,(.eT 155 6 [vS,vS,vS,vS,vS,vS] [⟨0,⟨1,7⟩⟩,⟨1,⟨1,8⟩⟩,⟨2,⟨1,9⟩⟩,⟨3,⟨1,10⟩⟩,⟨4,⟨1,11⟩⟩,⟨5,⟨1,12⟩⟩])⟩,[]⟩,kS 14 (kC 122 [13]),kS 5 (.bF 14)]) .ret))⟩
theorem aeI:jN Tryz.prog 125=some Ut:=by kernel_rfl
noncomputable def Uu:eU:=⟨10,[(.tmp 4)],(.seq (kO [kS 4 (.bF (.const vS))]) (.seq (kO [kM 5 0,⟨⟨(some 6),none,(kC 123 [(.const (.string ⟨⟨[60]⟩⟩))])⟩,[]⟩,kM 7 1,⟨⟨(some 8),none,(.eT 155 3 [vS,vS,vS] [⟨0,⟨1,5⟩⟩,⟨1,⟨1,6⟩⟩,⟨2,⟨1,7⟩⟩])⟩,[]⟩,kS 9 (kC 122 [8]),kS 4 (.bF 9)]) .ret))⟩
theorem aeJ:jN Tryz.prog 127=some Uu:=by kernel_rfl
def mZ:List ByteArray:=[⟨⟨[40]⟩⟩,⟨⟨[41]⟩⟩,⟨⟨[43]⟩⟩,⟨⟨[45]⟩⟩,⟨⟨[42]⟩⟩,⟨⟨[47]⟩⟩,⟨⟨[44]⟩⟩,⟨⟨[60]⟩⟩]
def tV:List ByteArray:=[⟨⟨[105,102]⟩⟩,⟨⟨[116,104,101,110]⟩⟩,⟨⟨[101,108,115,101]⟩⟩,⟨⟨[109,105,110]⟩⟩,⟨⟨[109,97,120]⟩⟩]++lG
def rX(t:Tok):Prop:=(∃s∈mZ,t=fO s)\/(∃s∈tV,t=jL s)\/∃n,0<=n/\n<=1048576/\t=⟨2,⟨⟨[]⟩⟩,n,0⟩
theorem wh{s:ByteArray}(h:s∈mZ):rX (fO s):=.inl ⟨s,h,rfl⟩
theorem DW{s:ByteArray}(h:s∈tV):rX (jL s):=.inr (.inl ⟨s,h,rfl⟩)
structure mi(ts:List Tok):Prop where
 ok:∀t∈ts,rX t
 pos:0<ts.length
theorem oF{t:Tok}{ts:List Tok}(h:rX t)(k:∀x∈ts,rX x):∀x∈t::ts,rX x:=λx hx=>by
 cases hx with
 |head=>exact h
 |tail _ hx=>exact k x hx
theorem xR{xs ts:List Tok}(h:∀x∈xs,rX x)(k:∀x∈ts,rX x):∀x∈xs++ts,rX x:=λx hx=>(gF.1 hx).elim (h x) (k x)
theorem DX:∀x∈([]:List Tok),rX x:=λx hx=>by cases hx
abbrev IA:Type:=Value×List Tok
theorem IB{b:Nat}{s:ByteArray}{va vb:Value}{xs ys:List Tok}(hs:s∈mZ)(hx:mi xs)(hy:mi ys)(hxl:xs.length<=2048)(hyl:ys.length<=2048):
 aX Tryz.prog (.func 121) [va,vb] [ptr' b] [] [bW b 0 [.string s],ae dQ va xs,ae dQ vb ys] (λy:IA=>y.1) (λ_=>[]) (λy=>[ae dQ y.1 y.2]) (λy=>mi y.2/\y.2.length<=xs.length+ys.length+4):=by
 refine aT Us aeH λB w0=>?_;refine eY (E:=dQ) (v:=va) (xs:=xs) (by simp) λa1 c1 f1=>?_;subst f1;refine eY (E:=dQ) (v:=vb) (xs:=ys) (by simp) λa2 c2 f2=>?_;subst f2;refine go ?_;refine aB (vZ (s:=⟨⟨[40]⟩⟩)) (next:=λv1 _=>?_);refine go ?_;refine aB (vZ (s:=s)) (next:=λv2 _=>?_);refine go ?_;refine aB (vZ (s:=⟨⟨[41]⟩⟩)) (next:=λv3 _=>?_);refine go ?_;intro b2;refine Iw (b:=b2) (m:=5) (ls:=[[fO ⟨⟨[40]⟩⟩],xs,[fO s],ys,[fO ⟨⟨[41]⟩⟩]]) [([fO ⟨⟨[40]⟩⟩],.slice (some ⟨v1,0,some 0⟩) 1 1),(xs,.slice a1 xs.length c1),([fO s],.slice (some ⟨v2,0,some 0⟩) 1 1),(ys,.slice a2 ys.length c2),([fO ⟨⟨[41]⟩⟩],.slice (some ⟨v3,0,some 0⟩) 1 1)] ?_;have hxp:=hx.pos;have hyp:=hy.pos;refine aB (Iy (ls:=[[fO ⟨⟨[40]⟩⟩],xs,[fO s],ys,[fO ⟨⟨[41]⟩⟩]]) (by simp) (by simp[gU];omega) (by simp[gU];omega)) (next:=λv4 _=>?_);refine go ?_;refine aj (v4,[[fO ⟨⟨[40]⟩⟩],xs,[fO s],ys,[fO ⟨⟨[41]⟩⟩]].flatten) (hv:=rfl) (hp:=⟨⟨?_,by simp⟩,by simp;omega⟩);simp only[uj,zC,fE,dI,fU];exact oF (wh (by simp[mZ])) (xR hx.ok (oF (wh hs) (xR hy.ok (oF (wh (by simp[mZ])) DX))))
theorem Uv{b:Nat}{s:ByteArray}{va vb:Value}{xs ys:List Tok}(hs:s∈tV)(hx:mi xs)(hy:mi ys)(hxl:xs.length<=2048)(hyl:ys.length<=2048):
 aX Tryz.prog (.func 125) [va,vb] [ptr' b] [] [bW b 0 [.string s],ae dQ va xs,ae dQ vb ys] (λy:IA=>y.1) (λ_=>[]) (λy=>[ae dQ y.1 y.2]) (λy=>mi y.2/\y.2.length<=xs.length+ys.length+4):=by
 refine aT Ut aeI λB w0=>?_;refine eY (E:=dQ) (v:=va) (xs:=xs) (by simp) λa1 c1 f1=>?_;subst f1;refine eY (E:=dQ) (v:=vb) (xs:=ys) (by simp) λa2 c2 f2=>?_;subst f2;refine go ?_;refine aB (DV (s:=s)) (next:=λv1 _=>?_);refine go ?_;refine aB (vZ (s:=⟨⟨[40]⟩⟩)) (next:=λv2 _=>?_);refine go ?_;refine aB (vZ (s:=⟨⟨[44]⟩⟩)) (next:=λv3 _=>?_);refine go ?_;refine aB (vZ (s:=⟨⟨[41]⟩⟩)) (next:=λv4 _=>?_);refine go ?_;intro b2;refine Iw (b:=b2) (m:=6) (ls:=[[jL s],[fO ⟨⟨[40]⟩⟩],xs,[fO ⟨⟨[44]⟩⟩],ys,[fO ⟨⟨[41]⟩⟩]]) [([jL s],.slice (some ⟨v1,0,some 0⟩) 1 1),([fO ⟨⟨[40]⟩⟩],.slice (some ⟨v2,0,some 0⟩) 1 1),(xs,.slice a1 xs.length c1),([fO ⟨⟨[44]⟩⟩],.slice (some ⟨v3,0,some 0⟩) 1 1),(ys,.slice a2 ys.length c2),([fO ⟨⟨[41]⟩⟩],.slice (some ⟨v4,0,some 0⟩) 1 1)] ?_;have hxp:=hx.pos;have hyp:=hy.pos;refine aB (Iy (ls:=[[jL s],[fO ⟨⟨[40]⟩⟩],xs,[fO ⟨⟨[44]⟩⟩],ys,[fO ⟨⟨[41]⟩⟩]]) (by simp) (by simp[gU];omega) (by simp[gU];omega)) (next:=λv5 _=>?_);refine go ?_;refine aj (v5,[[jL s],[fO ⟨⟨[40]⟩⟩],xs,[fO ⟨⟨[44]⟩⟩],ys,[fO ⟨⟨[41]⟩⟩]].flatten) (hv:=rfl) (hp:=⟨⟨?_,by simp⟩,by simp;omega⟩);simp only[uj,zC,fE,dI,fU];exact oF (DW hs) (oF (wh (by simp[mZ])) (xR hx.ok (oF (wh (by simp[mZ])) (xR hy.ok (oF (wh (by simp[mZ])) DX)))))
theorem aeK{va vb:Value}{xs ys:List Tok}(hx:mi xs)(hy:mi ys)(hxl:xs.length<=2048)(hyl:ys.length<=2048):
 aX Tryz.prog (.func 127) [va,vb] [] [] [ae dQ va xs,ae dQ vb ys] (λy:IA=>y.1) (λ_=>[]) (λy=>[ae dQ y.1 y.2]) (λy=>mi y.2/\y.2.length<=xs.length+ys.length+4):=by
 refine aT Uu aeJ λB w0=>?_;refine eY (E:=dQ) (v:=va) (xs:=xs) (by simp) λa1 c1 f1=>?_;subst f1;refine eY (E:=dQ) (v:=vb) (xs:=ys) (by simp) λa2 c2 f2=>?_;subst f2;refine go ?_;refine aB (vZ (s:=⟨⟨[60]⟩⟩)) (next:=λv1 _=>?_);refine go ?_;intro b2;refine Iw (b:=b2) (m:=3) (ls:=[xs,[fO ⟨⟨[60]⟩⟩],ys]) [(xs,.slice a1 xs.length c1),([fO ⟨⟨[60]⟩⟩],.slice (some ⟨v1,0,some 0⟩) 1 1),(ys,.slice a2 ys.length c2)] ?_;have hxp:=hx.pos;have hyp:=hy.pos;refine aB (Iy (ls:=[xs,[fO ⟨⟨[60]⟩⟩],ys]) (by simp) (by simp[gU];omega) (by simp[gU];omega)) (next:=λv5 _=>?_);refine go ?_;refine aj (v5,[xs,[fO ⟨⟨[60]⟩⟩],ys].flatten) (hv:=rfl) (hp:=⟨⟨?_,by simp;omega⟩,by simp;omega⟩);simp only[uj,zC,fE,dI,fU];exact xR hx.ok (oF (wh (by simp[mZ])) hy.ok)
theorem IC{s:ByteArray}:aX Tryz.prog (.func 120) [.string s] [] [] [] (λb:Nat=>.func (.func 121) ⟨[]⟩ ⟨[ptr' b]⟩) (λ_=>[]) (λb=>[bW b 0 [.string s]]) (λ_=>True):=by
 refine aT _ (bz 120) λB w0=>?_;refine go ?_;intro b;refine go ?_;refine bP (fQ (b:=b)) (h:=?_);exact aj b (hv:=rfl) (hp:=trivial)
theorem Uw{s:ByteArray}:aX Tryz.prog (.func 124) [.string s] [] [] [] (λb:Nat=>.func (.func 125) ⟨[]⟩ ⟨[ptr' b]⟩) (λ_=>[]) (λb=>[bW b 0 [.string s]]) (λ_=>True):=by
 refine aT _ (bz 124) λB w0=>?_;refine go ?_;intro b;refine go ?_;refine bP (fQ (b:=b)) (h:=?_);exact aj b (hv:=rfl) (hp:=trivial)
def dh:Enc (List Tok×Bool):=⟨2,Value,λx v=>[v,.bool x.2],λx v=>[ae dQ v x.1],λ_ _=>rfl⟩
abbrev nI:Type:=(List Tok×Bool)×dh.Y
theorem aeL{tv:Value}{c:Bool}(hv:cellsOf tv=some [tv]):gy Tryz.prog 130 [.agg ⟨[tv,.bool c]⟩] [] (.bool c):=by
 refine aT _ (bz 130) λB w0=>?_;refine go ?_;intro b;refine go ?_;exact aj () (hv:=rfl) (hp:=trivial)
theorem aeM{b o f c:Nat}{cs:List Value}{bs:List Bool}(hf:f=0\/f=2)(hl:bs.length<=1000000)(hcs:∀(k:Nat) x,bs[k]? =some x->∃tv,cellsOf tv=some [tv]/\cs[o+k*2]? =some tv/\cs[o+k*2+1]? =some (.bool x)):
 aX Tryz.prog (.func 140) [.slice (some ⟨b,o,some f⟩) bs.length c,.func (.func 130) ⟨[]⟩ ⟨[]⟩] [] [pt b (.cells cs)] [] (λr:Int=>.int .i64 r) (λ_=>[pt b (.cells cs)]) (λ_=>[]) (λr=>(0<=r↔true∈bs)):=by
 refine aT _ (bz 140) λB w0=>?_;refine go ?_;refine bR (λk=>bs.length - k) (λk:Nat=>[(8,.int .i64 (k:Int))]) (λ_=>[]) (λ_=>[]) (λk=>k<=bs.length/\true∉bs.take k) 0 ⟨by omega,by simp⟩ (body:=?_);rintro k ⟨hk,hno⟩;refine go ?_;refine aC rfl (λh1=>?_) (λh1=>?_)
 ·have hx:bs[k]? =some (bs[k]'(by omega)):=bB _;generalize bs[k]'(by omega)=x at hx;obtain⟨tv,t1,t2,t3⟩:=hcs k x hx;refine go ?_;refine(Lj (c:=[tv,.bool x]) rfl rfl rfl .here ?_).h ?_
  ·have hlt:=(dU.1 t3).1;rw[jO,jP,if_pos (by rw[iZ];omega)];congr 1;apply kz;intro j;rw[qN,jf];match j with
   |0=>rw[if_pos (by omega)];exact t2
   |1=>rw[if_pos (by omega)];exact t3
   |j+2=>rw[if_neg (by omega)];rfl
  refine go ?_;refine aB (aeL (tv:=tv) (c:=x) t1) (next:=λ_ _=>?_);refine go ?_;refine iW rfl (λh2=>?_) (λh2=>?_)
  ·refine go ?_;refine aj (k:Int) (hv:=rfl) (hp:=?_);have:true∈bs:=h2▸dA hx;simp[this]
  ·refine go ?_;refine aL (k+1) (by omega) ⟨by omega,?_⟩;rw[eD hx,gF,h2];simp[hno]
 refine go ?_;have:k=bs.length:=by omega
 subst this;rw[gV]at hno;refine aj (-1) (hv:=rfl) (hp:=?_);simp[hno]
theorem aeN{b o f c:Nat}{cs:List Value}{bs:List Bool}(hf:f=0\/f=2)(hl:bs.length<=1000000)(hcs:∀(k:Nat) x,bs[k]? =some x->∃tv,cellsOf tv=some [tv]/\cs[o+k*2]? =some tv/\cs[o+k*2+1]? =some (.bool x)):
 aX Tryz.prog (.func 129) [.slice (some ⟨b,o,some f⟩) bs.length c,.func (.func 130) ⟨[]⟩ ⟨[]⟩] [] [pt b (.cells cs)] [] (λ_:Unit=>.bool (decide (true∈bs))) (λ_=>[pt b (.cells cs)]) (λ_=>[]) (λ_=>True):=by
 refine aT _ (bz 129) λB w0=>?_;refine go ?_;refine aB (aeM hf hl hcs) (next:=λr hr=>?_);refine go ?_;refine aj () (hv:=?_) (hp:=trivial);show Value.bool (decide (0<=r))=_;rw[zA.2 hr]
def wm(fl:List Bool):Prop:=2<=fl.length/\fl[fl.length - 2]? =some false/\fl[fl.length - 1]? =some false
instance (fl:List Bool):Decidable (wm fl):=by unfold wm;infer_instance
def oG(L:List nI):List Bool:=L.map λp=>p.1.2
theorem qz(L:List nI):(oG L).length=L.length:=by unfold oG;rw[bI]
theorem M6{L:List nI}{k:Nat}{p:nI}(h:L[k]? =some p):(oG L)[k]? =some p.1.2:=by unfold oG;rw[bU,h];rfl
theorem Ux{bL:Nat}{v:Value}{L:List nI}(hL:L.length<=1000000)(hv:∀p∈L,∃a n c,p.2=Value.slice a n c):
 aX Tryz.prog (.func 128) [.int .i64 2] [ptr' bL] [pt bL (.cells [v]),sk dh v L] [] (λ_:Unit=>.bool (decide (wm (oG L)))) (λ_=>[pt bL (.cells [v]),sk dh v L]) (λ_=>[]) (λ_=>True):=by
 refine aT _ (bz 128) λB w0=>?_;refine go ?_;refine Dp dh (v:=v) (aa:=L) ?_;refine go ?_;refine gG (λh1=>?_) (λh1=>?_)
 ·refine go ?_;refine aj () (hv:=?_) (hp:=trivial);rw[fB (λh:wm (oG L)=>by have:=h.1;rw[qz]at this;omega)];rfl
 refine go ?_;refine Dp dh (v:=v) (aa:=L) ?_;refine go ?_;refine uI dh (v:=v) (aa:=L) (by omega) λb f c r hf hr hc e=>?_;subst e;refine(bC rfl rfl (Dn (lo:=L.length - 2) (hi:=L.length) rfl hf (by decide) (.inr ⟨_,rfl,by show Value.int .i64 _=_;congr 1;omega⟩) (.inl ⟨rfl,rfl⟩) (by omega) (by omega))).h ?_;have hp1:L[L.length - 2]? =some (L[L.length - 2]'(by omega)):=bB _;have hp2:L[L.length - 1]? =some (L[L.length - 1]'(by omega)):=bB _;generalize L[L.length - 2]'(by omega)=p1 at hp1;generalize L[L.length - 1]'(by omega)=p2 at hp2;have hs1:cellsOf p1.2=some [p1.2]:=by obtain⟨a,n,c,h⟩:=hv p1 (dA hp1);rw[h];rfl
 have hs2:cellsOf p2.2=some [p2.2]:=by obtain⟨a,n,c,h⟩:=hv p2 (dA hp2);rw[h];rfl
 rw[show L.length - (L.length - 2)=[p1.1.2,p2.1.2].length by simp;omega];refine aB (aeN (bs:=[p1.1.2,p2.1.2]) (o:=0+(L.length - 2)*2) (b:=b) (cs:=aP dh L++r) hf (by simp) (λk x hx=>?_)) (next:=λ_ _=>?_)
 ·match k,hx with
  |0,hx=>
   cases hx;exact⟨p1.2,hs1,mW (E:=dh) (j:=0) hp1 rfl (by show _=(L.length - 2)*2+0;omega),mW (E:=dh) (j:=1) hp1 rfl (by show _=(L.length - 2)*2+1;omega)⟩
  |1,hx=>
   cases hx;exact⟨p2.2,hs2,mW (E:=dh) (j:=0) hp2 rfl (by show _=(L.length - 1)*2+0;omega),mW (E:=dh) (j:=1) hp2 rfl (by show _=(L.length - 1)*2+1;omega)⟩
 refine go ?_;refine A7 dh (aa:=L) (b:=b) (f:=f) (c:=c) (m:=L.length) (r:=r) rfl hf hr hc ?_;refine aj () (hv:=?_) (hp:=trivial);show Value.bool (!decide (true∈[p1.1.2,p2.1.2]))=Value.bool (decide (wm (oG L)));congr 1;have e1:=M6 hp1;have e2:=M6 hp2;have hl:=qz L;rw[<- hl]at e1 e2;have:wm (oG L)↔¬true∈[p1.1.2,p2.1.2]:=by
  unfold wm;rw[e1,e2];cases p1.1.2<;>cases p2.1.2<;>simp[hl]<;>omega
 by_cases hh:true∈[p1.1.2,p2.1.2]
 ·rw[eP hh,fB (λk=>this.1 k hh)];rfl
 ·rw[fB hh,eP (this.2 hh)];rfl
