/-
  What rules mean for lists of cells: sets of symbols, counts, sums, differences, rises, runs.
-/
import Derived.Test.YtoohgkkmdnbnfaaGreatDoorProg
import Derived.Test.YtoohgkkmdnbnfaaGreatDoorPlainBB
import Derived.Laws.Strings
set_option linter.all false
set_option maxRecDepth 10000
set_option maxHeartbeats 1000000
namespace Go.Proofs.YtoohgkkmdnbnfaaGreatDoor
open Go.Ideal
noncomputable def Rp:=rR Tryz.prog 312
theorem aaY:kz Tryz.prog 312=some Rp:=by kernel_rfl
noncomputable def Rq:=rR Tryz.prog 289
theorem aaZ:kz Tryz.prog 289=some Rq:=by kernel_rfl
structure aa0(grid:List Int):Prop where
 len:grid.length<=1000000
 sym:∀x∈grid,0<=x/\x<16
structure aa2(grid cells:List Int):Prop where
 len:cells.length<=1000000
 cell:∀c∈cells,0<=c/\c<grid.length
def sy(grid:List Int)(c:Int):Nat:=(grid.getD c.toNat 0).toNat
def cnt(grid:List Int)(set:Nat)(cells:List Int):Nat:=(cells.filter λc=>set.testBit (sy grid c)).length
theorem take_one{α:Type}{xs:List α}{k:Nat}{x:α}(h:xs[k]? =some x):xs.take (k+1)=xs.take k++[x]:=by
 rw[lJ,h];rfl
structure aa3(values grid:List Int):Prop where
 val:∀v∈values,0<=v/\v<=99
 sym:∀x∈grid,x<values.length
def va(values grid:List Int)(c:Int):Int:=values.getD (sy grid c) 0
def met(grid cells:List Int):Nat:=cells.foldl (λm c=>m|||1<<<sy grid c) 0
end Go.Proofs.YtoohgkkmdnbnfaaGreatDoor
namespace Go.Proofs.YtoohgkkmdnbnfaaGreatDoor
open Go.Ideal
def rn(grid:List Int)(set:Nat):Nat->List Int->List Int
 |n,[]=>if 0<n then[(n:Int)]else[]
 |n,c::cs=>if set.testBit (sy grid c)then rn grid set (n+1) cs else if 0<n then(n:Int)::rn grid set 0 cs else rn grid set 0 cs
abbrev aa4{α:Type}(E:Enc α)(b:Nat)(ys:List α):OA:=FN λv:Value=>[pt b (.cells [v]),ap E v ys]
theorem y5{va vb:Value}{xs ys:List Int}(hal:xs.length<9223372036854775808):bY Tryz.prog 104 [va,vb] [ah ae va xs,ah ae vb ys] (.bool (decide (xs=ys))):=by
 refine aG _ (aM 104) λB w0=>?_;refine go ?_;refine az rfl (λh1=>?_) (λh1=>?_)
 ·refine go ?_;refine aa () (hv:=?_) (hp:=trivial);rw[aR (λe=>h1 (by rw[e]))];rfl
 have hlen:xs.length=ys.length:=by omega
 refine go ?_;refine aX (λk=>xs.length - k) (λk:Nat=>[(13,.int .i64 (k:Int))]) (λ_=>[]) (λ_=>[]) (λk=>k<=xs.length/\∀j,j<k->xs[j]? =ys[j]?) 0 ⟨by omega,λj hj=>by omega⟩ (body:=?_);rintro k ⟨hkx,hsame⟩;refine go ?_;refine az rfl (λh2=>?_) (λh2=>?_)
 ·refine go ?_;intro _ _ x hx _ _ y hy;refine az rfl (λh3=>?_) (λh3=>?_)
  ·refine go ?_;refine aa () (hv:=?_) (hp:=trivial);rw[aR (λe=>h3 (by rw[e,hy]at hx;cases hx;rfl))];rfl
  refine go ?_;refine aO (k+1) (by omega) ⟨by omega,λj hj=>?_⟩;by_cases e:j=k
  ·subst e;rw[hx,hy,iF.1 h3]
  ·exact hsame j (by omega)
 refine go ?_;refine aa () (hv:=?_) (hp:=trivial);have:xs=ys:=by
  apply jw;intro j;by_cases hj:j<k
  ·exact hsame j hj
  ·rw[gL (by omega),gL (by omega)]
 rw[eB this];rfl
end Go.Proofs.YtoohgkkmdnbnfaaGreatDoor
namespace Go.Proofs.YtoohgkkmdnbnfaaGreatDoor
open Go.Ideal
abbrev KN(P:Program)(fn:Fn)(first cap:List Value)(v:Value)(F:List aJ)(b:Bool):Prop:=aZ P fn (first++[v]) cap [] F (λ_:Unit=>.bool b) (λ_=>[]) (λ_=>[]) (λ_=>True)
theorem aa5{fn:Fn}{first cap:List Value}{F1:List aJ}{p:Int->Bool}{va:Value}{xs:List Int}(hl:xs.length<9223372036854775808)(hp:∀x∈xs,KN Tryz.prog fn first cap (.int .i64 x) F1 (p x)):
 aZ Tryz.prog (.func 121) [va,.func fn ⟨first⟩ ⟨cap⟩] [] [] (ah ae va xs::F1) (λr:Int=>.int .i64 r) (λ_=>[]) (λ_=>[]) (λr=>(0<=r↔xs.any p=true)):=by
 refine aG _ (aM 121) λB w0=>?_;refine go ?_;refine aX (λk=>xs.length - k) (λk:Nat=>[(8,.int .i64 (k:Int))]) (λ_=>[]) (λ_=>[]) (λk=>k<=xs.length/\(xs.take k).any p=false) 0 ⟨by omega,by simp⟩ (body:=?_);rintro k ⟨hk,hno⟩;refine go ?_;refine az rfl (λh1=>?_) (λh1=>?_)
 ·refine go ?_;intro _ _ x hx;refine ak (hp x (bJ hx)) (next:=λ_ _=>?_);refine go ?_;refine jJ rfl (λh2=>?_) (λh2=>?_)
  ·refine go ?_;refine aa (k:Int) (hv:=rfl) (hp:=?_);have:xs.any p=true:=List.any_eq_true.2 ⟨x,bJ hx,h2⟩;simp[this]
  ·refine go ?_;refine aO (k+1) (by omega) ⟨by omega,?_⟩;rw[take_one hx,List.any_append,hno];simp[h2]
 refine go ?_;have:k=xs.length:=by omega
 subst this;rw[bK]at hno;refine aa (-1) (hv:=rfl) (hp:=?_);rw[hno];simp
theorem aa6{fn:Fn}{first cap:List Value}{F1:List aJ}{p:Int->Bool}{va:Value}{xs:List Int}(hl:xs.length<9223372036854775808)(hp:∀x∈xs,KN Tryz.prog fn first cap (.int .i64 x) F1 (p x)):
 aZ Tryz.prog (.func 83) [va,.func fn ⟨first⟩ ⟨cap⟩] [] [] (ah ae va xs::F1) (λ_:Unit=>.bool (xs.any p)) (λ_=>[]) (λ_=>[]) (λ_=>True):=by
 refine aG _ (aM 83) λB w0=>?_;refine go ?_;refine ak (aa5 hl hp) (next:=λr hr=>?_);refine go ?_;refine aa () (hv:=?_) (hp:=trivial);have:decide (0<=r)=xs.any p:=by
  by_cases h:0<=r
  ·rw[eB h,hr.1 h]
  ·rw[aR h];cases e:xs.any p with
   |false=>rfl
   |true=>exact absurd (hr.2 e) h
 rw[<- this];rfl
theorem aa7{b4 b5:Nat}{lo hi x:Int}:KN Tryz.prog (.func 84) [] [ptr' b4,ptr' b5] (.int .i64 x) [gH b4 0 [.int .i64 lo],gH b5 0 [.int .i64 hi]] (decide (x<lo\/hi<x)):=by
 refine aG _ (aM 84) λB w0=>?_;refine go ?_;first|with_reducible refine aL (λh1=>?_) (λh1=>?_)|with_reducible refine aK (λh1=>?_) (λh1=>?_)|with_reducible refine aI (λh1=>?_) (λh1=>?_)
 ·refine go ?_;refine aa () (hv:=?_) (hp:=trivial);rw[show decide (x<lo\/hi<x)=decide (hi<x)from mG.2 ⟨λh=>h.elim (λh=>absurd h h1) id,.inr⟩];rfl
 refine go ?_;refine aa () (hv:=?_) (hp:=trivial);rw[eB (.inl h1)];rfl
def vC(xs:List Int)(lo hi:Int):Bool:=decide (∀x∈xs,lo<=x/\x<=hi)
theorem KP{va:Value}{xs:List Int}{lo hi:Int}(hl:xs.length<9223372036854775808):bY Tryz.prog 52 [va,.int .i64 lo,.int .i64 hi] [ah ae va xs] (.bool (vC xs lo hi)):=by
 refine aG _ (aM 52) λB w0=>?_;refine go ?_;intro b4 b5;refine bB (fG (b:=b4)) (h:=?_);refine bB (fG (b:=b5)) (h:=?_);refine ak (aa6 (p:=λx=>decide (x<lo\/hi<x)) hl (λx _=>aa7 (b4:=b4) (b5:=b5))) (next:=λ_ _=>?_);refine go ?_;refine aa () (hv:=?_) (hp:=trivial);have:(!xs.any λx=>decide (x<lo\/hi<x))=vC xs lo hi:=by
  rw[List.not_any_eq_all_not,vC];rw[xJ];simp only[kH,vQ,Bn,decide_eq_false_iff_not,not_or,Int.not_lt]
 rw[<- this];rfl
structure jG(g:List (List Int)):Prop where
 len:g.length<=256
 ok:∀(i:Nat) l,g[i]? =some l->∀(k:Nat) n,l[k]? =some n->0<=n/\n<g.length/\n≠i/\(∀m,0<k->l[k - 1]? =some m->m<n)/\∀l',g[n.toNat]? =some l'->(i:Int)∈l'
end Go.Proofs.YtoohgkkmdnbnfaaGreatDoor
set_option maxHeartbeats 2000000
namespace Go.Proofs.YtoohgkkmdnbnfaaGreatDoor
open Go.Ideal Kd
noncomputable def Rs:gF:=⟨2,[(.tmp 0)],(.seq (.ops [0] [⟨⟨(some 0),none,(.iM (.const (.slice none 0 0)))⟩,[]⟩]) (.seq (.ops [1,0] [⟨⟨(some 1),none,(.uo 9 8 [(.string ⟨⟨[]⟩⟩),(.string ⟨⟨[]⟩⟩),(.string ⟨⟨[]⟩⟩),(.string ⟨⟨[]⟩⟩),(.string ⟨⟨[]⟩⟩),(.string ⟨⟨[]⟩⟩),(.string ⟨⟨[]⟩⟩),(.string ⟨⟨[]⟩⟩)] [⟨0,⟨1,(.const (.string ⟨⟨[99,101,108,108,115]⟩⟩))⟩⟩,⟨1,⟨1,(.const (.string ⟨⟨[114,111,119,115]⟩⟩))⟩⟩,⟨2,⟨1,(.const (.string ⟨⟨[99,111,108,117,109,110,115]⟩⟩))⟩⟩,⟨3,⟨1,(.const (.string ⟨⟨[100,105,97,103,111,110,97,108,115]⟩⟩))⟩⟩,⟨4,⟨1,(.const (.string ⟨⟨[97,114,111,117,110,100]⟩⟩))⟩⟩,⟨5,⟨1,(.const (.string ⟨⟨[110,101,97,114]⟩⟩))⟩⟩,⟨6,⟨1,(.const (.string ⟨⟨[112,97,105,114,115]⟩⟩))⟩⟩,⟨7,⟨1,(.const (.string ⟨⟨[97,108,108]⟩⟩))⟩⟩])⟩,[]⟩,⟨⟨(some 0),none,(.iM (.tmp 1))⟩,[]⟩]) .ret))⟩
theorem aa8:kz Tryz.prog 207=some Rs:=by kernel_rfl
abbrev fD:ByteArray->Value:=λs=>.string s
theorem sJ:p9 Tryz.prog 9 fD:=Ze (by kernel_rfl)
abbrev rA(e:Int):List PanicEntry:=[{v:=.iface 41 (.int .i64 e),recovered:=false}]
theorem Rt{x:nH}:bY Tryz.prog 203 [.agg ⟨[.string x.name,.int .i64 x.value]⟩] [] (.string x.name):=by
 refine aG _ (aM 203) λB w0=>?_;refine go ?_;intro b;refine go ?_;exact aa () (hv:=rfl) (hp:=trivial)
theorem Ru{x:lc}{v:Value}:bY Tryz.prog 205 [.agg ⟨[.string x.name,v]⟩] [] (.string x.name):=by
 refine aG _ (aM 205) λB w0=>?_;refine go ?_;intro b;refine go ?_;exact aa () (hv:=rfl) (hp:=trivial)
theorem Rv{x:iP}:bY Tryz.prog 210 [.agg ⟨[.string x.name,.string x.on,.int .i64 x.family,.int .i64 x.type,.int .i64 x.lo,.int .i64 x.hi]⟩] [] (.string x.name):=by
 refine aG _ (aM 210) λB w0=>?_;refine go ?_;intro b;refine go ?_;exact aa () (hv:=rfl) (hp:=trivial)
theorem Rw{x:bM}{v1 v2:Value}:bY Tryz.prog 214 [.agg ⟨kF x v1 v2⟩] [] (.string x.name):=by
 refine aG _ (aM 214) λB w0=>?_;refine go ?_;intro b;refine go ?_;exact aa () (hv:=rfl) (hp:=trivial)
theorem Rx{s:ByteArray}:bY Tryz.prog 208 [.string s] [] (.string s):=by
 refine aG _ (aM 208) λB w0=>?_;refine go ?_;exact aa () (hv:=rfl) (hp:=trivial)
theorem DZ{P:Program}{B:List Nat}{w0:Wd}{kl kl':List OA}{F:List aJ}{K:KO}{ds:List Tmp}{rest:List bO}{n:Nat}{l:List (Nat×Value)}{D:List Deferred}{pm:Option FrameMode}{ro:Option Nat}{d:Nat}{g:Option (Tmp×Bool)}
 {α:Type} [DecidableEq α] {aV:α->Value} {kt:TypeId} {zero:Value} {m k:Operand} {b:Nat} {ai:List (α×Value)} (hk:p9 P kt aV) (a:α)
 (hit:∀v,dN a ai=some v->a∈ai.map (·.1)->R (λh=>aD P ds rest (act n ((d,.tuple ⟨[v,.bool true]⟩)::l) D pm ro) h K) B w0 kl F)
 (miss:a∉ai.map (·.1)->R (λh=>aD P ds rest (act n ((d,.tuple ⟨[zero,.bool false]⟩)::l) D pm ro) h K) B w0 kl F)
 (hm:ev l m=.map (some b):=by rfl) (ha:ev l k=aV a:=by conv=>lhs;whnf) (hs:ay (gy aV b ai) kl kl':=by exact gu) (hn:Nat.blt d n=true:=by rfl) (hg:bS l g=true:=by rfl):
 R (λh=>aD P ds (⟨⟨some d,g,.lookup kt zero m k true⟩,[]⟩::rest) (act n l D pm ro) h K) B w0 kl F:=by
 refine DC (ok:=true) hk a ?_ hm ha hs hn hg;by_cases h:a∈ai.map (·.1)
 ·obtain⟨v,hv⟩:=DW h;have e:jU true zero a ai=.tuple ⟨[v,.bool true]⟩:=by unfold jU;rw[hv];rfl
  rw[e];exact hit v hv h
 ·have e:jU true zero a ai=.tuple ⟨[zero,.bool false]⟩:=by unfold jU;rw[qa h];rfl
  rw[e];exact miss h
theorem nU{α:Type}{ai:List (ByteArray×Value)}{xs:List α}{nm:α->ByteArray}{start k:Nat}{x:α}(hx:xs[k]? =some x):
 (ai++eP ((xs.take k).map nm) start).map (·.1)=ai.map (·.1)++(xs.take k).map nm/\eP ((xs.take (k+1)).map nm) start=eP ((xs.take k).map nm) start++[(nm x,.int .i64 ((start:Int)+(k:Int)))]:=by
 have hk:=(bT.1 hx).1;refine⟨by rw[eX,qZ],?_⟩;rw[lJ,hx,eX,Km];congr 1;rw[di,gM,ED (by omega)];simp[eP]
theorem aa9{vs:Value}{xs:List ByteArray}{b start:Nat}{ai:List (ByteArray×Value)}(hl:xs.length<=4096)(hs:start<=4096)(hnd:(ai.map (·.1)).Nodup):
 oN Tryz.prog (.func 206) [vs,.int .i64 (start:Int),.func (.func 208) #[] #[],.map (some b)] [] [gy fD b ai] [ah aN vs xs] (λy:Bool×List ByteArray=>if y.1=true then .ok (.map (some b))else .fB (rA 161))
  (λy=>[gy fD b (ai++eP y.2 start)]) (λ_=>[]) (λy=>(y.1=true->y.2=xs/\(ai.map (·.1)++xs).Nodup)/\(y.1=false->¬(ai.map (·.1)++xs).Nodup)):=by
 let nm:ByteArray->ByteArray:=λs=>s
 have hmap:∀l:List ByteArray,l.map nm=l:=λl=>List.map_id' l;suffices h:oN Tryz.prog (.func 206) [vs,.int .i64 (start:Int),.func (.func 208) #[] #[],.map (some b)] [] [gy fD b ai] [ah aN vs xs] (λy:Bool×List ByteArray=>if y.1=true then .ok (.map (some b))else .fB (rA 161))
  (λy=>[gy fD b (ai++eP y.2 start)]) (λ_=>[]) (λy=>(y.1=true->y.2=(xs.map nm)/\(ai.map (·.1)++xs.map nm).Nodup)/\(y.1=false->¬(ai.map (·.1)++xs.map nm).Nodup))by
  rw[hmap]at h;exact h
 refine wQ _ (aM 206) λB w0=>?_;refine go ?_;rw[show gy fD b ai=gy fD b (ai++eP ((xs.take 0).map nm) start)by simp[eP]];refine aX (λk=>xs.length - k) (λk:Nat=>[(15,.int .i64 (k:Int))]) (λk=>[gy fD b (ai++eP ((xs.take k).map nm) start)]) (λ_=>[]) (λk=>k<=xs.length/\(ai.map (·.1)++(xs.take k).map nm).Nodup) 0 ⟨bX _,by simpa using hnd⟩ (body:=?_);rintro k ⟨hk,hall⟩;refine go ?_;refine az rfl (λh1=>?_) (λh1=>?_)
 ·refine go ?_;refine aY aN (next:=λ_ _ x (y:Unit) hx=>?_);refine go ?_;refine ak (Rx (s:=x)) (next:=λ_ _=>?_);refine go ?_;refine DZ sJ (nm x) (λv hv hm=>?_) (λhm=>?_)
  ·refine go ?_;refine Ap ?_;refine go ?_;refine yN (false,(xs.take k).map nm) (hv:=rfl) (hp:=⟨(λh=>by cases h),λ_ hn=>?_⟩);rw[(nU hx).1]at hm;have hsub:(ai.map (·.1)++(xs.take k).map nm++[nm x]).Nodup:=by
    have e:xs.map nm=(xs.take k).map nm++nm x::(xs.drop (k+1)).map nm:=by
     conv=>lhs;rw[<- uh k xs]
     rw[eX];congr 1;rw[pz (bT.1 hx).1,gY,(bT.1 hx).2]
    rw[e,<- fE]at hn;rw[iA]at hn⊢;exact⟨hn.1,by simp,λa ha c hc=>hn.2.2 a ha c (by rw[bG.1 hc];exact dx ..)⟩
   rw[iA]at hsub;exact hsub.2.2 _ hm _ (bG.2 rfl) rfl
  refine go ?_;refine ak (Rx (s:=x)) (next:=λ_ _=>?_);refine go ?_;refine uU sJ (nm x) (ai:=ai++eP ((xs.take k).map nm) start) (v:=.int .i64 ((start:Int)+(k:Int))) ?_;have hm2:=hm;rw[(nU hx).1]at hm2;rw[AC hm,fE,<- (nU (ai:=ai) hx).2];refine go ?_;refine aO (k+1) (by omega) ⟨by omega,?_⟩;rw[lJ,hx,eX,<- fE,iA];refine⟨hall,by simp,λa ha c hc=>?_⟩;have:c=nm x:=by simpa using hc
  subst this;intro e;subst e;exact hm2 ha
 have hkl:k=xs.length:=by omega
 subst hkl;rw[bK]at hall;rw[bK];refine go ?_;exact yM (true,xs.map nm) (hv:=rfl) (hp:=⟨λ_=>⟨rfl,hall⟩,λh=>by cases h⟩)
theorem aba{vs:Value}{xs:List nH}{b start:Nat}{ai:List (ByteArray×Value)}(hl:xs.length<=4096)(hs:start<=4096)(hnd:(ai.map (·.1)).Nodup):
 oN Tryz.prog (.func 202) [vs,.int .i64 (start:Int),.func (.func 203) #[] #[],.map (some b)] [] [gy fD b ai] [ah fu vs xs] (λy:Bool×List ByteArray=>if y.1=true then .ok (.map (some b))else .fB (rA 161))
  (λy=>[gy fD b (ai++eP y.2 start)]) (λ_=>[]) (λy=>(y.1=true->y.2=(xs.map nH.name)/\(ai.map (·.1)++xs.map nH.name).Nodup)/\(y.1=false->¬(ai.map (·.1)++xs.map nH.name).Nodup)):=by
 let nm:nH->ByteArray:=nH.name
 refine wQ _ (aM 202) λB w0=>?_;refine go ?_;rw[show gy fD b ai=gy fD b (ai++eP ((xs.take 0).map nm) start)by simp[eP]];refine aX (λk=>xs.length - k) (λk:Nat=>[(15,.int .i64 (k:Int))]) (λk=>[gy fD b (ai++eP ((xs.take k).map nm) start)]) (λ_=>[]) (λk=>k<=xs.length/\(ai.map (·.1)++(xs.take k).map nm).Nodup) 0 ⟨bX _,by simpa using hnd⟩ (body:=?_);rintro k ⟨hk,hall⟩;refine go ?_;refine az rfl (λh1=>?_) (λh1=>?_)
 ·refine go ?_;refine aY fu (next:=λ_ _ x y hx=>?_);refine go ?_;intro b10;refine go ?_;refine ak (Rt (x:=x)) (next:=λ_ _=>?_);refine go ?_;refine DZ sJ (nm x) (λv hv hm=>?_) (λhm=>?_)
  ·refine go ?_;refine Ap ?_;refine go ?_;refine yN (false,(xs.take k).map nm) (hv:=rfl) (hp:=⟨(λh=>by cases h),λ_ hn=>?_⟩);rw[(nU hx).1]at hm;have hsub:(ai.map (·.1)++(xs.take k).map nm++[nm x]).Nodup:=by
    have e:xs.map nm=(xs.take k).map nm++nm x::(xs.drop (k+1)).map nm:=by
     conv=>lhs;rw[<- uh k xs]
     rw[eX];congr 1;rw[pz (bT.1 hx).1,gY,(bT.1 hx).2]
    rw[e,<- fE]at hn;rw[iA]at hn⊢;exact⟨hn.1,by simp,λa ha c hc=>hn.2.2 a ha c (by rw[bG.1 hc];exact dx ..)⟩
   rw[iA]at hsub;exact hsub.2.2 _ hm _ (bG.2 rfl) rfl
  refine go ?_;refine ak (Rt (x:=x)) (next:=λ_ _=>?_);refine go ?_;refine uU sJ (nm x) (ai:=ai++eP ((xs.take k).map nm) start) (v:=.int .i64 ((start:Int)+(k:Int))) ?_;have hm2:=hm;rw[(nU hx).1]at hm2;rw[AC hm,fE,<- (nU (ai:=ai) hx).2];refine go ?_;refine aO (k+1) (by omega) ⟨by omega,?_⟩;rw[lJ,hx,eX,<- fE,iA];refine⟨hall,by simp,λa ha c hc=>?_⟩;have:c=nm x:=by simpa using hc
  subst this;intro e;subst e;exact hm2 ha
 have hkl:k=xs.length:=by omega
 subst hkl;rw[bK]at hall;rw[bK];refine go ?_;exact yM (true,xs.map nm) (hv:=rfl) (hp:=⟨λ_=>⟨rfl,hall⟩,λh=>by cases h⟩)
theorem abb{vs:Value}{xs:List lc}{b start:Nat}{ai:List (ByteArray×Value)}(hl:xs.length<=4096)(hs:start<=4096)(hnd:(ai.map (·.1)).Nodup):
 oN Tryz.prog (.func 204) [vs,.int .i64 (start:Int),.func (.func 205) #[] #[],.map (some b)] [] [gy fD b ai] [ah dW vs xs] (λy:Bool×List ByteArray=>if y.1=true then .ok (.map (some b))else .fB (rA 161))
  (λy=>[gy fD b (ai++eP y.2 start)]) (λ_=>[]) (λy=>(y.1=true->y.2=(xs.map lc.name)/\(ai.map (·.1)++xs.map lc.name).Nodup)/\(y.1=false->¬(ai.map (·.1)++xs.map lc.name).Nodup)):=by
 let nm:lc->ByteArray:=lc.name
 refine wQ _ (aM 204) λB w0=>?_;refine go ?_;rw[show gy fD b ai=gy fD b (ai++eP ((xs.take 0).map nm) start)by simp[eP]];refine aX (λk=>xs.length - k) (λk:Nat=>[(15,.int .i64 (k:Int))]) (λk=>[gy fD b (ai++eP ((xs.take k).map nm) start)]) (λ_=>[]) (λk=>k<=xs.length/\(ai.map (·.1)++(xs.take k).map nm).Nodup) 0 ⟨bX _,by simpa using hnd⟩ (body:=?_);rintro k ⟨hk,hall⟩;refine go ?_;refine az rfl (λh1=>?_) (λh1=>?_)
 ·refine go ?_;refine aY dW (next:=λ_ _ x y hx=>?_);refine go ?_;intro b10;refine go ?_;refine ak (Ru (x:=x) (v:=y)) (next:=λ_ _=>?_);refine go ?_;refine DZ sJ (nm x) (λv hv hm=>?_) (λhm=>?_)
  ·refine go ?_;refine Ap ?_;refine go ?_;refine yN (false,(xs.take k).map nm) (hv:=rfl) (hp:=⟨(λh=>by cases h),λ_ hn=>?_⟩);rw[(nU hx).1]at hm;have hsub:(ai.map (·.1)++(xs.take k).map nm++[nm x]).Nodup:=by
    have e:xs.map nm=(xs.take k).map nm++nm x::(xs.drop (k+1)).map nm:=by
     conv=>lhs;rw[<- uh k xs]
     rw[eX];congr 1;rw[pz (bT.1 hx).1,gY,(bT.1 hx).2]
    rw[e,<- fE]at hn;rw[iA]at hn⊢;exact⟨hn.1,by simp,λa ha c hc=>hn.2.2 a ha c (by rw[bG.1 hc];exact dx ..)⟩
   rw[iA]at hsub;exact hsub.2.2 _ hm _ (bG.2 rfl) rfl
  refine go ?_;refine ak (Ru (x:=x) (v:=y)) (next:=λ_ _=>?_);refine go ?_;refine uU sJ (nm x) (ai:=ai++eP ((xs.take k).map nm) start) (v:=.int .i64 ((start:Int)+(k:Int))) ?_;have hm2:=hm;rw[(nU hx).1]at hm2;rw[AC hm,fE,<- (nU (ai:=ai) hx).2];refine go ?_;refine aO (k+1) (by omega) ⟨by omega,?_⟩;rw[lJ,hx,eX,<- fE,iA];refine⟨hall,by simp,λa ha c hc=>?_⟩;have:c=nm x:=by simpa using hc
  subst this;intro e;subst e;exact hm2 ha
 have hkl:k=xs.length:=by omega
 subst hkl;rw[bK]at hall;rw[bK];refine go ?_;exact yM (true,xs.map nm) (hv:=rfl) (hp:=⟨λ_=>⟨rfl,hall⟩,λh=>by cases h⟩)
theorem abd{vs:Value}{xs:List iP}{b start:Nat}{ai:List (ByteArray×Value)}(hl:xs.length<=4096)(hs:start<=4096)(hnd:(ai.map (·.1)).Nodup):
 oN Tryz.prog (.func 209) [vs,.int .i64 (start:Int),.func (.func 210) #[] #[],.map (some b)] [] [gy fD b ai] [ah bC vs xs] (λy:Bool×List ByteArray=>if y.1=true then .ok (.map (some b))else .fB (rA 161))
  (λy=>[gy fD b (ai++eP y.2 start)]) (λ_=>[]) (λy=>(y.1=true->y.2=(xs.map iP.name)/\(ai.map (·.1)++xs.map iP.name).Nodup)/\(y.1=false->¬(ai.map (·.1)++xs.map iP.name).Nodup)):=by
 let nm:iP->ByteArray:=iP.name
 refine wQ _ (aM 209) λB w0=>?_;refine go ?_;rw[show gy fD b ai=gy fD b (ai++eP ((xs.take 0).map nm) start)by simp[eP]];refine aX (λk=>xs.length - k) (λk:Nat=>[(15,.int .i64 (k:Int))]) (λk=>[gy fD b (ai++eP ((xs.take k).map nm) start)]) (λ_=>[]) (λk=>k<=xs.length/\(ai.map (·.1)++(xs.take k).map nm).Nodup) 0 ⟨bX _,by simpa using hnd⟩ (body:=?_);rintro k ⟨hk,hall⟩;refine go ?_;refine az rfl (λh1=>?_) (λh1=>?_)
 ·refine go ?_;refine aY bC (next:=λ_ _ x y hx=>?_);refine go ?_;intro b10;refine go ?_;refine ak (Rv (x:=x)) (next:=λ_ _=>?_);refine go ?_;refine DZ sJ (nm x) (λv hv hm=>?_) (λhm=>?_)
  ·refine go ?_;refine Ap ?_;refine go ?_;refine yN (false,(xs.take k).map nm) (hv:=rfl) (hp:=⟨(λh=>by cases h),λ_ hn=>?_⟩);rw[(nU hx).1]at hm;have hsub:(ai.map (·.1)++(xs.take k).map nm++[nm x]).Nodup:=by
    have e:xs.map nm=(xs.take k).map nm++nm x::(xs.drop (k+1)).map nm:=by
     conv=>lhs;rw[<- uh k xs]
     rw[eX];congr 1;rw[pz (bT.1 hx).1,gY,(bT.1 hx).2]
    rw[e,<- fE]at hn;rw[iA]at hn⊢;exact⟨hn.1,by simp,λa ha c hc=>hn.2.2 a ha c (by rw[bG.1 hc];exact dx ..)⟩
   rw[iA]at hsub;exact hsub.2.2 _ hm _ (bG.2 rfl) rfl
  refine go ?_;refine ak (Rv (x:=x)) (next:=λ_ _=>?_);refine go ?_;refine uU sJ (nm x) (ai:=ai++eP ((xs.take k).map nm) start) (v:=.int .i64 ((start:Int)+(k:Int))) ?_;have hm2:=hm;rw[(nU hx).1]at hm2;rw[AC hm,fE,<- (nU (ai:=ai) hx).2];refine go ?_;refine aO (k+1) (by omega) ⟨by omega,?_⟩;rw[lJ,hx,eX,<- fE,iA];refine⟨hall,by simp,λa ha c hc=>?_⟩;have:c=nm x:=by simpa using hc
  subst this;intro e;subst e;exact hm2 ha
 have hkl:k=xs.length:=by omega
 subst hkl;rw[bK]at hall;rw[bK];refine go ?_;exact yM (true,xs.map nm) (hv:=rfl) (hp:=⟨λ_=>⟨rfl,hall⟩,λh=>by cases h⟩)
theorem abe{vs:Value}{xs:List bM}{b start:Nat}{ai:List (ByteArray×Value)}(hl:xs.length<=4096)(hs:start<=4096)(hnd:(ai.map (·.1)).Nodup):
 oN Tryz.prog (.func 213) [vs,.int .i64 (start:Int),.func (.func 214) #[] #[],.map (some b)] [] [gy fD b ai] [ah aW vs xs] (λy:Bool×List ByteArray=>if y.1=true then .ok (.map (some b))else .fB (rA 161))
  (λy=>[gy fD b (ai++eP y.2 start)]) (λ_=>[]) (λy=>(y.1=true->y.2=(xs.map bM.name)/\(ai.map (·.1)++xs.map bM.name).Nodup)/\(y.1=false->¬(ai.map (·.1)++xs.map bM.name).Nodup)):=by
 let nm:bM->ByteArray:=bM.name
 refine wQ _ (aM 213) λB w0=>?_;refine go ?_;rw[show gy fD b ai=gy fD b (ai++eP ((xs.take 0).map nm) start)by simp[eP]];refine aX (λk=>xs.length - k) (λk:Nat=>[(15,.int .i64 (k:Int))]) (λk=>[gy fD b (ai++eP ((xs.take k).map nm) start)]) (λ_=>[]) (λk=>k<=xs.length/\(ai.map (·.1)++(xs.take k).map nm).Nodup) 0 ⟨bX _,by simpa using hnd⟩ (body:=?_);rintro k ⟨hk,hall⟩;refine go ?_;refine az rfl (λh1=>?_) (λh1=>?_)
 ·refine go ?_;refine aY aW (next:=λ_ _ x y hx=>?_);refine go ?_;intro b10;refine go ?_;refine ak (Rw (x:=x) (v1:=y.1) (v2:=y.2)) (next:=λ_ _=>?_);refine go ?_;refine DZ sJ (nm x) (λv hv hm=>?_) (λhm=>?_)
  ·refine go ?_;refine Ap ?_;refine go ?_;refine yN (false,(xs.take k).map nm) (hv:=rfl) (hp:=⟨(λh=>by cases h),λ_ hn=>?_⟩);rw[(nU hx).1]at hm;have hsub:(ai.map (·.1)++(xs.take k).map nm++[nm x]).Nodup:=by
    have e:xs.map nm=(xs.take k).map nm++nm x::(xs.drop (k+1)).map nm:=by
     conv=>lhs;rw[<- uh k xs]
     rw[eX];congr 1;rw[pz (bT.1 hx).1,gY,(bT.1 hx).2]
    rw[e,<- fE]at hn;rw[iA]at hn⊢;exact⟨hn.1,by simp,λa ha c hc=>hn.2.2 a ha c (by rw[bG.1 hc];exact dx ..)⟩
   rw[iA]at hsub;exact hsub.2.2 _ hm _ (bG.2 rfl) rfl
  refine go ?_;refine ak (Rw (x:=x) (v1:=y.1) (v2:=y.2)) (next:=λ_ _=>?_);refine go ?_;refine uU sJ (nm x) (ai:=ai++eP ((xs.take k).map nm) start) (v:=.int .i64 ((start:Int)+(k:Int))) ?_;have hm2:=hm;rw[(nU hx).1]at hm2;rw[AC hm,fE,<- (nU (ai:=ai) hx).2];refine go ?_;refine aO (k+1) (by omega) ⟨by omega,?_⟩;rw[lJ,hx,eX,<- fE,iA];refine⟨hall,by simp,λa ha c hc=>?_⟩;have:c=nm x:=by simpa using hc
  subst this;intro e;subst e;exact hm2 ha
 have hkl:k=xs.length:=by omega
 subst hkl;rw[bK]at hall;rw[bK];refine go ?_;exact yM (true,xs.map nm) (hv:=rfl) (hp:=⟨λ_=>⟨rfl,hall⟩,λh=>by cases h⟩)
end Go.Proofs.YtoohgkkmdnbnfaaGreatDoor
namespace Go.Proofs.YtoohgkkmdnbnfaaGreatDoor
open Go.Ideal Kd
noncomputable def KQ:gF:=⟨9,[],(.seq (.ops [3,2] [⟨⟨(some 3),none,.recover⟩,[]⟩,⟨⟨(some 2),none,(.iM (.tmp 3))⟩,[]⟩]) (.seq (.ops [4,5] [⟨⟨(some 4),none,(.mv (.tmp 2))⟩,[]⟩,⟨⟨(some 5),none,(.bin .neq 20 (.tmp 4) (.const .nilIface))⟩,[]⟩]) (.cond (.tmp 5) (.ops [6,7,8] [⟨⟨(some 6),none,(.build [(.string ⟨⟨[]⟩⟩),(.int .i64 0),(.int .i64 0),(.int .i64 0),(.int .i64 0),(.slice none 0 0),(.slice none 0 0),(.slice none 0 0),(.slice none 0 0),(.slice none 0 0)] [])⟩,[]⟩,⟨⟨(some 7),none,(.mv (.tmp 2))⟩,[]⟩,⟨⟨(some 8),none,(.EJ 41 (.int .i64 0) false (.tmp 7))⟩,[]⟩,⟨⟨none,none,(.store 10 (.tmp 0) (.tmp 6))⟩,[]⟩,⟨⟨none,none,(.store 1 (.tmp 1) (.tmp 8))⟩,[]⟩]) .skip)))⟩
theorem Ry:kz Tryz.prog 201=some KQ:=by kernel_rfl
section
variable {P:Program} {B:List Nat} {w0:Wd} {kl kl':List OA} {F:List aJ} {K:KO} {ds:List Tmp} {rest:List bO} {n:Nat} {l:List (Nat×Value)} {D:List Deferred} {pm:Option FrameMode} {ro:Option Nat} {d:Nat} {g:Option (Tmp×Bool)}
theorem Rz{α:Type}[DecidableEq α]{aV:α->Value}{kt:TypeId}{zero:Value}{m k:Operand}{b:Nat}{ai:List (α×Value)}(hk:p9 P kt aV)(a:α)
 (hit:∀v,dN a ai=some v->a∈ai.map (·.1)->R (λh=>aD P ds rest (act n ((d,.tuple ⟨[v,.bool true]⟩)::l) D pm ro) h K) B w0 kl F)
 (miss:a∉ai.map (·.1)->R (λh=>aD P ds rest (act n ((d,.tuple ⟨[zero,.bool false]⟩)::l) D pm ro) h K) B w0 kl F)
 (hm:ev l m=.map (some b):=by rfl) (ha:ev l k=aV a:=by conv=>lhs;whnf) (hf:qQ aV b ai∈F:=by exact qO) (hn:Nat.blt d n=true:=by rfl) (hg:bS l g=true:=by rfl):
 R (λh=>aD P ds (⟨⟨some d,g,.lookup kt zero m k true⟩,[]⟩::rest) (act n l D pm ro) h K) B w0 kl F:=by
 refine PR (ok:=true) hk a ?_ hm ha hf hn hg;by_cases h:a∈ai.map (·.1)
 ·obtain⟨v,hv⟩:=DW h;have e:jU true zero a ai=.tuple ⟨[v,.bool true]⟩:=by unfold jU;rw[hv];rfl
  rw[e];exact hit v hv h
 ·have e:jU true zero a ai=.tuple ⟨[zero,.bool false]⟩:=by unfold jU;rw[qa h];rfl
  rw[e];exact miss h
theorem KS{α:Type}(E:Enc α){v:Value}{ax:List (α×E.Y)}{Q:IH->Prop}(h0:ax=[]->∀c,v=.slice none 0 c->R Q B w0 kl F)(h1:ax=[]->∀i o f c,v=.slice (some ⟨i,o,some f⟩) 0 c->R Q B w0 kl F)
 (h2:0<ax.length->∀i o f c,v=.slice (some ⟨i,o,some f⟩) ax.length c->R Q B w0 kl F) (hf:nR E v ax∈F:=by exact qO):R Q B w0 kl F:=λw s=>by
 rcases s.facts _ hf with⟨e,a,c,hv,hg⟩|⟨i,o,f,c,cells,⟨hv,_⟩,_⟩
 ·match a,hv,hg with
  |none,hv,_=>exact h0 e c hv w s
  |some ⟨i,o,some f⟩,hv,_=>exact h1 e i o f c hv w s
 ·by_cases hx:ax=[]
  ·subst hx;exact h1 rfl i o f c hv w s
  ·exact h2 (xI.2 hx) i o f c hv w s
theorem KT{α:Type}(E:Enc α){Q:IH->Prop}(h:R Q B w0 (ar E (.slice none 0 0) []::kl) F):R Q B w0 kl F:=λw s=>by
 obtain⟨S,h1,h2,h3⟩:=s.own;exact h w ⟨s.agree,s.le,s.fM,⟨S,⟨[],S,.inl ⟨rfl,⟨none,rfl,trivial⟩,rfl⟩,h1,rfl⟩,h2,h3⟩,s.facts⟩
end
theorem abf:aZ Tryz.prog (.func 207) [] [] [] [] (λv:Value=>v) (λ_=>[]) (λv=>[ah aN v ik]) (λ_=>True):=by
 refine aG Rs aa8 λB w0=>?_;refine go ?_;intro b;refine go ?_;refine qU (b:=b) (m:=8) (f:=0) aN (ax:=ik.map λs=>(s,())) rfl (.inl rfl) ?_ (hk:=ay.here);refine DL (E:=aN) ?_ (λw hw p hp f hf=>by cases hf);exact aa (.slice (some ⟨b,0,some 0⟩) 8 8) (hv:=rfl) (hp:=trivial) (hF:=.cons (dA _ (dx ..)) .nil)
theorem Gu{b:Nat}{s:ByteArray}{ai:List (ByteArray×Value)}:
 oN Tryz.prog (.func 212) [.map (some b),.string s] [] [] [qQ fD b ai] (λy:Option Value=>match y with|some v=>.ok v|none=>.fB (rA 160)) (λ_=>[]) (λ_=>[]) (λy=>y=dN s ai):=by
 refine wQ _ (aM 212) λB w0=>?_;refine go ?_;refine Rz sJ s (λv hv hm=>?_) (λhm=>?_)
 ·refine go ?_;exact yM (some v) (hv:=rfl) (hp:=hv.symm)
 ·refine go ?_;refine Ap ?_;refine go ?_;exact yN none (hv:=rfl) (hp:=(qa hm).symm)
theorem RA{dU l:List ByteArray}{k:Nat}{s:ByteArray}(h:l[k]? =some s):fU dU (l.take (k+1))=fU dU (l.take k)|||1<<<dO s dU:=by
 unfold fU;rw[lJ,h,EF];rfl
theorem KU{dU:List ByteArray}(hs:dU.length<=16):∀(l:List ByteArray) (m:Nat),(∀s∈l,s∈dU)->m<65536->l.foldl (λm s=>m|||1<<<dO s dU) m<65536
 |[],m,_,hm=>hm
 |s::l,m,h,hm=>by
  rw[uf];refine KU hs l _ (λx hx=>h x (dA _ hx)) ?_;have h1:=yS (h s (dx ..));have h2:1<<<dO s dU<2^16:=by
   rw[Nat.shiftLeft_eq,xM];exact Nat.pow_lt_pow_right (by omega) (by omega)
  exact Nat.or_lt_two_pow (n:=16) hm h2
theorem RB{b4 bs:Nat}{vl:Value}{dU l:List ByteArray}(hs:dU.length<=16)(hl:l.length<9223372036854775808):
 oN Tryz.prog (.func 216) [vl] [ptr' b4] [] [gH b4 0 [.map (some bs)],qQ fD bs (eP dU 0),ah aN vl l] (λy:Bool=>if y=true then .ok (.int .i64 (fU dU l:Int))else .fB (rA 160)) (λ_=>[]) (λ_=>[])
  (λy=>(y=true->∀s∈l,s∈dU)/\(y=false->¬∀s∈l,s∈dU)):=by
 refine wQ _ (aM 216) λB w0=>?_;refine go ?_;refine aX (λk=>l.length - k) (λk:Nat=>[(8,.int .i64 (k:Int)),(3,.int .i64 (fU dU (l.take k):Int))]) (λ_=>[]) (λ_=>[]) (λk=>k<=l.length/\∀s∈l.take k,s∈dU) 0 ⟨bX _,by simp⟩ (body:=?_);rintro k ⟨hk,hall⟩;refine go ?_;refine az rfl (λh1=>?_) (λh1=>?_)
 ·refine go ?_;refine aY aN (next:=λ_ _ x (y:Unit) hx=>?_);refine go ?_;refine sD (Gu (b:=bs) (s:=x) (ai:=eP dU 0)) (λy v hy e=>?_) (λy ch hy e=>?_)
  ·have hm:x∈dU:=by
    by_cases h:x∈dU
    ·exact h
    ·rw[qa (by rw[qZ];exact h)]at hy;subst hy;cases e
   rw[uY hm]at hy;subst hy;injection e with e;subst e;have hp:=yS hm;have h2:1<<<dO x dU<2^16:=by
    rw[Nat.shiftLeft_eq,xM];exact Nat.pow_lt_pow_right (by omega) (by omega)
   have h3:=KU hs (l.take k) 0 hall (by omega);rw[eH];refine(fq rfl rfl (Pf (a:=1) (b:=dO x dU) rfl rfl (by omega) (by omega))).h ?_;refine(fq rfl rfl (Ph (a:=fU dU (l.take k)) (b:=1<<<dO x dU) rfl rfl (Nat.lt_trans h3 (by omega)) (by omega))).h ?_;refine go ?_;refine aO (k+1) (by omega) ⟨by omega,λs hs'=>?_⟩ (hl:=⟨rfl,by rw[RA hx];rfl,by repeat (first|exact trivial|refine⟨rfl,?_⟩)⟩);rw[lJ,hx]at hs';rcases dZ.1 hs' with h|h
   ·exact hall s h
   ·have:s=x:=by simpa using h
    rw[this];exact hm
  ·refine go ?_;have hm:x∉dU:=by
    intro h;rw[uY h]at hy;subst hy;cases e
   have hch:ch=rA 160:=by
    rw[qa (by rw[qZ];exact hm)]at hy;subst hy;injection e with e;exact e.symm
   subst hch;exact yN false (hv:=rfl) (hp:=⟨(λh=>by cases h),λ_ h=>hm (h x (bJ hx))⟩)
 have hkl:k=l.length:=by omega
 subst hkl;rw[bK]at hall⊢;refine go ?_;exact yM true (hv:=rfl) (hp:=⟨λ_=>hall,λh=>by cases h⟩)
theorem abg{v:Value}{ax:List (iP×bC.Y)}(hl:ax.length<=4096):aZ Tryz.prog (.func 211) [v] [] [] [nR bC v ax] (λv':Value=>v') (λv'=>[ar bC v' ax]) (λ_=>[]) (λ_=>True):=by
 refine aG _ (aM 211) λB w0=>?_;refine KS (v:=v) (ax:=ax) bC (λe c ev=>?_) (λe i o f c ev=>?_) (λhne i o f c ev=>?_)
 ·subst e ev;refine go ?_;refine(fq rfl rfl (F3 (e:=115) (by kernel_rfl) rfl)).h ?_;refine go ?_;refine KT bC ?_;exact aa (.slice none 0 0) (hv:=rfl) (hp:=trivial)
 ·subst e ev;refine go ?_;refine(fq rfl rfl (Au (e:=115) (by kernel_rfl) rfl)).h ?_;refine go ?_;intro b;refine go ?_;refine J7 (b:=b) ?_;refine go ?_;refine qU (b:=b) (m:=0) (f:=0) bC (ax:=[]) rfl (.inl rfl) ?_ (hk:=ay.here);exact aa (.slice (some ⟨b,0,some 0⟩) 0 0) (hv:=rfl) (hp:=trivial)
 ·subst ev;refine go ?_;refine(fq rfl rfl (Au (e:=115) (by kernel_rfl) rfl)).h ?_;refine go ?_;intro b;refine go ?_;refine J8 (b:=b) bC ax hne (by omega) (λb'=>?_);refine go ?_;refine qU (b:=b') (m:=ax.length) (f:=bC.n) bC (ax:=ax) rfl (.inr rfl) ?_ (hk:=ay.here);exact aa (.slice (some ⟨b',0,some bC.n⟩) ax.length ax.length) (hv:=rfl) (hp:=trivial)
theorem abh{v:Value}{ax:List (bM×aW.Y)}(hl:ax.length<=4096):aZ Tryz.prog (.func 215) [v] [] [] [nR aW v ax] (λv':Value=>v') (λv'=>[ar aW v' ax]) (λ_=>[]) (λ_=>True):=by
 refine aG _ (aM 215) λB w0=>?_;refine KS (v:=v) (ax:=ax) aW (λe c ev=>?_) (λe i o f c ev=>?_) (λhne i o f c ev=>?_)
 ·subst e ev;refine go ?_;refine(fq rfl rfl (F3 (e:=71) (by kernel_rfl) rfl)).h ?_;refine go ?_;refine KT aW ?_;exact aa (.slice none 0 0) (hv:=rfl) (hp:=trivial)
 ·subst e ev;refine go ?_;refine(fq rfl rfl (Au (e:=71) (by kernel_rfl) rfl)).h ?_;refine go ?_;intro b;refine go ?_;refine J7 (b:=b) ?_;refine go ?_;refine qU (b:=b) (m:=0) (f:=0) aW (ax:=[]) rfl (.inl rfl) ?_ (hk:=ay.here);exact aa (.slice (some ⟨b,0,some 0⟩) 0 0) (hv:=rfl) (hp:=trivial)
 ·subst ev;refine go ?_;refine(fq rfl rfl (Au (e:=71) (by kernel_rfl) rfl)).h ?_;refine go ?_;intro b;refine go ?_;refine J8 (b:=b) aW ax hne (by omega) (λb'=>?_);refine go ?_;refine qU (b:=b') (m:=ax.length) (f:=aW.n) aW (ax:=ax) rfl (.inr rfl) ?_ (hk:=ay.here);exact aa (.slice (some ⟨b',0,some aW.n⟩) ax.length ax.length) (hv:=rfl) (hp:=trivial)
end Go.Proofs.YtoohgkkmdnbnfaaGreatDoor
set_option maxHeartbeats 4000000
namespace Go.Proofs.YtoohgkkmdnbnfaaGreatDoor
open Go.Ideal Kd
noncomputable def Gv:gF:=⟨128,[(.oG 10 2),(.cell1 3)],(.seq (.ops [1,2,3] [⟨⟨(some 1),none,(.box (.tmp 0) 28)⟩,[]⟩,⟨⟨(some 2),none,(.new [(.string ⟨⟨[]⟩⟩),(.int .i64 0),(.int .i64 0),(.int .i64 0),(.int .i64 0),(.slice none 0 0),(.slice none 0 0),(.slice none 0 0),(.slice none 0 0),(.slice none 0 0)] 28)⟩,[]⟩,⟨⟨(some 3),none,(.new [(.int .i64 0)] 41)⟩,[]⟩]) (.seq (.ops [11] [⟨⟨(some 11),none,(.zz (.func 201) [] [(.tmp 2),(.tmp 3)])⟩,[]⟩,⟨⟨none,none,(.dcall (.tmp 11) [])⟩,[]⟩]) (.seq (.seq (.ops [12,13,14,15] [⟨⟨(some 12),none,(.fA 6 (.tmp 1))⟩,[]⟩,⟨⟨(some 13),none,(.fT (.tmp 12))⟩,[]⟩,⟨⟨(some 14),none,(.oC (.tmp 13))⟩,[]⟩,⟨⟨(some 15),none,(.bin .gtr 3 (.tmp 14) (.const (.int .i64 16)))⟩,[]⟩]) (.cond (.tmp 15) (.seq (.ops [16] [⟨⟨(some 16),none,(.oz 10 (.tmp 2))⟩,[]⟩,⟨⟨none,none,(.store 10 (.tmp 2) (.tmp 16))⟩,[]⟩,⟨⟨none,none,(.store 1 (.tmp 3) (.const (.int .i64 2)))⟩,[]⟩]) .ret) .skip)) (.seq (.ops [17,18,19,20,4] [⟨⟨(some 17),none,(.fA 6 (.tmp 1))⟩,[]⟩,⟨⟨(some 18),none,(.fT (.tmp 17))⟩,[]⟩,⟨⟨(some 19),none,.sU⟩,[]⟩,⟨⟨(some 20),none,(.call (.func 202) [(.tmp 18),(.const (.int .i64 0)),(.func 203),(.tmp 19)])⟩,[]⟩,⟨⟨(some 4),none,(.new [(.map none)] 245)⟩,[]⟩,⟨⟨none,none,(.store 1 (.tmp 4) (.tmp 20))⟩,[]⟩]) (.seq (.ops [21,22,23,24,25,26,5] [⟨⟨(some 21),none,(.fA 7 (.tmp 1))⟩,[]⟩,⟨⟨(some 22),none,(.fT (.tmp 21))⟩,[]⟩,⟨⟨(some 24),none,.sU⟩,[]⟩,⟨⟨(some 23),none,(.call (.func 207) [])⟩,[⟨(some 22),none,(.fT (.tmp 21))⟩]⟩,⟨⟨(some 25),none,(.call (.func 206) [(.tmp 23),(.const (.int .i64 0)),(.func 208),(.tmp 24)])⟩,[⟨(some 22),none,(.fT (.tmp 21))⟩]⟩,⟨⟨(some 26),none,(.call (.func 204) [(.tmp 22),(.const (.int .i64 8)),(.func 205),(.tmp 25)])⟩,[]⟩,⟨⟨(some 5),none,(.iM (.tmp 26))⟩,[]⟩]) (.seq (.ops [27,28,29,30,6] [⟨⟨(some 27),none,(.fA 8 (.tmp 1))⟩,[]⟩,⟨⟨(some 28),none,(.fT (.tmp 27))⟩,[]⟩,⟨⟨(some 29),none,.sU⟩,[]⟩,⟨⟨(some 30),none,(.call (.func 209) [(.tmp 28),(.const (.int .i64 0)),(.func 210),(.tmp 29)])⟩,[]⟩,⟨⟨(some 6),none,(.iM (.tmp 30))⟩,[]⟩]) (.seq (.ops [31,32,33,34] [⟨⟨(some 31),none,(.fA 8 (.tmp 1))⟩,[]⟩,⟨⟨(some 32),none,(.fT (.tmp 31))⟩,[]⟩,⟨⟨(some 33),none,(.call (.func 211) [(.tmp 32)])⟩,[]⟩,⟨⟨(some 34),none,(.fA 8 (.tmp 1))⟩,[]⟩,⟨⟨none,none,(.store 1 (.tmp 34) (.tmp 33))⟩,[]⟩]) (.seq (.seq (.ops [35,36,37,38] [⟨⟨(some 35),none,(.fA 8 (.tmp 1))⟩,[]⟩,⟨⟨(some 36),none,(.fT (.tmp 35))⟩,[]⟩,⟨⟨(some 37),none,(.oC (.tmp 36))⟩,[]⟩,⟨⟨(some 38),none,(.mv (.const (.int .i64 0)))⟩,[]⟩]) (.block 0 (.loop (.seq (.ops [39] [⟨⟨(some 39),none,(.bin .lss 3 (.tmp 38) (.tmp 37))⟩,[]⟩]) (.seq (.cond (.tmp 39) .skip (.exit 0)) (.seq (.block 1 (.seq (.ops [40,7] [⟨⟨(some 40),none,(.mv (.tmp 38))⟩,[]⟩,⟨⟨(some 7),none,(.iM (.tmp 40))⟩,[]⟩]) (.ops [41,42,43,44,45,46,47,48,49,50,51,52,53] [⟨⟨(some 41),none,(.fA 8 (.tmp 1))⟩,[]⟩,⟨⟨(some 42),none,(.fT (.tmp 41))⟩,[]⟩,⟨⟨(some 43),none,(.mv (.tmp 7))⟩,[]⟩,⟨⟨(some 44),none,(.mv (.tmp 5))⟩,[]⟩,⟨⟨(some 45),none,(.fA 8 (.tmp 1))⟩,[]⟩,⟨⟨(some 46),none,(.fT (.tmp 45))⟩,[]⟩,⟨⟨(some 47),none,(.mv (.tmp 7))⟩,[]⟩,⟨⟨(some 48),none,(.kV 6 (.tmp 46) (.tmp 47))⟩,[]⟩,⟨⟨(some 49),none,(.fA 1 (.tmp 48))⟩,[]⟩,⟨⟨(some 50),none,(.fT (.tmp 49))⟩,[]⟩,⟨⟨(some 51),none,(.call (.func 212) [(.tmp 44),(.tmp 50)])⟩,[⟨(some 42),none,(.fT (.tmp 41))⟩]⟩,⟨⟨(some 52),none,(.kV 6 (.tmp 42) (.tmp 43))⟩,[]⟩,⟨⟨(some 53),none,(.fA 2 (.tmp 52))⟩,[]⟩,⟨⟨none,none,(.store 1 (.tmp 53) (.tmp 51))⟩,[]⟩]))) (.ops [54,38] [⟨⟨(some 54),none,(.bin .add 3 (.tmp 38) (.const (.int .i64 1)))⟩,[]⟩,⟨⟨(some 38),none,(.mv (.tmp 54))⟩,[]⟩]))))))) (.seq (.ops [55,56,57,58] [⟨⟨(some 55),none,(.fA 9 (.tmp 1))⟩,[]⟩,⟨⟨(some 56),none,(.fT (.tmp 55))⟩,[]⟩,⟨⟨(some 57),none,.sU⟩,[]⟩,⟨⟨(some 58),none,(.call (.func 213) [(.tmp 56),(.const (.int .i64 0)),(.func 214),(.tmp 57)])⟩,[]⟩]) (.seq (.ops [59,60,61,62] [⟨⟨(some 59),none,(.fA 9 (.tmp 1))⟩,[]⟩,⟨⟨(some 60),none,(.fT (.tmp 59))⟩,[]⟩,⟨⟨(some 61),none,(.call (.func 215) [(.tmp 60)])⟩,[]⟩,⟨⟨(some 62),none,(.fA 9 (.tmp 1))⟩,[]⟩,⟨⟨none,none,(.store 1 (.tmp 62) (.tmp 61))⟩,[]⟩]) (.seq (.ops [63,8] [⟨⟨(some 63),none,(.zz (.func 216) [] [(.tmp 4)])⟩,[]⟩,⟨⟨(some 8),none,(.iM (.tmp 63))⟩,[]⟩]) (.seq (.seq (.ops [64,65,66,67] [⟨⟨(some 64),none,(.fA 9 (.tmp 1))⟩,[]⟩,⟨⟨(some 65),none,(.fT (.tmp 64))⟩,[]⟩,⟨⟨(some 66),none,(.oC (.tmp 65))⟩,[]⟩,⟨⟨(some 67),none,(.mv (.const (.int .i64 0)))⟩,[]⟩]) (.block 2 (.loop (.seq (.ops [68] [⟨⟨(some 68),none,(.bin .lss 3 (.tmp 67) (.tmp 66))⟩,[]⟩]) (.seq (.cond (.tmp 68) .skip (.exit 2)) (.seq (.block 3 (.seq (.ops [69,9] [⟨⟨(some 69),none,(.mv (.tmp 67))⟩,[]⟩,⟨⟨(some 9),none,(.iM (.tmp 69))⟩,[]⟩]) (.seq (.ops [70,71,72,73,10] [⟨⟨(some 70),none,(.fA 9 (.tmp 1))⟩,[]⟩,⟨⟨(some 71),none,(.fT (.tmp 70))⟩,[]⟩,⟨⟨(some 72),none,(.mv (.tmp 9))⟩,[]⟩,⟨⟨(some 73),none,(.kV 12 (.tmp 71) (.tmp 72))⟩,[]⟩,⟨⟨(some 10),none,(.iM (.tmp 73))⟩,[]⟩]) (.seq (.ops [74,75,76,77,78,79] [⟨⟨(some 74),none,(.mv (.tmp 10))⟩,[]⟩,⟨⟨(some 75),none,(.mv (.tmp 10))⟩,[]⟩,⟨⟨(some 76),none,(.jW (.tmp 74))⟩,[]⟩,⟨⟨(some 77),none,(.fA 3 (.tmp 76))⟩,[]⟩,⟨⟨none,none,(.store 1 (.tmp 77) (.const (.int .i64 0)))⟩,[]⟩,⟨⟨(some 78),none,(.jW (.tmp 75))⟩,[]⟩,⟨⟨(some 79),none,(.fA 11 (.tmp 78))⟩,[]⟩,⟨⟨none,none,(.store 1 (.tmp 79) (.const (.int .i64 (-1))))⟩,[]⟩]) (.seq (.seq (.ops [80,81,82,83,84] [⟨⟨(some 80),none,(.mv (.tmp 10))⟩,[]⟩,⟨⟨(some 81),none,(.jW (.tmp 80))⟩,[]⟩,⟨⟨(some 82),none,(.fA 1 (.tmp 81))⟩,[]⟩,⟨⟨(some 83),none,(.fT (.tmp 82))⟩,[]⟩,⟨⟨(some 84),none,(.bin .neq 9 (.tmp 83) (.const (.string ⟨⟨[]⟩⟩)))⟩,[]⟩]) (.cond (.tmp 84) (.ops [85,86,87,88,89,90,91,92,93] [⟨⟨(some 85),none,(.mv (.tmp 10))⟩,[]⟩,⟨⟨(some 86),none,(.mv (.tmp 5))⟩,[]⟩,⟨⟨(some 87),none,(.mv (.tmp 10))⟩,[]⟩,⟨⟨(some 88),none,(.jW (.tmp 87))⟩,[]⟩,⟨⟨(some 89),none,(.fA 1 (.tmp 88))⟩,[]⟩,⟨⟨(some 90),none,(.fT (.tmp 89))⟩,[]⟩,⟨⟨(some 91),none,(.call (.func 212) [(.tmp 86),(.tmp 90)])⟩,[]⟩,⟨⟨(some 92),none,(.jW (.tmp 85))⟩,[]⟩,⟨⟨(some 93),none,(.fA 3 (.tmp 92))⟩,[]⟩,⟨⟨none,none,(.store 1 (.tmp 93) (.tmp 91))⟩,[]⟩]) .skip)) (.seq (.ops [94,95,96,97,98,99,100,101,102,103,104,105,106,107,108,109,110,111] [⟨⟨(some 94),none,(.mv (.tmp 10))⟩,[]⟩,⟨⟨(some 95),none,(.mv (.tmp 10))⟩,[]⟩,⟨⟨(some 96),none,(.mv (.tmp 8))⟩,[]⟩,⟨⟨(some 97),none,(.mv (.tmp 10))⟩,[]⟩,⟨⟨(some 98),none,(.jW (.tmp 97))⟩,[]⟩,⟨⟨(some 99),none,(.fA 4 (.tmp 98))⟩,[]⟩,⟨⟨(some 100),none,(.fT (.tmp 99))⟩,[]⟩,⟨⟨(some 102),none,(.mv (.tmp 8))⟩,[]⟩,⟨⟨(some 103),none,(.mv (.tmp 10))⟩,[]⟩,⟨⟨(some 104),none,(.jW (.tmp 103))⟩,[]⟩,⟨⟨(some 105),none,(.fA 5 (.tmp 104))⟩,[]⟩,⟨⟨(some 106),none,(.fT (.tmp 105))⟩,[]⟩,⟨⟨(some 101),none,(.call (.tmp 96) [(.tmp 100)])⟩,[⟨(some 106),none,(.fT (.tmp 105))⟩]⟩,⟨⟨(some 107),none,(.call (.tmp 102) [(.tmp 106)])⟩,[]⟩,⟨⟨(some 108),none,(.jW (.tmp 94))⟩,[]⟩,⟨⟨(some 109),none,(.fA 6 (.tmp 108))⟩,[]⟩,⟨⟨none,none,(.store 1 (.tmp 109) (.tmp 101))⟩,[]⟩,⟨⟨(some 110),none,(.jW (.tmp 95))⟩,[]⟩,⟨⟨(some 111),none,(.fA 7 (.tmp 110))⟩,[]⟩,⟨⟨none,none,(.store 1 (.tmp 111) (.tmp 107))⟩,[]⟩]) (.seq (.ops [112,113,114,115,116] [⟨⟨(some 112),none,(.mv (.tmp 10))⟩,[]⟩,⟨⟨(some 113),none,(.jW (.tmp 112))⟩,[]⟩,⟨⟨(some 114),none,(.fA 10 (.tmp 113))⟩,[]⟩,⟨⟨(some 115),none,(.fT (.tmp 114))⟩,[]⟩,⟨⟨(some 116),none,(.bin .neq 9 (.tmp 115) (.const (.string ⟨⟨[]⟩⟩)))⟩,[]⟩]) (.cond (.tmp 116) (.ops [117,118,119,120,121,122,123,124,125] [⟨⟨(some 117),none,(.mv (.tmp 10))⟩,[]⟩,⟨⟨(some 118),none,(.mv (.tmp 6))⟩,[]⟩,⟨⟨(some 119),none,(.mv (.tmp 10))⟩,[]⟩,⟨⟨(some 120),none,(.jW (.tmp 119))⟩,[]⟩,⟨⟨(some 121),none,(.fA 10 (.tmp 120))⟩,[]⟩,⟨⟨(some 122),none,(.fT (.tmp 121))⟩,[]⟩,⟨⟨(some 123),none,(.call (.func 212) [(.tmp 118),(.tmp 122)])⟩,[]⟩,⟨⟨(some 124),none,(.jW (.tmp 117))⟩,[]⟩,⟨⟨(some 125),none,(.fA 11 (.tmp 124))⟩,[]⟩,⟨⟨none,none,(.store 1 (.tmp 125) (.tmp 123))⟩,[]⟩]) .skip)))))))) (.ops [126,67] [⟨⟨(some 126),none,(.bin .add 3 (.tmp 67) (.const (.int .i64 1)))⟩,[]⟩,⟨⟨(some 67),none,(.mv (.tmp 126))⟩,[]⟩]))))))) (.seq (.ops [127] [⟨⟨(some 127),none,(.oz 10 (.tmp 1))⟩,[]⟩,⟨⟨none,none,(.store 10 (.tmp 2) (.tmp 127))⟩,[]⟩,⟨⟨none,none,(.store 1 (.tmp 3) (.const (.int .i64 0)))⟩,[]⟩]) .ret)))))))))))))⟩
theorem abj:kz Tryz.prog 150=some Gv:=by kernel_rfl
theorem dQ(a b:ByteArray):(a.toList==b.toList)=decide (a=b):=by
 rw[ByteArray.toList_eq,ByteArray.toList_eq];by_cases h:a=b
 ·subst h;simp
 ·rw[aR h];cases hb:a.data.toList==b.data.toList with
  |false=>rfl
  |true=>
   have:=eq_of_beq hb;exact absurd (ByteArray.ext (Array.ext' this)) h
abbrev tO:List Value:=[.string ⟨⟨[]⟩⟩,.int .i64 0,.int .i64 0,.int .i64 0,.int .i64 0,.slice none 0 0,.slice none 0 0,.slice none 0 0,.slice none 0 0,.slice none 0 0]
theorem abk{b2 b3:Nat}:FX Tryz.prog (.func 201) [] [ptr' b2,ptr' b3] .returning [] [] (λ_:Unit=>.ok (.tuple ⟨[]⟩)) (λ_=>.returning) (λ_=>[]) (λ_=>[]) (λ_=>True):=by
 refine Pt KQ Ry λB w0=>?_;refine go ?_;refine Pv (v:=.nilIface) (m':=.returning) rfl ?_;refine go ?_;refine(fq (v:=.bool false) rfl rfl (λh=>by
  show(match kI Tryz.prog .neq 20 (.tmp 4) (.const .nilIface) .nilIface .nilIface with|some v=>some (v,h)|none=>none)=_;rw[show kI Tryz.prog .neq 20 (.tmp 4) (.const .nilIface) .nilIface .nilIface=some (.bool false)by kernel_rfl])).h ?_
 refine go ?_;exact Py () (hv:=rfl) (hm:=rfl) (hp:=trivial)
theorem abl{b2 b3:Nat}{e:Int}(he:e=160\/e=161):FX Tryz.prog (.func 201) [] [ptr' b2,ptr' b3] (.panicking (rA e)) [pt b2 (.cells tO),pt b3 (.cells [.int .i64 0])] [] (λ_:Unit=>.ok (.tuple ⟨[]⟩)) (λ_=>.panicking [{v:=.iface 41 (.int .i64 e),recovered:=true}])
 (λ_=>[pt b2 (.cells tO),pt b3 (.cells [.int .i64 e])]) (λ_=>[]) (λ_=>True):=by
 refine Pt KQ Ry λB w0=>?_;refine go ?_;refine Pv (v:=.iface 41 (.int .i64 e)) (m':=.panicking [{v:=.iface 41 (.int .i64 e),recovered:=true}]) rfl ?_;refine go ?_;refine(fq (v:=.bool true) rfl rfl (λh=>by
  show(match kI Tryz.prog .neq 20 (.tmp 4) (.const .nilIface) (.iface 41 (.int .i64 e)) .nilIface with|some v=>some (v,h)|none=>none)=_;rcases he with rfl|rfl
  ·rw[show kI Tryz.prog .neq 20 (.tmp 4) (.const .nilIface) (.iface 41 (.int .i64 160)) .nilIface=some (.bool true)by kernel_rfl]
  ·rw[show kI Tryz.prog .neq 20 (.tmp 4) (.const .nilIface) (.iface 41 (.int .i64 161)) .nilIface=some (.bool true)by kernel_rfl])).h ?_
 refine go ?_;exact Py () (hv:=rfl) (hm:=rfl) (hp:=trivial)
structure D5 where
 ok:Bool
 e:Int
 vc:Value
 vu:Value
abbrev qb(d:bq)(vh vs vr:Value)(y:D5):Value:=.tuple ⟨[.agg ⟨cond y.ok (fO (Kd.bi d) vh vs vr y.vc y.vu) tO⟩,.int .i64 y.e]⟩
abbrev mV(d:bq)(y:D5):List aJ:=cond y.ok [ah bC y.vc (Kd.bi d).aF,ah aW y.vu (Kd.bi d).rules] []
def y7(d:bq)(y:D5):Prop:=(y.ok=true->y.e=0/\AJ d)/\(y.ok=false->y.e≠0/\¬AJ d)
structure lC(d:bq):Prop where
 dU:d.symbols.length<=4096
 regs:d.regions.length<=4096
 ja:d.aF.length<=4096
 ko:d.rules.length<=4096
 qc:∀r∈d.rules,r.names.length<9223372036854775808/\r.others.length<9223372036854775808
 holes:d.holes.length<9223372036854775808
 qd:∀r∈d.regions,r.lists.length<9223372036854775808/\∀l∈r.lists,l.length<9223372036854775808
section
variable {B:List Nat} {w0:Wd} {kl bA:List OA} {F:List aJ} {l:List (Nat×Value)} {b2 b3:Nat} {n:Nat}
theorem vD{d:bq}{vh vs vr:Value}{e:Int}(he:e=160\/e=161)(hno:¬AJ d)(h2:lk l 2=ptr' b2)(h3:lk l 3=ptr' b3)(hk:aH [pt b2 (.cells tO),pt b3 (.cells [.int .i64 0])] kl bA):
 R (λh=>pY Tryz.prog Gv (yL B w0 (λy=>.ok (qb d vh vs vr y)) (λ_=>[]) (mV d) (y7 d)) (.panic (rA e)) (act n l [{target:=.fn (.func 201) ⟨[ptr' b2,ptr' b3]⟩,args:=⟨[]⟩}] none none) h) B w0 kl F:=by
 refine Dy (m:=.panicking (rA e)) ?_;refine Pw (bA:=bA) (dX:=λ_=>[pt b2 (.cells tO),pt b3 (.cells [.int .i64 e])]++bA) (F2:=λ_=>F) (abl (b2:=b2) (b3:=b3) he) (λy v _ _=>?_) (λy ch _ hc=>by cases hc) (hk:=hk) (hF:=.nil) (hk2:=λ_=>bF.app) (hF2:=λ_=>bF.nil);show RL _ _ _ _ .returning _ _ _ _ _;refine Pz (bA:=[pt b2 (.cells tO),pt b3 (.cells [.int .i64 e])]++bA) (vs:=[.agg ⟨tO⟩,.int .i64 e]) ⟨false,e,.nilFunc,.nilFunc⟩ rfl ⟨(λh=>by cases h),λ_=>⟨by rcases he with rfl|rfl<;>simp,hno⟩⟩ (hr:=?_) (hk:=.nil) (hF:=.nil);show RS l _ [.oG 10 2,.cell1 3] _;exact .oG h2 .here rfl (.cell1 h3 (.there .here) rfl .nil)
end
section
variable {B:List Nat} {w0:Wd} {kl bA:List OA} {F:List aJ} {l:List (Nat×Value)} {b2 b3:Nat} {n:Nat}
theorem RD{d:bq}{vh vs vr:Value}{o:Out}{cs:List Value}{e:Int}(y:D5)(ho:rP o=some .returning)(hcs:cs=cond y.ok (fO (Kd.bi d) vh vs vr y.vc y.vu) tO)(hl:cs.length=10)(hy:y.e=e)(hp:y7 d y)(hF:∀w,(∀f∈F,f.p w)->∀f∈mV d y,f.p w)(h2:lk l 2=ptr' b2)(h3:lk l 3=ptr' b3)(hk:aH [pt b2 (.cells cs),pt b3 (.cells [.int .i64 e])] kl bA):
 R (λh=>pY Tryz.prog Gv (yL B w0 (λy=>.ok (qb d vh vs vr y)) (λ_=>[]) (mV d) (y7 d)) o (act n l [{target:=.fn (.func 201) ⟨[ptr' b2,ptr' b3]⟩,args:=⟨[]⟩}] none none) h) B w0 kl F:=by
 refine Dy (m:=.returning) ?_ ho;refine Pw (k1:=[]) (bA:=kl) (dX:=λ_=>kl) (F2:=λ_=>F) (abk (b2:=b2) (b3:=b3)) (λ_ v _ _=>?_) (λ_ ch _ hc=>by cases hc) (hk:=.nil) (hF:=.nil) (hk2:=λ_=>bF.nil) (hF2:=λ_=>bF.nil);show RL _ _ _ _ .returning _ _ _ _ _;intro w s;have s':St B w0 ([pt b2 (.cells cs),pt b3 (.cells [.int .i64 e])]++bA) (mV d y) w:=by
  have:=s.jB hk;exact⟨this.agree,this.le,this.fM,this.own,hF w this.facts⟩
 refine Pz (F:=mV d y) (bA:=[pt b2 (.cells cs),pt b3 (.cells [.int .i64 e])]++bA) (vs:=[.agg ⟨cs⟩,.int .i64 e]) y ?_ hp (hr:=?_) (hk:=.nil) (hF:=?_) w s'
 ·show iy.ok (qb d vh vs vr y)=_;unfold qb;rw[<- hcs,hy];rfl
 ·show RS l _ [.oG 10 2,.cell1 3] _;exact .oG h2 .here (by rw[l6,l7,uj,if_pos (by omega),<- hl,bK]) (.cell1 h3 (.there .here) rfl .nil)
 ·have:∀k:List aJ,Sub k k:=λk=>by
   have:=Sub.refl' k [];simpa using this
  exact this _
end
theorem AU{X:List (bM×aW.Y)}{k:Nat}(hk:k<X.length){q q':bM×aW.Y}{j:Nat}{v:Value}(h:(aW.pat q.1 q.2).set j v=aW.pat q'.1 q'.2)(hj:j<12):(bP aW (X.set k q)).set (0+k*12+j) v=bP aW (X.set k q'):=by
 rw[eH];have:=J6 (E:=aW) (ax:=X.set k q) (k:=k) (p:=q) (p':=q') (by rw[ul,if_pos rfl,if_pos hk]) h hj;rw[List.set_set]at this;exact this
theorem y8{X:List (bM×aW.Y)}{k:Nat}(hk:k<X.length){q:bM×aW.Y}{j:Nat}{u:Value}(h:(aW.pat q.1 q.2)[j]? =some u):(bP aW (X.set k q))[0+k*12+j]? =some u:=by
 rw[eH];exact uW (E:=aW) (ax:=X.set k q) (k:=k) (by rw[ul,if_pos rfl,if_pos hk]) h
theorem AV{X:List (bM×aW.Y)}{k:Nat}(hk:k<X.length){q:bM×aW.Y}{j:Nat}(hj:j<12):0+k*12+j<(bP aW (X.set k q)).length:=by
 rw[uV,Br];show 0+k*12+j<X.length*12;omega
theorem RF{d:bq}{vh vs vr vc vu:Value}(hS:lC d):aZ Tryz.prog (.func 150) [.agg ⟨fO d vh vs vr vc vu⟩] [] [] (j6 d vh vs vr vc vu) (qb d vh vs vr) (λ_=>[]) (mV d) (y7 d):=by
 refine oN.toC _ ?_ (λ_ _=>rfl);have hsl:=hS.dU;have hrl:=hS.regs;have hcl:=hS.ja;have xe:=hS.ko;refine wQ Gv abj λB w0=>?_;refine go ?_;intro b1 b2 b3;refine go ?_;refine Zb ?_;refine go ?_;refine az rfl (λh1=>?_) (λh1=>?_)
 ·refine go ?_;exact RD (e:=2) (cs:=tO) ⟨false,2,.nilFunc,.nilFunc⟩ rfl rfl rfl rfl ⟨(λh=>by cases h),λ_=>⟨by simp,λh=>by have:=h.dU;omega⟩⟩ (λw _ f hf=>by cases hf) rfl rfl (by repeat (first|exact aH.nil|(apply aH.cons;(focus (repeat (first|exact ay.here|apply ay.there))))))
 have hsy:(bN d).length<=16:=by show(d.symbols.map (·.name)).length<=16;rw[di];omega
 refine go ?_;refine wS fD (λbs=>?_);refine go ?_;refine sD (aba (b:=bs) (start:=0) (ai:=[]) hsl (by omega) um) (λy v hy e=>?_) (λy ch hy e=>?_)
 rotate_left
 ·obtain⟨y,ns⟩:=y;cases y with
  |true=>cases e
  |false=>
   injection e with e;subst e;refine go ?_;exact vD (e:=161) (.inr rfl) (λh=>hy.2 rfl (by simpa[bN]using h.QE)) rfl rfl (by repeat (first|exact aH.nil|(apply aH.cons;(focus (repeat (first|exact ay.here|apply ay.there))))))
 obtain⟨y,ns⟩:=y;cases y with
 |false=>cases e
 |true=>
 injection e with e;subst e;have hns:ns=bN d:=(hy.1 rfl).1;have hsn:(bN d).Nodup:=by have:=(hy.1 rfl).2;simpa[bN]using this
 clear hy;subst hns;dsimp only;rw[show([]:List (ByteArray×Value))++eP _ 0=eP _ 0 from rfl];refine bB (Aq (b:=bs)) (h:=?_);refine go ?_;intro b4;refine go ?_;refine wS fD (λbf=>?_);refine ak abf (next:=λvg _=>?_);refine sD (aa9 (b:=bf) (xs:=ik) (start:=0) (ai:=[]) (by decide) (by omega) um) (λy v hy e=>?_) (λy ch hy e=>?_)
 rotate_left
 ·obtain⟨y,ns⟩:=y;cases y with
  |true=>cases e
  |false=>exact absurd (by decide) (hy.2 rfl)
 obtain⟨y,ns⟩:=y;cases y with
 |false=>cases e
 |true=>
 injection e with e;subst e;have hns:ns=ik:=(hy.1 rfl).1;clear hy;subst hns;dsimp only;rw[show([]:List (ByteArray×Value))++eP _ 0=eP _ 0 from rfl];refine sD (abb (b:=bf) (start:=8) (ai:=eP ik 0) hrl (by omega) (by rw[qZ];decide)) (λy v hy e=>?_) (λy ch hy e=>?_)
 rotate_left
 ·obtain⟨y,ns⟩:=y;cases y with
  |true=>cases e
  |false=>
   injection e with e;subst e;refine go ?_;exact vD (e:=161) (.inr rfl) (λh=>hy.2 rfl (by rw[qZ];exact h.QF)) rfl rfl (by repeat (first|exact aH.nil|(apply aH.cons;(focus (repeat (first|exact ay.here|apply ay.there))))))
 obtain⟨y,ns⟩:=y;cases y with
 |false=>cases e
 |true=>
 injection e with e;subst e;have hns:ns=d.regions.map lc.name:=(hy.1 rfl).1;have hfn:(bQ d).Nodup:=by have:=(hy.1 rfl).2;rw[qZ]at this;exact this
 clear hy;subst hns;dsimp only;have hfe:eP ik 0++eP (d.regions.map lc.name) 8=eP (bQ d) 0:=by
  unfold bQ;rw[Km];rfl
 rw[hfe];clear hfe;refine bB (Aq (b:=bf)) (h:=?_);refine go ?_;refine wS fD (λbc=>?_);refine go ?_;refine sD (abd (b:=bc) (start:=0) (ai:=[]) hcl (by omega) um) (λy v hy e=>?_) (λy ch hy e=>?_)
 rotate_left
 ·obtain⟨y,ns⟩:=y;cases y with
  |true=>cases e
  |false=>
   injection e with e;subst e;refine go ?_;exact vD (e:=161) (.inr rfl) (λh=>hy.2 rfl (by simpa[dD]using h.QG)) rfl rfl (by repeat (first|exact aH.nil|(apply aH.cons;(focus (repeat (first|exact ay.here|apply ay.there))))))
 obtain⟨y,ns⟩:=y;cases y with
 |false=>cases e
 |true=>
 injection e with e;subst e;have hns:ns=dD d:=(hy.1 rfl).1;have hcn:(dD d).Nodup:=by have:=(hy.1 rfl).2;simpa[dD]using this
 clear hy;subst hns;dsimp only;rw[show([]:List (ByteArray×Value))++eP _ 0=eP _ 0 from rfl];refine bB (Aq (b:=bc)) (h:=?_);refine go ?_;refine yQ bC vc (λxc AX=>?_);have hxl:xc.length=d.aF.length:=by rw[<- AX,di]
 refine ak (abg (ax:=xc) (by omega)) (next:=λv1 _=>?_);refine P6 (E:=bC) (v:=v1) (ax:=xc) (λa1 e1=>?_);subst e1;refine go ?_;let f1:iP×bC.Y->iP×bC.Y:=λp=>(kG (bQ d) p.1,p.2)
 rw[show ar bC (.slice a1 xc.length xc.length) xc=ar bC (.slice a1 xc.length xc.length) (jb f1 0 xc)from rfl];refine aX (λk=>xc.length - k) (λk:Nat=>[(38,.int .i64 (k:Int))]) (λk=>[ar bC (.slice a1 xc.length xc.length) (jb f1 k xc)]) (λ_=>[]) (λk=>k<=xc.length/\∀p∈xc.take k,p.1.on∈bQ d) 0 ⟨bX _,by simp⟩ (body:=?_);rintro k ⟨hk,hall⟩;refine go ?_;refine az rfl (λh2=>?_) (λh2=>?_)
 ·refine go ?_;refine P5 (E:=bC) (ax:=jb f1 k xc) (by rw[wU];omega) (λbx fx hfx ev=>?_);injection ev with ea _ _;subst ea;refine go ?_;obtain⟨p,hp⟩:∃p,xc[k]? =some p:=⟨xc[k]'(by omega),cK _⟩
  have hget:(jb f1 k xc)[k]? =some p:=by rw[QJ _ (by omega)];exact hp
  have jR:p.1∈d.aF:=by rw[<- AX];exact Hr (bJ hp)
  refine uR (o:=0+k*6+1) (cs:=bP bC (jb f1 k xc)) (.string p.1.on) (by rw[eH];exact uW (E:=bC) (j:=1) hget rfl) ?_;refine sD (Gu (b:=bf) (s:=p.1.on) (ai:=eP (bQ d) 0)) (λy v hy e=>?_) (λy ch hy e=>?_)
  rotate_left
  ·have hm:p.1.on∉bQ d:=by
    intro h;rw[uY h]at hy;subst hy;cases e
   rw[qa (by rw[qZ];exact hm)]at hy;subst hy;injection e with e;subst e;refine go ?_;exact vD (e:=160) (.inl rfl) (λh=>hm (h.Kn p.1 jR)) rfl rfl (by repeat (first|exact aH.nil|(apply aH.cons;(focus (repeat (first|exact ay.here|apply ay.there))))))
  have hm:p.1.on∈bQ d:=by
   by_cases h:p.1.on∈bQ d
   ·exact h
   ·rw[qa (by rw[qZ];exact h)]at hy;subst hy;cases e
  rw[uY hm]at hy;subst hy;injection e with e;subst e;rw[eH];refine go ?_;refine wP (o:=0+k*6+2) (cs:=bP bC (jb f1 k xc)) (cs':=bP bC (jb f1 (k+1) xc)) (v:=.int .i64 ((dO p.1.on (bQ d):Nat):Int)) (by rw[eH,<- QK f1 hp];exact J6 (E:=bC) (j:=2) (p':=f1 p) hget rfl (by decide)) (by rw[uV,wU];show 0+k*6+2<xc.length*6;omega) ?_;refine go ?_;refine qU (b:=bx) (f:=fx) (m:=xc.length) bC (ax:=jb f1 (k+1) xc) (by rw[wU]) hfx ?_;refine aO (k+1) (by omega) ⟨by omega,λq hq=>?_⟩;rw[lJ,hp]at hq;rcases dZ.1 hq with h|h
  ·exact hall q h
  ·have:q=p:=by simpa using h
   rw[this];exact hm
 have hkl:k=xc.length:=by omega
 subst hkl;rw[bK]at hall;have hcon:∀c∈d.aF,c.on∈bQ d:=by
  intro c hc;rw[<- AX]at hc;obtain⟨p,hp,rfl⟩:=je.1 hc;exact hall p hp
 clear hall hk;rw[QI];refine go ?_;refine wS fD (λbu=>?_);refine go ?_;refine sD (abe (b:=bu) (start:=0) (ai:=[]) xe (by omega) um) (λy v hy e=>?_) (λy ch hy e=>?_)
 rotate_left
 ·obtain⟨y,ns⟩:=y;cases y with
  |true=>cases e
  |false=>
   injection e with e;subst e;refine go ?_;exact vD (e:=161) (.inr rfl) (λh=>hy.2 rfl (by simpa[lU]using h.QH)) rfl rfl (by repeat (first|exact aH.nil|(apply aH.cons;(focus (repeat (first|exact ay.here|apply ay.there))))))
 obtain⟨y,ns⟩:=y;cases y with
 |false=>cases e
 |true=>
 injection e with e;subst e;have hrn:(lU d).Nodup:=by have:=(hy.1 rfl).2;simpa[lU]using this
 clear hy;dsimp only;refine bB (Aq (b:=bu)) (h:=?_);refine go ?_;refine yQ aW vu (λxr Gw=>?_);have agk:xr.length=d.rules.length:=by rw[<- Gw,di]
 refine ak (abh (ax:=xr) (by omega)) (next:=λv2 _=>?_);refine P6 (E:=aW) (v:=v2) (ax:=xr) (λa2 e2=>?_);subst e2;refine go ?_;refine bB (fG (b:=b4)) (h:=?_);refine go ?_;let f2:bM×aW.Y->bM×aW.Y:=λp=>(lg (bN d) (bQ d) (dD d) p.1,p.2)
 rw[show ar aW (.slice a2 xr.length xr.length) xr=ar aW (.slice a2 xr.length xr.length) (jb f2 0 xr)from rfl];refine DK (E:=aW) (v:=vu) (ax:=xr) ?_;refine aX (λk=>xr.length - k) (λk:Nat=>[(67,.int .i64 (k:Int))]) (λk=>[ar aW (.slice a2 xr.length xr.length) (jb f2 k xr)]) (λ_=>[]) (λk=>k<=xr.length/\∀p∈xr.take k,yT (bN d) (bQ d) (dD d) p.1) 0 ⟨bX _,by simp⟩ (body:=?_);rintro k ⟨hk,hall⟩;refine go ?_;refine az rfl (λh2=>?_) (λh2=>?_)
 ·refine go ?_;refine P5 (E:=aW) (ax:=jb f2 k xr) (by rw[wU];omega) (λdL fy RG ev=>?_);injection ev with ea _ _;subst ea;obtain⟨p,hp⟩:∃p,xr[k]? =some p:=⟨xr[k]'(by omega),cK _⟩
  have hpm:=bJ hp;have hget:(jb f2 k xr)[k]? =some p:=by rw[QJ _ (by omega)];exact hp
  have jR:p.1∈d.rules:=by rw[<- Gw];exact Hr hpm
  have hfin:=QK f2 hp;obtain⟨r,v3,v4⟩:=p;have hrs:=hS.qc r jR;have kN:k<(jb f2 k xr).length:=by rw[wU];omega
  have abm:(jb f2 k xr).length=xr.length:=wU _ _ _;have e0:jb f2 k xr=(jb f2 k xr).set k (r,v3,v4):=by
   apply jw;intro i;rw[ul];by_cases hi:k=i
   ·subst hi;rw[if_pos rfl,if_pos kN,hget]
   ·rw[if_neg hi]
  refine eO (ah aN v3 r.names) (λw h=>h (oO aW xr) (dx ..) _ hpm _ (dx ..)) ?_;refine eO (ah aN v4 r.others) (λw h=>h (oO aW xr) (dA _ (dx ..)) _ hpm _ (dA _ (dx ..))) ?_;rw[e0];rw[<- e0];generalize hX:jb f2 k xr=X at kN abm e0 hfin;rw[e0];refine go ?_;refine wP (o:=0+k*12+3) (cs:=bP aW (X.set k (r,v3,v4))) (cs':=bP aW (X.set k ({r with family:=0},v3,v4))) (v:=.int .i64 0) (AU kN rfl (by omega)) (AV kN (by omega)) ?_;refine go ?_;refine wP (o:=0+k*12+11) (cs:=bP aW (X.set k ({r with family:=0},v3,v4))) (cs':=bP aW (X.set k ({r with family:=0,aQ:= -1},v3,v4))) (v:=.int .i64 (-1)) (AU kN rfl (by omega)) (AV kN (by omega)) ?_;refine go ?_;refine uR (o:=0+k*12+1) (cs:=bP aW (X.set k ({r with family:=0,aQ:= -1},v3,v4))) (.string r.on) (y8 kN rfl) ?_;refine go ?_;refine Pm (bA:=[pt b1 (.cells [.string d.name,.int .i64 d.version,.int .i64 d.shape,.int .i64 d.w,.int .i64 d.h,vh,vs,vr,.slice a1 xc.length xc.length,.slice (some ⟨dL,0,some fy⟩) xr.length xr.length]),ar bC (.slice a1 xc.length xc.length) (xc.map f1),pt b3 (.cells [.int .i64 0]),pt b2 (.cells tO)]) [] (λ_:Unit=>[]) (λ_=>[pt dL (.cells (bP aW (X.set k ({r with family:=if r.on=⟨⟨[]⟩⟩then 0 else(dO r.on (bQ d):Int),aQ:= -1},v3,v4))))]) (λ_=>[]) (λ_=>r.on=⟨⟨[]⟩⟩\/r.on∈bQ d) (hx:=?_) (hy:=?_)
  ·refine ed (p:=r.on=⟨⟨[]⟩⟩) (by show Value.bool _=_;rw[dQ]) (λh3=>?_) (λh3=>?_)
   ·refine go ?_;refine uR (o:=0+k*12+1) (cs:=bP aW (X.set k ({r with family:=0,aQ:= -1},v3,v4))) (.string r.on) (y8 kN rfl) ?_;refine sD (Gu (b:=bf) (s:=r.on) (ai:=eP (bQ d) 0)) (λy v hy e=>?_) (λy ch hy e=>?_)
    rotate_left
    ·have hm:r.on∉bQ d:=by
      intro h;rw[uY h]at hy;subst hy;cases e
     rw[qa (by rw[qZ];exact hm)]at hy;subst hy;injection e with e;subst e;refine go ?_;refine Y9 ?_;refine go ?_;exact vD (e:=160) (.inl rfl) (λh=>(h.wT r jR).on.elim h3 hm) rfl rfl (by repeat (first|exact aH.nil|(apply aH.cons;(focus (repeat (first|exact ay.here|apply ay.there))))))
    have hm:r.on∈bQ d:=by
     by_cases h:r.on∈bQ d
     ·exact h
     ·rw[qa (by rw[qZ];exact h)]at hy;subst hy;cases e
    rw[uY hm]at hy;subst hy;injection e with e;subst e;rw[eH];refine go ?_;refine wP (o:=0+k*12+3) (cs:=bP aW (X.set k ({r with family:=0,aQ:= -1},v3,v4))) (cs':=bP aW (X.set k ({r with family:=if r.on=⟨⟨[]⟩⟩then 0 else(dO r.on (bQ d):Int),aQ:= -1},v3,v4))) (v:=.int .i64 ((dO r.on (bQ d):Nat):Int)) (by rw[if_neg h3];exact AU kN rfl (by omega)) (AV kN (by omega)) ?_;refine go ?_;exact FU () (.inr hm)
   ·refine go ?_;rw[show({r with family:=0,aQ:= -1}:bM)={r with family:=if r.on=⟨⟨[]⟩⟩then 0 else(dO r.on (bQ d):Int),aQ:= -1}by rw[if_pos h3]];exact FU () (.inl h3)
  intro _ hon;generalize hfm:(if r.on=⟨⟨[]⟩⟩then 0 else(dO r.on (bQ d):Int))=fm;refine go ?_;refine uR (o:=0+k*12+4) (cs:=bP aW (X.set k ({r with family:=fm,aQ:= -1},v3,v4))) v3 (y8 kN rfl) ?_;refine go ?_;refine uR (o:=0+k*12+5) (cs:=bP aW (X.set k ({r with family:=fm,aQ:= -1},v3,v4))) v4 (y8 kN rfl) ?_;refine go ?_;refine sD (RB (b4:=b4) (bs:=bs) (vl:=v3) (dU:=bN d) (l:=r.names) hsy hrs.1) (λy v hy e=>?_) (λy ch hy e=>?_)
   (hs:=λy v _ _=>yI (b:=dL) (o:=0+k*12+5) (cs:=bP aW (X.set k ({r with family:=fm,aQ:= -1},v3,v4))) (v:=v4) rfl (by repeat (first|exact ay.here|apply ay.there)) (by rw[qD];exact y8 kN rfl) rfl yH)
  rotate_left
  ·cases y with
   |true=>cases e
   |false=>
    injection e with e;subst e;refine go ?_;exact vD (e:=160) (.inl rfl) (λh=>hy.2 rfl (h.wT r jR).names) rfl rfl (by repeat (first|exact aH.nil|(apply aH.cons;(focus (repeat (first|exact ay.here|apply ay.there))))))
  cases y with
  |false=>cases e
  |true=>
  injection e with e;subst e;have abn:=hy.1 rfl;clear hy;refine go ?_;refine go ?_;refine sD (RB (b4:=b4) (bs:=bs) (vl:=v4) (dU:=bN d) (l:=r.others) hsy hrs.2) (λy v hy e=>?_) (λy ch hy e=>?_)
  rotate_left
  ·cases y with
   |true=>cases e
   |false=>
    injection e with e;subst e;refine go ?_;exact vD (e:=160) (.inl rfl) (λh=>hy.2 rfl (h.wT r jR).others) rfl rfl (by repeat (first|exact aH.nil|(apply aH.cons;(focus (repeat (first|exact ay.here|apply ay.there))))))
  cases y with
  |false=>cases e
  |true=>
  injection e with e;subst e;have abo:=hy.1 rfl;clear hy;refine go ?_;refine wP (o:=0+k*12+6) (cs:=bP aW (X.set k ({r with family:=fm,aQ:= -1},v3,v4))) (cs':=bP aW (X.set k ({r with family:=fm,aQ:= -1,set:=(fU (bN d) r.names:Int)},v3,v4))) (v:=.int .i64 (fU (bN d) r.names:Int)) (AU kN rfl (by omega)) (AV kN (by omega)) ?_;refine go ?_;refine wP (o:=0+k*12+7) (cs:=bP aW (X.set k ({r with family:=fm,aQ:= -1,set:=(fU (bN d) r.names:Int)},v3,v4))) (cs':=bP aW (X.set k ({r with family:=fm,aQ:= -1,set:=(fU (bN d) r.names:Int),other:=(fU (bN d) r.others:Int)},v3,v4))) (v:=.int .i64 (fU (bN d) r.others:Int)) (AU kN rfl (by omega)) (AV kN (by omega)) ?_;refine go ?_;refine uR (o:=0+k*12+10) (cs:=bP aW (X.set k ({r with family:=fm,aQ:= -1,set:=(fU (bN d) r.names:Int),other:=(fU (bN d) r.others:Int)},v3,v4))) (.string r.dL) (y8 kN rfl) ?_;refine go ?_;have hnext:(r.dL=⟨⟨[]⟩⟩\/r.dL∈dD d)->∀q∈xr.take (k+1),yT (bN d) (bQ d) (dD d) q.1:=by
   intro hby q hq;rw[lJ,hp]at hq;rcases dZ.1 hq with h|h
   ·exact hall q h
   ·have:q=(r,v3,v4):=bG.1 (show q∈[(r,v3,v4)]from h);rw[this];exact⟨hon,abn,abo,hby⟩
  refine ed (p:=r.dL=⟨⟨[]⟩⟩) (by show Value.bool _=_;rw[dQ]) (λh3=>?_) (λh3=>?_)
  ·refine go ?_;refine uR (o:=0+k*12+10) (cs:=bP aW (X.set k ({r with family:=fm,aQ:= -1,set:=(fU (bN d) r.names:Int),other:=(fU (bN d) r.others:Int)},v3,v4))) (.string r.dL) (y8 kN rfl) ?_;refine sD (Gu (b:=bc) (s:=r.dL) (ai:=eP (dD d) 0)) (λy v hy e=>?_) (λy ch hy e=>?_)
   rotate_left
   ·have hm:r.dL∉dD d:=by
     intro h;rw[uY h]at hy;subst hy;cases e
    rw[qa (by rw[qZ];exact hm)]at hy;subst hy;injection e with e;subst e;refine go ?_;exact vD (e:=160) (.inl rfl) (λh=>(h.wT r jR).dL.elim h3 hm) rfl rfl (by repeat (first|exact aH.nil|(apply aH.cons;(focus (repeat (first|exact ay.here|apply ay.there))))))
   have hm:r.dL∈dD d:=by
    by_cases h:r.dL∈dD d
    ·exact h
    ·rw[qa (by rw[qZ];exact h)]at hy;subst hy;cases e
   rw[uY hm]at hy;subst hy;injection e with e;subst e;rw[eH];refine go ?_;refine wP (o:=0+k*12+11) (cs:=bP aW (X.set k ({r with family:=fm,aQ:= -1,set:=(fU (bN d) r.names:Int),other:=(fU (bN d) r.others:Int)},v3,v4))) (cs':=bP aW (X.set k (f2 (r,v3,v4)))) (v:=.int .i64 ((dO r.dL (dD d):Nat):Int)) (AU kN (by show _=kF (lg (bN d) (bQ d) (dD d) r) v3 v4;unfold lg;rw[if_neg h3,hfm];rfl) (by omega)) (AV kN (by omega)) ?_;refine go ?_;rw[hfin];refine qU (b:=dL) (f:=fy) (m:=xr.length) aW (ax:=jb f2 (k+1) xr) (by rw[wU]) RG ?_;exact aO (k+1) (by omega) ⟨by omega,hnext (.inr hm)⟩
  ·refine go ?_;rw[show X.set k (({r with family:=fm,aQ:= -1,set:=(fU (bN d) r.names:Int),other:=(fU (bN d) r.others:Int)}:bM),v3,v4)=jb f2 (k+1) xr by
    rw[<- hfin];congr 1;show _=(lg (bN d) (bQ d) (dD d) r,v3,v4)
    unfold lg;rw[if_pos h3,hfm];rfl]
   refine qU (b:=dL) (f:=fy) (m:=xr.length) aW (ax:=jb f2 (k+1) xr) (by rw[wU]) RG ?_;exact aO (k+1) (by omega) ⟨by omega,hnext (.inl h3)⟩
 have hkl:k=xr.length:=by omega
 subst hkl;rw[bK]at hall;rw[QI];refine DL (E:=bC) (v:=.slice a1 xc.length xc.length) (ax:=xc.map f1) ?_ (λw h p hp f hf=>by cases hf);refine DL (E:=aW) (v:=.slice a2 xr.length xr.length) (ax:=xr.map f2) ?_ (λw h p hp f hf=>by
  obtain⟨q,hq,rfl⟩:=je.1 hp;exact h (oO aW xr) (dA _ (dA _ (dx ..))) q hq f hf)
 refine go ?_;refine RD (e:=0) ⟨true,0,.slice a1 xc.length xc.length,.slice a2 xr.length xr.length⟩ rfl (by rfl) rfl rfl ⟨λ_=>⟨rfl,⟨by omega,hsn,hfn,hcn,hcon,hrn,λr hr=>?_⟩⟩,λh=>by cases h⟩ (λw h f hf=>?_) rfl rfl (by repeat (first|exact aH.nil|(apply aH.cons;(focus (repeat (first|exact ay.here|apply ay.there))))))
 ·rw[<- Gw]at hr;obtain⟨p,hp,rfl⟩:=je.1 hr;exact hall p hp
 ·have ec:(xc.map f1).map (·.1)=(Kd.bi d).aF:=by
   show _=d.aF.map (kG (bQ d));rw[<- AX,vW,vW];rfl
  have er:(xr.map f2).map (·.1)=(Kd.bi d).rules:=by
   show _=d.rules.map (lg (bN d) (bQ d) (dD d));rw[<- Gw,vW,vW];rfl
  rw[ec,er]at h;have hf:f∈[ah bC (.slice a1 xc.length xc.length) (Kd.bi d).aF,ah aW (.slice a2 xr.length xr.length) (Kd.bi d).rules]:=hf;rcases dF.1 hf with rfl|hf
  ·exact h _ (by simp)
  ·rw[bG.1 hf];exact h _ (by simp)
