/-
  What rules mean for lists of cells: sets of symbols, counts, sums, differences, rises, runs.
-/
import Derived.Test.YtoohgkkmdnbnfaaGreatDoorProg
import Derived.Test.YtoohgkkmdnbnfaaGreatDoorPlainBF
import Derived.Laws.Strings
set_option linter.all false
set_option maxRecDepth 10000
set_option maxHeartbeats 1000000
namespace Go.Proofs.YtoohgkkmdnbnfaaGreatDoor
open Go.Ideal
noncomputable def Tc:=tY Tryz.prog 312
theorem acM:mo Tryz.prog 312=some Tc:=by kernel_rfl
noncomputable def Td:=tY Tryz.prog 289
theorem acN:mo Tryz.prog 289=some Td:=by kernel_rfl
structure Te(grid:List Int):Prop where
 len:grid.length<=1000000
 sym:∀x∈grid,0<=x/\x<16
structure Tf(grid cells:List Int):Prop where
 len:cells.length<=1000000
 cell:∀c∈cells,0<=c/\c<grid.length
def sy(grid:List Int)(c:Int):Nat:=(grid.getD c.toNat 0).toNat
def cnt(grid:List Int)(set:Nat)(cells:List Int):Nat:=(cells.filter λc=>set.testBit (sy grid c)).length
theorem take_one{α:Type}{xs:List α}{k:Nat}{x:α}(h:xs[k]? =some x):xs.take (k+1)=xs.take k++[x]:=by
 rw[l9,h];rfl
structure Tg(values grid:List Int):Prop where
 val:∀v∈values,0<=v/\v<=99
 sym:∀x∈grid,x<values.length
def va(values grid:List Int)(c:Int):Int:=values.getD (sy grid c) 0
def met(grid cells:List Int):Nat:=cells.foldl (λm c=>m|||1<<<sy grid c) 0
end Go.Proofs.YtoohgkkmdnbnfaaGreatDoor
namespace Go.Proofs.YtoohgkkmdnbnfaaGreatDoor
open Go.Ideal
def rn(grid:List Int)(set:Nat):Nat->List Int->List Int
 |n,[]=>if 0<n then[(n:Int)]else[]
 |n,c::cs=>if set.testBit (sy grid c)then rn grid set (n+1) cs else if 0<n then(n:Int)::rn grid set 0 cs else rn grid set 0 cs
abbrev acP{α:Type}(E:Enc α)(b:Nat)(ys:List α):OA:=Bg λv:Value=>[pt b (.cells [v]),ap E v ys]
theorem zH{va vb:Value}{xs ys:List Int}(hal:xs.length<9223372036854775808):dG Tryz.prog 104 [va,vb] [ah aa va xs,ah aa vb ys] (.bool (decide (xs=ys))):=by
 refine aK _ (aP 104) λB w0=>?_;refine go ?_;refine az rfl (λh1=>?_) (λh1=>?_)
 ·refine go ?_;refine ae () (hv:=?_) (hp:=trivial);rw[aT (λe=>h1 (by rw[e]))];rfl
 have hlen:xs.length=ys.length:=by omega
 refine go ?_;refine bi (λk=>xs.length - k) (λk:Nat=>[(13,.int .i64 (k:Int))]) (λ_=>[]) (λ_=>[]) (λk=>k<=xs.length/\∀j,j<k->xs[j]? =ys[j]?) 0 ⟨by omega,λj hj=>by omega⟩ (body:=?_);rintro k ⟨hkx,hsame⟩;refine go ?_;refine az rfl (λh2=>?_) (λh2=>?_)
 ·refine go ?_;intro _ _ x hx _ _ y hy;refine az rfl (λh3=>?_) (λh3=>?_)
  ·refine go ?_;refine ae () (hv:=?_) (hp:=trivial);rw[aT (λe=>h3 (by rw[e,hy]at hx;cases hx;rfl))];rfl
  refine go ?_;refine aQ (k+1) (by omega) ⟨by omega,λj hj=>?_⟩;by_cases e:j=k
  ·subst e;rw[hx,hy,iK.1 h3]
  ·exact hsame j (by omega)
 refine go ?_;refine ae () (hv:=?_) (hp:=trivial);have:xs=ys:=by
  apply ku;intro j;by_cases hj:j<k
  ·exact hsame j hj
  ·rw[iB (by omega),iB (by omega)]
 rw[dZ this];rfl
end Go.Proofs.YtoohgkkmdnbnfaaGreatDoor
namespace Go.Proofs.YtoohgkkmdnbnfaaGreatDoor
open Go.Ideal
abbrev Md(P:Program)(fn:Fn)(first cap:List Value)(v:Value)(F:List aF)(b:Bool):Prop:=bz P fn (first++[v]) cap [] F (λ_:Unit=>.bool b) (λ_=>[]) (λ_=>[]) (λ_=>True)
theorem acQ{fn:Fn}{first cap:List Value}{F1:List aF}{p:Int->Bool}{va:Value}{xs:List Int}(hl:xs.length<9223372036854775808)(hp:∀x∈xs,Md Tryz.prog fn first cap (.int .i64 x) F1 (p x)):
 bz Tryz.prog (.func 121) [va,.func fn ⟨first⟩ ⟨cap⟩] [] [] (ah aa va xs::F1) (λr:Int=>.int .i64 r) (λ_=>[]) (λ_=>[]) (λr=>(0<=r↔xs.any p=true)):=by
 refine aK _ (aP 121) λB w0=>?_;refine go ?_;refine bi (λk=>xs.length - k) (λk:Nat=>[(8,.int .i64 (k:Int))]) (λ_=>[]) (λ_=>[]) (λk=>k<=xs.length/\(xs.take k).any p=false) 0 ⟨by omega,by simp⟩ (body:=?_);rintro k ⟨hk,hno⟩;refine go ?_;refine az rfl (λh1=>?_) (λh1=>?_)
 ·refine go ?_;intro _ _ x hx;refine ax (hp x (bI hx)) (next:=λ_ _=>?_);refine go ?_;refine jT rfl (λh2=>?_) (λh2=>?_)
  ·refine go ?_;refine ae (k:Int) (hv:=rfl) (hp:=?_);have:xs.any p=true:=List.any_eq_true.2 ⟨x,bI hx,h2⟩;simp[this]
  ·refine go ?_;refine aQ (k+1) (by omega) ⟨by omega,?_⟩;rw[take_one hx,List.any_append,hno];simp[h2]
 refine go ?_;have:k=xs.length:=by omega
 subst this;rw[bK]at hno;refine ae (-1) (hv:=rfl) (hp:=?_);rw[hno];simp
theorem acR{fn:Fn}{first cap:List Value}{F1:List aF}{p:Int->Bool}{va:Value}{xs:List Int}(hl:xs.length<9223372036854775808)(hp:∀x∈xs,Md Tryz.prog fn first cap (.int .i64 x) F1 (p x)):
 bz Tryz.prog (.func 83) [va,.func fn ⟨first⟩ ⟨cap⟩] [] [] (ah aa va xs::F1) (λ_:Unit=>.bool (xs.any p)) (λ_=>[]) (λ_=>[]) (λ_=>True):=by
 refine aK _ (aP 83) λB w0=>?_;refine go ?_;refine ax (acQ hl hp) (next:=λr hr=>?_);refine go ?_;refine ae () (hv:=?_) (hp:=trivial);have:decide (0<=r)=xs.any p:=by
  by_cases h:0<=r
  ·rw[dZ h,hr.1 h]
  ·rw[aT h];cases e:xs.any p with
   |false=>rfl
   |true=>exact absurd (hr.2 e) h
 rw[<- this];rfl
theorem acS{b4 b5:Nat}{lo hi x:Int}:Md Tryz.prog (.func 84) [] [ptr' b4,ptr' b5] (.int .i64 x) [eB b4 0 [.int .i64 lo],eB b5 0 [.int .i64 hi]] (decide (x<lo\/hi<x)):=by
 refine aK _ (aP 84) λB w0=>?_;refine go ?_;first|with_reducible refine aL (λh1=>?_) (λh1=>?_)|with_reducible refine aO (λh1=>?_) (λh1=>?_)|with_reducible refine aM (λh1=>?_) (λh1=>?_)
 ·refine go ?_;refine ae () (hv:=?_) (hp:=trivial);rw[show decide (x<lo\/hi<x)=decide (hi<x)from og.2 ⟨λh=>h.elim (λh=>absurd h h1) id,.inr⟩];rfl
 refine go ?_;refine ae () (hv:=?_) (hp:=trivial);rw[dZ (.inl h1)];rfl
def wm(xs:List Int)(lo hi:Int):Bool:=decide (∀x∈xs,lo<=x/\x<=hi)
theorem Me{va:Value}{xs:List Int}{lo hi:Int}(hl:xs.length<9223372036854775808):dG Tryz.prog 52 [va,.int .i64 lo,.int .i64 hi] [ah aa va xs] (.bool (wm xs lo hi)):=by
 refine aK _ (aP 52) λB w0=>?_;refine go ?_;intro b4 b5;refine bC (eH (b:=b4)) (h:=?_);refine bC (eH (b:=b5)) (h:=?_);refine ax (acR (p:=λx=>decide (x<lo\/hi<x)) hl (λx _=>acS (b4:=b4) (b5:=b5))) (next:=λ_ _=>?_);refine go ?_;refine ae () (hv:=?_) (hp:=trivial);have:(!xs.any λx=>decide (x<lo\/hi<x))=wm xs lo hi:=by
  rw[List.not_any_eq_all_not,wm];rw[wK];simp only[kV,wJ,Ck,decide_eq_false_iff_not,not_or,Int.not_lt]
 rw[<- this];rfl
structure jR(g:List (List Int)):Prop where
 len:g.length<=256
 ok:∀(i:Nat) l,g[i]? =some l->∀(k:Nat) n,l[k]? =some n->0<=n/\n<g.length/\n≠i/\(∀m,0<k->l[k - 1]? =some m->m<n)/\∀l',g[n.toNat]? =some l'->(i:Int)∈l'
end Go.Proofs.YtoohgkkmdnbnfaaGreatDoor
set_option maxHeartbeats 2000000
namespace Go.Proofs.YtoohgkkmdnbnfaaGreatDoor
open Go.Ideal Kd
noncomputable def Ti:gL:=⟨2,[(.tmp 0)],(.seq (.ops [0] [⟨⟨(some 0),none,(.mg (.const (.slice none 0 0)))⟩,[]⟩]) (.seq (.ops [1,0] [⟨⟨(some 1),none,(.uP 9 8 [(.string ⟨⟨[]⟩⟩),(.string ⟨⟨[]⟩⟩),(.string ⟨⟨[]⟩⟩),(.string ⟨⟨[]⟩⟩),(.string ⟨⟨[]⟩⟩),(.string ⟨⟨[]⟩⟩),(.string ⟨⟨[]⟩⟩),(.string ⟨⟨[]⟩⟩)] [⟨0,⟨1,(.const (.string ⟨⟨[99,101,108,108,115]⟩⟩))⟩⟩,⟨1,⟨1,(.const (.string ⟨⟨[114,111,119,115]⟩⟩))⟩⟩,⟨2,⟨1,(.const (.string ⟨⟨[99,111,108,117,109,110,115]⟩⟩))⟩⟩,⟨3,⟨1,(.const (.string ⟨⟨[100,105,97,103,111,110,97,108,115]⟩⟩))⟩⟩,⟨4,⟨1,(.const (.string ⟨⟨[97,114,111,117,110,100]⟩⟩))⟩⟩,⟨5,⟨1,(.const (.string ⟨⟨[110,101,97,114]⟩⟩))⟩⟩,⟨6,⟨1,(.const (.string ⟨⟨[112,97,105,114,115]⟩⟩))⟩⟩,⟨7,⟨1,(.const (.string ⟨⟨[97,108,108]⟩⟩))⟩⟩])⟩,[]⟩,⟨⟨(some 0),none,(.mg (.tmp 1))⟩,[]⟩]) .ret))⟩
theorem acT:mo Tryz.prog 207=some Ti:=by kernel_rfl
abbrev fM:ByteArray->Value:=λs=>.string s
theorem sS:qo Tryz.prog 9 fM:=aaH (by kernel_rfl)
abbrev rM(e:Int):List PanicEntry:=[{v:=.iface 41 (.int .i64 e),recovered:=false}]
theorem Tj{x:nU}:dG Tryz.prog 203 [.agg ⟨[.string x.name,.int .i64 x.value]⟩] [] (.string x.name):=by
 refine aK _ (aP 203) λB w0=>?_;refine go ?_;intro b;refine go ?_;exact ae () (hv:=rfl) (hp:=trivial)
theorem Tk{x:lS}{v:Value}:dG Tryz.prog 205 [.agg ⟨[.string x.name,v]⟩] [] (.string x.name):=by
 refine aK _ (aP 205) λB w0=>?_;refine go ?_;intro b;refine go ?_;exact ae () (hv:=rfl) (hp:=trivial)
theorem Tm{x:iP}:dG Tryz.prog 210 [.agg ⟨[.string x.name,.string x.on,.int .i64 x.family,.int .i64 x.type,.int .i64 x.lo,.int .i64 x.hi]⟩] [] (.string x.name):=by
 refine aK _ (aP 210) λB w0=>?_;refine go ?_;intro b;refine go ?_;exact ae () (hv:=rfl) (hp:=trivial)
theorem Tn{x:aS}{v1 v2:Value}:dG Tryz.prog 214 [.agg ⟨iM x v1 v2⟩] [] (.string x.name):=by
 refine aK _ (aP 214) λB w0=>?_;refine go ?_;intro b;refine go ?_;exact ae () (hv:=rfl) (hp:=trivial)
theorem Tp{s:ByteArray}:dG Tryz.prog 208 [.string s] [] (.string s):=by
 refine aK _ (aP 208) λB w0=>?_;refine go ?_;exact ae () (hv:=rfl) (hp:=trivial)
theorem Ei{P:Program}{B:List Nat}{w0:Wd}{kl kl':List OA}{F:List aF}{K:KO}{ds:List Tmp}{rest:List bR}{n:Nat}{l:List (Nat×Value)}{D:List Deferred}{pm:Option FrameMode}{ro:Option Nat}{d:Nat}{g:Option (Tmp×Bool)}
 {α:Type} [DecidableEq α] {aX:α->Value} {kt:TypeId} {zero:Value} {m k:Operand} {b:Nat} {ai:List (α×Value)} (hk:qo P kt aX) (a:α)
 (hit:∀v,dB a ai=some v->a∈ai.map (·.1)->R (λh=>aD P ds rest (act n ((d,.tuple ⟨[v,.bool true]⟩)::l) D pm ro) h K) B w0 kl F)
 (miss:a∉ai.map (·.1)->R (λh=>aD P ds rest (act n ((d,.tuple ⟨[zero,.bool false]⟩)::l) D pm ro) h K) B w0 kl F)
 (hm:ev l m=.map (some b):=by rfl) (ha:ev l k=aX a:=by conv=>lhs;whnf) (hs:ay (gI aX b ai) kl kl':=by exact gH) (hn:Nat.blt d n=true:=by rfl) (hg:bV l g=true:=by rfl):
 R (λh=>aD P ds (⟨⟨some d,g,.lookup kt zero m k true⟩,[]⟩::rest) (act n l D pm ro) h K) B w0 kl F:=by
 refine DT (ok:=true) hk a ?_ hm ha hs hn hg;by_cases h:a∈ai.map (·.1)
 ·obtain⟨v,hv⟩:=D8 h;have e:j3 true zero a ai=.tuple ⟨[v,.bool true]⟩:=by unfold j3;rw[hv];rfl
  rw[e];exact hit v hv h
 ·have e:j3 true zero a ai=.tuple ⟨[zero,.bool false]⟩:=by unfold j3;rw[qp h];rfl
  rw[e];exact miss h
theorem oI{α:Type}{ai:List (ByteArray×Value)}{xs:List α}{nm:α->ByteArray}{start k:Nat}{x:α}(hx:xs[k]? =some x):
 (ai++eZ ((xs.take k).map nm) start).map (·.1)=ai.map (·.1)++(xs.take k).map nm/\eZ ((xs.take (k+1)).map nm) start=eZ ((xs.take k).map nm) start++[(nm x,.int .i64 ((start:Int)+(k:Int)))]:=by
 have hk:=(bN.1 hx).1;refine⟨by rw[dY,rF],?_⟩;rw[l9,hx,dY,LH];congr 1;rw[bU,iy,Ag (by omega)];simp[eZ]
theorem acU{vs:Value}{xs:List ByteArray}{b start:Nat}{ai:List (ByteArray×Value)}(hl:xs.length<=4096)(hs:start<=4096)(hnd:(ai.map (·.1)).Nodup):
 pF Tryz.prog (.func 206) [vs,.int .i64 (start:Int),.func (.func 208) #[] #[],.map (some b)] [] [gI fM b ai] [ah aR vs xs] (λy:Bool×List ByteArray=>if y.1=true then .ok (.map (some b))else .fH (rM 161))
  (λy=>[gI fM b (ai++eZ y.2 start)]) (λ_=>[]) (λy=>(y.1=true->y.2=xs/\(ai.map (·.1)++xs).Nodup)/\(y.1=false->¬(ai.map (·.1)++xs).Nodup)):=by
 let nm:ByteArray->ByteArray:=λs=>s
 have hmap:∀l:List ByteArray,l.map nm=l:=λl=>List.map_id' l;suffices h:pF Tryz.prog (.func 206) [vs,.int .i64 (start:Int),.func (.func 208) #[] #[],.map (some b)] [] [gI fM b ai] [ah aR vs xs] (λy:Bool×List ByteArray=>if y.1=true then .ok (.map (some b))else .fH (rM 161))
  (λy=>[gI fM b (ai++eZ y.2 start)]) (λ_=>[]) (λy=>(y.1=true->y.2=(xs.map nm)/\(ai.map (·.1)++xs.map nm).Nodup)/\(y.1=false->¬(ai.map (·.1)++xs.map nm).Nodup))by
  rw[hmap]at h;exact h
 refine xM _ (aP 206) λB w0=>?_;refine go ?_;rw[show gI fM b ai=gI fM b (ai++eZ ((xs.take 0).map nm) start)by simp[eZ]];refine bi (λk=>xs.length - k) (λk:Nat=>[(15,.int .i64 (k:Int))]) (λk=>[gI fM b (ai++eZ ((xs.take k).map nm) start)]) (λ_=>[]) (λk=>k<=xs.length/\(ai.map (·.1)++(xs.take k).map nm).Nodup) 0 ⟨cB _,by simpa using hnd⟩ (body:=?_);rintro k ⟨hk,hall⟩;refine go ?_;refine az rfl (λh1=>?_) (λh1=>?_)
 ·refine go ?_;refine aZ aR (next:=λ_ _ x (y:Unit) hx=>?_);refine go ?_;refine ax (Tp (s:=x)) (next:=λ_ _=>?_);refine go ?_;refine Ei sS (nm x) (λv hv hm=>?_) (λhm=>?_)
  ·refine go ?_;refine Bl ?_;refine go ?_;refine zo (false,(xs.take k).map nm) (hv:=rfl) (hp:=⟨(λh=>by cases h),λ_ hn=>?_⟩);rw[(oI hx).1]at hm;have hsub:(ai.map (·.1)++(xs.take k).map nm++[nm x]).Nodup:=by
    have e:xs.map nm=(xs.take k).map nm++nm x::(xs.drop (k+1)).map nm:=by
     conv=>lhs;rw[<- rT k xs]
     rw[dY];congr 1;rw[oQ (bN.1 hx).1,gN,(bN.1 hx).2]
    rw[e,<- fq]at hn;rw[iJ]at hn⊢;exact⟨hn.1,by simp,λa ha c hc=>hn.2.2 a ha c (by rw[bH.1 hc];exact dL ..)⟩
   rw[iJ]at hsub;exact hsub.2.2 _ hm _ (bH.2 rfl) rfl
  refine go ?_;refine ax (Tp (s:=x)) (next:=λ_ _=>?_);refine go ?_;refine vO sS (nm x) (ai:=ai++eZ ((xs.take k).map nm) start) (v:=.int .i64 ((start:Int)+(k:Int))) ?_;have hm2:=hm;rw[(oI hx).1]at hm2;rw[BA hm,fq,<- (oI (ai:=ai) hx).2];refine go ?_;refine aQ (k+1) (by omega) ⟨by omega,?_⟩;rw[l9,hx,dY,<- fq,iJ];refine⟨hall,by simp,λa ha c hc=>?_⟩;have:c=nm x:=by simpa using hc
  subst this;intro e;subst e;exact hm2 ha
 have hkl:k=xs.length:=by omega
 subst hkl;rw[bK]at hall;rw[bK];refine go ?_;exact zn (true,xs.map nm) (hv:=rfl) (hp:=⟨λ_=>⟨rfl,hall⟩,λh=>by cases h⟩)
theorem acV{vs:Value}{xs:List nU}{b start:Nat}{ai:List (ByteArray×Value)}(hl:xs.length<=4096)(hs:start<=4096)(hnd:(ai.map (·.1)).Nodup):
 pF Tryz.prog (.func 202) [vs,.int .i64 (start:Int),.func (.func 203) #[] #[],.map (some b)] [] [gI fM b ai] [ah fA vs xs] (λy:Bool×List ByteArray=>if y.1=true then .ok (.map (some b))else .fH (rM 161))
  (λy=>[gI fM b (ai++eZ y.2 start)]) (λ_=>[]) (λy=>(y.1=true->y.2=(xs.map nU.name)/\(ai.map (·.1)++xs.map nU.name).Nodup)/\(y.1=false->¬(ai.map (·.1)++xs.map nU.name).Nodup)):=by
 let nm:nU->ByteArray:=nU.name
 refine xM _ (aP 202) λB w0=>?_;refine go ?_;rw[show gI fM b ai=gI fM b (ai++eZ ((xs.take 0).map nm) start)by simp[eZ]];refine bi (λk=>xs.length - k) (λk:Nat=>[(15,.int .i64 (k:Int))]) (λk=>[gI fM b (ai++eZ ((xs.take k).map nm) start)]) (λ_=>[]) (λk=>k<=xs.length/\(ai.map (·.1)++(xs.take k).map nm).Nodup) 0 ⟨cB _,by simpa using hnd⟩ (body:=?_);rintro k ⟨hk,hall⟩;refine go ?_;refine az rfl (λh1=>?_) (λh1=>?_)
 ·refine go ?_;refine aZ fA (next:=λ_ _ x y hx=>?_);refine go ?_;intro b10;refine go ?_;refine ax (Tj (x:=x)) (next:=λ_ _=>?_);refine go ?_;refine Ei sS (nm x) (λv hv hm=>?_) (λhm=>?_)
  ·refine go ?_;refine Bl ?_;refine go ?_;refine zo (false,(xs.take k).map nm) (hv:=rfl) (hp:=⟨(λh=>by cases h),λ_ hn=>?_⟩);rw[(oI hx).1]at hm;have hsub:(ai.map (·.1)++(xs.take k).map nm++[nm x]).Nodup:=by
    have e:xs.map nm=(xs.take k).map nm++nm x::(xs.drop (k+1)).map nm:=by
     conv=>lhs;rw[<- rT k xs]
     rw[dY];congr 1;rw[oQ (bN.1 hx).1,gN,(bN.1 hx).2]
    rw[e,<- fq]at hn;rw[iJ]at hn⊢;exact⟨hn.1,by simp,λa ha c hc=>hn.2.2 a ha c (by rw[bH.1 hc];exact dL ..)⟩
   rw[iJ]at hsub;exact hsub.2.2 _ hm _ (bH.2 rfl) rfl
  refine go ?_;refine ax (Tj (x:=x)) (next:=λ_ _=>?_);refine go ?_;refine vO sS (nm x) (ai:=ai++eZ ((xs.take k).map nm) start) (v:=.int .i64 ((start:Int)+(k:Int))) ?_;have hm2:=hm;rw[(oI hx).1]at hm2;rw[BA hm,fq,<- (oI (ai:=ai) hx).2];refine go ?_;refine aQ (k+1) (by omega) ⟨by omega,?_⟩;rw[l9,hx,dY,<- fq,iJ];refine⟨hall,by simp,λa ha c hc=>?_⟩;have:c=nm x:=by simpa using hc
  subst this;intro e;subst e;exact hm2 ha
 have hkl:k=xs.length:=by omega
 subst hkl;rw[bK]at hall;rw[bK];refine go ?_;exact zn (true,xs.map nm) (hv:=rfl) (hp:=⟨λ_=>⟨rfl,hall⟩,λh=>by cases h⟩)
theorem acW{vs:Value}{xs:List lS}{b start:Nat}{ai:List (ByteArray×Value)}(hl:xs.length<=4096)(hs:start<=4096)(hnd:(ai.map (·.1)).Nodup):
 pF Tryz.prog (.func 204) [vs,.int .i64 (start:Int),.func (.func 205) #[] #[],.map (some b)] [] [gI fM b ai] [ah ed vs xs] (λy:Bool×List ByteArray=>if y.1=true then .ok (.map (some b))else .fH (rM 161))
  (λy=>[gI fM b (ai++eZ y.2 start)]) (λ_=>[]) (λy=>(y.1=true->y.2=(xs.map lS.name)/\(ai.map (·.1)++xs.map lS.name).Nodup)/\(y.1=false->¬(ai.map (·.1)++xs.map lS.name).Nodup)):=by
 let nm:lS->ByteArray:=lS.name
 refine xM _ (aP 204) λB w0=>?_;refine go ?_;rw[show gI fM b ai=gI fM b (ai++eZ ((xs.take 0).map nm) start)by simp[eZ]];refine bi (λk=>xs.length - k) (λk:Nat=>[(15,.int .i64 (k:Int))]) (λk=>[gI fM b (ai++eZ ((xs.take k).map nm) start)]) (λ_=>[]) (λk=>k<=xs.length/\(ai.map (·.1)++(xs.take k).map nm).Nodup) 0 ⟨cB _,by simpa using hnd⟩ (body:=?_);rintro k ⟨hk,hall⟩;refine go ?_;refine az rfl (λh1=>?_) (λh1=>?_)
 ·refine go ?_;refine aZ ed (next:=λ_ _ x y hx=>?_);refine go ?_;intro b10;refine go ?_;refine ax (Tk (x:=x) (v:=y)) (next:=λ_ _=>?_);refine go ?_;refine Ei sS (nm x) (λv hv hm=>?_) (λhm=>?_)
  ·refine go ?_;refine Bl ?_;refine go ?_;refine zo (false,(xs.take k).map nm) (hv:=rfl) (hp:=⟨(λh=>by cases h),λ_ hn=>?_⟩);rw[(oI hx).1]at hm;have hsub:(ai.map (·.1)++(xs.take k).map nm++[nm x]).Nodup:=by
    have e:xs.map nm=(xs.take k).map nm++nm x::(xs.drop (k+1)).map nm:=by
     conv=>lhs;rw[<- rT k xs]
     rw[dY];congr 1;rw[oQ (bN.1 hx).1,gN,(bN.1 hx).2]
    rw[e,<- fq]at hn;rw[iJ]at hn⊢;exact⟨hn.1,by simp,λa ha c hc=>hn.2.2 a ha c (by rw[bH.1 hc];exact dL ..)⟩
   rw[iJ]at hsub;exact hsub.2.2 _ hm _ (bH.2 rfl) rfl
  refine go ?_;refine ax (Tk (x:=x) (v:=y)) (next:=λ_ _=>?_);refine go ?_;refine vO sS (nm x) (ai:=ai++eZ ((xs.take k).map nm) start) (v:=.int .i64 ((start:Int)+(k:Int))) ?_;have hm2:=hm;rw[(oI hx).1]at hm2;rw[BA hm,fq,<- (oI (ai:=ai) hx).2];refine go ?_;refine aQ (k+1) (by omega) ⟨by omega,?_⟩;rw[l9,hx,dY,<- fq,iJ];refine⟨hall,by simp,λa ha c hc=>?_⟩;have:c=nm x:=by simpa using hc
  subst this;intro e;subst e;exact hm2 ha
 have hkl:k=xs.length:=by omega
 subst hkl;rw[bK]at hall;rw[bK];refine go ?_;exact zn (true,xs.map nm) (hv:=rfl) (hp:=⟨λ_=>⟨rfl,hall⟩,λh=>by cases h⟩)
theorem acX{vs:Value}{xs:List iP}{b start:Nat}{ai:List (ByteArray×Value)}(hl:xs.length<=4096)(hs:start<=4096)(hnd:(ai.map (·.1)).Nodup):
 pF Tryz.prog (.func 209) [vs,.int .i64 (start:Int),.func (.func 210) #[] #[],.map (some b)] [] [gI fM b ai] [ah bJ vs xs] (λy:Bool×List ByteArray=>if y.1=true then .ok (.map (some b))else .fH (rM 161))
  (λy=>[gI fM b (ai++eZ y.2 start)]) (λ_=>[]) (λy=>(y.1=true->y.2=(xs.map iP.name)/\(ai.map (·.1)++xs.map iP.name).Nodup)/\(y.1=false->¬(ai.map (·.1)++xs.map iP.name).Nodup)):=by
 let nm:iP->ByteArray:=iP.name
 refine xM _ (aP 209) λB w0=>?_;refine go ?_;rw[show gI fM b ai=gI fM b (ai++eZ ((xs.take 0).map nm) start)by simp[eZ]];refine bi (λk=>xs.length - k) (λk:Nat=>[(15,.int .i64 (k:Int))]) (λk=>[gI fM b (ai++eZ ((xs.take k).map nm) start)]) (λ_=>[]) (λk=>k<=xs.length/\(ai.map (·.1)++(xs.take k).map nm).Nodup) 0 ⟨cB _,by simpa using hnd⟩ (body:=?_);rintro k ⟨hk,hall⟩;refine go ?_;refine az rfl (λh1=>?_) (λh1=>?_)
 ·refine go ?_;refine aZ bJ (next:=λ_ _ x y hx=>?_);refine go ?_;intro b10;refine go ?_;refine ax (Tm (x:=x)) (next:=λ_ _=>?_);refine go ?_;refine Ei sS (nm x) (λv hv hm=>?_) (λhm=>?_)
  ·refine go ?_;refine Bl ?_;refine go ?_;refine zo (false,(xs.take k).map nm) (hv:=rfl) (hp:=⟨(λh=>by cases h),λ_ hn=>?_⟩);rw[(oI hx).1]at hm;have hsub:(ai.map (·.1)++(xs.take k).map nm++[nm x]).Nodup:=by
    have e:xs.map nm=(xs.take k).map nm++nm x::(xs.drop (k+1)).map nm:=by
     conv=>lhs;rw[<- rT k xs]
     rw[dY];congr 1;rw[oQ (bN.1 hx).1,gN,(bN.1 hx).2]
    rw[e,<- fq]at hn;rw[iJ]at hn⊢;exact⟨hn.1,by simp,λa ha c hc=>hn.2.2 a ha c (by rw[bH.1 hc];exact dL ..)⟩
   rw[iJ]at hsub;exact hsub.2.2 _ hm _ (bH.2 rfl) rfl
  refine go ?_;refine ax (Tm (x:=x)) (next:=λ_ _=>?_);refine go ?_;refine vO sS (nm x) (ai:=ai++eZ ((xs.take k).map nm) start) (v:=.int .i64 ((start:Int)+(k:Int))) ?_;have hm2:=hm;rw[(oI hx).1]at hm2;rw[BA hm,fq,<- (oI (ai:=ai) hx).2];refine go ?_;refine aQ (k+1) (by omega) ⟨by omega,?_⟩;rw[l9,hx,dY,<- fq,iJ];refine⟨hall,by simp,λa ha c hc=>?_⟩;have:c=nm x:=by simpa using hc
  subst this;intro e;subst e;exact hm2 ha
 have hkl:k=xs.length:=by omega
 subst hkl;rw[bK]at hall;rw[bK];refine go ?_;exact zn (true,xs.map nm) (hv:=rfl) (hp:=⟨λ_=>⟨rfl,hall⟩,λh=>by cases h⟩)
theorem acY{vs:Value}{xs:List aS}{b start:Nat}{ai:List (ByteArray×Value)}(hl:xs.length<=4096)(hs:start<=4096)(hnd:(ai.map (·.1)).Nodup):
 pF Tryz.prog (.func 213) [vs,.int .i64 (start:Int),.func (.func 214) #[] #[],.map (some b)] [] [gI fM b ai] [ah aY vs xs] (λy:Bool×List ByteArray=>if y.1=true then .ok (.map (some b))else .fH (rM 161))
  (λy=>[gI fM b (ai++eZ y.2 start)]) (λ_=>[]) (λy=>(y.1=true->y.2=(xs.map aS.name)/\(ai.map (·.1)++xs.map aS.name).Nodup)/\(y.1=false->¬(ai.map (·.1)++xs.map aS.name).Nodup)):=by
 let nm:aS->ByteArray:=aS.name
 refine xM _ (aP 213) λB w0=>?_;refine go ?_;rw[show gI fM b ai=gI fM b (ai++eZ ((xs.take 0).map nm) start)by simp[eZ]];refine bi (λk=>xs.length - k) (λk:Nat=>[(15,.int .i64 (k:Int))]) (λk=>[gI fM b (ai++eZ ((xs.take k).map nm) start)]) (λ_=>[]) (λk=>k<=xs.length/\(ai.map (·.1)++(xs.take k).map nm).Nodup) 0 ⟨cB _,by simpa using hnd⟩ (body:=?_);rintro k ⟨hk,hall⟩;refine go ?_;refine az rfl (λh1=>?_) (λh1=>?_)
 ·refine go ?_;refine aZ aY (next:=λ_ _ x y hx=>?_);refine go ?_;intro b10;refine go ?_;refine ax (Tn (x:=x) (v1:=y.1) (v2:=y.2)) (next:=λ_ _=>?_);refine go ?_;refine Ei sS (nm x) (λv hv hm=>?_) (λhm=>?_)
  ·refine go ?_;refine Bl ?_;refine go ?_;refine zo (false,(xs.take k).map nm) (hv:=rfl) (hp:=⟨(λh=>by cases h),λ_ hn=>?_⟩);rw[(oI hx).1]at hm;have hsub:(ai.map (·.1)++(xs.take k).map nm++[nm x]).Nodup:=by
    have e:xs.map nm=(xs.take k).map nm++nm x::(xs.drop (k+1)).map nm:=by
     conv=>lhs;rw[<- rT k xs]
     rw[dY];congr 1;rw[oQ (bN.1 hx).1,gN,(bN.1 hx).2]
    rw[e,<- fq]at hn;rw[iJ]at hn⊢;exact⟨hn.1,by simp,λa ha c hc=>hn.2.2 a ha c (by rw[bH.1 hc];exact dL ..)⟩
   rw[iJ]at hsub;exact hsub.2.2 _ hm _ (bH.2 rfl) rfl
  refine go ?_;refine ax (Tn (x:=x) (v1:=y.1) (v2:=y.2)) (next:=λ_ _=>?_);refine go ?_;refine vO sS (nm x) (ai:=ai++eZ ((xs.take k).map nm) start) (v:=.int .i64 ((start:Int)+(k:Int))) ?_;have hm2:=hm;rw[(oI hx).1]at hm2;rw[BA hm,fq,<- (oI (ai:=ai) hx).2];refine go ?_;refine aQ (k+1) (by omega) ⟨by omega,?_⟩;rw[l9,hx,dY,<- fq,iJ];refine⟨hall,by simp,λa ha c hc=>?_⟩;have:c=nm x:=by simpa using hc
  subst this;intro e;subst e;exact hm2 ha
 have hkl:k=xs.length:=by omega
 subst hkl;rw[bK]at hall;rw[bK];refine go ?_;exact zn (true,xs.map nm) (hv:=rfl) (hp:=⟨λ_=>⟨rfl,hall⟩,λh=>by cases h⟩)
end Go.Proofs.YtoohgkkmdnbnfaaGreatDoor
namespace Go.Proofs.YtoohgkkmdnbnfaaGreatDoor
open Go.Ideal Kd
noncomputable def Mf:gL:=⟨9,[],(.seq (.ops [3,2] [⟨⟨(some 3),none,.recover⟩,[]⟩,⟨⟨(some 2),none,(.mg (.tmp 3))⟩,[]⟩]) (.seq (.ops [4,5] [⟨⟨(some 4),none,(.mv (.tmp 2))⟩,[]⟩,⟨⟨(some 5),none,(.bin .neq 20 (.tmp 4) (.const .nilIface))⟩,[]⟩]) (.cond (.tmp 5) (.ops [6,7,8] [⟨⟨(some 6),none,(.build [(.string ⟨⟨[]⟩⟩),(.int .i64 0),(.int .i64 0),(.int .i64 0),(.int .i64 0),(.slice none 0 0),(.slice none 0 0),(.slice none 0 0),(.slice none 0 0),(.slice none 0 0)] [])⟩,[]⟩,⟨⟨(some 7),none,(.mv (.tmp 2))⟩,[]⟩,⟨⟨(some 8),none,(.Fa 41 (.int .i64 0) false (.tmp 7))⟩,[]⟩,⟨⟨none,none,(.store 10 (.tmp 0) (.tmp 6))⟩,[]⟩,⟨⟨none,none,(.store 1 (.tmp 1) (.tmp 8))⟩,[]⟩]) .skip)))⟩
theorem Tq:mo Tryz.prog 201=some Mf:=by kernel_rfl
section
variable {P:Program} {B:List Nat} {w0:Wd} {kl kl':List OA} {F:List aF} {K:KO} {ds:List Tmp} {rest:List bR} {n:Nat} {l:List (Nat×Value)} {D:List Deferred} {pm:Option FrameMode} {ro:Option Nat} {d:Nat} {g:Option (Tmp×Bool)}
theorem Tt{α:Type}[DecidableEq α]{aX:α->Value}{kt:TypeId}{zero:Value}{m k:Operand}{b:Nat}{ai:List (α×Value)}(hk:qo P kt aX)(a:α)
 (hit:∀v,dB a ai=some v->a∈ai.map (·.1)->R (λh=>aD P ds rest (act n ((d,.tuple ⟨[v,.bool true]⟩)::l) D pm ro) h K) B w0 kl F)
 (miss:a∉ai.map (·.1)->R (λh=>aD P ds rest (act n ((d,.tuple ⟨[zero,.bool false]⟩)::l) D pm ro) h K) B w0 kl F)
 (hm:ev l m=.map (some b):=by rfl) (ha:ev l k=aX a:=by conv=>lhs;whnf) (hf:ru aX b ai∈F:=by exact vK) (hn:Nat.blt d n=true:=by rfl) (hg:bV l g=true:=by rfl):
 R (λh=>aD P ds (⟨⟨some d,g,.lookup kt zero m k true⟩,[]⟩::rest) (act n l D pm ro) h K) B w0 kl F:=by
 refine Q7 (ok:=true) hk a ?_ hm ha hf hn hg;by_cases h:a∈ai.map (·.1)
 ·obtain⟨v,hv⟩:=D8 h;have e:j3 true zero a ai=.tuple ⟨[v,.bool true]⟩:=by unfold j3;rw[hv];rfl
  rw[e];exact hit v hv h
 ·have e:j3 true zero a ai=.tuple ⟨[zero,.bool false]⟩:=by unfold j3;rw[qp h];rfl
  rw[e];exact miss h
theorem Mg{α:Type}(E:Enc α){v:Value}{aJ:List (α×E.Y)}{Q:IH->Prop}(h0:aJ=[]->∀c,v=.slice none 0 c->R Q B w0 kl F)(h1:aJ=[]->∀i o f c,v=.slice (some ⟨i,o,some f⟩) 0 c->R Q B w0 kl F)
 (h2:0<aJ.length->∀i o f c,v=.slice (some ⟨i,o,some f⟩) aJ.length c->R Q B w0 kl F) (hf:rz E v aJ∈F:=by exact vK):R Q B w0 kl F:=λw s=>by
 rcases s.facts _ hf with⟨e,a,c,hv,hg⟩|⟨i,o,f,c,cells,⟨hv,_⟩,_⟩
 ·match a,hv,hg with
  |none,hv,_=>exact h0 e c hv w s
  |some ⟨i,o,some f⟩,hv,_=>exact h1 e i o f c hv w s
 ·by_cases hx:aJ=[]
  ·subst hx;exact h1 rfl i o f c hv w s
  ·exact h2 (Ci.2 hx) i o f c hv w s
theorem Mh{α:Type}(E:Enc α){Q:IH->Prop}(h:R Q B w0 (ar E (.slice none 0 0) []::kl) F):R Q B w0 kl F:=λw s=>by
 obtain⟨S,h1,h2,h3⟩:=s.own;exact h w ⟨s.agree,s.le,s.fF,⟨S,⟨[],S,.inl ⟨rfl,⟨none,rfl,trivial⟩,rfl⟩,h1,rfl⟩,h2,h3⟩,s.facts⟩
end
theorem acZ:bz Tryz.prog (.func 207) [] [] [] [] (λv:Value=>v) (λ_=>[]) (λv=>[ah aR v iF]) (λ_=>True):=by
 refine aK Ti acT λB w0=>?_;refine go ?_;intro b;refine go ?_;refine sO (b:=b) (m:=8) (f:=0) aR (aJ:=iF.map λs=>(s,())) rfl (.inl rfl) ?_ (hk:=ay.here);refine GZ (E:=aR) ?_ (λw hw p hp f hf=>by cases hf);exact ae (.slice (some ⟨b,0,some 0⟩) 8 8) (hv:=rfl) (hp:=trivial) (hF:=.cons (dI _ (dL ..)) .nil)
theorem Il{b:Nat}{s:ByteArray}{ai:List (ByteArray×Value)}:
 pF Tryz.prog (.func 212) [.map (some b),.string s] [] [] [ru fM b ai] (λy:Option Value=>match y with|some v=>.ok v|none=>.fH (rM 160)) (λ_=>[]) (λ_=>[]) (λy=>y=dB s ai):=by
 refine xM _ (aP 212) λB w0=>?_;refine go ?_;refine Tt sS s (λv hv hm=>?_) (λhm=>?_)
 ·refine go ?_;exact zn (some v) (hv:=rfl) (hp:=hv.symm)
 ·refine go ?_;refine Bl ?_;refine go ?_;exact zo none (hv:=rfl) (hp:=(qp hm).symm)
theorem Tu{dO l:List ByteArray}{k:Nat}{s:ByteArray}(h:l[k]? =some s):fT dO (l.take (k+1))=fT dO (l.take k)|||1<<<dR s dO:=by
 unfold fT;rw[l9,h,E5];rfl
theorem Mi{dO:List ByteArray}(hs:dO.length<=16):∀(l:List ByteArray) (m:Nat),(∀s∈l,s∈dO)->m<65536->l.foldl (λm s=>m|||1<<<dR s dO) m<65536
 |[],m,_,hm=>hm
 |s::l,m,h,hm=>by
  rw[tC];refine Mi hs l _ (λx hx=>h x (dI _ hx)) ?_;have h1:=xP (h s (dL ..));have h2:1<<<dR s dO<2^16:=by
   rw[Nat.shiftLeft_eq,yG];exact Jh (by omega) (by omega)
  exact Nat.or_lt_two_pow (n:=16) hm h2
theorem Tv{b4 bs:Nat}{vl:Value}{dO l:List ByteArray}(hs:dO.length<=16)(hl:l.length<9223372036854775808):
 pF Tryz.prog (.func 216) [vl] [ptr' b4] [] [eB b4 0 [.map (some bs)],ru fM bs (eZ dO 0),ah aR vl l] (λy:Bool=>if y=true then .ok (.int .i64 (fT dO l:Int))else .fH (rM 160)) (λ_=>[]) (λ_=>[])
  (λy=>(y=true->∀s∈l,s∈dO)/\(y=false->¬∀s∈l,s∈dO)):=by
 refine xM _ (aP 216) λB w0=>?_;refine go ?_;refine bi (λk=>l.length - k) (λk:Nat=>[(8,.int .i64 (k:Int)),(3,.int .i64 (fT dO (l.take k):Int))]) (λ_=>[]) (λ_=>[]) (λk=>k<=l.length/\∀s∈l.take k,s∈dO) 0 ⟨cB _,by simp⟩ (body:=?_);rintro k ⟨hk,hall⟩;refine go ?_;refine az rfl (λh1=>?_) (λh1=>?_)
 ·refine go ?_;refine aZ aR (next:=λ_ _ x (y:Unit) hx=>?_);refine go ?_;refine sN (Il (b:=bs) (s:=x) (ai:=eZ dO 0)) (λy v hy e=>?_) (λy ch hy e=>?_)
  ·have hm:x∈dO:=by
    by_cases h:x∈dO
    ·exact h
    ·rw[qp (by rw[rF];exact h)]at hy;subst hy;cases e
   rw[vR hm]at hy;subst hy;injection e with e;subst e;have hp:=xP hm;have h2:1<<<dR x dO<2^16:=by
    rw[Nat.shiftLeft_eq,yG];exact Jh (by omega) (by omega)
   have h3:=Mi hs (l.take k) 0 hall (by omega);rw[fw];refine(fJ rfl rfl (K6 (a:=1) (b:=dR x dO) rfl rfl (by omega) (by omega))).h ?_;refine(fJ rfl rfl (QE (a:=fT dO (l.take k)) (b:=1<<<dR x dO) rfl rfl (Nat.lt_trans h3 (by omega)) (by omega))).h ?_;refine go ?_;refine aQ (k+1) (by omega) ⟨by omega,λs hs'=>?_⟩ (hl:=⟨rfl,by rw[Tu hx];rfl,by repeat (first|exact trivial|refine⟨rfl,?_⟩)⟩);rw[l9,hx]at hs';rcases dX.1 hs' with h|h
   ·exact hall s h
   ·have:s=x:=by simpa using h
    rw[this];exact hm
  ·refine go ?_;have hm:x∉dO:=by
    intro h;rw[vR h]at hy;subst hy;cases e
   have hch:ch=rM 160:=by
    rw[qp (by rw[rF];exact hm)]at hy;subst hy;injection e with e;exact e.symm
   subst hch;exact zo false (hv:=rfl) (hp:=⟨(λh=>by cases h),λ_ h=>hm (h x (bI hx))⟩)
 have hkl:k=l.length:=by omega
 subst hkl;rw[bK]at hall⊢;refine go ?_;exact zn true (hv:=rfl) (hp:=⟨λ_=>hall,λh=>by cases h⟩)
theorem ac0{v:Value}{aJ:List (iP×bJ.Y)}(hl:aJ.length<=4096):bz Tryz.prog (.func 211) [v] [] [] [rz bJ v aJ] (λv':Value=>v') (λv'=>[ar bJ v' aJ]) (λ_=>[]) (λ_=>True):=by
 refine aK _ (aP 211) λB w0=>?_;refine Mg (v:=v) (aJ:=aJ) bJ (λe c ev=>?_) (λe i o f c ev=>?_) (λhne i o f c ev=>?_)
 ·subst e ev;refine go ?_;refine(fJ rfl rfl (G5 (e:=115) (by kernel_rfl) rfl)).h ?_;refine go ?_;refine Mh bJ ?_;exact ae (.slice none 0 0) (hv:=rfl) (hp:=trivial)
 ·subst e ev;refine go ?_;refine(fJ rfl rfl (Bp (e:=115) (by kernel_rfl) rfl)).h ?_;refine go ?_;intro b;refine go ?_;refine Lr (b:=b) ?_;refine go ?_;refine sO (b:=b) (m:=0) (f:=0) bJ (aJ:=[]) rfl (.inl rfl) ?_ (hk:=ay.here);exact ae (.slice (some ⟨b,0,some 0⟩) 0 0) (hv:=rfl) (hp:=trivial)
 ·subst ev;refine go ?_;refine(fJ rfl rfl (Bp (e:=115) (by kernel_rfl) rfl)).h ?_;refine go ?_;intro b;refine go ?_;refine Ls (b:=b) bJ aJ hne (by omega) (λb'=>?_);refine go ?_;refine sO (b:=b') (m:=aJ.length) (f:=bJ.n) bJ (aJ:=aJ) rfl (.inr rfl) ?_ (hk:=ay.here);exact ae (.slice (some ⟨b',0,some bJ.n⟩) aJ.length aJ.length) (hv:=rfl) (hp:=trivial)
theorem ac3{v:Value}{aJ:List (aS×aY.Y)}(hl:aJ.length<=4096):bz Tryz.prog (.func 215) [v] [] [] [rz aY v aJ] (λv':Value=>v') (λv'=>[ar aY v' aJ]) (λ_=>[]) (λ_=>True):=by
 refine aK _ (aP 215) λB w0=>?_;refine Mg (v:=v) (aJ:=aJ) aY (λe c ev=>?_) (λe i o f c ev=>?_) (λhne i o f c ev=>?_)
 ·subst e ev;refine go ?_;refine(fJ rfl rfl (G5 (e:=71) (by kernel_rfl) rfl)).h ?_;refine go ?_;refine Mh aY ?_;exact ae (.slice none 0 0) (hv:=rfl) (hp:=trivial)
 ·subst e ev;refine go ?_;refine(fJ rfl rfl (Bp (e:=71) (by kernel_rfl) rfl)).h ?_;refine go ?_;intro b;refine go ?_;refine Lr (b:=b) ?_;refine go ?_;refine sO (b:=b) (m:=0) (f:=0) aY (aJ:=[]) rfl (.inl rfl) ?_ (hk:=ay.here);exact ae (.slice (some ⟨b,0,some 0⟩) 0 0) (hv:=rfl) (hp:=trivial)
 ·subst ev;refine go ?_;refine(fJ rfl rfl (Bp (e:=71) (by kernel_rfl) rfl)).h ?_;refine go ?_;intro b;refine go ?_;refine Ls (b:=b) aY aJ hne (by omega) (λb'=>?_);refine go ?_;refine sO (b:=b') (m:=aJ.length) (f:=aY.n) aY (aJ:=aJ) rfl (.inr rfl) ?_ (hk:=ay.here);exact ae (.slice (some ⟨b',0,some aY.n⟩) aJ.length aJ.length) (hv:=rfl) (hp:=trivial)
end Go.Proofs.YtoohgkkmdnbnfaaGreatDoor
set_option maxHeartbeats 4000000
namespace Go.Proofs.YtoohgkkmdnbnfaaGreatDoor
open Go.Ideal Kd
noncomputable def Im:gL:=⟨128,[(.oZ 10 2),(.cell1 3)],(.seq (.ops [1,2,3] [⟨⟨(some 1),none,(.box (.tmp 0) 28)⟩,[]⟩,⟨⟨(some 2),none,(.new [(.string ⟨⟨[]⟩⟩),(.int .i64 0),(.int .i64 0),(.int .i64 0),(.int .i64 0),(.slice none 0 0),(.slice none 0 0),(.slice none 0 0),(.slice none 0 0),(.slice none 0 0)] 28)⟩,[]⟩,⟨⟨(some 3),none,(.new [(.int .i64 0)] 41)⟩,[]⟩]) (.seq (.ops [11] [⟨⟨(some 11),none,(.Aj (.func 201) [] [(.tmp 2),(.tmp 3)])⟩,[]⟩,⟨⟨none,none,(.dcall (.tmp 11) [])⟩,[]⟩]) (.seq (.seq (.ops [12,13,14,15] [⟨⟨(some 12),none,(.fG 6 (.tmp 1))⟩,[]⟩,⟨⟨(some 13),none,(.gJ (.tmp 12))⟩,[]⟩,⟨⟨(some 14),none,(.uR (.tmp 13))⟩,[]⟩,⟨⟨(some 15),none,(.bin .gtr 3 (.tmp 14) (.const (.int .i64 16)))⟩,[]⟩]) (.cond (.tmp 15) (.seq (.ops [16] [⟨⟨(some 16),none,(.oU 10 (.tmp 2))⟩,[]⟩,⟨⟨none,none,(.store 10 (.tmp 2) (.tmp 16))⟩,[]⟩,⟨⟨none,none,(.store 1 (.tmp 3) (.const (.int .i64 2)))⟩,[]⟩]) .ret) .skip)) (.seq (.ops [17,18,19,20,4] [⟨⟨(some 17),none,(.fG 6 (.tmp 1))⟩,[]⟩,⟨⟨(some 18),none,(.gJ (.tmp 17))⟩,[]⟩,⟨⟨(some 19),none,.tV⟩,[]⟩,⟨⟨(some 20),none,(.call (.func 202) [(.tmp 18),(.const (.int .i64 0)),(.func 203),(.tmp 19)])⟩,[]⟩,⟨⟨(some 4),none,(.new [(.map none)] 245)⟩,[]⟩,⟨⟨none,none,(.store 1 (.tmp 4) (.tmp 20))⟩,[]⟩]) (.seq (.ops [21,22,23,24,25,26,5] [⟨⟨(some 21),none,(.fG 7 (.tmp 1))⟩,[]⟩,⟨⟨(some 22),none,(.gJ (.tmp 21))⟩,[]⟩,⟨⟨(some 24),none,.tV⟩,[]⟩,⟨⟨(some 23),none,(.call (.func 207) [])⟩,[⟨(some 22),none,(.gJ (.tmp 21))⟩]⟩,⟨⟨(some 25),none,(.call (.func 206) [(.tmp 23),(.const (.int .i64 0)),(.func 208),(.tmp 24)])⟩,[⟨(some 22),none,(.gJ (.tmp 21))⟩]⟩,⟨⟨(some 26),none,(.call (.func 204) [(.tmp 22),(.const (.int .i64 8)),(.func 205),(.tmp 25)])⟩,[]⟩,⟨⟨(some 5),none,(.mg (.tmp 26))⟩,[]⟩]) (.seq (.ops [27,28,29,30,6] [⟨⟨(some 27),none,(.fG 8 (.tmp 1))⟩,[]⟩,⟨⟨(some 28),none,(.gJ (.tmp 27))⟩,[]⟩,⟨⟨(some 29),none,.tV⟩,[]⟩,⟨⟨(some 30),none,(.call (.func 209) [(.tmp 28),(.const (.int .i64 0)),(.func 210),(.tmp 29)])⟩,[]⟩,⟨⟨(some 6),none,(.mg (.tmp 30))⟩,[]⟩]) (.seq (.ops [31,32,33,34] [⟨⟨(some 31),none,(.fG 8 (.tmp 1))⟩,[]⟩,⟨⟨(some 32),none,(.gJ (.tmp 31))⟩,[]⟩,⟨⟨(some 33),none,(.call (.func 211) [(.tmp 32)])⟩,[]⟩,⟨⟨(some 34),none,(.fG 8 (.tmp 1))⟩,[]⟩,⟨⟨none,none,(.store 1 (.tmp 34) (.tmp 33))⟩,[]⟩]) (.seq (.seq (.ops [35,36,37,38] [⟨⟨(some 35),none,(.fG 8 (.tmp 1))⟩,[]⟩,⟨⟨(some 36),none,(.gJ (.tmp 35))⟩,[]⟩,⟨⟨(some 37),none,(.uR (.tmp 36))⟩,[]⟩,⟨⟨(some 38),none,(.mv (.const (.int .i64 0)))⟩,[]⟩]) (.block 0 (.loop (.seq (.ops [39] [⟨⟨(some 39),none,(.bin .lss 3 (.tmp 38) (.tmp 37))⟩,[]⟩]) (.seq (.cond (.tmp 39) .skip (.exit 0)) (.seq (.block 1 (.seq (.ops [40,7] [⟨⟨(some 40),none,(.mv (.tmp 38))⟩,[]⟩,⟨⟨(some 7),none,(.mg (.tmp 40))⟩,[]⟩]) (.ops [41,42,43,44,45,46,47,48,49,50,51,52,53] [⟨⟨(some 41),none,(.fG 8 (.tmp 1))⟩,[]⟩,⟨⟨(some 42),none,(.gJ (.tmp 41))⟩,[]⟩,⟨⟨(some 43),none,(.mv (.tmp 7))⟩,[]⟩,⟨⟨(some 44),none,(.mv (.tmp 5))⟩,[]⟩,⟨⟨(some 45),none,(.fG 8 (.tmp 1))⟩,[]⟩,⟨⟨(some 46),none,(.gJ (.tmp 45))⟩,[]⟩,⟨⟨(some 47),none,(.mv (.tmp 7))⟩,[]⟩,⟨⟨(some 48),none,(.mJ 6 (.tmp 46) (.tmp 47))⟩,[]⟩,⟨⟨(some 49),none,(.fG 1 (.tmp 48))⟩,[]⟩,⟨⟨(some 50),none,(.gJ (.tmp 49))⟩,[]⟩,⟨⟨(some 51),none,(.call (.func 212) [(.tmp 44),(.tmp 50)])⟩,[⟨(some 42),none,(.gJ (.tmp 41))⟩]⟩,⟨⟨(some 52),none,(.mJ 6 (.tmp 42) (.tmp 43))⟩,[]⟩,⟨⟨(some 53),none,(.fG 2 (.tmp 52))⟩,[]⟩,⟨⟨none,none,(.store 1 (.tmp 53) (.tmp 51))⟩,[]⟩]))) (.ops [54,38] [⟨⟨(some 54),none,(.bin .add 3 (.tmp 38) (.const (.int .i64 1)))⟩,[]⟩,⟨⟨(some 38),none,(.mv (.tmp 54))⟩,[]⟩]))))))) (.seq (.ops [55,56,57,58] [⟨⟨(some 55),none,(.fG 9 (.tmp 1))⟩,[]⟩,⟨⟨(some 56),none,(.gJ (.tmp 55))⟩,[]⟩,⟨⟨(some 57),none,.tV⟩,[]⟩,⟨⟨(some 58),none,(.call (.func 213) [(.tmp 56),(.const (.int .i64 0)),(.func 214),(.tmp 57)])⟩,[]⟩]) (.seq (.ops [59,60,61,62] [⟨⟨(some 59),none,(.fG 9 (.tmp 1))⟩,[]⟩,⟨⟨(some 60),none,(.gJ (.tmp 59))⟩,[]⟩,⟨⟨(some 61),none,(.call (.func 215) [(.tmp 60)])⟩,[]⟩,⟨⟨(some 62),none,(.fG 9 (.tmp 1))⟩,[]⟩,⟨⟨none,none,(.store 1 (.tmp 62) (.tmp 61))⟩,[]⟩]) (.seq (.ops [63,8] [⟨⟨(some 63),none,(.Aj (.func 216) [] [(.tmp 4)])⟩,[]⟩,⟨⟨(some 8),none,(.mg (.tmp 63))⟩,[]⟩]) (.seq (.seq (.ops [64,65,66,67] [⟨⟨(some 64),none,(.fG 9 (.tmp 1))⟩,[]⟩,⟨⟨(some 65),none,(.gJ (.tmp 64))⟩,[]⟩,⟨⟨(some 66),none,(.uR (.tmp 65))⟩,[]⟩,⟨⟨(some 67),none,(.mv (.const (.int .i64 0)))⟩,[]⟩]) (.block 2 (.loop (.seq (.ops [68] [⟨⟨(some 68),none,(.bin .lss 3 (.tmp 67) (.tmp 66))⟩,[]⟩]) (.seq (.cond (.tmp 68) .skip (.exit 2)) (.seq (.block 3 (.seq (.ops [69,9] [⟨⟨(some 69),none,(.mv (.tmp 67))⟩,[]⟩,⟨⟨(some 9),none,(.mg (.tmp 69))⟩,[]⟩]) (.seq (.ops [70,71,72,73,10] [⟨⟨(some 70),none,(.fG 9 (.tmp 1))⟩,[]⟩,⟨⟨(some 71),none,(.gJ (.tmp 70))⟩,[]⟩,⟨⟨(some 72),none,(.mv (.tmp 9))⟩,[]⟩,⟨⟨(some 73),none,(.mJ 12 (.tmp 71) (.tmp 72))⟩,[]⟩,⟨⟨(some 10),none,(.mg (.tmp 73))⟩,[]⟩]) (.seq (.ops [74,75,76,77,78,79] [⟨⟨(some 74),none,(.mv (.tmp 10))⟩,[]⟩,⟨⟨(some 75),none,(.mv (.tmp 10))⟩,[]⟩,⟨⟨(some 76),none,(.kw (.tmp 74))⟩,[]⟩,⟨⟨(some 77),none,(.fG 3 (.tmp 76))⟩,[]⟩,⟨⟨none,none,(.store 1 (.tmp 77) (.const (.int .i64 0)))⟩,[]⟩,⟨⟨(some 78),none,(.kw (.tmp 75))⟩,[]⟩,⟨⟨(some 79),none,(.fG 11 (.tmp 78))⟩,[]⟩,⟨⟨none,none,(.store 1 (.tmp 79) (.const (.int .i64 (-1))))⟩,[]⟩]) (.seq (.seq (.ops [80,81,82,83,84] [⟨⟨(some 80),none,(.mv (.tmp 10))⟩,[]⟩,⟨⟨(some 81),none,(.kw (.tmp 80))⟩,[]⟩,⟨⟨(some 82),none,(.fG 1 (.tmp 81))⟩,[]⟩,⟨⟨(some 83),none,(.gJ (.tmp 82))⟩,[]⟩,⟨⟨(some 84),none,(.bin .neq 9 (.tmp 83) (.const (.string ⟨⟨[]⟩⟩)))⟩,[]⟩]) (.cond (.tmp 84) (.ops [85,86,87,88,89,90,91,92,93] [⟨⟨(some 85),none,(.mv (.tmp 10))⟩,[]⟩,⟨⟨(some 86),none,(.mv (.tmp 5))⟩,[]⟩,⟨⟨(some 87),none,(.mv (.tmp 10))⟩,[]⟩,⟨⟨(some 88),none,(.kw (.tmp 87))⟩,[]⟩,⟨⟨(some 89),none,(.fG 1 (.tmp 88))⟩,[]⟩,⟨⟨(some 90),none,(.gJ (.tmp 89))⟩,[]⟩,⟨⟨(some 91),none,(.call (.func 212) [(.tmp 86),(.tmp 90)])⟩,[]⟩,⟨⟨(some 92),none,(.kw (.tmp 85))⟩,[]⟩,⟨⟨(some 93),none,(.fG 3 (.tmp 92))⟩,[]⟩,⟨⟨none,none,(.store 1 (.tmp 93) (.tmp 91))⟩,[]⟩]) .skip)) (.seq (.ops [94,95,96,97,98,99,100,101,102,103,104,105,106,107,108,109,110,111] [⟨⟨(some 94),none,(.mv (.tmp 10))⟩,[]⟩,⟨⟨(some 95),none,(.mv (.tmp 10))⟩,[]⟩,⟨⟨(some 96),none,(.mv (.tmp 8))⟩,[]⟩,⟨⟨(some 97),none,(.mv (.tmp 10))⟩,[]⟩,⟨⟨(some 98),none,(.kw (.tmp 97))⟩,[]⟩,⟨⟨(some 99),none,(.fG 4 (.tmp 98))⟩,[]⟩,⟨⟨(some 100),none,(.gJ (.tmp 99))⟩,[]⟩,⟨⟨(some 102),none,(.mv (.tmp 8))⟩,[]⟩,⟨⟨(some 103),none,(.mv (.tmp 10))⟩,[]⟩,⟨⟨(some 104),none,(.kw (.tmp 103))⟩,[]⟩,⟨⟨(some 105),none,(.fG 5 (.tmp 104))⟩,[]⟩,⟨⟨(some 106),none,(.gJ (.tmp 105))⟩,[]⟩,⟨⟨(some 101),none,(.call (.tmp 96) [(.tmp 100)])⟩,[⟨(some 106),none,(.gJ (.tmp 105))⟩]⟩,⟨⟨(some 107),none,(.call (.tmp 102) [(.tmp 106)])⟩,[]⟩,⟨⟨(some 108),none,(.kw (.tmp 94))⟩,[]⟩,⟨⟨(some 109),none,(.fG 6 (.tmp 108))⟩,[]⟩,⟨⟨none,none,(.store 1 (.tmp 109) (.tmp 101))⟩,[]⟩,⟨⟨(some 110),none,(.kw (.tmp 95))⟩,[]⟩,⟨⟨(some 111),none,(.fG 7 (.tmp 110))⟩,[]⟩,⟨⟨none,none,(.store 1 (.tmp 111) (.tmp 107))⟩,[]⟩]) (.seq (.ops [112,113,114,115,116] [⟨⟨(some 112),none,(.mv (.tmp 10))⟩,[]⟩,⟨⟨(some 113),none,(.kw (.tmp 112))⟩,[]⟩,⟨⟨(some 114),none,(.fG 10 (.tmp 113))⟩,[]⟩,⟨⟨(some 115),none,(.gJ (.tmp 114))⟩,[]⟩,⟨⟨(some 116),none,(.bin .neq 9 (.tmp 115) (.const (.string ⟨⟨[]⟩⟩)))⟩,[]⟩]) (.cond (.tmp 116) (.ops [117,118,119,120,121,122,123,124,125] [⟨⟨(some 117),none,(.mv (.tmp 10))⟩,[]⟩,⟨⟨(some 118),none,(.mv (.tmp 6))⟩,[]⟩,⟨⟨(some 119),none,(.mv (.tmp 10))⟩,[]⟩,⟨⟨(some 120),none,(.kw (.tmp 119))⟩,[]⟩,⟨⟨(some 121),none,(.fG 10 (.tmp 120))⟩,[]⟩,⟨⟨(some 122),none,(.gJ (.tmp 121))⟩,[]⟩,⟨⟨(some 123),none,(.call (.func 212) [(.tmp 118),(.tmp 122)])⟩,[]⟩,⟨⟨(some 124),none,(.kw (.tmp 117))⟩,[]⟩,⟨⟨(some 125),none,(.fG 11 (.tmp 124))⟩,[]⟩,⟨⟨none,none,(.store 1 (.tmp 125) (.tmp 123))⟩,[]⟩]) .skip)))))))) (.ops [126,67] [⟨⟨(some 126),none,(.bin .add 3 (.tmp 67) (.const (.int .i64 1)))⟩,[]⟩,⟨⟨(some 67),none,(.mv (.tmp 126))⟩,[]⟩]))))))) (.seq (.ops [127] [⟨⟨(some 127),none,(.oU 10 (.tmp 1))⟩,[]⟩,⟨⟨none,none,(.store 10 (.tmp 2) (.tmp 127))⟩,[]⟩,⟨⟨none,none,(.store 1 (.tmp 3) (.const (.int .i64 0)))⟩,[]⟩]) .ret)))))))))))))⟩
theorem ac4:mo Tryz.prog 150=some Im:=by kernel_rfl
theorem dU(a b:ByteArray):(a.toList==b.toList)=decide (a=b):=by
 rw[ByteArray.toList_eq,ByteArray.toList_eq];by_cases h:a=b
 ·subst h;simp
 ·rw[aT h];cases hb:a.data.toList==b.data.toList with
  |false=>rfl
  |true=>
   have:=eq_of_beq hb;exact absurd (ByteArray.ext (Array.ext' this)) h
abbrev uE:List Value:=[.string ⟨⟨[]⟩⟩,.int .i64 0,.int .i64 0,.int .i64 0,.int .i64 0,.slice none 0 0,.slice none 0 0,.slice none 0 0,.slice none 0 0,.slice none 0 0]
theorem ac5{b2 b3:Nat}:GV Tryz.prog (.func 201) [] [ptr' b2,ptr' b3] .returning [] [] (λ_:Unit=>.ok (.tuple ⟨[]⟩)) (λ_=>.returning) (λ_=>[]) (λ_=>[]) (λ_=>True):=by
 refine QN Mf Tq λB w0=>?_;refine go ?_;refine QO (v:=.nilIface) (m':=.returning) rfl ?_;refine go ?_;refine(fJ (v:=.bool false) rfl rfl (λh=>by
  show(match kW Tryz.prog .neq 20 (.tmp 4) (.const .nilIface) .nilIface .nilIface with|some v=>some (v,h)|none=>none)=_;rw[show kW Tryz.prog .neq 20 (.tmp 4) (.const .nilIface) .nilIface .nilIface=some (.bool false)by kernel_rfl])).h ?_
 refine go ?_;exact QT () (hv:=rfl) (hm:=rfl) (hp:=trivial)
theorem ac6{b2 b3:Nat}{e:Int}(he:e=160\/e=161):GV Tryz.prog (.func 201) [] [ptr' b2,ptr' b3] (.panicking (rM e)) [pt b2 (.cells uE),pt b3 (.cells [.int .i64 0])] [] (λ_:Unit=>.ok (.tuple ⟨[]⟩)) (λ_=>.panicking [{v:=.iface 41 (.int .i64 e),recovered:=true}])
 (λ_=>[pt b2 (.cells uE),pt b3 (.cells [.int .i64 e])]) (λ_=>[]) (λ_=>True):=by
 refine QN Mf Tq λB w0=>?_;refine go ?_;refine QO (v:=.iface 41 (.int .i64 e)) (m':=.panicking [{v:=.iface 41 (.int .i64 e),recovered:=true}]) rfl ?_;refine go ?_;refine(fJ (v:=.bool true) rfl rfl (λh=>by
  show(match kW Tryz.prog .neq 20 (.tmp 4) (.const .nilIface) (.iface 41 (.int .i64 e)) .nilIface with|some v=>some (v,h)|none=>none)=_;rcases he with rfl|rfl
  ·rw[show kW Tryz.prog .neq 20 (.tmp 4) (.const .nilIface) (.iface 41 (.int .i64 160)) .nilIface=some (.bool true)by kernel_rfl]
  ·rw[show kW Tryz.prog .neq 20 (.tmp 4) (.const .nilIface) (.iface 41 (.int .i64 161)) .nilIface=some (.bool true)by kernel_rfl])).h ?_
 refine go ?_;exact QT () (hv:=rfl) (hm:=rfl) (hp:=trivial)
structure Ej where
 ok:Bool
 e:Int
 vc:Value
 vu:Value
abbrev qw(d:bD)(vh vs vr:Value)(y:Ej):Value:=.tuple ⟨[.agg ⟨cond y.ok (gq (Kd.bF d) vh vs vr y.vc y.vu) uE⟩,.int .i64 y.e]⟩
abbrev nJ(d:bD)(y:Ej):List aF:=cond y.ok [ah bJ y.vc (Kd.bF d).aI,ah aY y.vu (Kd.bF d).rules] []
def zI(d:bD)(y:Ej):Prop:=(y.ok=true->y.e=0/\BB d)/\(y.ok=false->y.e≠0/\¬BB d)
structure lX(d:bD):Prop where
 dO:d.symbols.length<=4096
 regs:d.regions.length<=4096
 jk:d.aI.length<=4096
 kg:d.rules.length<=4096
 qx:∀r∈d.rules,r.names.length<9223372036854775808/\r.others.length<9223372036854775808
 holes:d.holes.length<9223372036854775808
 qy:∀r∈d.regions,r.lists.length<9223372036854775808/\∀l∈r.lists,l.length<9223372036854775808
section
variable {B:List Nat} {w0:Wd} {kl bn:List OA} {F:List aF} {l:List (Nat×Value)} {b2 b3:Nat} {n:Nat}
theorem wo{d:bD}{vh vs vr:Value}{e:Int}(he:e=160\/e=161)(hno:¬BB d)(h2:lk l 2=ptr' b2)(h3:lk l 3=ptr' b3)(hk:aH [pt b2 (.cells uE),pt b3 (.cells [.int .i64 0])] kl bn):
 R (λh=>pE Tryz.prog Im (zm B w0 (λy=>.ok (qw d vh vs vr y)) (λ_=>[]) (nJ d) (zI d)) (.panic (rM e)) (act n l [{target:=.fn (.func 201) ⟨[ptr' b2,ptr' b3]⟩,args:=⟨[]⟩}] none none) h) B w0 kl F:=by
 refine DN (m:=.panicking (rM e)) ?_;refine QR (bn:=bn) (dK:=λ_=>[pt b2 (.cells uE),pt b3 (.cells [.int .i64 e])]++bn) (F2:=λ_=>F) (ac6 (b2:=b2) (b3:=b3) he) (λy v _ _=>?_) (λy ch _ hc=>by cases hc) (hk:=hk) (hF:=.nil) (hk2:=λ_=>bB.app) (hF2:=λ_=>bB.nil);show RL _ _ _ _ .returning _ _ _ _ _;refine QU (bn:=[pt b2 (.cells uE),pt b3 (.cells [.int .i64 e])]++bn) (vs:=[.agg ⟨uE⟩,.int .i64 e]) ⟨false,e,.nilFunc,.nilFunc⟩ rfl ⟨(λh=>by cases h),λ_=>⟨by rcases he with rfl|rfl<;>simp,hno⟩⟩ (hr:=?_) (hk:=.nil) (hF:=.nil);show RS l _ [.oZ 10 2,.cell1 3] _;exact .oZ h2 .here rfl (.cell1 h3 (.there .here) rfl .nil)
end
section
variable {B:List Nat} {w0:Wd} {kl bn:List OA} {F:List aF} {l:List (Nat×Value)} {b2 b3:Nat} {n:Nat}
theorem Tw{d:bD}{vh vs vr:Value}{o:Out}{cs:List Value}{e:Int}(y:Ej)(ho:rY o=some .returning)(hcs:cs=cond y.ok (gq (Kd.bF d) vh vs vr y.vc y.vu) uE)(hl:cs.length=10)(hy:y.e=e)(hp:zI d y)(hF:∀w,(∀f∈F,f.p w)->∀f∈nJ d y,f.p w)(h2:lk l 2=ptr' b2)(h3:lk l 3=ptr' b3)(hk:aH [pt b2 (.cells cs),pt b3 (.cells [.int .i64 e])] kl bn):
 R (λh=>pE Tryz.prog Im (zm B w0 (λy=>.ok (qw d vh vs vr y)) (λ_=>[]) (nJ d) (zI d)) o (act n l [{target:=.fn (.func 201) ⟨[ptr' b2,ptr' b3]⟩,args:=⟨[]⟩}] none none) h) B w0 kl F:=by
 refine DN (m:=.returning) ?_ ho;refine QR (k1:=[]) (bn:=kl) (dK:=λ_=>kl) (F2:=λ_=>F) (ac5 (b2:=b2) (b3:=b3)) (λ_ v _ _=>?_) (λ_ ch _ hc=>by cases hc) (hk:=.nil) (hF:=.nil) (hk2:=λ_=>bB.nil) (hF2:=λ_=>bB.nil);show RL _ _ _ _ .returning _ _ _ _ _;intro w s;have s':St B w0 ([pt b2 (.cells cs),pt b3 (.cells [.int .i64 e])]++bn) (nJ d y) w:=by
  have:=s.ji hk;exact⟨this.agree,this.le,this.fF,this.own,hF w this.facts⟩
 refine QU (F:=nJ d y) (bn:=[pt b2 (.cells cs),pt b3 (.cells [.int .i64 e])]++bn) (vs:=[.agg ⟨cs⟩,.int .i64 e]) y ?_ hp (hr:=?_) (hk:=.nil) (hF:=?_) w s'
 ·show iD.ok (qw d vh vs vr y)=_;unfold qw;rw[<- hcs,hy];rfl
 ·show RS l _ [.oZ 10 2,.cell1 3] _;exact .oZ h2 .here (by rw[nP,om,yH,if_pos (by omega),<- hl,bK]) (.cell1 h3 (.there .here) rfl .nil)
 ·have:∀k:List aF,Sub k k:=λk=>by
   have:=Sub.refl' k [];simpa using this
  exact this _
end
theorem BG{X:List (aS×aY.Y)}{k:Nat}(hk:k<X.length){q q':aS×aY.Y}{j:Nat}{v:Value}(h:(aY.pat q.1 q.2).set j v=aY.pat q'.1 q'.2)(hj:j<12):(gp aY (X.set k q)).set (0+k*12+j) v=gp aY (X.set k q'):=by
 rw[fw];have:=Lm (E:=aY) (aJ:=X.set k q) (k:=k) (p:=q) (p':=q') (by rw[uM,if_pos rfl,if_pos hk]) h hj;rw[List.set_set]at this;exact this
theorem zJ{X:List (aS×aY.Y)}{k:Nat}(hk:k<X.length){q:aS×aY.Y}{j:Nat}{u:Value}(h:(aY.pat q.1 q.2)[j]? =some u):(gp aY (X.set k q))[0+k*12+j]? =some u:=by
 rw[fw];exact zx (E:=aY) (aJ:=X.set k q) (k:=k) (by rw[uM,if_pos rfl,if_pos hk]) h
theorem BH{X:List (aS×aY.Y)}{k:Nat}(hk:k<X.length){q:aS×aY.Y}{j:Nat}(hj:j<12):0+k*12+j<(gp aY (X.set k q)).length:=by
 rw[DW,Cs];show 0+k*12+j<X.length*12;omega
theorem Tx{d:bD}{vh vs vr vc vu:Value}(hS:lX d):bz Tryz.prog (.func 150) [.agg ⟨gq d vh vs vr vc vu⟩] [] [] (kG d vh vs vr vc vu) (qw d vh vs vr) (λ_=>[]) (nJ d) (zI d):=by
 refine pF.toC _ ?_ (λ_ _=>rfl);have hsl:=hS.dO;have hrl:=hS.regs;have hcl:=hS.jk;have xZ:=hS.kg;refine xM Im ac4 λB w0=>?_;refine go ?_;intro b1 b2 b3;refine go ?_;refine aaE ?_;refine go ?_;refine az rfl (λh1=>?_) (λh1=>?_)
 ·refine go ?_;exact Tw (e:=2) (cs:=uE) ⟨false,2,.nilFunc,.nilFunc⟩ rfl rfl rfl rfl ⟨(λh=>by cases h),λ_=>⟨by simp,λh=>by have:=h.dO;omega⟩⟩ (λw _ f hf=>by cases hf) rfl rfl (by repeat (first|exact aH.nil|(apply aH.cons;(focus (repeat (first|exact ay.here|apply ay.there))))))
 have hsy:(bO d).length<=16:=by show(d.symbols.map (·.name)).length<=16;rw[bU];omega
 refine go ?_;refine xO fM (λbs=>?_);refine go ?_;refine sN (acV (b:=bs) (start:=0) (ai:=[]) hsl (by omega) tT) (λy v hy e=>?_) (λy ch hy e=>?_)
 rotate_left
 ·obtain⟨y,ns⟩:=y;cases y with
  |true=>cases e
  |false=>
   injection e with e;subst e;refine go ?_;exact wo (e:=161) (.inr rfl) (λh=>hy.2 rfl (by simpa[bO]using h.RZ)) rfl rfl (by repeat (first|exact aH.nil|(apply aH.cons;(focus (repeat (first|exact ay.here|apply ay.there))))))
 obtain⟨y,ns⟩:=y;cases y with
 |false=>cases e
 |true=>
 injection e with e;subst e;have hns:ns=bO d:=(hy.1 rfl).1;have hsn:(bO d).Nodup:=by have:=(hy.1 rfl).2;simpa[bO]using this
 clear hy;subst hns;dsimp only;rw[show([]:List (ByteArray×Value))++eZ _ 0=eZ _ 0 from rfl];refine bC (Bn (b:=bs)) (h:=?_);refine go ?_;intro b4;refine go ?_;refine xO fM (λbf=>?_);refine ax acZ (next:=λvg _=>?_);refine sN (acU (b:=bf) (xs:=iF) (start:=0) (ai:=[]) (by decide) (by omega) tT) (λy v hy e=>?_) (λy ch hy e=>?_)
 rotate_left
 ·obtain⟨y,ns⟩:=y;cases y with
  |true=>cases e
  |false=>exact absurd (by decide) (hy.2 rfl)
 obtain⟨y,ns⟩:=y;cases y with
 |false=>cases e
 |true=>
 injection e with e;subst e;have hns:ns=iF:=(hy.1 rfl).1;clear hy;subst hns;dsimp only;rw[show([]:List (ByteArray×Value))++eZ _ 0=eZ _ 0 from rfl];refine sN (acW (b:=bf) (start:=8) (ai:=eZ iF 0) hrl (by omega) (by rw[rF];decide)) (λy v hy e=>?_) (λy ch hy e=>?_)
 rotate_left
 ·obtain⟨y,ns⟩:=y;cases y with
  |true=>cases e
  |false=>
   injection e with e;subst e;refine go ?_;exact wo (e:=161) (.inr rfl) (λh=>hy.2 rfl (by rw[rF];exact h.R3)) rfl rfl (by repeat (first|exact aH.nil|(apply aH.cons;(focus (repeat (first|exact ay.here|apply ay.there))))))
 obtain⟨y,ns⟩:=y;cases y with
 |false=>cases e
 |true=>
 injection e with e;subst e;have hns:ns=d.regions.map lS.name:=(hy.1 rfl).1;have hfn:(bS d).Nodup:=by have:=(hy.1 rfl).2;rw[rF]at this;exact this
 clear hy;subst hns;dsimp only;have hfe:eZ iF 0++eZ (d.regions.map lS.name) 8=eZ (bS d) 0:=by
  unfold bS;rw[LH];rfl
 rw[hfe];clear hfe;refine bC (Bn (b:=bf)) (h:=?_);refine go ?_;refine xO fM (λbc=>?_);refine go ?_;refine sN (acX (b:=bc) (start:=0) (ai:=[]) hcl (by omega) tT) (λy v hy e=>?_) (λy ch hy e=>?_)
 rotate_left
 ·obtain⟨y,ns⟩:=y;cases y with
  |true=>cases e
  |false=>
   injection e with e;subst e;refine go ?_;exact wo (e:=161) (.inr rfl) (λh=>hy.2 rfl (by simpa[dH]using h.R4)) rfl rfl (by repeat (first|exact aH.nil|(apply aH.cons;(focus (repeat (first|exact ay.here|apply ay.there))))))
 obtain⟨y,ns⟩:=y;cases y with
 |false=>cases e
 |true=>
 injection e with e;subst e;have hns:ns=dH d:=(hy.1 rfl).1;have hcn:(dH d).Nodup:=by have:=(hy.1 rfl).2;simpa[dH]using this
 clear hy;subst hns;dsimp only;rw[show([]:List (ByteArray×Value))++eZ _ 0=eZ _ 0 from rfl];refine bC (Bn (b:=bc)) (h:=?_);refine go ?_;refine Lp bJ vc (λxc BI=>?_);have hxl:xc.length=d.aI.length:=by rw[<- BI,bU]
 refine ax (ac0 (aJ:=xc) (by omega)) (next:=λv1 _=>?_);refine Rk (E:=bJ) (v:=v1) (aJ:=xc) (λa1 e1=>?_);subst e1;refine go ?_;let f1:iP×bJ.Y->iP×bJ.Y:=λp=>(kN (bS d) p.1,p.2)
 rw[show ar bJ (.slice a1 xc.length xc.length) xc=ar bJ (.slice a1 xc.length xc.length) (jl f1 0 xc)from rfl];refine bi (λk=>xc.length - k) (λk:Nat=>[(38,.int .i64 (k:Int))]) (λk=>[ar bJ (.slice a1 xc.length xc.length) (jl f1 k xc)]) (λ_=>[]) (λk=>k<=xc.length/\∀p∈xc.take k,p.1.on∈bS d) 0 ⟨cB _,by simp⟩ (body:=?_);rintro k ⟨hk,hall⟩;refine go ?_;refine az rfl (λh2=>?_) (λh2=>?_)
 ·refine go ?_;refine Rj (E:=bJ) (aJ:=jl f1 k xc) (by rw[xQ];omega) (λbx fx hfx ev=>?_);injection ev with ea _ _;subst ea;refine go ?_;obtain⟨p,hp⟩:∃p,xc[k]? =some p:=⟨xc[k]'(by omega),cz _⟩
  have hget:(jl f1 k xc)[k]? =some p:=by rw[R7 _ (by omega)];exact hp
  have jY:p.1∈d.aI:=by rw[<- BI];exact Jc (bI hp)
  refine vL (o:=0+k*6+1) (cs:=gp bJ (jl f1 k xc)) (.string p.1.on) (by rw[fw];exact zx (E:=bJ) (j:=1) hget rfl) ?_;refine sN (Il (b:=bf) (s:=p.1.on) (ai:=eZ (bS d) 0)) (λy v hy e=>?_) (λy ch hy e=>?_)
  rotate_left
  ·have hm:p.1.on∉bS d:=by
    intro h;rw[vR h]at hy;subst hy;cases e
   rw[qp (by rw[rF];exact hm)]at hy;subst hy;injection e with e;subst e;refine go ?_;exact wo (e:=160) (.inl rfl) (λh=>hm (h.LJ p.1 jY)) rfl rfl (by repeat (first|exact aH.nil|(apply aH.cons;(focus (repeat (first|exact ay.here|apply ay.there))))))
  have hm:p.1.on∈bS d:=by
   by_cases h:p.1.on∈bS d
   ·exact h
   ·rw[qp (by rw[rF];exact h)]at hy;subst hy;cases e
  rw[vR hm]at hy;subst hy;injection e with e;subst e;rw[fw];refine go ?_;refine xL (o:=0+k*6+2) (cs:=gp bJ (jl f1 k xc)) (cs':=gp bJ (jl f1 (k+1) xc)) (v:=.int .i64 ((dR p.1.on (bS d):Nat):Int)) (by rw[fw,<- R8 f1 hp];exact Lm (E:=bJ) (j:=2) (p':=f1 p) hget rfl (by decide)) (by rw[DW,xQ];show 0+k*6+2<xc.length*6;omega) ?_;refine go ?_;refine sO (b:=bx) (f:=fx) (m:=xc.length) bJ (aJ:=jl f1 (k+1) xc) (by rw[xQ]) hfx ?_;refine aQ (k+1) (by omega) ⟨by omega,λq hq=>?_⟩;rw[l9,hp]at hq;rcases dX.1 hq with h|h
  ·exact hall q h
  ·have:q=p:=by simpa using h
   rw[this];exact hm
 have hkl:k=xc.length:=by omega
 subst hkl;rw[bK]at hall;have hcon:∀c∈d.aI,c.on∈bS d:=by
  intro c hc;rw[<- BI]at hc;obtain⟨p,hp,rfl⟩:=eG.1 hc;exact hall p hp
 clear hall hk;rw[R6];refine go ?_;refine xO fM (λbu=>?_);refine go ?_;refine sN (acY (b:=bu) (start:=0) (ai:=[]) xZ (by omega) tT) (λy v hy e=>?_) (λy ch hy e=>?_)
 rotate_left
 ·obtain⟨y,ns⟩:=y;cases y with
  |true=>cases e
  |false=>
   injection e with e;subst e;refine go ?_;exact wo (e:=161) (.inr rfl) (λh=>hy.2 rfl (by simpa[mF]using h.R5)) rfl rfl (by repeat (first|exact aH.nil|(apply aH.cons;(focus (repeat (first|exact ay.here|apply ay.there))))))
 obtain⟨y,ns⟩:=y;cases y with
 |false=>cases e
 |true=>
 injection e with e;subst e;have hrn:(mF d).Nodup:=by have:=(hy.1 rfl).2;simpa[mF]using this
 clear hy;dsimp only;refine bC (Bn (b:=bu)) (h:=?_);refine go ?_;refine Lp aY vu (λxr Io=>?_);have ah9:xr.length=d.rules.length:=by rw[<- Io,bU]
 refine ax (ac3 (aJ:=xr) (by omega)) (next:=λv2 _=>?_);refine Rk (E:=aY) (v:=v2) (aJ:=xr) (λa2 e2=>?_);subst e2;refine go ?_;refine bC (eH (b:=b4)) (h:=?_);refine go ?_;let f2:aS×aY.Y->aS×aY.Y:=λp=>(lT (bO d) (bS d) (dH d) p.1,p.2)
 rw[show ar aY (.slice a2 xr.length xr.length) xr=ar aY (.slice a2 xr.length xr.length) (jl f2 0 xr)from rfl];refine aaW (E:=aY) (v:=vu) (aJ:=xr) ?_;refine bi (λk=>xr.length - k) (λk:Nat=>[(67,.int .i64 (k:Int))]) (λk=>[ar aY (.slice a2 xr.length xr.length) (jl f2 k xr)]) (λ_=>[]) (λk=>k<=xr.length/\∀p∈xr.take k,zz (bO d) (bS d) (dH d) p.1) 0 ⟨cB _,by simp⟩ (body:=?_);rintro k ⟨hk,hall⟩;refine go ?_;refine az rfl (λh2=>?_) (λh2=>?_)
 ·refine go ?_;refine Rj (E:=aY) (aJ:=jl f2 k xr) (by rw[xQ];omega) (λbW fy Ty ev=>?_);injection ev with ea _ _;subst ea;obtain⟨p,hp⟩:∃p,xr[k]? =some p:=⟨xr[k]'(by omega),cz _⟩
  have hpm:=bI hp;have hget:(jl f2 k xr)[k]? =some p:=by rw[R7 _ (by omega)];exact hp
  have jY:p.1∈d.rules:=by rw[<- Io];exact Jc hpm
  have hfin:=R8 f2 hp;obtain⟨r,v3,v4⟩:=p;have hrs:=hS.qx r jY;have lq:k<(jl f2 k xr).length:=by rw[xQ];omega
  have ac7:(jl f2 k xr).length=xr.length:=xQ _ _ _;have e0:jl f2 k xr=(jl f2 k xr).set k (r,v3,v4):=by
   apply ku;intro i;rw[uM];by_cases hi:k=i
   ·subst hi;rw[if_pos rfl,if_pos lq,hget]
   ·rw[if_neg hi]
  refine fu (ah aR v3 r.names) (λw h=>h (vP aY xr) (dL ..) _ hpm _ (dL ..)) ?_;refine fu (ah aR v4 r.others) (λw h=>h (vP aY xr) (dI _ (dL ..)) _ hpm _ (dI _ (dL ..))) ?_;rw[e0];rw[<- e0];generalize hX:jl f2 k xr=X at lq ac7 e0 hfin;rw[e0];refine go ?_;refine xL (o:=0+k*12+3) (cs:=gp aY (X.set k (r,v3,v4))) (cs':=gp aY (X.set k ({r with family:=0},v3,v4))) (v:=.int .i64 0) (BG lq rfl (by omega)) (BH lq (by omega)) ?_;refine go ?_;refine xL (o:=0+k*12+11) (cs:=gp aY (X.set k ({r with family:=0},v3,v4))) (cs':=gp aY (X.set k ({r with family:=0,aG:= -1},v3,v4))) (v:=.int .i64 (-1)) (BG lq rfl (by omega)) (BH lq (by omega)) ?_;refine go ?_;refine vL (o:=0+k*12+1) (cs:=gp aY (X.set k ({r with family:=0,aG:= -1},v3,v4))) (.string r.on) (zJ lq rfl) ?_;refine go ?_;refine QL (bn:=[pt b1 (.cells [.string d.name,.int .i64 d.version,.int .i64 d.shape,.int .i64 d.w,.int .i64 d.h,vh,vs,vr,.slice a1 xc.length xc.length,.slice (some ⟨bW,0,some fy⟩) xr.length xr.length]),ar bJ (.slice a1 xc.length xc.length) (xc.map f1),pt b3 (.cells [.int .i64 0]),pt b2 (.cells uE)]) [] (λ_:Unit=>[]) (λ_=>[pt bW (.cells (gp aY (X.set k ({r with family:=if r.on=⟨⟨[]⟩⟩then 0 else(dR r.on (bS d):Int),aG:= -1},v3,v4))))]) (λ_=>[]) (λ_=>r.on=⟨⟨[]⟩⟩\/r.on∈bS d) (hx:=?_) (hy:=?_)
  ·refine eO (p:=r.on=⟨⟨[]⟩⟩) (by show Value.bool _=_;rw[dU]) (λh3=>?_) (λh3=>?_)
   ·refine go ?_;refine vL (o:=0+k*12+1) (cs:=gp aY (X.set k ({r with family:=0,aG:= -1},v3,v4))) (.string r.on) (zJ lq rfl) ?_;refine sN (Il (b:=bf) (s:=r.on) (ai:=eZ (bS d) 0)) (λy v hy e=>?_) (λy ch hy e=>?_)
    rotate_left
    ·have hm:r.on∉bS d:=by
      intro h;rw[vR h]at hy;subst hy;cases e
     rw[qp (by rw[rF];exact hm)]at hy;subst hy;injection e with e;subst e;refine go ?_;refine aaC ?_;refine go ?_;exact wo (e:=160) (.inl rfl) (λh=>(h.uw r jY).on.elim h3 hm) rfl rfl (by repeat (first|exact aH.nil|(apply aH.cons;(focus (repeat (first|exact ay.here|apply ay.there))))))
    have hm:r.on∈bS d:=by
     by_cases h:r.on∈bS d
     ·exact h
     ·rw[qp (by rw[rF];exact h)]at hy;subst hy;cases e
    rw[vR hm]at hy;subst hy;injection e with e;subst e;rw[fw];refine go ?_;refine xL (o:=0+k*12+3) (cs:=gp aY (X.set k ({r with family:=0,aG:= -1},v3,v4))) (cs':=gp aY (X.set k ({r with family:=if r.on=⟨⟨[]⟩⟩then 0 else(dR r.on (bS d):Int),aG:= -1},v3,v4))) (v:=.int .i64 ((dR r.on (bS d):Nat):Int)) (by rw[if_neg h3];exact BG lq rfl (by omega)) (BH lq (by omega)) ?_;refine go ?_;exact GU () (.inr hm)
   ·refine go ?_;rw[show({r with family:=0,aG:= -1}:aS)={r with family:=if r.on=⟨⟨[]⟩⟩then 0 else(dR r.on (bS d):Int),aG:= -1}by rw[if_pos h3]];exact GU () (.inl h3)
  intro _ hon;generalize hfm:(if r.on=⟨⟨[]⟩⟩then 0 else(dR r.on (bS d):Int))=fm;refine go ?_;refine vL (o:=0+k*12+4) (cs:=gp aY (X.set k ({r with family:=fm,aG:= -1},v3,v4))) v3 (zJ lq rfl) ?_;refine go ?_;refine vL (o:=0+k*12+5) (cs:=gp aY (X.set k ({r with family:=fm,aG:= -1},v3,v4))) v4 (zJ lq rfl) ?_;refine go ?_;refine sN (Tv (b4:=b4) (bs:=bs) (vl:=v3) (dO:=bO d) (l:=r.names) hsy hrs.1) (λy v hy e=>?_) (λy ch hy e=>?_)
   (hs:=λy v _ _=>Bd (b:=bW) (o:=0+k*12+5) (cs:=gp aY (X.set k ({r with family:=fm,aG:= -1},v3,v4))) (v:=v4) rfl (by repeat (first|exact ay.here|apply ay.there)) (by rw[qP];exact zJ lq rfl) rfl Bc)
  rotate_left
  ·cases y with
   |true=>cases e
   |false=>
    injection e with e;subst e;refine go ?_;exact wo (e:=160) (.inl rfl) (λh=>hy.2 rfl (h.uw r jY).names) rfl rfl (by repeat (first|exact aH.nil|(apply aH.cons;(focus (repeat (first|exact ay.here|apply ay.there))))))
  cases y with
  |false=>cases e
  |true=>
  injection e with e;subst e;have ac8:=hy.1 rfl;clear hy;refine go ?_;refine go ?_;refine sN (Tv (b4:=b4) (bs:=bs) (vl:=v4) (dO:=bO d) (l:=r.others) hsy hrs.2) (λy v hy e=>?_) (λy ch hy e=>?_)
  rotate_left
  ·cases y with
   |true=>cases e
   |false=>
    injection e with e;subst e;refine go ?_;exact wo (e:=160) (.inl rfl) (λh=>hy.2 rfl (h.uw r jY).others) rfl rfl (by repeat (first|exact aH.nil|(apply aH.cons;(focus (repeat (first|exact ay.here|apply ay.there))))))
  cases y with
  |false=>cases e
  |true=>
  injection e with e;subst e;have ac9:=hy.1 rfl;clear hy;refine go ?_;refine xL (o:=0+k*12+6) (cs:=gp aY (X.set k ({r with family:=fm,aG:= -1},v3,v4))) (cs':=gp aY (X.set k ({r with family:=fm,aG:= -1,set:=(fT (bO d) r.names:Int)},v3,v4))) (v:=.int .i64 (fT (bO d) r.names:Int)) (BG lq rfl (by omega)) (BH lq (by omega)) ?_;refine go ?_;refine xL (o:=0+k*12+7) (cs:=gp aY (X.set k ({r with family:=fm,aG:= -1,set:=(fT (bO d) r.names:Int)},v3,v4))) (cs':=gp aY (X.set k ({r with family:=fm,aG:= -1,set:=(fT (bO d) r.names:Int),other:=(fT (bO d) r.others:Int)},v3,v4))) (v:=.int .i64 (fT (bO d) r.others:Int)) (BG lq rfl (by omega)) (BH lq (by omega)) ?_;refine go ?_;refine vL (o:=0+k*12+10) (cs:=gp aY (X.set k ({r with family:=fm,aG:= -1,set:=(fT (bO d) r.names:Int),other:=(fT (bO d) r.others:Int)},v3,v4))) (.string r.bW) (zJ lq rfl) ?_;refine go ?_;have hnext:(r.bW=⟨⟨[]⟩⟩\/r.bW∈dH d)->∀q∈xr.take (k+1),zz (bO d) (bS d) (dH d) q.1:=by
   intro hby q hq;rw[l9,hp]at hq;rcases dX.1 hq with h|h
   ·exact hall q h
   ·have:q=(r,v3,v4):=bH.1 (show q∈[(r,v3,v4)]from h);rw[this];exact⟨hon,ac8,ac9,hby⟩
  refine eO (p:=r.bW=⟨⟨[]⟩⟩) (by show Value.bool _=_;rw[dU]) (λh3=>?_) (λh3=>?_)
  ·refine go ?_;refine vL (o:=0+k*12+10) (cs:=gp aY (X.set k ({r with family:=fm,aG:= -1,set:=(fT (bO d) r.names:Int),other:=(fT (bO d) r.others:Int)},v3,v4))) (.string r.bW) (zJ lq rfl) ?_;refine sN (Il (b:=bc) (s:=r.bW) (ai:=eZ (dH d) 0)) (λy v hy e=>?_) (λy ch hy e=>?_)
   rotate_left
   ·have hm:r.bW∉dH d:=by
     intro h;rw[vR h]at hy;subst hy;cases e
    rw[qp (by rw[rF];exact hm)]at hy;subst hy;injection e with e;subst e;refine go ?_;exact wo (e:=160) (.inl rfl) (λh=>(h.uw r jY).bW.elim h3 hm) rfl rfl (by repeat (first|exact aH.nil|(apply aH.cons;(focus (repeat (first|exact ay.here|apply ay.there))))))
   have hm:r.bW∈dH d:=by
    by_cases h:r.bW∈dH d
    ·exact h
    ·rw[qp (by rw[rF];exact h)]at hy;subst hy;cases e
   rw[vR hm]at hy;subst hy;injection e with e;subst e;rw[fw];refine go ?_;refine xL (o:=0+k*12+11) (cs:=gp aY (X.set k ({r with family:=fm,aG:= -1,set:=(fT (bO d) r.names:Int),other:=(fT (bO d) r.others:Int)},v3,v4))) (cs':=gp aY (X.set k (f2 (r,v3,v4)))) (v:=.int .i64 ((dR r.bW (dH d):Nat):Int)) (BG lq (by show _=iM (lT (bO d) (bS d) (dH d) r) v3 v4;unfold lT;rw[if_neg h3,hfm];rfl) (by omega)) (BH lq (by omega)) ?_;refine go ?_;rw[hfin];refine sO (b:=bW) (f:=fy) (m:=xr.length) aY (aJ:=jl f2 (k+1) xr) (by rw[xQ]) Ty ?_;exact aQ (k+1) (by omega) ⟨by omega,hnext (.inr hm)⟩
  ·refine go ?_;rw[show X.set k (({r with family:=fm,aG:= -1,set:=(fT (bO d) r.names:Int),other:=(fT (bO d) r.others:Int)}:aS),v3,v4)=jl f2 (k+1) xr by
    rw[<- hfin];congr 1;show _=(lT (bO d) (bS d) (dH d) r,v3,v4)
    unfold lT;rw[if_pos h3,hfm];rfl]
   refine sO (b:=bW) (f:=fy) (m:=xr.length) aY (aJ:=jl f2 (k+1) xr) (by rw[xQ]) Ty ?_;exact aQ (k+1) (by omega) ⟨by omega,hnext (.inl h3)⟩
 have hkl:k=xr.length:=by omega
 subst hkl;rw[bK]at hall;rw[R6];refine GZ (E:=bJ) (v:=.slice a1 xc.length xc.length) (aJ:=xc.map f1) ?_ (λw h p hp f hf=>by cases hf);refine GZ (E:=aY) (v:=.slice a2 xr.length xr.length) (aJ:=xr.map f2) ?_ (λw h p hp f hf=>by
  obtain⟨q,hq,rfl⟩:=eG.1 hp;exact h (vP aY xr) (dI _ (dI _ (dL ..))) q hq f hf)
 refine go ?_;refine Tw (e:=0) ⟨true,0,.slice a1 xc.length xc.length,.slice a2 xr.length xr.length⟩ rfl (by rfl) rfl rfl ⟨λ_=>⟨rfl,⟨by omega,hsn,hfn,hcn,hcon,hrn,λr hr=>?_⟩⟩,λh=>by cases h⟩ (λw h f hf=>?_) rfl rfl (by repeat (first|exact aH.nil|(apply aH.cons;(focus (repeat (first|exact ay.here|apply ay.there))))))
 ·rw[<- Io]at hr;obtain⟨p,hp,rfl⟩:=eG.1 hr;exact hall p hp
 ·have ec:(xc.map f1).map (·.1)=(Kd.bF d).aI:=by
   show _=d.aI.map (kN (bS d));rw[<- BI,uN,uN];rfl
  have er:(xr.map f2).map (·.1)=(Kd.bF d).rules:=by
   show _=d.rules.map (lT (bO d) (bS d) (dH d));rw[<- Io,uN,uN];rfl
  rw[ec,er]at h;have hf:f∈[ah bJ (.slice a1 xc.length xc.length) (Kd.bF d).aI,ah aY (.slice a2 xr.length xr.length) (Kd.bF d).rules]:=hf;rcases dD.1 hf with rfl|hf
  ·exact h _ (by simp)
  ·rw[bH.1 hf];exact h _ (by simp)
