/-
  What rules mean for lists of cells: sets of symbols, counts, sums, differences, rises, runs.
-/
import Derived.Test.YtoohgkkmdnbnfaaGreatDoorProg
import Derived.Test.YtoohgkkmdnbnfaaGreatDoorPlainBA
import Derived.Laws.Strings
set_option linter.all false
set_option maxRecDepth 10000
set_option maxHeartbeats 1000000
namespace Go.Proofs.YtoohgkkmdnbnfaaGreatDoor
open Go.Ideal
noncomputable def T9:=sN Tryz.prog 312
theorem adH:kZ Tryz.prog 312=some T9:=by kernel_rfl
noncomputable def Ua:=sN Tryz.prog 289
theorem adI:kZ Tryz.prog 289=some Ua:=by kernel_rfl
structure Ub(grid:List Int):Prop where
 len:grid.length<=1000000
 sym:∀x∈grid,0<=x/\x<16
structure Uc(grid cells:List Int):Prop where
 len:cells.length<=1000000
 cell:∀c∈cells,0<=c/\c<grid.length
def sy(grid:List Int)(c:Int):Nat:=(grid.getD c.toNat 0).toNat
def cnt(grid:List Int)(set:Nat)(cells:List Int):Nat:=(cells.filter λc=>set.testBit (sy grid c)).length
theorem take_one{α:Type}{xs:List α}{k:Nat}{x:α}(h:xs[k]? =some x):xs.take (k+1)=xs.take k++[x]:=by
 rw[mM,h];rfl
structure Ud(values grid:List Int):Prop where
 val:∀v∈values,0<=v/\v<=99
 sym:∀x∈grid,x<values.length
def va(values grid:List Int)(c:Int):Int:=values.getD (sy grid c) 0
def met(grid cells:List Int):Nat:=cells.foldl (λm c=>m|||1<<<sy grid c) 0
end Go.Proofs.YtoohgkkmdnbnfaaGreatDoor
namespace Go.Proofs.YtoohgkkmdnbnfaaGreatDoor
open Go.Ideal
def rn(grid:List Int)(set:Nat):Nat->List Int->List Int
 |n,[]=>if 0<n then[(n:Int)]else[]
 |n,c::cs=>if set.testBit (sy grid c)then rn grid set (n+1) cs else if 0<n then(n:Int)::rn grid set 0 cs else rn grid set 0 cs
abbrev adK{α:Type}(E:Enc α)(b:Nat)(ys:List α):OA:=BL λv:Value=>[pt b (.cells [v]),ap E v ys]
theorem Af{va vb:Value}{xs ys:List Int}(hal:xs.length<9223372036854775808):dz Tryz.prog 104 [va,vb] [ah aa va xs,ah aa vb ys] (.bool (decide (xs=ys))):=by
 refine aK _ (aP 104) λB w0=>?_;refine go ?_;refine aA rfl (λh1=>?_) (λh1=>?_)
 ·refine go ?_;refine ae () (hv:=?_) (hp:=trivial);rw[aT (λe=>h1 (by rw[e]))];rfl
 have hlen:xs.length=ys.length:=by omega
 refine go ?_;refine aZ (λk=>xs.length - k) (λk:Nat=>[(13,.int .i64 (k:Int))]) (λ_=>[]) (λ_=>[]) (λk=>k<=xs.length/\∀j,j<k->xs[j]? =ys[j]?) 0 ⟨by omega,λj hj=>by omega⟩ (body:=?_);rintro k ⟨hkx,hsame⟩;refine go ?_;refine aA rfl (λh2=>?_) (λh2=>?_)
 ·refine go ?_;intro _ _ x hx _ _ y hy;refine aA rfl (λh3=>?_) (λh3=>?_)
  ·refine go ?_;refine ae () (hv:=?_) (hp:=trivial);rw[aT (λe=>h3 (by rw[e,hy]at hx;cases hx;rfl))];rfl
  refine go ?_;refine aQ (k+1) (by omega) ⟨by omega,λj hj=>?_⟩;by_cases e:j=k
  ·subst e;rw[hx,hy,iO.1 h3]
  ·exact hsame j (by omega)
 refine go ?_;refine ae () (hv:=?_) (hp:=trivial);have:xs=ys:=by
  apply jW;intro j;by_cases hj:j<k
  ·exact hsame j hj
  ·rw[iD (by omega),iD (by omega)]
 rw[dZ this];rfl
end Go.Proofs.YtoohgkkmdnbnfaaGreatDoor
namespace Go.Proofs.YtoohgkkmdnbnfaaGreatDoor
open Go.Ideal
abbrev MP(P:Program)(fn:Fn)(first cap:List Value)(v:Value)(F:List aH)(b:Bool):Prop:=bi P fn (first++[v]) cap [] F (λ_:Unit=>.bool b) (λ_=>[]) (λ_=>[]) (λ_=>True)
theorem adL{fn:Fn}{first cap:List Value}{F1:List aH}{p:Int->Bool}{va:Value}{xs:List Int}(hl:xs.length<9223372036854775808)(hp:∀x∈xs,MP Tryz.prog fn first cap (.int .i64 x) F1 (p x)):
 bi Tryz.prog (.func 121) [va,.func fn ⟨first⟩ ⟨cap⟩] [] [] (ah aa va xs::F1) (λr:Int=>.int .i64 r) (λ_=>[]) (λ_=>[]) (λr=>(0<=r↔xs.any p=true)):=by
 refine aK _ (aP 121) λB w0=>?_;refine go ?_;refine aZ (λk=>xs.length - k) (λk:Nat=>[(8,.int .i64 (k:Int))]) (λ_=>[]) (λ_=>[]) (λk=>k<=xs.length/\(xs.take k).any p=false) 0 ⟨by omega,by simp⟩ (body:=?_);rintro k ⟨hk,hno⟩;refine go ?_;refine aA rfl (λh1=>?_) (λh1=>?_)
 ·refine go ?_;intro _ _ x hx;refine ax (hp x (bG hx)) (next:=λ_ _=>?_);refine go ?_;refine j6 rfl (λh2=>?_) (λh2=>?_)
  ·refine go ?_;refine ae (k:Int) (hv:=rfl) (hp:=?_);have:xs.any p=true:=List.any_eq_true.2 ⟨x,bG hx,h2⟩;simp[this]
  ·refine go ?_;refine aQ (k+1) (by omega) ⟨by omega,?_⟩;rw[take_one hx,List.any_append,hno];simp[h2]
 refine go ?_;have:k=xs.length:=by omega
 subst this;rw[bK]at hno;refine ae (-1) (hv:=rfl) (hp:=?_);rw[hno];simp
theorem adM{fn:Fn}{first cap:List Value}{F1:List aH}{p:Int->Bool}{va:Value}{xs:List Int}(hl:xs.length<9223372036854775808)(hp:∀x∈xs,MP Tryz.prog fn first cap (.int .i64 x) F1 (p x)):
 bi Tryz.prog (.func 83) [va,.func fn ⟨first⟩ ⟨cap⟩] [] [] (ah aa va xs::F1) (λ_:Unit=>.bool (xs.any p)) (λ_=>[]) (λ_=>[]) (λ_=>True):=by
 refine aK _ (aP 83) λB w0=>?_;refine go ?_;refine ax (adL hl hp) (next:=λr hr=>?_);refine go ?_;refine ae () (hv:=?_) (hp:=trivial);have:decide (0<=r)=xs.any p:=by
  by_cases h:0<=r
  ·rw[dZ h,hr.1 h]
  ·rw[aT h];cases e:xs.any p with
   |false=>rfl
   |true=>exact absurd (hr.2 e) h
 rw[<- this];rfl
theorem adN{b4 b5:Nat}{lo hi x:Int}:MP Tryz.prog (.func 84) [] [ptr' b4,ptr' b5] (.int .i64 x) [eG b4 0 [.int .i64 lo],eG b5 0 [.int .i64 hi]] (decide (x<lo\/hi<x)):=by
 refine aK _ (aP 84) λB w0=>?_;refine go ?_;first|with_reducible refine aN (λh1=>?_) (λh1=>?_)|with_reducible refine aM (λh1=>?_) (λh1=>?_)|with_reducible refine aL (λh1=>?_) (λh1=>?_)
 ·refine go ?_;refine ae () (hv:=?_) (hp:=trivial);rw[show decide (x<lo\/hi<x)=decide (hi<x)from oJ.2 ⟨λh=>h.elim (λh=>absurd h h1) id,.inr⟩];rfl
 refine go ?_;refine ae () (hv:=?_) (hp:=trivial);rw[dZ (.inl h1)];rfl
def wI(xs:List Int)(lo hi:Int):Bool:=decide (∀x∈xs,lo<=x/\x<=hi)
theorem MQ{va:Value}{xs:List Int}{lo hi:Int}(hl:xs.length<9223372036854775808):dz Tryz.prog 52 [va,.int .i64 lo,.int .i64 hi] [ah aa va xs] (.bool (wI xs lo hi)):=by
 refine aK _ (aP 52) λB w0=>?_;refine go ?_;intro b4 b5;refine bD (eO (b:=b4)) (h:=?_);refine bD (eO (b:=b5)) (h:=?_);refine ax (adM (p:=λx=>decide (x<lo\/hi<x)) hl (λx _=>adN (b4:=b4) (b5:=b5))) (next:=λ_ _=>?_);refine go ?_;refine ae () (hv:=?_) (hp:=trivial);have:(!xs.any λx=>decide (x<lo\/hi<x))=wI xs lo hi:=by
  rw[List.not_any_eq_all_not,wI];rw[wX];simp only[lG,wW,C8,decide_eq_false_iff_not,not_or,Int.not_lt]
 rw[<- this];rfl
structure j3(g:List (List Int)):Prop where
 len:g.length<=256
 ok:∀(i:Nat) l,g[i]? =some l->∀(k:Nat) n,l[k]? =some n->0<=n/\n<g.length/\n≠i/\(∀m,0<k->l[k - 1]? =some m->m<n)/\∀l',g[n.toNat]? =some l'->(i:Int)∈l'
end Go.Proofs.YtoohgkkmdnbnfaaGreatDoor
set_option maxHeartbeats 2000000
namespace Go.Proofs.YtoohgkkmdnbnfaaGreatDoor
open Go.Ideal Kd
noncomputable def Ue:gN:=⟨2,[(.tmp 0)],(.seq (.ops [0] [⟨⟨(some 0),none,(.jc (.const (.slice none 0 0)))⟩,[]⟩]) (.seq (.ops [1,0] [⟨⟨(some 1),none,(.vo 9 8 [(.string ⟨⟨[]⟩⟩),(.string ⟨⟨[]⟩⟩),(.string ⟨⟨[]⟩⟩),(.string ⟨⟨[]⟩⟩),(.string ⟨⟨[]⟩⟩),(.string ⟨⟨[]⟩⟩),(.string ⟨⟨[]⟩⟩),(.string ⟨⟨[]⟩⟩)] [⟨0,⟨1,(.const (.string ⟨⟨[99,101,108,108,115]⟩⟩))⟩⟩,⟨1,⟨1,(.const (.string ⟨⟨[114,111,119,115]⟩⟩))⟩⟩,⟨2,⟨1,(.const (.string ⟨⟨[99,111,108,117,109,110,115]⟩⟩))⟩⟩,⟨3,⟨1,(.const (.string ⟨⟨[100,105,97,103,111,110,97,108,115]⟩⟩))⟩⟩,⟨4,⟨1,(.const (.string ⟨⟨[97,114,111,117,110,100]⟩⟩))⟩⟩,⟨5,⟨1,(.const (.string ⟨⟨[110,101,97,114]⟩⟩))⟩⟩,⟨6,⟨1,(.const (.string ⟨⟨[112,97,105,114,115]⟩⟩))⟩⟩,⟨7,⟨1,(.const (.string ⟨⟨[97,108,108]⟩⟩))⟩⟩])⟩,[]⟩,⟨⟨(some 0),none,(.jc (.tmp 1))⟩,[]⟩]) .ret))⟩
theorem adO:kZ Tryz.prog 207=some Ue:=by kernel_rfl
abbrev fP:ByteArray->Value:=λs=>.string s
theorem tT:qJ Tryz.prog 9 fP:=abu (by kernel_rfl)
abbrev sj(e:Int):List PanicEntry:=[{v:=.iface 41 (.int .i64 e),recovered:=false}]
theorem Uf{x:oz}:dz Tryz.prog 203 [.agg ⟨[.string x.name,.int .i64 x.value]⟩] [] (.string x.name):=by
 refine aK _ (aP 203) λB w0=>?_;refine go ?_;intro b;refine go ?_;exact ae () (hv:=rfl) (hp:=trivial)
theorem Ug{x:mg}{v:Value}:dz Tryz.prog 205 [.agg ⟨[.string x.name,v]⟩] [] (.string x.name):=by
 refine aK _ (aP 205) λB w0=>?_;refine go ?_;intro b;refine go ?_;exact ae () (hv:=rfl) (hp:=trivial)
theorem Uh{x:iY}:dz Tryz.prog 210 [.agg ⟨[.string x.name,.string x.on,.int .i64 x.family,.int .i64 x.type,.int .i64 x.lo,.int .i64 x.hi]⟩] [] (.string x.name):=by
 refine aK _ (aP 210) λB w0=>?_;refine go ?_;intro b;refine go ?_;exact ae () (hv:=rfl) (hp:=trivial)
theorem Ui{x:aU}{v1 v2:Value}:dz Tryz.prog 214 [.agg ⟨iT x v1 v2⟩] [] (.string x.name):=by
 refine aK _ (aP 214) λB w0=>?_;refine go ?_;intro b;refine go ?_;exact ae () (hv:=rfl) (hp:=trivial)
theorem Uj{s:ByteArray}:dz Tryz.prog 208 [.string s] [] (.string s):=by
 refine aK _ (aP 208) λB w0=>?_;refine go ?_;exact ae () (hv:=rfl) (hp:=trivial)
theorem FD{P:Program}{B:List Nat}{w0:Wd}{kl kl':List OA}{F:List aH}{K:KO}{ds:List Tmp}{rest:List bT}{n:Nat}{l:List (Nat×Value)}{D:List Deferred}{pm:Option FrameMode}{ro:Option Nat}{d:Nat}{g:Option (Tmp×Bool)}
 {α:Type} [DecidableEq α] {aX:α->Value} {kt:TypeId} {zero:Value} {m k:Operand} {b:Nat} {ai:List (α×Value)} (hk:qJ P kt aX) (a:α)
 (hit:∀v,dJ a ai=some v->a∈ai.map (·.1)->R (λh=>aF P ds rest (act n ((d,.tuple ⟨[v,.bool true]⟩)::l) D pm ro) h K) B w0 kl F)
 (miss:a∉ai.map (·.1)->R (λh=>aF P ds rest (act n ((d,.tuple ⟨[zero,.bool false]⟩)::l) D pm ro) h K) B w0 kl F)
 (hm:ev l m=.map (some b):=by rfl) (ha:ev l k=aX a:=by conv=>lhs;whnf) (hs:ay (gP aX b ai) kl kl':=by exact gD) (hn:Nat.blt d n=true:=by rfl) (hg:bU l g=true:=by rfl):
 R (λh=>aF P ds (⟨⟨some d,g,.lookup kt zero m k true⟩,[]⟩::rest) (act n l D pm ro) h K) B w0 kl F:=by
 refine EZ (ok:=true) hk a ?_ hm ha hs hn hg;by_cases h:a∈ai.map (·.1)
 ·obtain⟨v,hv⟩:=Fj h;have e:kD true zero a ai=.tuple ⟨[v,.bool true]⟩:=by unfold kD;rw[hv];rfl
  rw[e];exact hit v hv h
 ·have e:kD true zero a ai=.tuple ⟨[zero,.bool false]⟩:=by unfold kD;rw[qK h];rfl
  rw[e];exact miss h
theorem oW{α:Type}{ai:List (ByteArray×Value)}{xs:List α}{nm:α->ByteArray}{start k:Nat}{x:α}(hx:xs[k]? =some x):
 (ai++fD ((xs.take k).map nm) start).map (·.1)=ai.map (·.1)++(xs.take k).map nm/\fD ((xs.take (k+1)).map nm) start=fD ((xs.take k).map nm) start++[(nm x,.int .i64 ((start:Int)+(k:Int)))]:=by
 have hk:=(bO.1 hx).1;refine⟨by rw[dW,rZ],?_⟩;rw[mM,hx,dW,Ms];congr 1;rw[bR,gM,y7 (by omega)];simp[fD]
theorem adP{vs:Value}{xs:List ByteArray}{b start:Nat}{ai:List (ByteArray×Value)}(hl:xs.length<=4096)(hs:start<=4096)(hnd:(ai.map (·.1)).Nodup):
 pY Tryz.prog (.func 206) [vs,.int .i64 (start:Int),.func (.func 208) #[] #[],.map (some b)] [] [gP fP b ai] [ah aR vs xs] (λy:Bool×List ByteArray=>if y.1=true then .ok (.map (some b))else .fM (sj 161))
  (λy=>[gP fP b (ai++fD y.2 start)]) (λ_=>[]) (λy=>(y.1=true->y.2=xs/\(ai.map (·.1)++xs).Nodup)/\(y.1=false->¬(ai.map (·.1)++xs).Nodup)):=by
 let nm:ByteArray->ByteArray:=λs=>s
 have hmap:∀l:List ByteArray,l.map nm=l:=λl=>List.map_id' l;suffices h:pY Tryz.prog (.func 206) [vs,.int .i64 (start:Int),.func (.func 208) #[] #[],.map (some b)] [] [gP fP b ai] [ah aR vs xs] (λy:Bool×List ByteArray=>if y.1=true then .ok (.map (some b))else .fM (sj 161))
  (λy=>[gP fP b (ai++fD y.2 start)]) (λ_=>[]) (λy=>(y.1=true->y.2=(xs.map nm)/\(ai.map (·.1)++xs.map nm).Nodup)/\(y.1=false->¬(ai.map (·.1)++xs.map nm).Nodup))by
  rw[hmap]at h;exact h
 refine yf _ (aP 206) λB w0=>?_;refine go ?_;rw[show gP fP b ai=gP fP b (ai++fD ((xs.take 0).map nm) start)by simp[fD]];refine aZ (λk=>xs.length - k) (λk:Nat=>[(15,.int .i64 (k:Int))]) (λk=>[gP fP b (ai++fD ((xs.take k).map nm) start)]) (λ_=>[]) (λk=>k<=xs.length/\(ai.map (·.1)++(xs.take k).map nm).Nodup) 0 ⟨cz _,by simpa using hnd⟩ (body:=?_);rintro k ⟨hk,hall⟩;refine go ?_;refine aA rfl (λh1=>?_) (λh1=>?_)
 ·refine go ?_;refine bz aR (next:=λ_ _ x (y:Unit) hx=>?_);refine go ?_;refine ax (Uj (s:=x)) (next:=λ_ _=>?_);refine go ?_;refine FD tT (nm x) (λv hv hm=>?_) (λhm=>?_)
  ·refine go ?_;refine BQ ?_;refine go ?_;refine zQ (false,(xs.take k).map nm) (hv:=rfl) (hp:=⟨(λh=>by cases h),λ_ hn=>?_⟩);rw[(oW hx).1]at hm;have hsub:(ai.map (·.1)++(xs.take k).map nm++[nm x]).Nodup:=by
    have e:xs.map nm=(xs.take k).map nm++nm x::(xs.drop (k+1)).map nm:=by
     conv=>lhs;rw[<- rq k xs]
     rw[dW];congr 1;rw[oI (bO.1 hx).1,gQ,(bO.1 hx).2]
    rw[e,<- fE]at hn;rw[iN]at hn⊢;exact⟨hn.1,by simp,λa ha c hc=>hn.2.2 a ha c (by rw[bH.1 hc];exact cZ ..)⟩
   rw[iN]at hsub;exact hsub.2.2 _ hm _ (bH.2 rfl) rfl
  refine go ?_;refine ax (Uj (s:=x)) (next:=λ_ _=>?_);refine go ?_;refine vZ tT (nm x) (ai:=ai++fD ((xs.take k).map nm) start) (v:=.int .i64 ((start:Int)+(k:Int))) ?_;have hm2:=hm;rw[(oW hx).1]at hm2;rw[Cf hm,fE,<- (oW (ai:=ai) hx).2];refine go ?_;refine aQ (k+1) (by omega) ⟨by omega,?_⟩;rw[mM,hx,dW,<- fE,iN];refine⟨hall,by simp,λa ha c hc=>?_⟩;have:c=nm x:=by simpa using hc
  subst this;intro e;subst e;exact hm2 ha
 have hkl:k=xs.length:=by omega
 subst hkl;rw[bK]at hall;rw[bK];refine go ?_;exact zP (true,xs.map nm) (hv:=rfl) (hp:=⟨λ_=>⟨rfl,hall⟩,λh=>by cases h⟩)
theorem adQ{vs:Value}{xs:List oz}{b start:Nat}{ai:List (ByteArray×Value)}(hl:xs.length<=4096)(hs:start<=4096)(hnd:(ai.map (·.1)).Nodup):
 pY Tryz.prog (.func 202) [vs,.int .i64 (start:Int),.func (.func 203) #[] #[],.map (some b)] [] [gP fP b ai] [ah fF vs xs] (λy:Bool×List ByteArray=>if y.1=true then .ok (.map (some b))else .fM (sj 161))
  (λy=>[gP fP b (ai++fD y.2 start)]) (λ_=>[]) (λy=>(y.1=true->y.2=(xs.map oz.name)/\(ai.map (·.1)++xs.map oz.name).Nodup)/\(y.1=false->¬(ai.map (·.1)++xs.map oz.name).Nodup)):=by
 let nm:oz->ByteArray:=oz.name
 refine yf _ (aP 202) λB w0=>?_;refine go ?_;rw[show gP fP b ai=gP fP b (ai++fD ((xs.take 0).map nm) start)by simp[fD]];refine aZ (λk=>xs.length - k) (λk:Nat=>[(15,.int .i64 (k:Int))]) (λk=>[gP fP b (ai++fD ((xs.take k).map nm) start)]) (λ_=>[]) (λk=>k<=xs.length/\(ai.map (·.1)++(xs.take k).map nm).Nodup) 0 ⟨cz _,by simpa using hnd⟩ (body:=?_);rintro k ⟨hk,hall⟩;refine go ?_;refine aA rfl (λh1=>?_) (λh1=>?_)
 ·refine go ?_;refine bz fF (next:=λ_ _ x y hx=>?_);refine go ?_;intro b10;refine go ?_;refine ax (Uf (x:=x)) (next:=λ_ _=>?_);refine go ?_;refine FD tT (nm x) (λv hv hm=>?_) (λhm=>?_)
  ·refine go ?_;refine BQ ?_;refine go ?_;refine zQ (false,(xs.take k).map nm) (hv:=rfl) (hp:=⟨(λh=>by cases h),λ_ hn=>?_⟩);rw[(oW hx).1]at hm;have hsub:(ai.map (·.1)++(xs.take k).map nm++[nm x]).Nodup:=by
    have e:xs.map nm=(xs.take k).map nm++nm x::(xs.drop (k+1)).map nm:=by
     conv=>lhs;rw[<- rq k xs]
     rw[dW];congr 1;rw[oI (bO.1 hx).1,gQ,(bO.1 hx).2]
    rw[e,<- fE]at hn;rw[iN]at hn⊢;exact⟨hn.1,by simp,λa ha c hc=>hn.2.2 a ha c (by rw[bH.1 hc];exact cZ ..)⟩
   rw[iN]at hsub;exact hsub.2.2 _ hm _ (bH.2 rfl) rfl
  refine go ?_;refine ax (Uf (x:=x)) (next:=λ_ _=>?_);refine go ?_;refine vZ tT (nm x) (ai:=ai++fD ((xs.take k).map nm) start) (v:=.int .i64 ((start:Int)+(k:Int))) ?_;have hm2:=hm;rw[(oW hx).1]at hm2;rw[Cf hm,fE,<- (oW (ai:=ai) hx).2];refine go ?_;refine aQ (k+1) (by omega) ⟨by omega,?_⟩;rw[mM,hx,dW,<- fE,iN];refine⟨hall,by simp,λa ha c hc=>?_⟩;have:c=nm x:=by simpa using hc
  subst this;intro e;subst e;exact hm2 ha
 have hkl:k=xs.length:=by omega
 subst hkl;rw[bK]at hall;rw[bK];refine go ?_;exact zP (true,xs.map nm) (hv:=rfl) (hp:=⟨λ_=>⟨rfl,hall⟩,λh=>by cases h⟩)
theorem adR{vs:Value}{xs:List mg}{b start:Nat}{ai:List (ByteArray×Value)}(hl:xs.length<=4096)(hs:start<=4096)(hnd:(ai.map (·.1)).Nodup):
 pY Tryz.prog (.func 204) [vs,.int .i64 (start:Int),.func (.func 205) #[] #[],.map (some b)] [] [gP fP b ai] [ah eH vs xs] (λy:Bool×List ByteArray=>if y.1=true then .ok (.map (some b))else .fM (sj 161))
  (λy=>[gP fP b (ai++fD y.2 start)]) (λ_=>[]) (λy=>(y.1=true->y.2=(xs.map mg.name)/\(ai.map (·.1)++xs.map mg.name).Nodup)/\(y.1=false->¬(ai.map (·.1)++xs.map mg.name).Nodup)):=by
 let nm:mg->ByteArray:=mg.name
 refine yf _ (aP 204) λB w0=>?_;refine go ?_;rw[show gP fP b ai=gP fP b (ai++fD ((xs.take 0).map nm) start)by simp[fD]];refine aZ (λk=>xs.length - k) (λk:Nat=>[(15,.int .i64 (k:Int))]) (λk=>[gP fP b (ai++fD ((xs.take k).map nm) start)]) (λ_=>[]) (λk=>k<=xs.length/\(ai.map (·.1)++(xs.take k).map nm).Nodup) 0 ⟨cz _,by simpa using hnd⟩ (body:=?_);rintro k ⟨hk,hall⟩;refine go ?_;refine aA rfl (λh1=>?_) (λh1=>?_)
 ·refine go ?_;refine bz eH (next:=λ_ _ x y hx=>?_);refine go ?_;intro b10;refine go ?_;refine ax (Ug (x:=x) (v:=y)) (next:=λ_ _=>?_);refine go ?_;refine FD tT (nm x) (λv hv hm=>?_) (λhm=>?_)
  ·refine go ?_;refine BQ ?_;refine go ?_;refine zQ (false,(xs.take k).map nm) (hv:=rfl) (hp:=⟨(λh=>by cases h),λ_ hn=>?_⟩);rw[(oW hx).1]at hm;have hsub:(ai.map (·.1)++(xs.take k).map nm++[nm x]).Nodup:=by
    have e:xs.map nm=(xs.take k).map nm++nm x::(xs.drop (k+1)).map nm:=by
     conv=>lhs;rw[<- rq k xs]
     rw[dW];congr 1;rw[oI (bO.1 hx).1,gQ,(bO.1 hx).2]
    rw[e,<- fE]at hn;rw[iN]at hn⊢;exact⟨hn.1,by simp,λa ha c hc=>hn.2.2 a ha c (by rw[bH.1 hc];exact cZ ..)⟩
   rw[iN]at hsub;exact hsub.2.2 _ hm _ (bH.2 rfl) rfl
  refine go ?_;refine ax (Ug (x:=x) (v:=y)) (next:=λ_ _=>?_);refine go ?_;refine vZ tT (nm x) (ai:=ai++fD ((xs.take k).map nm) start) (v:=.int .i64 ((start:Int)+(k:Int))) ?_;have hm2:=hm;rw[(oW hx).1]at hm2;rw[Cf hm,fE,<- (oW (ai:=ai) hx).2];refine go ?_;refine aQ (k+1) (by omega) ⟨by omega,?_⟩;rw[mM,hx,dW,<- fE,iN];refine⟨hall,by simp,λa ha c hc=>?_⟩;have:c=nm x:=by simpa using hc
  subst this;intro e;subst e;exact hm2 ha
 have hkl:k=xs.length:=by omega
 subst hkl;rw[bK]at hall;rw[bK];refine go ?_;exact zP (true,xs.map nm) (hv:=rfl) (hp:=⟨λ_=>⟨rfl,hall⟩,λh=>by cases h⟩)
theorem adS{vs:Value}{xs:List iY}{b start:Nat}{ai:List (ByteArray×Value)}(hl:xs.length<=4096)(hs:start<=4096)(hnd:(ai.map (·.1)).Nodup):
 pY Tryz.prog (.func 209) [vs,.int .i64 (start:Int),.func (.func 210) #[] #[],.map (some b)] [] [gP fP b ai] [ah bM vs xs] (λy:Bool×List ByteArray=>if y.1=true then .ok (.map (some b))else .fM (sj 161))
  (λy=>[gP fP b (ai++fD y.2 start)]) (λ_=>[]) (λy=>(y.1=true->y.2=(xs.map iY.name)/\(ai.map (·.1)++xs.map iY.name).Nodup)/\(y.1=false->¬(ai.map (·.1)++xs.map iY.name).Nodup)):=by
 let nm:iY->ByteArray:=iY.name
 refine yf _ (aP 209) λB w0=>?_;refine go ?_;rw[show gP fP b ai=gP fP b (ai++fD ((xs.take 0).map nm) start)by simp[fD]];refine aZ (λk=>xs.length - k) (λk:Nat=>[(15,.int .i64 (k:Int))]) (λk=>[gP fP b (ai++fD ((xs.take k).map nm) start)]) (λ_=>[]) (λk=>k<=xs.length/\(ai.map (·.1)++(xs.take k).map nm).Nodup) 0 ⟨cz _,by simpa using hnd⟩ (body:=?_);rintro k ⟨hk,hall⟩;refine go ?_;refine aA rfl (λh1=>?_) (λh1=>?_)
 ·refine go ?_;refine bz bM (next:=λ_ _ x y hx=>?_);refine go ?_;intro b10;refine go ?_;refine ax (Uh (x:=x)) (next:=λ_ _=>?_);refine go ?_;refine FD tT (nm x) (λv hv hm=>?_) (λhm=>?_)
  ·refine go ?_;refine BQ ?_;refine go ?_;refine zQ (false,(xs.take k).map nm) (hv:=rfl) (hp:=⟨(λh=>by cases h),λ_ hn=>?_⟩);rw[(oW hx).1]at hm;have hsub:(ai.map (·.1)++(xs.take k).map nm++[nm x]).Nodup:=by
    have e:xs.map nm=(xs.take k).map nm++nm x::(xs.drop (k+1)).map nm:=by
     conv=>lhs;rw[<- rq k xs]
     rw[dW];congr 1;rw[oI (bO.1 hx).1,gQ,(bO.1 hx).2]
    rw[e,<- fE]at hn;rw[iN]at hn⊢;exact⟨hn.1,by simp,λa ha c hc=>hn.2.2 a ha c (by rw[bH.1 hc];exact cZ ..)⟩
   rw[iN]at hsub;exact hsub.2.2 _ hm _ (bH.2 rfl) rfl
  refine go ?_;refine ax (Uh (x:=x)) (next:=λ_ _=>?_);refine go ?_;refine vZ tT (nm x) (ai:=ai++fD ((xs.take k).map nm) start) (v:=.int .i64 ((start:Int)+(k:Int))) ?_;have hm2:=hm;rw[(oW hx).1]at hm2;rw[Cf hm,fE,<- (oW (ai:=ai) hx).2];refine go ?_;refine aQ (k+1) (by omega) ⟨by omega,?_⟩;rw[mM,hx,dW,<- fE,iN];refine⟨hall,by simp,λa ha c hc=>?_⟩;have:c=nm x:=by simpa using hc
  subst this;intro e;subst e;exact hm2 ha
 have hkl:k=xs.length:=by omega
 subst hkl;rw[bK]at hall;rw[bK];refine go ?_;exact zP (true,xs.map nm) (hv:=rfl) (hp:=⟨λ_=>⟨rfl,hall⟩,λh=>by cases h⟩)
theorem adT{vs:Value}{xs:List aU}{b start:Nat}{ai:List (ByteArray×Value)}(hl:xs.length<=4096)(hs:start<=4096)(hnd:(ai.map (·.1)).Nodup):
 pY Tryz.prog (.func 213) [vs,.int .i64 (start:Int),.func (.func 214) #[] #[],.map (some b)] [] [gP fP b ai] [ah aY vs xs] (λy:Bool×List ByteArray=>if y.1=true then .ok (.map (some b))else .fM (sj 161))
  (λy=>[gP fP b (ai++fD y.2 start)]) (λ_=>[]) (λy=>(y.1=true->y.2=(xs.map aU.name)/\(ai.map (·.1)++xs.map aU.name).Nodup)/\(y.1=false->¬(ai.map (·.1)++xs.map aU.name).Nodup)):=by
 let nm:aU->ByteArray:=aU.name
 refine yf _ (aP 213) λB w0=>?_;refine go ?_;rw[show gP fP b ai=gP fP b (ai++fD ((xs.take 0).map nm) start)by simp[fD]];refine aZ (λk=>xs.length - k) (λk:Nat=>[(15,.int .i64 (k:Int))]) (λk=>[gP fP b (ai++fD ((xs.take k).map nm) start)]) (λ_=>[]) (λk=>k<=xs.length/\(ai.map (·.1)++(xs.take k).map nm).Nodup) 0 ⟨cz _,by simpa using hnd⟩ (body:=?_);rintro k ⟨hk,hall⟩;refine go ?_;refine aA rfl (λh1=>?_) (λh1=>?_)
 ·refine go ?_;refine bz aY (next:=λ_ _ x y hx=>?_);refine go ?_;intro b10;refine go ?_;refine ax (Ui (x:=x) (v1:=y.1) (v2:=y.2)) (next:=λ_ _=>?_);refine go ?_;refine FD tT (nm x) (λv hv hm=>?_) (λhm=>?_)
  ·refine go ?_;refine BQ ?_;refine go ?_;refine zQ (false,(xs.take k).map nm) (hv:=rfl) (hp:=⟨(λh=>by cases h),λ_ hn=>?_⟩);rw[(oW hx).1]at hm;have hsub:(ai.map (·.1)++(xs.take k).map nm++[nm x]).Nodup:=by
    have e:xs.map nm=(xs.take k).map nm++nm x::(xs.drop (k+1)).map nm:=by
     conv=>lhs;rw[<- rq k xs]
     rw[dW];congr 1;rw[oI (bO.1 hx).1,gQ,(bO.1 hx).2]
    rw[e,<- fE]at hn;rw[iN]at hn⊢;exact⟨hn.1,by simp,λa ha c hc=>hn.2.2 a ha c (by rw[bH.1 hc];exact cZ ..)⟩
   rw[iN]at hsub;exact hsub.2.2 _ hm _ (bH.2 rfl) rfl
  refine go ?_;refine ax (Ui (x:=x) (v1:=y.1) (v2:=y.2)) (next:=λ_ _=>?_);refine go ?_;refine vZ tT (nm x) (ai:=ai++fD ((xs.take k).map nm) start) (v:=.int .i64 ((start:Int)+(k:Int))) ?_;have hm2:=hm;rw[(oW hx).1]at hm2;rw[Cf hm,fE,<- (oW (ai:=ai) hx).2];refine go ?_;refine aQ (k+1) (by omega) ⟨by omega,?_⟩;rw[mM,hx,dW,<- fE,iN];refine⟨hall,by simp,λa ha c hc=>?_⟩;have:c=nm x:=by simpa using hc
  subst this;intro e;subst e;exact hm2 ha
 have hkl:k=xs.length:=by omega
 subst hkl;rw[bK]at hall;rw[bK];refine go ?_;exact zP (true,xs.map nm) (hv:=rfl) (hp:=⟨λ_=>⟨rfl,hall⟩,λh=>by cases h⟩)
end Go.Proofs.YtoohgkkmdnbnfaaGreatDoor
namespace Go.Proofs.YtoohgkkmdnbnfaaGreatDoor
open Go.Ideal Kd
noncomputable def MS:gN:=⟨9,[],(.seq (.ops [3,2] [⟨⟨(some 3),none,.recover⟩,[]⟩,⟨⟨(some 2),none,(.jc (.tmp 3))⟩,[]⟩]) (.seq (.ops [4,5] [⟨⟨(some 4),none,(.mv (.tmp 2))⟩,[]⟩,⟨⟨(some 5),none,(.bin .neq 20 (.tmp 4) (.const .nilIface))⟩,[]⟩]) (.cond (.tmp 5) (.ops [6,7,8] [⟨⟨(some 6),none,(.build [(.string ⟨⟨[]⟩⟩),(.int .i64 0),(.int .i64 0),(.int .i64 0),(.int .i64 0),(.slice none 0 0),(.slice none 0 0),(.slice none 0 0),(.slice none 0 0),(.slice none 0 0)] [])⟩,[]⟩,⟨⟨(some 7),none,(.mv (.tmp 2))⟩,[]⟩,⟨⟨(some 8),none,(.Gs 41 (.int .i64 0) false (.tmp 7))⟩,[]⟩,⟨⟨none,none,(.store 10 (.tmp 0) (.tmp 6))⟩,[]⟩,⟨⟨none,none,(.store 1 (.tmp 1) (.tmp 8))⟩,[]⟩]) .skip)))⟩
theorem Uk:kZ Tryz.prog 201=some MS:=by kernel_rfl
section
variable {P:Program} {B:List Nat} {w0:Wd} {kl kl':List OA} {F:List aH} {K:KO} {ds:List Tmp} {rest:List bT} {n:Nat} {l:List (Nat×Value)} {D:List Deferred} {pm:Option FrameMode} {ro:Option Nat} {d:Nat} {g:Option (Tmp×Bool)}
theorem Ul{α:Type}[DecidableEq α]{aX:α->Value}{kt:TypeId}{zero:Value}{m k:Operand}{b:Nat}{ai:List (α×Value)}(hk:qJ P kt aX)(a:α)
 (hit:∀v,dJ a ai=some v->a∈ai.map (·.1)->R (λh=>aF P ds rest (act n ((d,.tuple ⟨[v,.bool true]⟩)::l) D pm ro) h K) B w0 kl F)
 (miss:a∉ai.map (·.1)->R (λh=>aF P ds rest (act n ((d,.tuple ⟨[zero,.bool false]⟩)::l) D pm ro) h K) B w0 kl F)
 (hm:ev l m=.map (some b):=by rfl) (ha:ev l k=aX a:=by conv=>lhs;whnf) (hf:rR aX b ai∈F:=by exact qI) (hn:Nat.blt d n=true:=by rfl) (hg:bU l g=true:=by rfl):
 R (λh=>aF P ds (⟨⟨some d,g,.lookup kt zero m k true⟩,[]⟩::rest) (act n l D pm ro) h K) B w0 kl F:=by
 refine RJ (ok:=true) hk a ?_ hm ha hf hn hg;by_cases h:a∈ai.map (·.1)
 ·obtain⟨v,hv⟩:=Fj h;have e:kD true zero a ai=.tuple ⟨[v,.bool true]⟩:=by unfold kD;rw[hv];rfl
  rw[e];exact hit v hv h
 ·have e:kD true zero a ai=.tuple ⟨[zero,.bool false]⟩:=by unfold kD;rw[qK h];rfl
  rw[e];exact miss h
theorem MU{α:Type}(E:Enc α){v:Value}{az:List (α×E.Y)}{Q:IH->Prop}(h0:az=[]->∀c,v=.slice none 0 c->R Q B w0 kl F)(h1:az=[]->∀i o f c,v=.slice (some ⟨i,o,some f⟩) 0 c->R Q B w0 kl F)
 (h2:0<az.length->∀i o f c,v=.slice (some ⟨i,o,some f⟩) az.length c->R Q B w0 kl F) (hf:oU E v az∈F:=by exact qI):R Q B w0 kl F:=λw s=>by
 rcases s.facts _ hf with⟨e,a,c,hv,hg⟩|⟨i,o,f,c,cells,⟨hv,_⟩,_⟩
 ·match a,hv,hg with
  |none,hv,_=>exact h0 e c hv w s
  |some ⟨i,o,some f⟩,hv,_=>exact h1 e i o f c hv w s
 ·by_cases hx:az=[]
  ·subst hx;exact h1 rfl i o f c hv w s
  ·exact h2 (yX.2 hx) i o f c hv w s
theorem MV{α:Type}(E:Enc α){Q:IH->Prop}(h:R Q B w0 (ar E (.slice none 0 0) []::kl) F):R Q B w0 kl F:=λw s=>by
 obtain⟨S,h1,h2,h3⟩:=s.own;exact h w ⟨s.agree,s.le,s.fH,⟨S,⟨[],S,.inl ⟨rfl,⟨none,rfl,trivial⟩,rfl⟩,h1,rfl⟩,h2,h3⟩,s.facts⟩
end
theorem adU:bi Tryz.prog (.func 207) [] [] [] [] (λv:Value=>v) (λ_=>[]) (λv=>[ah aR v iI]) (λ_=>True):=by
 refine aK Ue adO λB w0=>?_;refine go ?_;intro b;refine go ?_;refine rU (b:=b) (m:=8) (f:=0) aR (az:=iI.map λs=>(s,())) rfl (.inl rfl) ?_ (hk:=ay.here);refine Fb (E:=aR) ?_ (λw hw p hp f hf=>by cases hf);exact ae (.slice (some ⟨b,0,some 0⟩) 8 8) (hv:=rfl) (hp:=trivial) (hF:=.cons (cO _ (cZ ..)) .nil)
theorem IZ{b:Nat}{s:ByteArray}{ai:List (ByteArray×Value)}:
 pY Tryz.prog (.func 212) [.map (some b),.string s] [] [] [rR fP b ai] (λy:Option Value=>match y with|some v=>.ok v|none=>.fM (sj 160)) (λ_=>[]) (λ_=>[]) (λy=>y=dJ s ai):=by
 refine yf _ (aP 212) λB w0=>?_;refine go ?_;refine Ul tT s (λv hv hm=>?_) (λhm=>?_)
 ·refine go ?_;exact zP (some v) (hv:=rfl) (hp:=hv.symm)
 ·refine go ?_;refine BQ ?_;refine go ?_;exact zQ none (hv:=rfl) (hp:=(qK hm).symm)
theorem Um{dP l:List ByteArray}{k:Nat}{s:ByteArray}(h:l[k]? =some s):fZ dP (l.take (k+1))=fZ dP (l.take k)|||1<<<dS s dP:=by
 unfold fZ;rw[mM,h,Gm];rfl
theorem MW{dP:List ByteArray}(hs:dP.length<=16):∀(l:List ByteArray) (m:Nat),(∀s∈l,s∈dP)->m<65536->l.foldl (λm s=>m|||1<<<dS s dP) m<65536
 |[],m,_,hm=>hm
 |s::l,m,h,hm=>by
  rw[ug];refine MW hs l _ (λx hx=>h x (cO _ hx)) ?_;have h1:=yu (h s (cZ ..));have h2:1<<<dS s dP<2^16:=by
   rw[Nat.shiftLeft_eq,yZ];exact JJ (by omega) (by omega)
  exact Nat.or_lt_two_pow (n:=16) hm h2
theorem Un{b4 bs:Nat}{vl:Value}{dP l:List ByteArray}(hs:dP.length<=16)(hl:l.length<9223372036854775808):
 pY Tryz.prog (.func 216) [vl] [ptr' b4] [] [eG b4 0 [.map (some bs)],rR fP bs (fD dP 0),ah aR vl l] (λy:Bool=>if y=true then .ok (.int .i64 (fZ dP l:Int))else .fM (sj 160)) (λ_=>[]) (λ_=>[])
  (λy=>(y=true->∀s∈l,s∈dP)/\(y=false->¬∀s∈l,s∈dP)):=by
 refine yf _ (aP 216) λB w0=>?_;refine go ?_;refine aZ (λk=>l.length - k) (λk:Nat=>[(8,.int .i64 (k:Int)),(3,.int .i64 (fZ dP (l.take k):Int))]) (λ_=>[]) (λ_=>[]) (λk=>k<=l.length/\∀s∈l.take k,s∈dP) 0 ⟨cz _,by simp⟩ (body:=?_);rintro k ⟨hk,hall⟩;refine go ?_;refine aA rfl (λh1=>?_) (λh1=>?_)
 ·refine go ?_;refine bz aR (next:=λ_ _ x (y:Unit) hx=>?_);refine go ?_;refine tL (IZ (b:=bs) (s:=x) (ai:=fD dP 0)) (λy v hy e=>?_) (λy ch hy e=>?_)
  ·have hm:x∈dP:=by
    by_cases h:x∈dP
    ·exact h
    ·rw[qK (by rw[rZ];exact h)]at hy;subst hy;cases e
   rw[ww hm]at hy;subst hy;injection e with e;subst e;have hp:=yu hm;have h2:1<<<dS x dP<2^16:=by
    rw[Nat.shiftLeft_eq,yZ];exact JJ (by omega) (by omega)
   have h3:=MW hs (l.take k) 0 hall (by omega);rw[eT];refine(eD rfl rfl (LJ (a:=1) (b:=dS x dP) rfl rfl (by omega) (by omega))).h ?_;refine(eD rfl rfl (Ra (a:=fZ dP (l.take k)) (b:=1<<<dS x dP) rfl rfl (Nat.lt_trans h3 (by omega)) (by omega))).h ?_;refine go ?_;refine aQ (k+1) (by omega) ⟨by omega,λs hs'=>?_⟩ (hl:=⟨rfl,by rw[Um hx];rfl,by repeat (first|exact trivial|refine⟨rfl,?_⟩)⟩);rw[mM,hx]at hs';rcases dV.1 hs' with h|h
   ·exact hall s h
   ·have:s=x:=by simpa using h
    rw[this];exact hm
  ·refine go ?_;have hm:x∉dP:=by
    intro h;rw[ww h]at hy;subst hy;cases e
   have hch:ch=sj 160:=by
    rw[qK (by rw[rZ];exact hm)]at hy;subst hy;injection e with e;exact e.symm
   subst hch;exact zQ false (hv:=rfl) (hp:=⟨(λh=>by cases h),λ_ h=>hm (h x (bG hx))⟩)
 have hkl:k=l.length:=by omega
 subst hkl;rw[bK]at hall⊢;refine go ?_;exact zP true (hv:=rfl) (hp:=⟨λ_=>hall,λh=>by cases h⟩)
theorem adV{v:Value}{az:List (iY×bM.Y)}(hl:az.length<=4096):bi Tryz.prog (.func 211) [v] [] [] [oU bM v az] (λv':Value=>v') (λv'=>[ar bM v' az]) (λ_=>[]) (λ_=>True):=by
 refine aK _ (aP 211) λB w0=>?_;refine MU (v:=v) (az:=az) bM (λe c ev=>?_) (λe i o f c ev=>?_) (λhne i o f c ev=>?_)
 ·subst e ev;refine go ?_;refine(eD rfl rfl (Ie (e:=115) (by kernel_rfl) rfl)).h ?_;refine go ?_;refine MV bM ?_;exact ae (.slice none 0 0) (hv:=rfl) (hp:=trivial)
 ·subst e ev;refine go ?_;refine(eD rfl rfl (BV (e:=115) (by kernel_rfl) rfl)).h ?_;refine go ?_;intro b;refine go ?_;refine Mc (b:=b) ?_;refine go ?_;refine rU (b:=b) (m:=0) (f:=0) bM (az:=[]) rfl (.inl rfl) ?_ (hk:=ay.here);exact ae (.slice (some ⟨b,0,some 0⟩) 0 0) (hv:=rfl) (hp:=trivial)
 ·subst ev;refine go ?_;refine(eD rfl rfl (BV (e:=115) (by kernel_rfl) rfl)).h ?_;refine go ?_;intro b;refine go ?_;refine Md (b:=b) bM az hne (by omega) (λb'=>?_);refine go ?_;refine rU (b:=b') (m:=az.length) (f:=bM.n) bM (az:=az) rfl (.inr rfl) ?_ (hk:=ay.here);exact ae (.slice (some ⟨b',0,some bM.n⟩) az.length az.length) (hv:=rfl) (hp:=trivial)
theorem adW{v:Value}{az:List (aU×aY.Y)}(hl:az.length<=4096):bi Tryz.prog (.func 215) [v] [] [] [oU aY v az] (λv':Value=>v') (λv'=>[ar aY v' az]) (λ_=>[]) (λ_=>True):=by
 refine aK _ (aP 215) λB w0=>?_;refine MU (v:=v) (az:=az) aY (λe c ev=>?_) (λe i o f c ev=>?_) (λhne i o f c ev=>?_)
 ·subst e ev;refine go ?_;refine(eD rfl rfl (Ie (e:=71) (by kernel_rfl) rfl)).h ?_;refine go ?_;refine MV aY ?_;exact ae (.slice none 0 0) (hv:=rfl) (hp:=trivial)
 ·subst e ev;refine go ?_;refine(eD rfl rfl (BV (e:=71) (by kernel_rfl) rfl)).h ?_;refine go ?_;intro b;refine go ?_;refine Mc (b:=b) ?_;refine go ?_;refine rU (b:=b) (m:=0) (f:=0) aY (az:=[]) rfl (.inl rfl) ?_ (hk:=ay.here);exact ae (.slice (some ⟨b,0,some 0⟩) 0 0) (hv:=rfl) (hp:=trivial)
 ·subst ev;refine go ?_;refine(eD rfl rfl (BV (e:=71) (by kernel_rfl) rfl)).h ?_;refine go ?_;intro b;refine go ?_;refine Md (b:=b) aY az hne (by omega) (λb'=>?_);refine go ?_;refine rU (b:=b') (m:=az.length) (f:=aY.n) aY (az:=az) rfl (.inr rfl) ?_ (hk:=ay.here);exact ae (.slice (some ⟨b',0,some aY.n⟩) az.length az.length) (hv:=rfl) (hp:=trivial)
end Go.Proofs.YtoohgkkmdnbnfaaGreatDoor
set_option maxHeartbeats 4000000
namespace Go.Proofs.YtoohgkkmdnbnfaaGreatDoor
open Go.Ideal Kd
noncomputable def I1:gN:=⟨128,[(.pM 10 2),(.cell1 3)],(.seq (.ops [1,2,3] [⟨⟨(some 1),none,(.box (.tmp 0) 28)⟩,[]⟩,⟨⟨(some 2),none,(.new [(.string ⟨⟨[]⟩⟩),(.int .i64 0),(.int .i64 0),(.int .i64 0),(.int .i64 0),(.slice none 0 0),(.slice none 0 0),(.slice none 0 0),(.slice none 0 0),(.slice none 0 0)] 28)⟩,[]⟩,⟨⟨(some 3),none,(.new [(.int .i64 0)] 41)⟩,[]⟩]) (.seq (.ops [11] [⟨⟨(some 11),none,(.AZ (.func 201) [] [(.tmp 2),(.tmp 3)])⟩,[]⟩,⟨⟨none,none,(.dcall (.tmp 11) [])⟩,[]⟩]) (.seq (.seq (.ops [12,13,14,15] [⟨⟨(some 12),none,(.fK 6 (.tmp 1))⟩,[]⟩,⟨⟨(some 13),none,(.gK (.tmp 12))⟩,[]⟩,⟨⟨(some 14),none,(.pG (.tmp 13))⟩,[]⟩,⟨⟨(some 15),none,(.bin .gtr 3 (.tmp 14) (.const (.int .i64 16)))⟩,[]⟩]) (.cond (.tmp 15) (.seq (.ops [16] [⟨⟨(some 16),none,(.pF 10 (.tmp 2))⟩,[]⟩,⟨⟨none,none,(.store 10 (.tmp 2) (.tmp 16))⟩,[]⟩,⟨⟨none,none,(.store 1 (.tmp 3) (.const (.int .i64 2)))⟩,[]⟩]) .ret) .skip)) (.seq (.ops [17,18,19,20,4] [⟨⟨(some 17),none,(.fK 6 (.tmp 1))⟩,[]⟩,⟨⟨(some 18),none,(.gK (.tmp 17))⟩,[]⟩,⟨⟨(some 19),none,.uo⟩,[]⟩,⟨⟨(some 20),none,(.call (.func 202) [(.tmp 18),(.const (.int .i64 0)),(.func 203),(.tmp 19)])⟩,[]⟩,⟨⟨(some 4),none,(.new [(.map none)] 245)⟩,[]⟩,⟨⟨none,none,(.store 1 (.tmp 4) (.tmp 20))⟩,[]⟩]) (.seq (.ops [21,22,23,24,25,26,5] [⟨⟨(some 21),none,(.fK 7 (.tmp 1))⟩,[]⟩,⟨⟨(some 22),none,(.gK (.tmp 21))⟩,[]⟩,⟨⟨(some 24),none,.uo⟩,[]⟩,⟨⟨(some 23),none,(.call (.func 207) [])⟩,[⟨(some 22),none,(.gK (.tmp 21))⟩]⟩,⟨⟨(some 25),none,(.call (.func 206) [(.tmp 23),(.const (.int .i64 0)),(.func 208),(.tmp 24)])⟩,[⟨(some 22),none,(.gK (.tmp 21))⟩]⟩,⟨⟨(some 26),none,(.call (.func 204) [(.tmp 22),(.const (.int .i64 8)),(.func 205),(.tmp 25)])⟩,[]⟩,⟨⟨(some 5),none,(.jc (.tmp 26))⟩,[]⟩]) (.seq (.ops [27,28,29,30,6] [⟨⟨(some 27),none,(.fK 8 (.tmp 1))⟩,[]⟩,⟨⟨(some 28),none,(.gK (.tmp 27))⟩,[]⟩,⟨⟨(some 29),none,.uo⟩,[]⟩,⟨⟨(some 30),none,(.call (.func 209) [(.tmp 28),(.const (.int .i64 0)),(.func 210),(.tmp 29)])⟩,[]⟩,⟨⟨(some 6),none,(.jc (.tmp 30))⟩,[]⟩]) (.seq (.ops [31,32,33,34] [⟨⟨(some 31),none,(.fK 8 (.tmp 1))⟩,[]⟩,⟨⟨(some 32),none,(.gK (.tmp 31))⟩,[]⟩,⟨⟨(some 33),none,(.call (.func 211) [(.tmp 32)])⟩,[]⟩,⟨⟨(some 34),none,(.fK 8 (.tmp 1))⟩,[]⟩,⟨⟨none,none,(.store 1 (.tmp 34) (.tmp 33))⟩,[]⟩]) (.seq (.seq (.ops [35,36,37,38] [⟨⟨(some 35),none,(.fK 8 (.tmp 1))⟩,[]⟩,⟨⟨(some 36),none,(.gK (.tmp 35))⟩,[]⟩,⟨⟨(some 37),none,(.pG (.tmp 36))⟩,[]⟩,⟨⟨(some 38),none,(.mv (.const (.int .i64 0)))⟩,[]⟩]) (.block 0 (.loop (.seq (.ops [39] [⟨⟨(some 39),none,(.bin .lss 3 (.tmp 38) (.tmp 37))⟩,[]⟩]) (.seq (.cond (.tmp 39) .skip (.exit 0)) (.seq (.block 1 (.seq (.ops [40,7] [⟨⟨(some 40),none,(.mv (.tmp 38))⟩,[]⟩,⟨⟨(some 7),none,(.jc (.tmp 40))⟩,[]⟩]) (.ops [41,42,43,44,45,46,47,48,49,50,51,52,53] [⟨⟨(some 41),none,(.fK 8 (.tmp 1))⟩,[]⟩,⟨⟨(some 42),none,(.gK (.tmp 41))⟩,[]⟩,⟨⟨(some 43),none,(.mv (.tmp 7))⟩,[]⟩,⟨⟨(some 44),none,(.mv (.tmp 5))⟩,[]⟩,⟨⟨(some 45),none,(.fK 8 (.tmp 1))⟩,[]⟩,⟨⟨(some 46),none,(.gK (.tmp 45))⟩,[]⟩,⟨⟨(some 47),none,(.mv (.tmp 7))⟩,[]⟩,⟨⟨(some 48),none,(.lY 6 (.tmp 46) (.tmp 47))⟩,[]⟩,⟨⟨(some 49),none,(.fK 1 (.tmp 48))⟩,[]⟩,⟨⟨(some 50),none,(.gK (.tmp 49))⟩,[]⟩,⟨⟨(some 51),none,(.call (.func 212) [(.tmp 44),(.tmp 50)])⟩,[⟨(some 42),none,(.gK (.tmp 41))⟩]⟩,⟨⟨(some 52),none,(.lY 6 (.tmp 42) (.tmp 43))⟩,[]⟩,⟨⟨(some 53),none,(.fK 2 (.tmp 52))⟩,[]⟩,⟨⟨none,none,(.store 1 (.tmp 53) (.tmp 51))⟩,[]⟩]))) (.ops [54,38] [⟨⟨(some 54),none,(.bin .add 3 (.tmp 38) (.const (.int .i64 1)))⟩,[]⟩,⟨⟨(some 38),none,(.mv (.tmp 54))⟩,[]⟩]))))))) (.seq (.ops [55,56,57,58] [⟨⟨(some 55),none,(.fK 9 (.tmp 1))⟩,[]⟩,⟨⟨(some 56),none,(.gK (.tmp 55))⟩,[]⟩,⟨⟨(some 57),none,.uo⟩,[]⟩,⟨⟨(some 58),none,(.call (.func 213) [(.tmp 56),(.const (.int .i64 0)),(.func 214),(.tmp 57)])⟩,[]⟩]) (.seq (.ops [59,60,61,62] [⟨⟨(some 59),none,(.fK 9 (.tmp 1))⟩,[]⟩,⟨⟨(some 60),none,(.gK (.tmp 59))⟩,[]⟩,⟨⟨(some 61),none,(.call (.func 215) [(.tmp 60)])⟩,[]⟩,⟨⟨(some 62),none,(.fK 9 (.tmp 1))⟩,[]⟩,⟨⟨none,none,(.store 1 (.tmp 62) (.tmp 61))⟩,[]⟩]) (.seq (.ops [63,8] [⟨⟨(some 63),none,(.AZ (.func 216) [] [(.tmp 4)])⟩,[]⟩,⟨⟨(some 8),none,(.jc (.tmp 63))⟩,[]⟩]) (.seq (.seq (.ops [64,65,66,67] [⟨⟨(some 64),none,(.fK 9 (.tmp 1))⟩,[]⟩,⟨⟨(some 65),none,(.gK (.tmp 64))⟩,[]⟩,⟨⟨(some 66),none,(.pG (.tmp 65))⟩,[]⟩,⟨⟨(some 67),none,(.mv (.const (.int .i64 0)))⟩,[]⟩]) (.block 2 (.loop (.seq (.ops [68] [⟨⟨(some 68),none,(.bin .lss 3 (.tmp 67) (.tmp 66))⟩,[]⟩]) (.seq (.cond (.tmp 68) .skip (.exit 2)) (.seq (.block 3 (.seq (.ops [69,9] [⟨⟨(some 69),none,(.mv (.tmp 67))⟩,[]⟩,⟨⟨(some 9),none,(.jc (.tmp 69))⟩,[]⟩]) (.seq (.ops [70,71,72,73,10] [⟨⟨(some 70),none,(.fK 9 (.tmp 1))⟩,[]⟩,⟨⟨(some 71),none,(.gK (.tmp 70))⟩,[]⟩,⟨⟨(some 72),none,(.mv (.tmp 9))⟩,[]⟩,⟨⟨(some 73),none,(.lY 12 (.tmp 71) (.tmp 72))⟩,[]⟩,⟨⟨(some 10),none,(.jc (.tmp 73))⟩,[]⟩]) (.seq (.ops [74,75,76,77,78,79] [⟨⟨(some 74),none,(.mv (.tmp 10))⟩,[]⟩,⟨⟨(some 75),none,(.mv (.tmp 10))⟩,[]⟩,⟨⟨(some 76),none,(.kK (.tmp 74))⟩,[]⟩,⟨⟨(some 77),none,(.fK 3 (.tmp 76))⟩,[]⟩,⟨⟨none,none,(.store 1 (.tmp 77) (.const (.int .i64 0)))⟩,[]⟩,⟨⟨(some 78),none,(.kK (.tmp 75))⟩,[]⟩,⟨⟨(some 79),none,(.fK 11 (.tmp 78))⟩,[]⟩,⟨⟨none,none,(.store 1 (.tmp 79) (.const (.int .i64 (-1))))⟩,[]⟩]) (.seq (.seq (.ops [80,81,82,83,84] [⟨⟨(some 80),none,(.mv (.tmp 10))⟩,[]⟩,⟨⟨(some 81),none,(.kK (.tmp 80))⟩,[]⟩,⟨⟨(some 82),none,(.fK 1 (.tmp 81))⟩,[]⟩,⟨⟨(some 83),none,(.gK (.tmp 82))⟩,[]⟩,⟨⟨(some 84),none,(.bin .neq 9 (.tmp 83) (.const (.string ⟨⟨[]⟩⟩)))⟩,[]⟩]) (.cond (.tmp 84) (.ops [85,86,87,88,89,90,91,92,93] [⟨⟨(some 85),none,(.mv (.tmp 10))⟩,[]⟩,⟨⟨(some 86),none,(.mv (.tmp 5))⟩,[]⟩,⟨⟨(some 87),none,(.mv (.tmp 10))⟩,[]⟩,⟨⟨(some 88),none,(.kK (.tmp 87))⟩,[]⟩,⟨⟨(some 89),none,(.fK 1 (.tmp 88))⟩,[]⟩,⟨⟨(some 90),none,(.gK (.tmp 89))⟩,[]⟩,⟨⟨(some 91),none,(.call (.func 212) [(.tmp 86),(.tmp 90)])⟩,[]⟩,⟨⟨(some 92),none,(.kK (.tmp 85))⟩,[]⟩,⟨⟨(some 93),none,(.fK 3 (.tmp 92))⟩,[]⟩,⟨⟨none,none,(.store 1 (.tmp 93) (.tmp 91))⟩,[]⟩]) .skip)) (.seq (.ops [94,95,96,97,98,99,100,101,102,103,104,105,106,107,108,109,110,111] [⟨⟨(some 94),none,(.mv (.tmp 10))⟩,[]⟩,⟨⟨(some 95),none,(.mv (.tmp 10))⟩,[]⟩,⟨⟨(some 96),none,(.mv (.tmp 8))⟩,[]⟩,⟨⟨(some 97),none,(.mv (.tmp 10))⟩,[]⟩,⟨⟨(some 98),none,(.kK (.tmp 97))⟩,[]⟩,⟨⟨(some 99),none,(.fK 4 (.tmp 98))⟩,[]⟩,⟨⟨(some 100),none,(.gK (.tmp 99))⟩,[]⟩,⟨⟨(some 102),none,(.mv (.tmp 8))⟩,[]⟩,⟨⟨(some 103),none,(.mv (.tmp 10))⟩,[]⟩,⟨⟨(some 104),none,(.kK (.tmp 103))⟩,[]⟩,⟨⟨(some 105),none,(.fK 5 (.tmp 104))⟩,[]⟩,⟨⟨(some 106),none,(.gK (.tmp 105))⟩,[]⟩,⟨⟨(some 101),none,(.call (.tmp 96) [(.tmp 100)])⟩,[⟨(some 106),none,(.gK (.tmp 105))⟩]⟩,⟨⟨(some 107),none,(.call (.tmp 102) [(.tmp 106)])⟩,[]⟩,⟨⟨(some 108),none,(.kK (.tmp 94))⟩,[]⟩,⟨⟨(some 109),none,(.fK 6 (.tmp 108))⟩,[]⟩,⟨⟨none,none,(.store 1 (.tmp 109) (.tmp 101))⟩,[]⟩,⟨⟨(some 110),none,(.kK (.tmp 95))⟩,[]⟩,⟨⟨(some 111),none,(.fK 7 (.tmp 110))⟩,[]⟩,⟨⟨none,none,(.store 1 (.tmp 111) (.tmp 107))⟩,[]⟩]) (.seq (.ops [112,113,114,115,116] [⟨⟨(some 112),none,(.mv (.tmp 10))⟩,[]⟩,⟨⟨(some 113),none,(.kK (.tmp 112))⟩,[]⟩,⟨⟨(some 114),none,(.fK 10 (.tmp 113))⟩,[]⟩,⟨⟨(some 115),none,(.gK (.tmp 114))⟩,[]⟩,⟨⟨(some 116),none,(.bin .neq 9 (.tmp 115) (.const (.string ⟨⟨[]⟩⟩)))⟩,[]⟩]) (.cond (.tmp 116) (.ops [117,118,119,120,121,122,123,124,125] [⟨⟨(some 117),none,(.mv (.tmp 10))⟩,[]⟩,⟨⟨(some 118),none,(.mv (.tmp 6))⟩,[]⟩,⟨⟨(some 119),none,(.mv (.tmp 10))⟩,[]⟩,⟨⟨(some 120),none,(.kK (.tmp 119))⟩,[]⟩,⟨⟨(some 121),none,(.fK 10 (.tmp 120))⟩,[]⟩,⟨⟨(some 122),none,(.gK (.tmp 121))⟩,[]⟩,⟨⟨(some 123),none,(.call (.func 212) [(.tmp 118),(.tmp 122)])⟩,[]⟩,⟨⟨(some 124),none,(.kK (.tmp 117))⟩,[]⟩,⟨⟨(some 125),none,(.fK 11 (.tmp 124))⟩,[]⟩,⟨⟨none,none,(.store 1 (.tmp 125) (.tmp 123))⟩,[]⟩]) .skip)))))))) (.ops [126,67] [⟨⟨(some 126),none,(.bin .add 3 (.tmp 67) (.const (.int .i64 1)))⟩,[]⟩,⟨⟨(some 67),none,(.mv (.tmp 126))⟩,[]⟩]))))))) (.seq (.ops [127] [⟨⟨(some 127),none,(.pF 10 (.tmp 1))⟩,[]⟩,⟨⟨none,none,(.store 10 (.tmp 2) (.tmp 127))⟩,[]⟩,⟨⟨none,none,(.store 1 (.tmp 3) (.const (.int .i64 0)))⟩,[]⟩]) .ret)))))))))))))⟩
theorem adX:kZ Tryz.prog 150=some I1:=by kernel_rfl
theorem dY(a b:ByteArray):(a.toList==b.toList)=decide (a=b):=by
 rw[ByteArray.toList_eq,ByteArray.toList_eq];by_cases h:a=b
 ·subst h;simp
 ·rw[aT h];cases hb:a.data.toList==b.data.toList with
  |false=>rfl
  |true=>
   have:=eq_of_beq hb;exact absurd (ByteArray.ext (Array.ext' this)) h
abbrev uQ:List Value:=[.string ⟨⟨[]⟩⟩,.int .i64 0,.int .i64 0,.int .i64 0,.int .i64 0,.slice none 0 0,.slice none 0 0,.slice none 0 0,.slice none 0 0,.slice none 0 0]
theorem adY{b2 b3:Nat}:Ib Tryz.prog (.func 201) [] [ptr' b2,ptr' b3] .returning [] [] (λ_:Unit=>.ok (.tuple ⟨[]⟩)) (λ_=>.returning) (λ_=>[]) (λ_=>[]) (λ_=>True):=by
 refine Rp MS Uk λB w0=>?_;refine go ?_;refine Rq (v:=.nilIface) (m':=.returning) rfl ?_;refine go ?_;refine(eD (v:=.bool false) rfl rfl (λh=>by
  show(match kL Tryz.prog .neq 20 (.tmp 4) (.const .nilIface) .nilIface .nilIface with|some v=>some (v,h)|none=>none)=_;rw[show kL Tryz.prog .neq 20 (.tmp 4) (.const .nilIface) .nilIface .nilIface=some (.bool false)by kernel_rfl])).h ?_
 refine go ?_;exact Ru () (hv:=rfl) (hm:=rfl) (hp:=trivial)
theorem adZ{b2 b3:Nat}{e:Int}(he:e=160\/e=161):Ib Tryz.prog (.func 201) [] [ptr' b2,ptr' b3] (.panicking (sj e)) [pt b2 (.cells uQ),pt b3 (.cells [.int .i64 0])] [] (λ_:Unit=>.ok (.tuple ⟨[]⟩)) (λ_=>.panicking [{v:=.iface 41 (.int .i64 e),recovered:=true}])
 (λ_=>[pt b2 (.cells uQ),pt b3 (.cells [.int .i64 e])]) (λ_=>[]) (λ_=>True):=by
 refine Rp MS Uk λB w0=>?_;refine go ?_;refine Rq (v:=.iface 41 (.int .i64 e)) (m':=.panicking [{v:=.iface 41 (.int .i64 e),recovered:=true}]) rfl ?_;refine go ?_;refine(eD (v:=.bool true) rfl rfl (λh=>by
  show(match kL Tryz.prog .neq 20 (.tmp 4) (.const .nilIface) (.iface 41 (.int .i64 e)) .nilIface with|some v=>some (v,h)|none=>none)=_;rcases he with rfl|rfl
  ·rw[show kL Tryz.prog .neq 20 (.tmp 4) (.const .nilIface) (.iface 41 (.int .i64 160)) .nilIface=some (.bool true)by kernel_rfl]
  ·rw[show kL Tryz.prog .neq 20 (.tmp 4) (.const .nilIface) (.iface 41 (.int .i64 161)) .nilIface=some (.bool true)by kernel_rfl])).h ?_
 refine go ?_;exact Ru () (hv:=rfl) (hm:=rfl) (hp:=trivial)
structure FE where
 ok:Bool
 e:Int
 vc:Value
 vu:Value
abbrev qL(d:bE)(vh vs vr:Value)(y:FE):Value:=.tuple ⟨[.agg ⟨cond y.ok (gF (Kd.bF d) vh vs vr y.vc y.vu) uQ⟩,.int .i64 y.e]⟩
abbrev nW(d:bE)(y:FE):List aH:=cond y.ok [ah bM y.vc (Kd.bF d).aJ,ah aY y.vu (Kd.bF d).rules] []
def Ag(d:bE)(y:FE):Prop:=(y.ok=true->y.e=0/\Cg d)/\(y.ok=false->y.e≠0/\¬Cg d)
structure mq(d:bE):Prop where
 dP:d.symbols.length<=4096
 regs:d.regions.length<=4096
 jv:d.aJ.length<=4096
 kG:d.rules.length<=4096
 qM:∀r∈d.rules,r.names.length<9223372036854775808/\r.others.length<9223372036854775808
 holes:d.holes.length<9223372036854775808
 qN:∀r∈d.regions,r.lists.length<9223372036854775808/\∀l∈r.lists,l.length<9223372036854775808
section
variable {B:List Nat} {w0:Wd} {kl bq:List OA} {F:List aH} {l:List (Nat×Value)} {b2 b3:Nat} {n:Nat}
theorem wJ{d:bE}{vh vs vr:Value}{e:Int}(he:e=160\/e=161)(hno:¬Cg d)(h2:lk l 2=ptr' b2)(h3:lk l 3=ptr' b3)(hk:aI [pt b2 (.cells uQ),pt b3 (.cells [.int .i64 0])] kl bq):
 R (λh=>pX Tryz.prog I1 (zO B w0 (λy=>.ok (qL d vh vs vr y)) (λ_=>[]) (nW d) (Ag d)) (.panic (sj e)) (act n l [{target:=.fn (.func 201) ⟨[ptr' b2,ptr' b3]⟩,args:=⟨[]⟩}] none none) h) B w0 kl F:=by
 refine EX (m:=.panicking (sj e)) ?_;refine Rs (bq:=bq) (dM:=λ_=>[pt b2 (.cells uQ),pt b3 (.cells [.int .i64 e])]++bq) (F2:=λ_=>F) (adZ (b2:=b2) (b3:=b3) he) (λy v _ _=>?_) (λy ch _ hc=>by cases hc) (hk:=hk) (hF:=.nil) (hk2:=λ_=>bC.app) (hF2:=λ_=>bC.nil);show RL _ _ _ _ .returning _ _ _ _ _;refine Rv (bq:=[pt b2 (.cells uQ),pt b3 (.cells [.int .i64 e])]++bq) (vs:=[.agg ⟨uQ⟩,.int .i64 e]) ⟨false,e,.nilFunc,.nilFunc⟩ rfl ⟨(λh=>by cases h),λ_=>⟨by rcases he with rfl|rfl<;>simp,hno⟩⟩ (hr:=?_) (hk:=.nil) (hF:=.nil);show RS l _ [.pM 10 2,.cell1 3] _;exact .pM h2 .here rfl (.cell1 h3 (.there .here) rfl .nil)
end
section
variable {B:List Nat} {w0:Wd} {kl bq:List OA} {F:List aH} {l:List (Nat×Value)} {b2 b3:Nat} {n:Nat}
theorem Uo{d:bE}{vh vs vr:Value}{o:Out}{cs:List Value}{e:Int}(y:FE)(ho:sK o=some .returning)(hcs:cs=cond y.ok (gF (Kd.bF d) vh vs vr y.vc y.vu) uQ)(hl:cs.length=10)(hy:y.e=e)(hp:Ag d y)(hF:∀w,(∀f∈F,f.p w)->∀f∈nW d y,f.p w)(h2:lk l 2=ptr' b2)(h3:lk l 3=ptr' b3)(hk:aI [pt b2 (.cells cs),pt b3 (.cells [.int .i64 e])] kl bq):
 R (λh=>pX Tryz.prog I1 (zO B w0 (λy=>.ok (qL d vh vs vr y)) (λ_=>[]) (nW d) (Ag d)) o (act n l [{target:=.fn (.func 201) ⟨[ptr' b2,ptr' b3]⟩,args:=⟨[]⟩}] none none) h) B w0 kl F:=by
 refine EX (m:=.returning) ?_ ho;refine Rs (k1:=[]) (bq:=kl) (dM:=λ_=>kl) (F2:=λ_=>F) (adY (b2:=b2) (b3:=b3)) (λ_ v _ _=>?_) (λ_ ch _ hc=>by cases hc) (hk:=.nil) (hF:=.nil) (hk2:=λ_=>bC.nil) (hF2:=λ_=>bC.nil);show RL _ _ _ _ .returning _ _ _ _ _;intro w s;have s':St B w0 ([pt b2 (.cells cs),pt b3 (.cells [.int .i64 e])]++bq) (nW d y) w:=by
  have:=s.jD hk;exact⟨this.agree,this.le,this.fH,this.own,hF w this.facts⟩
 refine Rv (F:=nW d y) (bq:=[pt b2 (.cells cs),pt b3 (.cells [.int .i64 e])]++bq) (vs:=[.agg ⟨cs⟩,.int .i64 e]) y ?_ hp (hr:=?_) (hk:=.nil) (hF:=?_) w s'
 ·show iH.ok (qL d vh vs vr y)=_;unfold qL;rw[<- hcs,hy];rfl
 ·show RS l _ [.pM 10 2,.cell1 3] _;exact .pM h2 .here (by rw[nu,ny,uX,if_pos (by omega),<- hl,bK]) (.cell1 h3 (.there .here) rfl .nil)
 ·have:∀k:List aH,Sub k k:=λk=>by
   have:=Sub.refl' k [];simpa using this
  exact this _
end
theorem Cm{X:List (aU×aY.Y)}{k:Nat}(hk:k<X.length){q q':aU×aY.Y}{j:Nat}{v:Value}(h:(aY.pat q.1 q.2).set j v=aY.pat q'.1 q'.2)(hj:j<12):(bV aY (X.set k q)).set (0+k*12+j) v=bV aY (X.set k q'):=by
 rw[eT];have:=Ma (E:=aY) (az:=X.set k q) (k:=k) (p:=q) (p':=q') (by rw[uZ,if_pos rfl,if_pos hk]) h hj;rw[List.set_set]at this;exact this
theorem Ah{X:List (aU×aY.Y)}{k:Nat}(hk:k<X.length){q:aU×aY.Y}{j:Nat}{u:Value}(h:(aY.pat q.1 q.2)[j]? =some u):(bV aY (X.set k q))[0+k*12+j]? =some u:=by
 rw[eT];exact wm (E:=aY) (az:=X.set k q) (k:=k) (by rw[uZ,if_pos rfl,if_pos hk]) h
theorem Cn{X:List (aU×aY.Y)}{k:Nat}(hk:k<X.length){q:aU×aY.Y}{j:Nat}(hj:j<12):0+k*12+j<(bV aY (X.set k q)).length:=by
 rw[wh,Df];show 0+k*12+j<X.length*12;omega
theorem Uq{d:bE}{vh vs vr vc vu:Value}(hS:mq d):bi Tryz.prog (.func 150) [.agg ⟨gF d vh vs vr vc vu⟩] [] [] (kT d vh vs vr vc vu) (qL d vh vs vr) (λ_=>[]) (nW d) (Ag d):=by
 refine pY.toC _ ?_ (λ_ _=>rfl);have hsl:=hS.dP;have hrl:=hS.regs;have hcl:=hS.jv;have yG:=hS.kG;refine yf I1 adX λB w0=>?_;refine go ?_;intro b1 b2 b3;refine go ?_;refine abq ?_;refine go ?_;refine aA rfl (λh1=>?_) (λh1=>?_)
 ·refine go ?_;exact Uo (e:=2) (cs:=uQ) ⟨false,2,.nilFunc,.nilFunc⟩ rfl rfl rfl rfl ⟨(λh=>by cases h),λ_=>⟨by simp,λh=>by have:=h.dP;omega⟩⟩ (λw _ f hf=>by cases hf) rfl rfl (by repeat (first|exact aI.nil|(apply aI.cons;(focus (repeat (first|exact ay.here|apply ay.there))))))
 have hsy:(bP d).length<=16:=by show(d.symbols.map (·.name)).length<=16;rw[bR];omega
 refine go ?_;refine ym fP (λbs=>?_);refine go ?_;refine tL (adQ (b:=bs) (start:=0) (ai:=[]) hsl (by omega) ul) (λy v hy e=>?_) (λy ch hy e=>?_)
 rotate_left
 ·obtain⟨y,ns⟩:=y;cases y with
  |true=>cases e
  |false=>
   injection e with e;subst e;refine go ?_;exact wJ (e:=161) (.inr rfl) (λh=>hy.2 rfl (by simpa[bP]using h.SQ)) rfl rfl (by repeat (first|exact aI.nil|(apply aI.cons;(focus (repeat (first|exact ay.here|apply ay.there))))))
 obtain⟨y,ns⟩:=y;cases y with
 |false=>cases e
 |true=>
 injection e with e;subst e;have hns:ns=bP d:=(hy.1 rfl).1;have hsn:(bP d).Nodup:=by have:=(hy.1 rfl).2;simpa[bP]using this
 clear hy;subst hns;dsimp only;rw[show([]:List (ByteArray×Value))++fD _ 0=fD _ 0 from rfl];refine bD (BS (b:=bs)) (h:=?_);refine go ?_;intro b4;refine go ?_;refine ym fP (λbf=>?_);refine ax adU (next:=λvg _=>?_);refine tL (adP (b:=bf) (xs:=iI) (start:=0) (ai:=[]) (by decide) (by omega) ul) (λy v hy e=>?_) (λy ch hy e=>?_)
 rotate_left
 ·obtain⟨y,ns⟩:=y;cases y with
  |true=>cases e
  |false=>exact absurd (by decide) (hy.2 rfl)
 obtain⟨y,ns⟩:=y;cases y with
 |false=>cases e
 |true=>
 injection e with e;subst e;have hns:ns=iI:=(hy.1 rfl).1;clear hy;subst hns;dsimp only;rw[show([]:List (ByteArray×Value))++fD _ 0=fD _ 0 from rfl];refine tL (adR (b:=bf) (start:=8) (ai:=fD iI 0) hrl (by omega) (by rw[rZ];decide)) (λy v hy e=>?_) (λy ch hy e=>?_)
 rotate_left
 ·obtain⟨y,ns⟩:=y;cases y with
  |true=>cases e
  |false=>
   injection e with e;subst e;refine go ?_;exact wJ (e:=161) (.inr rfl) (λh=>hy.2 rfl (by rw[rZ];exact h.SS)) rfl rfl (by repeat (first|exact aI.nil|(apply aI.cons;(focus (repeat (first|exact ay.here|apply ay.there))))))
 obtain⟨y,ns⟩:=y;cases y with
 |false=>cases e
 |true=>
 injection e with e;subst e;have hns:ns=d.regions.map mg.name:=(hy.1 rfl).1;have hfn:(bW d).Nodup:=by have:=(hy.1 rfl).2;rw[rZ]at this;exact this
 clear hy;subst hns;dsimp only;have hfe:fD iI 0++fD (d.regions.map mg.name) 8=fD (bW d) 0:=by
  unfold bW;rw[Ms];rfl
 rw[hfe];clear hfe;refine bD (BS (b:=bf)) (h:=?_);refine go ?_;refine ym fP (λbc=>?_);refine go ?_;refine tL (adS (b:=bc) (start:=0) (ai:=[]) hcl (by omega) ul) (λy v hy e=>?_) (λy ch hy e=>?_)
 rotate_left
 ·obtain⟨y,ns⟩:=y;cases y with
  |true=>cases e
  |false=>
   injection e with e;subst e;refine go ?_;exact wJ (e:=161) (.inr rfl) (λh=>hy.2 rfl (by simpa[dK]using h.SV)) rfl rfl (by repeat (first|exact aI.nil|(apply aI.cons;(focus (repeat (first|exact ay.here|apply ay.there))))))
 obtain⟨y,ns⟩:=y;cases y with
 |false=>cases e
 |true=>
 injection e with e;subst e;have hns:ns=dK d:=(hy.1 rfl).1;have hcn:(dK d).Nodup:=by have:=(hy.1 rfl).2;simpa[dK]using this
 clear hy;subst hns;dsimp only;rw[show([]:List (ByteArray×Value))++fD _ 0=fD _ 0 from rfl];refine bD (BS (b:=bc)) (h:=?_);refine go ?_;refine zU bM vc (λxc Co=>?_);have hxl:xc.length=d.aJ.length:=by rw[<- Co,bR]
 refine ax (adV (az:=xc) (by omega)) (next:=λv1 _=>?_);refine R4 (E:=bM) (v:=v1) (az:=xc) (λa1 e1=>?_);subst e1;refine go ?_;let f1:iY×bM.Y->iY×bM.Y:=λp=>(lm (bW d) p.1,p.2)
 rw[show ar bM (.slice a1 xc.length xc.length) xc=ar bM (.slice a1 xc.length xc.length) (jE f1 0 xc)from rfl];refine aZ (λk=>xc.length - k) (λk:Nat=>[(38,.int .i64 (k:Int))]) (λk=>[ar bM (.slice a1 xc.length xc.length) (jE f1 k xc)]) (λ_=>[]) (λk=>k<=xc.length/\∀p∈xc.take k,p.1.on∈bW d) 0 ⟨cz _,by simp⟩ (body:=?_);rintro k ⟨hk,hall⟩;refine go ?_;refine aA rfl (λh2=>?_) (λh2=>?_)
 ·refine go ?_;refine R3 (E:=bM) (az:=jE f1 k xc) (by rw[yx];omega) (λbx fx hfx ev=>?_);injection ev with ea _ _;subst ea;refine go ?_;obtain⟨p,hp⟩:∃p,xc[k]? =some p:=⟨xc[k]'(by omega),cB _⟩
  have hget:(jE f1 k xc)[k]? =some p:=by rw[S9 _ (by omega)];exact hp
  have kw:p.1∈d.aJ:=by rw[<- Co];exact JF (bG hp)
  refine vW (o:=0+k*6+1) (cs:=bV bM (jE f1 k xc)) (.string p.1.on) (by rw[eT];exact wm (E:=bM) (j:=1) hget rfl) ?_;refine tL (IZ (b:=bf) (s:=p.1.on) (ai:=fD (bW d) 0)) (λy v hy e=>?_) (λy ch hy e=>?_)
  rotate_left
  ·have hm:p.1.on∉bW d:=by
    intro h;rw[ww h]at hy;subst hy;cases e
   rw[qK (by rw[rZ];exact hm)]at hy;subst hy;injection e with e;subst e;refine go ?_;exact wJ (e:=160) (.inl rfl) (λh=>hm (h.Mt p.1 kw)) rfl rfl (by repeat (first|exact aI.nil|(apply aI.cons;(focus (repeat (first|exact ay.here|apply ay.there))))))
  have hm:p.1.on∈bW d:=by
   by_cases h:p.1.on∈bW d
   ·exact h
   ·rw[qK (by rw[rZ];exact h)]at hy;subst hy;cases e
  rw[ww hm]at hy;subst hy;injection e with e;subst e;rw[eT];refine go ?_;refine x9 (o:=0+k*6+2) (cs:=bV bM (jE f1 k xc)) (cs':=bV bM (jE f1 (k+1) xc)) (v:=.int .i64 ((dS p.1.on (bW d):Nat):Int)) (by rw[eT,<- Ta f1 hp];exact Ma (E:=bM) (j:=2) (p':=f1 p) hget rfl (by decide)) (by rw[wh,yx];show 0+k*6+2<xc.length*6;omega) ?_;refine go ?_;refine rU (b:=bx) (f:=fx) (m:=xc.length) bM (az:=jE f1 (k+1) xc) (by rw[yx]) hfx ?_;refine aQ (k+1) (by omega) ⟨by omega,λq hq=>?_⟩;rw[mM,hp]at hq;rcases dV.1 hq with h|h
  ·exact hall q h
  ·have:q=p:=by simpa using h
   rw[this];exact hm
 have hkl:k=xc.length:=by omega
 subst hkl;rw[bK]at hall;have hcon:∀c∈d.aJ,c.on∈bW d:=by
  intro c hc;rw[<- Co]at hc;obtain⟨p,hp,rfl⟩:=fo.1 hc;exact hall p hp
 clear hall hk;rw[SY];refine go ?_;refine ym fP (λbu=>?_);refine go ?_;refine tL (adT (b:=bu) (start:=0) (ai:=[]) yG (by omega) ul) (λy v hy e=>?_) (λy ch hy e=>?_)
 rotate_left
 ·obtain⟨y,ns⟩:=y;cases y with
  |true=>cases e
  |false=>
   injection e with e;subst e;refine go ?_;exact wJ (e:=161) (.inr rfl) (λh=>hy.2 rfl (by simpa[mV]using h.SX)) rfl rfl (by repeat (first|exact aI.nil|(apply aI.cons;(focus (repeat (first|exact ay.here|apply ay.there))))))
 obtain⟨y,ns⟩:=y;cases y with
 |false=>cases e
 |true=>
 injection e with e;subst e;have hrn:(mV d).Nodup:=by have:=(hy.1 rfl).2;simpa[mV]using this
 clear hy;dsimp only;refine bD (BS (b:=bu)) (h:=?_);refine go ?_;refine zU aY vu (λxr I4=>?_);have ajq:xr.length=d.rules.length:=by rw[<- I4,bR]
 refine ax (adW (az:=xr) (by omega)) (next:=λv2 _=>?_);refine R4 (E:=aY) (v:=v2) (az:=xr) (λa2 e2=>?_);subst e2;refine go ?_;refine bD (eO (b:=b4)) (h:=?_);refine go ?_;let f2:aU×aY.Y->aU×aY.Y:=λp=>(mh (bP d) (bW d) (dK d) p.1,p.2)
 rw[show ar aY (.slice a2 xr.length xr.length) xr=ar aY (.slice a2 xr.length xr.length) (jE f2 0 xr)from rfl];refine Fa (E:=aY) (v:=vu) (az:=xr) ?_;refine aZ (λk=>xr.length - k) (λk:Nat=>[(67,.int .i64 (k:Int))]) (λk=>[ar aY (.slice a2 xr.length xr.length) (jE f2 k xr)]) (λ_=>[]) (λk=>k<=xr.length/\∀p∈xr.take k,zX (bP d) (bW d) (dK d) p.1) 0 ⟨cz _,by simp⟩ (body:=?_);rintro k ⟨hk,hall⟩;refine go ?_;refine aA rfl (λh2=>?_) (λh2=>?_)
 ·refine go ?_;refine R3 (E:=aY) (az:=jE f2 k xr) (by rw[yx];omega) (λbZ fy Ur ev=>?_);injection ev with ea _ _;subst ea;obtain⟨p,hp⟩:∃p,xr[k]? =some p:=⟨xr[k]'(by omega),cB _⟩
  have hpm:=bG hp;have hget:(jE f2 k xr)[k]? =some p:=by rw[S9 _ (by omega)];exact hp
  have kw:p.1∈d.rules:=by rw[<- I4];exact JF hpm
  have hfin:=Ta f2 hp;obtain⟨r,v3,v4⟩:=p;have hrs:=hS.qM r kw;have lQ:k<(jE f2 k xr).length:=by rw[yx];omega
  have ad1:(jE f2 k xr).length=xr.length:=yx _ _ _;have e0:jE f2 k xr=(jE f2 k xr).set k (r,v3,v4):=by
   apply jW;intro i;rw[uZ];by_cases hi:k=i
   ·subst hi;rw[if_pos rfl,if_pos lQ,hget]
   ·rw[if_neg hi]
  refine eX (ah aR v3 r.names) (λw h=>h (p9 aY xr) (cZ ..) _ hpm _ (cZ ..)) ?_;refine eX (ah aR v4 r.others) (λw h=>h (p9 aY xr) (cO _ (cZ ..)) _ hpm _ (cO _ (cZ ..))) ?_;rw[e0];rw[<- e0];generalize hX:jE f2 k xr=X at lQ ad1 e0 hfin;rw[e0];refine go ?_;refine x9 (o:=0+k*12+3) (cs:=bV aY (X.set k (r,v3,v4))) (cs':=bV aY (X.set k ({r with family:=0},v3,v4))) (v:=.int .i64 0) (Cm lQ rfl (by omega)) (Cn lQ (by omega)) ?_;refine go ?_;refine x9 (o:=0+k*12+11) (cs:=bV aY (X.set k ({r with family:=0},v3,v4))) (cs':=bV aY (X.set k ({r with family:=0,aG:= -1},v3,v4))) (v:=.int .i64 (-1)) (Cm lQ rfl (by omega)) (Cn lQ (by omega)) ?_;refine go ?_;refine vW (o:=0+k*12+1) (cs:=bV aY (X.set k ({r with family:=0,aG:= -1},v3,v4))) (.string r.on) (Ah lQ rfl) ?_;refine go ?_;refine Rj (bq:=[pt b1 (.cells [.string d.name,.int .i64 d.version,.int .i64 d.shape,.int .i64 d.w,.int .i64 d.h,vh,vs,vr,.slice a1 xc.length xc.length,.slice (some ⟨bZ,0,some fy⟩) xr.length xr.length]),ar bM (.slice a1 xc.length xc.length) (xc.map f1),pt b3 (.cells [.int .i64 0]),pt b2 (.cells uQ)]) [] (λ_:Unit=>[]) (λ_=>[pt bZ (.cells (bV aY (X.set k ({r with family:=if r.on=⟨⟨[]⟩⟩then 0 else(dS r.on (bW d):Int),aG:= -1},v3,v4))))]) (λ_=>[]) (λ_=>r.on=⟨⟨[]⟩⟩\/r.on∈bW d) (hx:=?_) (hy:=?_)
  ·refine eU (p:=r.on=⟨⟨[]⟩⟩) (by show Value.bool _=_;rw[dY]) (λh3=>?_) (λh3=>?_)
   ·refine go ?_;refine vW (o:=0+k*12+1) (cs:=bV aY (X.set k ({r with family:=0,aG:= -1},v3,v4))) (.string r.on) (Ah lQ rfl) ?_;refine tL (IZ (b:=bf) (s:=r.on) (ai:=fD (bW d) 0)) (λy v hy e=>?_) (λy ch hy e=>?_)
    rotate_left
    ·have hm:r.on∉bW d:=by
      intro h;rw[ww h]at hy;subst hy;cases e
     rw[qK (by rw[rZ];exact hm)]at hy;subst hy;injection e with e;subst e;refine go ?_;refine abo ?_;refine go ?_;exact wJ (e:=160) (.inl rfl) (λh=>(h.uJ r kw).on.elim h3 hm) rfl rfl (by repeat (first|exact aI.nil|(apply aI.cons;(focus (repeat (first|exact ay.here|apply ay.there))))))
    have hm:r.on∈bW d:=by
     by_cases h:r.on∈bW d
     ·exact h
     ·rw[qK (by rw[rZ];exact h)]at hy;subst hy;cases e
    rw[ww hm]at hy;subst hy;injection e with e;subst e;rw[eT];refine go ?_;refine x9 (o:=0+k*12+3) (cs:=bV aY (X.set k ({r with family:=0,aG:= -1},v3,v4))) (cs':=bV aY (X.set k ({r with family:=if r.on=⟨⟨[]⟩⟩then 0 else(dS r.on (bW d):Int),aG:= -1},v3,v4))) (v:=.int .i64 ((dS r.on (bW d):Nat):Int)) (by rw[if_neg h3];exact Cm lQ rfl (by omega)) (Cn lQ (by omega)) ?_;refine go ?_;exact H8 () (.inr hm)
   ·refine go ?_;rw[show({r with family:=0,aG:= -1}:aU)={r with family:=if r.on=⟨⟨[]⟩⟩then 0 else(dS r.on (bW d):Int),aG:= -1}by rw[if_pos h3]];exact H8 () (.inl h3)
  intro _ hon;generalize hfm:(if r.on=⟨⟨[]⟩⟩then 0 else(dS r.on (bW d):Int))=fm;refine go ?_;refine vW (o:=0+k*12+4) (cs:=bV aY (X.set k ({r with family:=fm,aG:= -1},v3,v4))) v3 (Ah lQ rfl) ?_;refine go ?_;refine vW (o:=0+k*12+5) (cs:=bV aY (X.set k ({r with family:=fm,aG:= -1},v3,v4))) v4 (Ah lQ rfl) ?_;refine go ?_;refine tL (Un (b4:=b4) (bs:=bs) (vl:=v3) (dP:=bP d) (l:=r.names) hsy hrs.1) (λy v hy e=>?_) (λy ch hy e=>?_)
   (hs:=λy v _ _=>zI (b:=bZ) (o:=0+k*12+5) (cs:=bV aY (X.set k ({r with family:=fm,aG:= -1},v3,v4))) (v:=v4) rfl (by repeat (first|exact ay.here|apply ay.there)) (by rw[rE];exact Ah lQ rfl) rfl zH)
  rotate_left
  ·cases y with
   |true=>cases e
   |false=>
    injection e with e;subst e;refine go ?_;exact wJ (e:=160) (.inl rfl) (λh=>hy.2 rfl (h.uJ r kw).names) rfl rfl (by repeat (first|exact aI.nil|(apply aI.cons;(focus (repeat (first|exact ay.here|apply ay.there))))))
  cases y with
  |false=>cases e
  |true=>
  injection e with e;subst e;have ad3:=hy.1 rfl;clear hy;refine go ?_;refine go ?_;refine tL (Un (b4:=b4) (bs:=bs) (vl:=v4) (dP:=bP d) (l:=r.others) hsy hrs.2) (λy v hy e=>?_) (λy ch hy e=>?_)
  rotate_left
  ·cases y with
   |true=>cases e
   |false=>
    injection e with e;subst e;refine go ?_;exact wJ (e:=160) (.inl rfl) (λh=>hy.2 rfl (h.uJ r kw).others) rfl rfl (by repeat (first|exact aI.nil|(apply aI.cons;(focus (repeat (first|exact ay.here|apply ay.there))))))
  cases y with
  |false=>cases e
  |true=>
  injection e with e;subst e;have ad4:=hy.1 rfl;clear hy;refine go ?_;refine x9 (o:=0+k*12+6) (cs:=bV aY (X.set k ({r with family:=fm,aG:= -1},v3,v4))) (cs':=bV aY (X.set k ({r with family:=fm,aG:= -1,set:=(fZ (bP d) r.names:Int)},v3,v4))) (v:=.int .i64 (fZ (bP d) r.names:Int)) (Cm lQ rfl (by omega)) (Cn lQ (by omega)) ?_;refine go ?_;refine x9 (o:=0+k*12+7) (cs:=bV aY (X.set k ({r with family:=fm,aG:= -1,set:=(fZ (bP d) r.names:Int)},v3,v4))) (cs':=bV aY (X.set k ({r with family:=fm,aG:= -1,set:=(fZ (bP d) r.names:Int),other:=(fZ (bP d) r.others:Int)},v3,v4))) (v:=.int .i64 (fZ (bP d) r.others:Int)) (Cm lQ rfl (by omega)) (Cn lQ (by omega)) ?_;refine go ?_;refine vW (o:=0+k*12+10) (cs:=bV aY (X.set k ({r with family:=fm,aG:= -1,set:=(fZ (bP d) r.names:Int),other:=(fZ (bP d) r.others:Int)},v3,v4))) (.string r.bZ) (Ah lQ rfl) ?_;refine go ?_;have hnext:(r.bZ=⟨⟨[]⟩⟩\/r.bZ∈dK d)->∀q∈xr.take (k+1),zX (bP d) (bW d) (dK d) q.1:=by
   intro hby q hq;rw[mM,hp]at hq;rcases dV.1 hq with h|h
   ·exact hall q h
   ·have:q=(r,v3,v4):=bH.1 (show q∈[(r,v3,v4)]from h);rw[this];exact⟨hon,ad3,ad4,hby⟩
  refine eU (p:=r.bZ=⟨⟨[]⟩⟩) (by show Value.bool _=_;rw[dY]) (λh3=>?_) (λh3=>?_)
  ·refine go ?_;refine vW (o:=0+k*12+10) (cs:=bV aY (X.set k ({r with family:=fm,aG:= -1,set:=(fZ (bP d) r.names:Int),other:=(fZ (bP d) r.others:Int)},v3,v4))) (.string r.bZ) (Ah lQ rfl) ?_;refine tL (IZ (b:=bc) (s:=r.bZ) (ai:=fD (dK d) 0)) (λy v hy e=>?_) (λy ch hy e=>?_)
   rotate_left
   ·have hm:r.bZ∉dK d:=by
     intro h;rw[ww h]at hy;subst hy;cases e
    rw[qK (by rw[rZ];exact hm)]at hy;subst hy;injection e with e;subst e;refine go ?_;exact wJ (e:=160) (.inl rfl) (λh=>(h.uJ r kw).bZ.elim h3 hm) rfl rfl (by repeat (first|exact aI.nil|(apply aI.cons;(focus (repeat (first|exact ay.here|apply ay.there))))))
   have hm:r.bZ∈dK d:=by
    by_cases h:r.bZ∈dK d
    ·exact h
    ·rw[qK (by rw[rZ];exact h)]at hy;subst hy;cases e
   rw[ww hm]at hy;subst hy;injection e with e;subst e;rw[eT];refine go ?_;refine x9 (o:=0+k*12+11) (cs:=bV aY (X.set k ({r with family:=fm,aG:= -1,set:=(fZ (bP d) r.names:Int),other:=(fZ (bP d) r.others:Int)},v3,v4))) (cs':=bV aY (X.set k (f2 (r,v3,v4)))) (v:=.int .i64 ((dS r.bZ (dK d):Nat):Int)) (Cm lQ (by show _=iT (mh (bP d) (bW d) (dK d) r) v3 v4;unfold mh;rw[if_neg h3,hfm];rfl) (by omega)) (Cn lQ (by omega)) ?_;refine go ?_;rw[hfin];refine rU (b:=bZ) (f:=fy) (m:=xr.length) aY (az:=jE f2 (k+1) xr) (by rw[yx]) Ur ?_;exact aQ (k+1) (by omega) ⟨by omega,hnext (.inr hm)⟩
  ·refine go ?_;rw[show X.set k (({r with family:=fm,aG:= -1,set:=(fZ (bP d) r.names:Int),other:=(fZ (bP d) r.others:Int)}:aU),v3,v4)=jE f2 (k+1) xr by
    rw[<- hfin];congr 1;show _=(mh (bP d) (bW d) (dK d) r,v3,v4)
    unfold mh;rw[if_pos h3,hfm];rfl]
   refine rU (b:=bZ) (f:=fy) (m:=xr.length) aY (az:=jE f2 (k+1) xr) (by rw[yx]) Ur ?_;exact aQ (k+1) (by omega) ⟨by omega,hnext (.inl h3)⟩
 have hkl:k=xr.length:=by omega
 subst hkl;rw[bK]at hall;rw[SY];refine Fb (E:=bM) (v:=.slice a1 xc.length xc.length) (az:=xc.map f1) ?_ (λw h p hp f hf=>by cases hf);refine Fb (E:=aY) (v:=.slice a2 xr.length xr.length) (az:=xr.map f2) ?_ (λw h p hp f hf=>by
  obtain⟨q,hq,rfl⟩:=fo.1 hp;exact h (p9 aY xr) (cO _ (cO _ (cZ ..))) q hq f hf)
 refine go ?_;refine Uo (e:=0) ⟨true,0,.slice a1 xc.length xc.length,.slice a2 xr.length xr.length⟩ rfl (by rfl) rfl rfl ⟨λ_=>⟨rfl,⟨by omega,hsn,hfn,hcn,hcon,hrn,λr hr=>?_⟩⟩,λh=>by cases h⟩ (λw h f hf=>?_) rfl rfl (by repeat (first|exact aI.nil|(apply aI.cons;(focus (repeat (first|exact ay.here|apply ay.there))))))
 ·rw[<- I4]at hr;obtain⟨p,hp,rfl⟩:=fo.1 hr;exact hall p hp
 ·have ec:(xc.map f1).map (·.1)=(Kd.bF d).aJ:=by
   show _=d.aJ.map (lm (bW d));rw[<- Co,u7,u7];rfl
  have er:(xr.map f2).map (·.1)=(Kd.bF d).rules:=by
   show _=d.rules.map (mh (bP d) (bW d) (dK d));rw[<- I4,u7,u7];rfl
  rw[ec,er]at h;have hf:f∈[ah bM (.slice a1 xc.length xc.length) (Kd.bF d).aJ,ah aY (.slice a2 xr.length xr.length) (Kd.bF d).rules]:=hf;rcases dF.1 hf with rfl|hf
  ·exact h _ (by simp)
  ·rw[bH.1 hf];exact h _ (by simp)
