/-
  What rules mean for lists of cells: sets of symbols, counts, sums, differences, rises, runs.
-/
import Derived.Test.YtoohgkkmdnbnfaaGreatDoorProg
import Derived.Test.YtoohgkkmdnbnfaaGreatDoorPlainBD
import Derived.Laws.Strings
set_option linter.all false
set_option maxRecDepth 10000
set_option maxHeartbeats 1000000
namespace Go.Proofs.YtoohgkkmdnbnfaaGreatDoor
open Go.Ideal
noncomputable def TB:=uj Tryz.prog 312
theorem acW:mF Tryz.prog 312=some TB:=by kernel_rfl
noncomputable def TC:=uj Tryz.prog 289
theorem acX:mF Tryz.prog 289=some TC:=by kernel_rfl
structure TD(grid:List Int):Prop where
 len:grid.length<=1000000
 sym:∀x∈grid,0<=x/\x<16
structure TE(grid cells:List Int):Prop where
 len:cells.length<=1000000
 cell:∀c∈cells,0<=c/\c<grid.length
def sy(grid:List Int)(c:Int):Nat:=(grid.getD c.toNat 0).toNat
def cnt(grid:List Int)(set:Nat)(cells:List Int):Nat:=(cells.filter λc=>set.testBit (sy grid c)).length
theorem take_one{α:Type}{xs:List α}{k:Nat}{x:α}(h:xs[k]? =some x):xs.take (k+1)=xs.take k++[x]:=by
 rw[mo,h];rfl
structure TF(values grid:List Int):Prop where
 val:∀v∈values,0<=v/\v<=99
 sym:∀x∈grid,x<values.length
def va(values grid:List Int)(c:Int):Int:=values.getD (sy grid c) 0
def met(grid cells:List Int):Nat:=cells.foldl (λm c=>m|||1<<<sy grid c) 0
end Go.Proofs.YtoohgkkmdnbnfaaGreatDoor
namespace Go.Proofs.YtoohgkkmdnbnfaaGreatDoor
open Go.Ideal
def rn(grid:List Int)(set:Nat):Nat->List Int->List Int
 |n,[]=>if 0<n then[(n:Int)]else[]
 |n,c::cs=>if set.testBit (sy grid c)then rn grid set (n+1) cs else if 0<n then(n:Int)::rn grid set 0 cs else rn grid set 0 cs
abbrev acZ{α:Type}(E:Enc α)(b:Nat)(ys:List α):OA:=Bq λv:Value=>[pt b (.cells [v]),ap E v ys]
theorem zT{va vb:Value}{xs ys:List Int}(hal:xs.length<9223372036854775808):cK Tryz.prog 104 [va,vb] [ah aa va xs,ah aa vb ys] (.bool (decide (xs=ys))):=by
 refine aI _ (aO 104) λB w0=>?_;refine go ?_;refine ay rfl (λh1=>?_) (λh1=>?_)
 ·refine go ?_;refine ae () (hv:=?_) (hp:=trivial);rw[aU (λe=>h1 (by rw[e]))];rfl
 have hlen:xs.length=ys.length:=by omega
 refine go ?_;refine aZ (λk=>xs.length - k) (λk:Nat=>[(13,.int .i64 (k:Int))]) (λ_=>[]) (λ_=>[]) (λk=>k<=xs.length/\∀j,j<k->xs[j]? =ys[j]?) 0 ⟨by omega,λj hj=>by omega⟩ (body:=?_);rintro k ⟨hkx,hsame⟩;refine go ?_;refine ay rfl (λh2=>?_) (λh2=>?_)
 ·refine go ?_;intro _ _ x hx _ _ y hy;refine ay rfl (λh3=>?_) (λh3=>?_)
  ·refine go ?_;refine ae () (hv:=?_) (hp:=trivial);rw[aU (λe=>h3 (by rw[e,hy]at hx;cases hx;rfl))];rfl
  refine go ?_;refine aP (k+1) (by omega) ⟨by omega,λj hj=>?_⟩;by_cases e:j=k
  ·subst e;rw[hx,hy,iI.1 h3]
  ·exact hsame j (by omega)
 refine go ?_;refine ae () (hv:=?_) (hp:=trivial);have:xs=ys:=by
  apply kE;intro j;by_cases hj:j<k
  ·exact hsame j hj
  ·rw[iH (by omega),iH (by omega)]
 rw[dS this];rfl
end Go.Proofs.YtoohgkkmdnbnfaaGreatDoor
namespace Go.Proofs.YtoohgkkmdnbnfaaGreatDoor
open Go.Ideal
abbrev MB(P:Program)(fn:Fn)(first cap:List Value)(v:Value)(F:List aF)(b:Bool):Prop:=bn P fn (first++[v]) cap [] F (λ_:Unit=>.bool b) (λ_=>[]) (λ_=>[]) (λ_=>True)
theorem ac0{fn:Fn}{first cap:List Value}{F1:List aF}{p:Int->Bool}{va:Value}{xs:List Int}(hl:xs.length<9223372036854775808)(hp:∀x∈xs,MB Tryz.prog fn first cap (.int .i64 x) F1 (p x)):
 bn Tryz.prog (.func 121) [va,.func fn ⟨first⟩ ⟨cap⟩] [] [] (ah aa va xs::F1) (λr:Int=>.int .i64 r) (λ_=>[]) (λ_=>[]) (λr=>(0<=r↔xs.any p=true)):=by
 refine aI _ (aO 121) λB w0=>?_;refine go ?_;refine aZ (λk=>xs.length - k) (λk:Nat=>[(8,.int .i64 (k:Int))]) (λ_=>[]) (λ_=>[]) (λk=>k<=xs.length/\(xs.take k).any p=false) 0 ⟨by omega,by simp⟩ (body:=?_);rintro k ⟨hk,hno⟩;refine go ?_;refine ay rfl (λh1=>?_) (λh1=>?_)
 ·refine go ?_;intro _ _ x hx;refine ax (hp x (bH hx)) (next:=λ_ _=>?_);refine go ?_;refine jZ rfl (λh2=>?_) (λh2=>?_)
  ·refine go ?_;refine ae (k:Int) (hv:=rfl) (hp:=?_);have:xs.any p=true:=List.any_eq_true.2 ⟨x,bH hx,h2⟩;simp[this]
  ·refine go ?_;refine aP (k+1) (by omega) ⟨by omega,?_⟩;rw[take_one hx,List.any_append,hno];simp[h2]
 refine go ?_;have:k=xs.length:=by omega
 subst this;rw[bK]at hno;refine ae (-1) (hv:=rfl) (hp:=?_);rw[hno];simp
theorem ac3{fn:Fn}{first cap:List Value}{F1:List aF}{p:Int->Bool}{va:Value}{xs:List Int}(hl:xs.length<9223372036854775808)(hp:∀x∈xs,MB Tryz.prog fn first cap (.int .i64 x) F1 (p x)):
 bn Tryz.prog (.func 83) [va,.func fn ⟨first⟩ ⟨cap⟩] [] [] (ah aa va xs::F1) (λ_:Unit=>.bool (xs.any p)) (λ_=>[]) (λ_=>[]) (λ_=>True):=by
 refine aI _ (aO 83) λB w0=>?_;refine go ?_;refine ax (ac0 hl hp) (next:=λr hr=>?_);refine go ?_;refine ae () (hv:=?_) (hp:=trivial);have:decide (0<=r)=xs.any p:=by
  by_cases h:0<=r
  ·rw[dS h,hr.1 h]
  ·rw[aU h];cases e:xs.any p with
   |false=>rfl
   |true=>exact absurd (hr.2 e) h
 rw[<- this];rfl
theorem ac4{b4 b5:Nat}{lo hi x:Int}:MB Tryz.prog (.func 84) [] [ptr' b4,ptr' b5] (.int .i64 x) [eH b4 0 [.int .i64 lo],eH b5 0 [.int .i64 hi]] (decide (x<lo\/hi<x)):=by
 refine aI _ (aO 84) λB w0=>?_;refine go ?_;first|with_reducible refine aN (λh1=>?_) (λh1=>?_)|with_reducible refine aM (λh1=>?_) (λh1=>?_)|with_reducible refine aK (λh1=>?_) (λh1=>?_)
 ·refine go ?_;refine ae () (hv:=?_) (hp:=trivial);rw[show decide (x<lo\/hi<x)=decide (hi<x)from nU.2 ⟨λh=>h.elim (λh=>absurd h h1) id,.inr⟩];rfl
 refine go ?_;refine ae () (hv:=?_) (hp:=trivial);rw[dS (.inl h1)];rfl
def wC(xs:List Int)(lo hi:Int):Bool:=decide (∀x∈xs,lo<=x/\x<=hi)
theorem MC{va:Value}{xs:List Int}{lo hi:Int}(hl:xs.length<9223372036854775808):cK Tryz.prog 52 [va,.int .i64 lo,.int .i64 hi] [ah aa va xs] (.bool (wC xs lo hi)):=by
 refine aI _ (aO 52) λB w0=>?_;refine go ?_;intro b4 b5;refine bA (eD (b:=b4)) (h:=?_);refine bA (eD (b:=b5)) (h:=?_);refine ax (ac3 (p:=λx=>decide (x<lo\/hi<x)) hl (λx _=>ac4 (b4:=b4) (b5:=b5))) (next:=λ_ _=>?_);refine go ?_;refine ae () (hv:=?_) (hp:=trivial);have:(!xs.any λx=>decide (x<lo\/hi<x))=wC xs lo hi:=by
  rw[List.not_any_eq_all_not,wC];rw[wS];simp only[lc,wR,Cw,decide_eq_false_iff_not,not_or,Int.not_lt]
 rw[<- this];rfl
structure jX(g:List (List Int)):Prop where
 len:g.length<=256
 ok:∀(i:Nat) l,g[i]? =some l->∀(k:Nat) n,l[k]? =some n->0<=n/\n<g.length/\n≠i/\(∀m,0<k->l[k - 1]? =some m->m<n)/\∀l',g[n.toNat]? =some l'->(i:Int)∈l'
end Go.Proofs.YtoohgkkmdnbnfaaGreatDoor
set_option maxHeartbeats 2000000
namespace Go.Proofs.YtoohgkkmdnbnfaaGreatDoor
open Go.Ideal Kd
noncomputable def TG:gP:=⟨2,[(.tmp 0)],(.seq (.ops [0] [⟨⟨(some 0),none,(.mq (.const (.slice none 0 0)))⟩,[]⟩]) (.seq (.ops [1,0] [⟨⟨(some 1),none,(.uY 9 8 [(.string ⟨⟨[]⟩⟩),(.string ⟨⟨[]⟩⟩),(.string ⟨⟨[]⟩⟩),(.string ⟨⟨[]⟩⟩),(.string ⟨⟨[]⟩⟩),(.string ⟨⟨[]⟩⟩),(.string ⟨⟨[]⟩⟩),(.string ⟨⟨[]⟩⟩)] [⟨0,⟨1,(.const (.string ⟨⟨[99,101,108,108,115]⟩⟩))⟩⟩,⟨1,⟨1,(.const (.string ⟨⟨[114,111,119,115]⟩⟩))⟩⟩,⟨2,⟨1,(.const (.string ⟨⟨[99,111,108,117,109,110,115]⟩⟩))⟩⟩,⟨3,⟨1,(.const (.string ⟨⟨[100,105,97,103,111,110,97,108,115]⟩⟩))⟩⟩,⟨4,⟨1,(.const (.string ⟨⟨[97,114,111,117,110,100]⟩⟩))⟩⟩,⟨5,⟨1,(.const (.string ⟨⟨[110,101,97,114]⟩⟩))⟩⟩,⟨6,⟨1,(.const (.string ⟨⟨[112,97,105,114,115]⟩⟩))⟩⟩,⟨7,⟨1,(.const (.string ⟨⟨[97,108,108]⟩⟩))⟩⟩])⟩,[]⟩,⟨⟨(some 0),none,(.mq (.tmp 1))⟩,[]⟩]) .ret))⟩
theorem ac5:mF Tryz.prog 207=some TG:=by kernel_rfl
abbrev fP:ByteArray->Value:=λs=>.string s
theorem tu:qB Tryz.prog 9 fP:=aa1 (by kernel_rfl)
abbrev rV(e:Int):List PanicEntry:=[{v:=.iface 41 (.int .i64 e),recovered:=false}]
theorem TH{x:ol}:cK Tryz.prog 203 [.agg ⟨[.string x.name,.int .i64 x.value]⟩] [] (.string x.name):=by
 refine aI _ (aO 203) λB w0=>?_;refine go ?_;intro b;refine go ?_;exact ae () (hv:=rfl) (hp:=trivial)
theorem TI{x:lX}{v:Value}:cK Tryz.prog 205 [.agg ⟨[.string x.name,v]⟩] [] (.string x.name):=by
 refine aI _ (aO 205) λB w0=>?_;refine go ?_;intro b;refine go ?_;exact ae () (hv:=rfl) (hp:=trivial)
theorem TJ{x:iR}:cK Tryz.prog 210 [.agg ⟨[.string x.name,.string x.on,.int .i64 x.family,.int .i64 x.type,.int .i64 x.lo,.int .i64 x.hi]⟩] [] (.string x.name):=by
 refine aI _ (aO 210) λB w0=>?_;refine go ?_;intro b;refine go ?_;exact ae () (hv:=rfl) (hp:=trivial)
theorem TK{x:aQ}{v1 v2:Value}:cK Tryz.prog 214 [.agg ⟨iQ x v1 v2⟩] [] (.string x.name):=by
 refine aI _ (aO 214) λB w0=>?_;refine go ?_;intro b;refine go ?_;exact ae () (hv:=rfl) (hp:=trivial)
theorem TL{s:ByteArray}:cK Tryz.prog 208 [.string s] [] (.string s):=by
 refine aI _ (aO 208) λB w0=>?_;refine go ?_;exact ae () (hv:=rfl) (hp:=trivial)
theorem Et{P:Program}{B:List Nat}{w0:Wd}{kl kl':List OA}{F:List aF}{K:KO}{ds:List Tmp}{rest:List bT}{n:Nat}{l:List (Nat×Value)}{D:List Deferred}{pm:Option FrameMode}{ro:Option Nat}{d:Nat}{g:Option (Tmp×Bool)}
 {α:Type} [DecidableEq α] {aX:α->Value} {kt:TypeId} {zero:Value} {m k:Operand} {b:Nat} {ai:List (α×Value)} (hk:qB P kt aX) (a:α)
 (hit:∀v,dG a ai=some v->a∈ai.map (·.1)->R (λh=>aD P ds rest (act n ((d,.tuple ⟨[v,.bool true]⟩)::l) D pm ro) h K) B w0 kl F)
 (miss:a∉ai.map (·.1)->R (λh=>aD P ds rest (act n ((d,.tuple ⟨[zero,.bool false]⟩)::l) D pm ro) h K) B w0 kl F)
 (hm:ev l m=.map (some b):=by rfl) (ha:ev l k=aX a:=by conv=>lhs;whnf) (hs:az (gL aX b ai) kl kl':=by exact gK) (hn:Nat.blt d n=true:=by rfl) (hg:bX l g=true:=by rfl):
 R (λh=>aD P ds (⟨⟨some d,g,.lookup kt zero m k true⟩,[]⟩::rest) (act n l D pm ro) h K) B w0 kl F:=by
 refine D8 (ok:=true) hk a ?_ hm ha hs hn hg;by_cases h:a∈ai.map (·.1)
 ·obtain⟨v,hv⟩:=Eh h;have e:kv true zero a ai=.tuple ⟨[v,.bool true]⟩:=by unfold kv;rw[hv];rfl
  rw[e];exact hit v hv h
 ·have e:kv true zero a ai=.tuple ⟨[zero,.bool false]⟩:=by unfold kv;rw[qC h];rfl
  rw[e];exact miss h
theorem oP{α:Type}{ai:List (ByteArray×Value)}{xs:List α}{nm:α->ByteArray}{start k:Nat}{x:α}(hx:xs[k]? =some x):
 (ai++fu ((xs.take k).map nm) start).map (·.1)=ai.map (·.1)++(xs.take k).map nm/\fu ((xs.take (k+1)).map nm) start=fu ((xs.take k).map nm) start++[(nm x,.int .i64 ((start:Int)+(k:Int)))]:=by
 have hk:=(bP.1 hx).1;refine⟨by rw[eB,rQ],?_⟩;rw[mo,hx,eB,Me];congr 1;rw[cz,gW,Ar (by omega)];simp[fu]
theorem ac6{vs:Value}{xs:List ByteArray}{b start:Nat}{ai:List (ByteArray×Value)}(hl:xs.length<=4096)(hs:start<=4096)(hnd:(ai.map (·.1)).Nodup):
 pQ Tryz.prog (.func 206) [vs,.int .i64 (start:Int),.func (.func 208) #[] #[],.map (some b)] [] [gL fP b ai] [ah aT vs xs] (λy:Bool×List ByteArray=>if y.1=true then .ok (.map (some b))else .fM (rV 161))
  (λy=>[gL fP b (ai++fu y.2 start)]) (λ_=>[]) (λy=>(y.1=true->y.2=xs/\(ai.map (·.1)++xs).Nodup)/\(y.1=false->¬(ai.map (·.1)++xs).Nodup)):=by
 let nm:ByteArray->ByteArray:=λs=>s
 have hmap:∀l:List ByteArray,l.map nm=l:=λl=>List.map_id' l;suffices h:pQ Tryz.prog (.func 206) [vs,.int .i64 (start:Int),.func (.func 208) #[] #[],.map (some b)] [] [gL fP b ai] [ah aT vs xs] (λy:Bool×List ByteArray=>if y.1=true then .ok (.map (some b))else .fM (rV 161))
  (λy=>[gL fP b (ai++fu y.2 start)]) (λ_=>[]) (λy=>(y.1=true->y.2=(xs.map nm)/\(ai.map (·.1)++xs.map nm).Nodup)/\(y.1=false->¬(ai.map (·.1)++xs.map nm).Nodup))by
  rw[hmap]at h;exact h
 refine xU _ (aO 206) λB w0=>?_;refine go ?_;rw[show gL fP b ai=gL fP b (ai++fu ((xs.take 0).map nm) start)by simp[fu]];refine aZ (λk=>xs.length - k) (λk:Nat=>[(15,.int .i64 (k:Int))]) (λk=>[gL fP b (ai++fu ((xs.take k).map nm) start)]) (λ_=>[]) (λk=>k<=xs.length/\(ai.map (·.1)++(xs.take k).map nm).Nodup) 0 ⟨bY _,by simpa using hnd⟩ (body:=?_);rintro k ⟨hk,hall⟩;refine go ?_;refine ay rfl (λh1=>?_) (λh1=>?_)
 ·refine go ?_;refine bi aT (next:=λ_ _ x (y:Unit) hx=>?_);refine go ?_;refine ax (TL (s:=x)) (next:=λ_ _=>?_);refine go ?_;refine Et tu (nm x) (λv hv hm=>?_) (λhm=>?_)
  ·refine go ?_;refine Bv ?_;refine go ?_;refine zC (false,(xs.take k).map nm) (hv:=rfl) (hp:=⟨(λh=>by cases h),λ_ hn=>?_⟩);rw[(oP hx).1]at hm;have hsub:(ai.map (·.1)++(xs.take k).map nm++[nm x]).Nodup:=by
    have e:xs.map nm=(xs.take k).map nm++nm x::(xs.drop (k+1)).map nm:=by
     conv=>lhs;rw[<- r9 k xs]
     rw[eB];congr 1;rw[pg (bP.1 hx).1,gT,(bP.1 hx).2]
    rw[e,<- fB]at hn;rw[iP]at hn⊢;exact⟨hn.1,by simp,λa ha c hc=>hn.2.2 a ha c (by rw[bI.1 hc];exact dM ..)⟩
   rw[iP]at hsub;exact hsub.2.2 _ hm _ (bI.2 rfl) rfl
  refine go ?_;refine ax (TL (s:=x)) (next:=λ_ _=>?_);refine go ?_;refine vW tu (nm x) (ai:=ai++fu ((xs.take k).map nm) start) (v:=.int .i64 ((start:Int)+(k:Int))) ?_;have hm2:=hm;rw[(oP hx).1]at hm2;rw[BI hm,fB,<- (oP (ai:=ai) hx).2];refine go ?_;refine aP (k+1) (by omega) ⟨by omega,?_⟩;rw[mo,hx,eB,<- fB,iP];refine⟨hall,by simp,λa ha c hc=>?_⟩;have:c=nm x:=by simpa using hc
  subst this;intro e;subst e;exact hm2 ha
 have hkl:k=xs.length:=by omega
 subst hkl;rw[bK]at hall;rw[bK];refine go ?_;exact zB (true,xs.map nm) (hv:=rfl) (hp:=⟨λ_=>⟨rfl,hall⟩,λh=>by cases h⟩)
theorem ac7{vs:Value}{xs:List ol}{b start:Nat}{ai:List (ByteArray×Value)}(hl:xs.length<=4096)(hs:start<=4096)(hnd:(ai.map (·.1)).Nodup):
 pQ Tryz.prog (.func 202) [vs,.int .i64 (start:Int),.func (.func 203) #[] #[],.map (some b)] [] [gL fP b ai] [ah fq vs xs] (λy:Bool×List ByteArray=>if y.1=true then .ok (.map (some b))else .fM (rV 161))
  (λy=>[gL fP b (ai++fu y.2 start)]) (λ_=>[]) (λy=>(y.1=true->y.2=(xs.map ol.name)/\(ai.map (·.1)++xs.map ol.name).Nodup)/\(y.1=false->¬(ai.map (·.1)++xs.map ol.name).Nodup)):=by
 let nm:ol->ByteArray:=ol.name
 refine xU _ (aO 202) λB w0=>?_;refine go ?_;rw[show gL fP b ai=gL fP b (ai++fu ((xs.take 0).map nm) start)by simp[fu]];refine aZ (λk=>xs.length - k) (λk:Nat=>[(15,.int .i64 (k:Int))]) (λk=>[gL fP b (ai++fu ((xs.take k).map nm) start)]) (λ_=>[]) (λk=>k<=xs.length/\(ai.map (·.1)++(xs.take k).map nm).Nodup) 0 ⟨bY _,by simpa using hnd⟩ (body:=?_);rintro k ⟨hk,hall⟩;refine go ?_;refine ay rfl (λh1=>?_) (λh1=>?_)
 ·refine go ?_;refine bi fq (next:=λ_ _ x y hx=>?_);refine go ?_;intro b10;refine go ?_;refine ax (TH (x:=x)) (next:=λ_ _=>?_);refine go ?_;refine Et tu (nm x) (λv hv hm=>?_) (λhm=>?_)
  ·refine go ?_;refine Bv ?_;refine go ?_;refine zC (false,(xs.take k).map nm) (hv:=rfl) (hp:=⟨(λh=>by cases h),λ_ hn=>?_⟩);rw[(oP hx).1]at hm;have hsub:(ai.map (·.1)++(xs.take k).map nm++[nm x]).Nodup:=by
    have e:xs.map nm=(xs.take k).map nm++nm x::(xs.drop (k+1)).map nm:=by
     conv=>lhs;rw[<- r9 k xs]
     rw[eB];congr 1;rw[pg (bP.1 hx).1,gT,(bP.1 hx).2]
    rw[e,<- fB]at hn;rw[iP]at hn⊢;exact⟨hn.1,by simp,λa ha c hc=>hn.2.2 a ha c (by rw[bI.1 hc];exact dM ..)⟩
   rw[iP]at hsub;exact hsub.2.2 _ hm _ (bI.2 rfl) rfl
  refine go ?_;refine ax (TH (x:=x)) (next:=λ_ _=>?_);refine go ?_;refine vW tu (nm x) (ai:=ai++fu ((xs.take k).map nm) start) (v:=.int .i64 ((start:Int)+(k:Int))) ?_;have hm2:=hm;rw[(oP hx).1]at hm2;rw[BI hm,fB,<- (oP (ai:=ai) hx).2];refine go ?_;refine aP (k+1) (by omega) ⟨by omega,?_⟩;rw[mo,hx,eB,<- fB,iP];refine⟨hall,by simp,λa ha c hc=>?_⟩;have:c=nm x:=by simpa using hc
  subst this;intro e;subst e;exact hm2 ha
 have hkl:k=xs.length:=by omega
 subst hkl;rw[bK]at hall;rw[bK];refine go ?_;exact zB (true,xs.map nm) (hv:=rfl) (hp:=⟨λ_=>⟨rfl,hall⟩,λh=>by cases h⟩)
theorem ac8{vs:Value}{xs:List lX}{b start:Nat}{ai:List (ByteArray×Value)}(hl:xs.length<=4096)(hs:start<=4096)(hnd:(ai.map (·.1)).Nodup):
 pQ Tryz.prog (.func 204) [vs,.int .i64 (start:Int),.func (.func 205) #[] #[],.map (some b)] [] [gL fP b ai] [ah eG vs xs] (λy:Bool×List ByteArray=>if y.1=true then .ok (.map (some b))else .fM (rV 161))
  (λy=>[gL fP b (ai++fu y.2 start)]) (λ_=>[]) (λy=>(y.1=true->y.2=(xs.map lX.name)/\(ai.map (·.1)++xs.map lX.name).Nodup)/\(y.1=false->¬(ai.map (·.1)++xs.map lX.name).Nodup)):=by
 let nm:lX->ByteArray:=lX.name
 refine xU _ (aO 204) λB w0=>?_;refine go ?_;rw[show gL fP b ai=gL fP b (ai++fu ((xs.take 0).map nm) start)by simp[fu]];refine aZ (λk=>xs.length - k) (λk:Nat=>[(15,.int .i64 (k:Int))]) (λk=>[gL fP b (ai++fu ((xs.take k).map nm) start)]) (λ_=>[]) (λk=>k<=xs.length/\(ai.map (·.1)++(xs.take k).map nm).Nodup) 0 ⟨bY _,by simpa using hnd⟩ (body:=?_);rintro k ⟨hk,hall⟩;refine go ?_;refine ay rfl (λh1=>?_) (λh1=>?_)
 ·refine go ?_;refine bi eG (next:=λ_ _ x y hx=>?_);refine go ?_;intro b10;refine go ?_;refine ax (TI (x:=x) (v:=y)) (next:=λ_ _=>?_);refine go ?_;refine Et tu (nm x) (λv hv hm=>?_) (λhm=>?_)
  ·refine go ?_;refine Bv ?_;refine go ?_;refine zC (false,(xs.take k).map nm) (hv:=rfl) (hp:=⟨(λh=>by cases h),λ_ hn=>?_⟩);rw[(oP hx).1]at hm;have hsub:(ai.map (·.1)++(xs.take k).map nm++[nm x]).Nodup:=by
    have e:xs.map nm=(xs.take k).map nm++nm x::(xs.drop (k+1)).map nm:=by
     conv=>lhs;rw[<- r9 k xs]
     rw[eB];congr 1;rw[pg (bP.1 hx).1,gT,(bP.1 hx).2]
    rw[e,<- fB]at hn;rw[iP]at hn⊢;exact⟨hn.1,by simp,λa ha c hc=>hn.2.2 a ha c (by rw[bI.1 hc];exact dM ..)⟩
   rw[iP]at hsub;exact hsub.2.2 _ hm _ (bI.2 rfl) rfl
  refine go ?_;refine ax (TI (x:=x) (v:=y)) (next:=λ_ _=>?_);refine go ?_;refine vW tu (nm x) (ai:=ai++fu ((xs.take k).map nm) start) (v:=.int .i64 ((start:Int)+(k:Int))) ?_;have hm2:=hm;rw[(oP hx).1]at hm2;rw[BI hm,fB,<- (oP (ai:=ai) hx).2];refine go ?_;refine aP (k+1) (by omega) ⟨by omega,?_⟩;rw[mo,hx,eB,<- fB,iP];refine⟨hall,by simp,λa ha c hc=>?_⟩;have:c=nm x:=by simpa using hc
  subst this;intro e;subst e;exact hm2 ha
 have hkl:k=xs.length:=by omega
 subst hkl;rw[bK]at hall;rw[bK];refine go ?_;exact zB (true,xs.map nm) (hv:=rfl) (hp:=⟨λ_=>⟨rfl,hall⟩,λh=>by cases h⟩)
theorem ac9{vs:Value}{xs:List iR}{b start:Nat}{ai:List (ByteArray×Value)}(hl:xs.length<=4096)(hs:start<=4096)(hnd:(ai.map (·.1)).Nodup):
 pQ Tryz.prog (.func 209) [vs,.int .i64 (start:Int),.func (.func 210) #[] #[],.map (some b)] [] [gL fP b ai] [ah bM vs xs] (λy:Bool×List ByteArray=>if y.1=true then .ok (.map (some b))else .fM (rV 161))
  (λy=>[gL fP b (ai++fu y.2 start)]) (λ_=>[]) (λy=>(y.1=true->y.2=(xs.map iR.name)/\(ai.map (·.1)++xs.map iR.name).Nodup)/\(y.1=false->¬(ai.map (·.1)++xs.map iR.name).Nodup)):=by
 let nm:iR->ByteArray:=iR.name
 refine xU _ (aO 209) λB w0=>?_;refine go ?_;rw[show gL fP b ai=gL fP b (ai++fu ((xs.take 0).map nm) start)by simp[fu]];refine aZ (λk=>xs.length - k) (λk:Nat=>[(15,.int .i64 (k:Int))]) (λk=>[gL fP b (ai++fu ((xs.take k).map nm) start)]) (λ_=>[]) (λk=>k<=xs.length/\(ai.map (·.1)++(xs.take k).map nm).Nodup) 0 ⟨bY _,by simpa using hnd⟩ (body:=?_);rintro k ⟨hk,hall⟩;refine go ?_;refine ay rfl (λh1=>?_) (λh1=>?_)
 ·refine go ?_;refine bi bM (next:=λ_ _ x y hx=>?_);refine go ?_;intro b10;refine go ?_;refine ax (TJ (x:=x)) (next:=λ_ _=>?_);refine go ?_;refine Et tu (nm x) (λv hv hm=>?_) (λhm=>?_)
  ·refine go ?_;refine Bv ?_;refine go ?_;refine zC (false,(xs.take k).map nm) (hv:=rfl) (hp:=⟨(λh=>by cases h),λ_ hn=>?_⟩);rw[(oP hx).1]at hm;have hsub:(ai.map (·.1)++(xs.take k).map nm++[nm x]).Nodup:=by
    have e:xs.map nm=(xs.take k).map nm++nm x::(xs.drop (k+1)).map nm:=by
     conv=>lhs;rw[<- r9 k xs]
     rw[eB];congr 1;rw[pg (bP.1 hx).1,gT,(bP.1 hx).2]
    rw[e,<- fB]at hn;rw[iP]at hn⊢;exact⟨hn.1,by simp,λa ha c hc=>hn.2.2 a ha c (by rw[bI.1 hc];exact dM ..)⟩
   rw[iP]at hsub;exact hsub.2.2 _ hm _ (bI.2 rfl) rfl
  refine go ?_;refine ax (TJ (x:=x)) (next:=λ_ _=>?_);refine go ?_;refine vW tu (nm x) (ai:=ai++fu ((xs.take k).map nm) start) (v:=.int .i64 ((start:Int)+(k:Int))) ?_;have hm2:=hm;rw[(oP hx).1]at hm2;rw[BI hm,fB,<- (oP (ai:=ai) hx).2];refine go ?_;refine aP (k+1) (by omega) ⟨by omega,?_⟩;rw[mo,hx,eB,<- fB,iP];refine⟨hall,by simp,λa ha c hc=>?_⟩;have:c=nm x:=by simpa using hc
  subst this;intro e;subst e;exact hm2 ha
 have hkl:k=xs.length:=by omega
 subst hkl;rw[bK]at hall;rw[bK];refine go ?_;exact zB (true,xs.map nm) (hv:=rfl) (hp:=⟨λ_=>⟨rfl,hall⟩,λh=>by cases h⟩)
theorem ada{vs:Value}{xs:List aQ}{b start:Nat}{ai:List (ByteArray×Value)}(hl:xs.length<=4096)(hs:start<=4096)(hnd:(ai.map (·.1)).Nodup):
 pQ Tryz.prog (.func 213) [vs,.int .i64 (start:Int),.func (.func 214) #[] #[],.map (some b)] [] [gL fP b ai] [ah aY vs xs] (λy:Bool×List ByteArray=>if y.1=true then .ok (.map (some b))else .fM (rV 161))
  (λy=>[gL fP b (ai++fu y.2 start)]) (λ_=>[]) (λy=>(y.1=true->y.2=(xs.map aQ.name)/\(ai.map (·.1)++xs.map aQ.name).Nodup)/\(y.1=false->¬(ai.map (·.1)++xs.map aQ.name).Nodup)):=by
 let nm:aQ->ByteArray:=aQ.name
 refine xU _ (aO 213) λB w0=>?_;refine go ?_;rw[show gL fP b ai=gL fP b (ai++fu ((xs.take 0).map nm) start)by simp[fu]];refine aZ (λk=>xs.length - k) (λk:Nat=>[(15,.int .i64 (k:Int))]) (λk=>[gL fP b (ai++fu ((xs.take k).map nm) start)]) (λ_=>[]) (λk=>k<=xs.length/\(ai.map (·.1)++(xs.take k).map nm).Nodup) 0 ⟨bY _,by simpa using hnd⟩ (body:=?_);rintro k ⟨hk,hall⟩;refine go ?_;refine ay rfl (λh1=>?_) (λh1=>?_)
 ·refine go ?_;refine bi aY (next:=λ_ _ x y hx=>?_);refine go ?_;intro b10;refine go ?_;refine ax (TK (x:=x) (v1:=y.1) (v2:=y.2)) (next:=λ_ _=>?_);refine go ?_;refine Et tu (nm x) (λv hv hm=>?_) (λhm=>?_)
  ·refine go ?_;refine Bv ?_;refine go ?_;refine zC (false,(xs.take k).map nm) (hv:=rfl) (hp:=⟨(λh=>by cases h),λ_ hn=>?_⟩);rw[(oP hx).1]at hm;have hsub:(ai.map (·.1)++(xs.take k).map nm++[nm x]).Nodup:=by
    have e:xs.map nm=(xs.take k).map nm++nm x::(xs.drop (k+1)).map nm:=by
     conv=>lhs;rw[<- r9 k xs]
     rw[eB];congr 1;rw[pg (bP.1 hx).1,gT,(bP.1 hx).2]
    rw[e,<- fB]at hn;rw[iP]at hn⊢;exact⟨hn.1,by simp,λa ha c hc=>hn.2.2 a ha c (by rw[bI.1 hc];exact dM ..)⟩
   rw[iP]at hsub;exact hsub.2.2 _ hm _ (bI.2 rfl) rfl
  refine go ?_;refine ax (TK (x:=x) (v1:=y.1) (v2:=y.2)) (next:=λ_ _=>?_);refine go ?_;refine vW tu (nm x) (ai:=ai++fu ((xs.take k).map nm) start) (v:=.int .i64 ((start:Int)+(k:Int))) ?_;have hm2:=hm;rw[(oP hx).1]at hm2;rw[BI hm,fB,<- (oP (ai:=ai) hx).2];refine go ?_;refine aP (k+1) (by omega) ⟨by omega,?_⟩;rw[mo,hx,eB,<- fB,iP];refine⟨hall,by simp,λa ha c hc=>?_⟩;have:c=nm x:=by simpa using hc
  subst this;intro e;subst e;exact hm2 ha
 have hkl:k=xs.length:=by omega
 subst hkl;rw[bK]at hall;rw[bK];refine go ?_;exact zB (true,xs.map nm) (hv:=rfl) (hp:=⟨λ_=>⟨rfl,hall⟩,λh=>by cases h⟩)
end Go.Proofs.YtoohgkkmdnbnfaaGreatDoor
namespace Go.Proofs.YtoohgkkmdnbnfaaGreatDoor
open Go.Ideal Kd
noncomputable def ME:gP:=⟨9,[],(.seq (.ops [3,2] [⟨⟨(some 3),none,.recover⟩,[]⟩,⟨⟨(some 2),none,(.mq (.tmp 3))⟩,[]⟩]) (.seq (.ops [4,5] [⟨⟨(some 4),none,(.mv (.tmp 2))⟩,[]⟩,⟨⟨(some 5),none,(.bin .neq 20 (.tmp 4) (.const .nilIface))⟩,[]⟩]) (.cond (.tmp 5) (.ops [6,7,8] [⟨⟨(some 6),none,(.build [(.string ⟨⟨[]⟩⟩),(.int .i64 0),(.int .i64 0),(.int .i64 0),(.int .i64 0),(.slice none 0 0),(.slice none 0 0),(.slice none 0 0),(.slice none 0 0),(.slice none 0 0)] [])⟩,[]⟩,⟨⟨(some 7),none,(.mv (.tmp 2))⟩,[]⟩,⟨⟨(some 8),none,(.Fy 41 (.int .i64 0) false (.tmp 7))⟩,[]⟩,⟨⟨none,none,(.store 10 (.tmp 0) (.tmp 6))⟩,[]⟩,⟨⟨none,none,(.store 1 (.tmp 1) (.tmp 8))⟩,[]⟩]) .skip)))⟩
theorem TM:mF Tryz.prog 201=some ME:=by kernel_rfl
section
variable {P:Program} {B:List Nat} {w0:Wd} {kl kl':List OA} {F:List aF} {K:KO} {ds:List Tmp} {rest:List bT} {n:Nat} {l:List (Nat×Value)} {D:List Deferred} {pm:Option FrameMode} {ro:Option Nat} {d:Nat} {g:Option (Tmp×Bool)}
theorem TN{α:Type}[DecidableEq α]{aX:α->Value}{kt:TypeId}{zero:Value}{m k:Operand}{b:Nat}{ai:List (α×Value)}(hk:qB P kt aX)(a:α)
 (hit:∀v,dG a ai=some v->a∈ai.map (·.1)->R (λh=>aD P ds rest (act n ((d,.tuple ⟨[v,.bool true]⟩)::l) D pm ro) h K) B w0 kl F)
 (miss:a∉ai.map (·.1)->R (λh=>aD P ds rest (act n ((d,.tuple ⟨[zero,.bool false]⟩)::l) D pm ro) h K) B w0 kl F)
 (hm:ev l m=.map (some b):=by rfl) (ha:ev l k=aX a:=by conv=>lhs;whnf) (hf:rF aX b ai∈F:=by exact vS) (hn:Nat.blt d n=true:=by rfl) (hg:bX l g=true:=by rfl):
 R (λh=>aD P ds (⟨⟨some d,g,.lookup kt zero m k true⟩,[]⟩::rest) (act n l D pm ro) h K) B w0 kl F:=by
 refine Rv (ok:=true) hk a ?_ hm ha hf hn hg;by_cases h:a∈ai.map (·.1)
 ·obtain⟨v,hv⟩:=Eh h;have e:kv true zero a ai=.tuple ⟨[v,.bool true]⟩:=by unfold kv;rw[hv];rfl
  rw[e];exact hit v hv h
 ·have e:kv true zero a ai=.tuple ⟨[zero,.bool false]⟩:=by unfold kv;rw[qC h];rfl
  rw[e];exact miss h
theorem MF{α:Type}(E:Enc α){v:Value}{aL:List (α×E.Y)}{Q:IH->Prop}(h0:aL=[]->∀c,v=.slice none 0 c->R Q B w0 kl F)(h1:aL=[]->∀i o f c,v=.slice (some ⟨i,o,some f⟩) 0 c->R Q B w0 kl F)
 (h2:0<aL.length->∀i o f c,v=.slice (some ⟨i,o,some f⟩) aL.length c->R Q B w0 kl F) (hf:rH E v aL∈F:=by exact vS):R Q B w0 kl F:=λw s=>by
 rcases s.facts _ hf with⟨e,a,c,hv,hg⟩|⟨i,o,f,c,cells,⟨hv,_⟩,_⟩
 ·match a,hv,hg with
  |none,hv,_=>exact h0 e c hv w s
  |some ⟨i,o,some f⟩,hv,_=>exact h1 e i o f c hv w s
 ·by_cases hx:aL=[]
  ·subst hx;exact h1 rfl i o f c hv w s
  ·exact h2 (Cv.2 hx) i o f c hv w s
theorem MG{α:Type}(E:Enc α){Q:IH->Prop}(h:R Q B w0 (ar E (.slice none 0 0) []::kl) F):R Q B w0 kl F:=λw s=>by
 obtain⟨S,h1,h2,h3⟩:=s.own;exact h w ⟨s.agree,s.le,s.fI,⟨S,⟨[],S,.inl ⟨rfl,⟨none,rfl,trivial⟩,rfl⟩,h1,rfl⟩,h2,h3⟩,s.facts⟩
end
theorem adb:bn Tryz.prog (.func 207) [] [] [] [] (λv:Value=>v) (λ_=>[]) (λv=>[ah aT v iM]) (λ_=>True):=by
 refine aI TG ac5 λB w0=>?_;refine go ?_;intro b;refine go ?_;refine sW (b:=b) (m:=8) (f:=0) aT (aL:=iM.map λs=>(s,())) rfl (.inl rfl) ?_ (hk:=az.here);refine Hw (E:=aT) ?_ (λw hw p hp f hf=>by cases hf);exact ae (.slice (some ⟨b,0,some 0⟩) 8 8) (hv:=rfl) (hp:=trivial) (hF:=.cons (dJ _ (dM ..)) .nil)
theorem IJ{b:Nat}{s:ByteArray}{ai:List (ByteArray×Value)}:
 pQ Tryz.prog (.func 212) [.map (some b),.string s] [] [] [rF fP b ai] (λy:Option Value=>match y with|some v=>.ok v|none=>.fM (rV 160)) (λ_=>[]) (λ_=>[]) (λy=>y=dG s ai):=by
 refine xU _ (aO 212) λB w0=>?_;refine go ?_;refine TN tu s (λv hv hm=>?_) (λhm=>?_)
 ·refine go ?_;exact zB (some v) (hv:=rfl) (hp:=hv.symm)
 ·refine go ?_;refine Bv ?_;refine go ?_;exact zC none (hv:=rfl) (hp:=(qC hm).symm)
theorem TP{dO l:List ByteArray}{k:Nat}{s:ByteArray}(h:l[k]? =some s):gp dO (l.take (k+1))=gp dO (l.take k)|||1<<<dU s dO:=by
 unfold gp;rw[mo,h,Fu];rfl
theorem MH{dO:List ByteArray}(hs:dO.length<=16):∀(l:List ByteArray) (m:Nat),(∀s∈l,s∈dO)->m<65536->l.foldl (λm s=>m|||1<<<dU s dO) m<65536
 |[],m,_,hm=>hm
 |s::l,m,h,hm=>by
  rw[tN];refine MH hs l _ (λx hx=>h x (dJ _ hx)) ?_;have h1:=xX (h s (dM ..));have h2:1<<<dU s dO<2^16:=by
   rw[Nat.shiftLeft_eq,yO];exact Fv (by omega) (by omega)
  exact Nat.or_lt_two_pow (n:=16) hm h2
theorem TQ{b4 bs:Nat}{vl:Value}{dO l:List ByteArray}(hs:dO.length<=16)(hl:l.length<9223372036854775808):
 pQ Tryz.prog (.func 216) [vl] [ptr' b4] [] [eH b4 0 [.map (some bs)],rF fP bs (fu dO 0),ah aT vl l] (λy:Bool=>if y=true then .ok (.int .i64 (gp dO l:Int))else .fM (rV 160)) (λ_=>[]) (λ_=>[])
  (λy=>(y=true->∀s∈l,s∈dO)/\(y=false->¬∀s∈l,s∈dO)):=by
 refine xU _ (aO 216) λB w0=>?_;refine go ?_;refine aZ (λk=>l.length - k) (λk:Nat=>[(8,.int .i64 (k:Int)),(3,.int .i64 (gp dO (l.take k):Int))]) (λ_=>[]) (λ_=>[]) (λk=>k<=l.length/\∀s∈l.take k,s∈dO) 0 ⟨bY _,by simp⟩ (body:=?_);rintro k ⟨hk,hall⟩;refine go ?_;refine ay rfl (λh1=>?_) (λh1=>?_)
 ·refine go ?_;refine bi aT (next:=λ_ _ x (y:Unit) hx=>?_);refine go ?_;refine sV (IJ (b:=bs) (s:=x) (ai:=fu dO 0)) (λy v hy e=>?_) (λy ch hy e=>?_)
  ·have hm:x∈dO:=by
    by_cases h:x∈dO
    ·exact h
    ·rw[qC (by rw[rQ];exact h)]at hy;subst hy;cases e
   rw[vZ hm]at hy;subst hy;injection e with e;subst e;have hp:=xX hm;have h2:1<<<dU x dO<2^16:=by
    rw[Nat.shiftLeft_eq,yO];exact Fv (by omega) (by omega)
   have h3:=MH hs (l.take k) 0 hall (by omega);rw[fD];refine(fJ rfl rfl (Hl (a:=1) (b:=dU x dO) rfl rfl (by omega) (by omega))).h ?_;refine(fJ rfl rfl (QZ (a:=gp dO (l.take k)) (b:=1<<<dU x dO) rfl rfl (Nat.lt_trans h3 (by omega)) (by omega))).h ?_;refine go ?_;refine aP (k+1) (by omega) ⟨by omega,λs hs'=>?_⟩ (hl:=⟨rfl,by rw[TP hx];rfl,by repeat (first|exact trivial|refine⟨rfl,?_⟩)⟩);rw[mo,hx]at hs';rcases dZ.1 hs' with h|h
   ·exact hall s h
   ·have:s=x:=by simpa using h
    rw[this];exact hm
  ·refine go ?_;have hm:x∉dO:=by
    intro h;rw[vZ h]at hy;subst hy;cases e
   have hch:ch=rV 160:=by
    rw[qC (by rw[rQ];exact hm)]at hy;subst hy;injection e with e;exact e.symm
   subst hch;exact zC false (hv:=rfl) (hp:=⟨(λh=>by cases h),λ_ h=>hm (h x (bH hx))⟩)
 have hkl:k=l.length:=by omega
 subst hkl;rw[bK]at hall⊢;refine go ?_;exact zB true (hv:=rfl) (hp:=⟨λ_=>hall,λh=>by cases h⟩)
theorem ade{v:Value}{aL:List (iR×bM.Y)}(hl:aL.length<=4096):bn Tryz.prog (.func 211) [v] [] [] [rH bM v aL] (λv':Value=>v') (λv'=>[ar bM v' aL]) (λ_=>[]) (λ_=>True):=by
 refine aI _ (aO 211) λB w0=>?_;refine MF (v:=v) (aL:=aL) bM (λe c ev=>?_) (λe i o f c ev=>?_) (λhne i o f c ev=>?_)
 ·subst e ev;refine go ?_;refine(fJ rfl rfl (Hy (e:=115) (by kernel_rfl) rfl)).h ?_;refine go ?_;refine MG bM ?_;exact ae (.slice none 0 0) (hv:=rfl) (hp:=trivial)
 ·subst e ev;refine go ?_;refine(fJ rfl rfl (BA (e:=115) (by kernel_rfl) rfl)).h ?_;refine go ?_;intro b;refine go ?_;refine LV (b:=b) ?_;refine go ?_;refine sW (b:=b) (m:=0) (f:=0) bM (aL:=[]) rfl (.inl rfl) ?_ (hk:=az.here);exact ae (.slice (some ⟨b,0,some 0⟩) 0 0) (hv:=rfl) (hp:=trivial)
 ·subst ev;refine go ?_;refine(fJ rfl rfl (BA (e:=115) (by kernel_rfl) rfl)).h ?_;refine go ?_;intro b;refine go ?_;refine LW (b:=b) bM aL hne (by omega) (λb'=>?_);refine go ?_;refine sW (b:=b') (m:=aL.length) (f:=bM.n) bM (aL:=aL) rfl (.inr rfl) ?_ (hk:=az.here);exact ae (.slice (some ⟨b',0,some bM.n⟩) aL.length aL.length) (hv:=rfl) (hp:=trivial)
theorem adf{v:Value}{aL:List (aQ×aY.Y)}(hl:aL.length<=4096):bn Tryz.prog (.func 215) [v] [] [] [rH aY v aL] (λv':Value=>v') (λv'=>[ar aY v' aL]) (λ_=>[]) (λ_=>True):=by
 refine aI _ (aO 215) λB w0=>?_;refine MF (v:=v) (aL:=aL) aY (λe c ev=>?_) (λe i o f c ev=>?_) (λhne i o f c ev=>?_)
 ·subst e ev;refine go ?_;refine(fJ rfl rfl (Hy (e:=71) (by kernel_rfl) rfl)).h ?_;refine go ?_;refine MG aY ?_;exact ae (.slice none 0 0) (hv:=rfl) (hp:=trivial)
 ·subst e ev;refine go ?_;refine(fJ rfl rfl (BA (e:=71) (by kernel_rfl) rfl)).h ?_;refine go ?_;intro b;refine go ?_;refine LV (b:=b) ?_;refine go ?_;refine sW (b:=b) (m:=0) (f:=0) aY (aL:=[]) rfl (.inl rfl) ?_ (hk:=az.here);exact ae (.slice (some ⟨b,0,some 0⟩) 0 0) (hv:=rfl) (hp:=trivial)
 ·subst ev;refine go ?_;refine(fJ rfl rfl (BA (e:=71) (by kernel_rfl) rfl)).h ?_;refine go ?_;intro b;refine go ?_;refine LW (b:=b) aY aL hne (by omega) (λb'=>?_);refine go ?_;refine sW (b:=b') (m:=aL.length) (f:=aY.n) aY (aL:=aL) rfl (.inr rfl) ?_ (hk:=az.here);exact ae (.slice (some ⟨b',0,some aY.n⟩) aL.length aL.length) (hv:=rfl) (hp:=trivial)
end Go.Proofs.YtoohgkkmdnbnfaaGreatDoor
set_option maxHeartbeats 4000000
namespace Go.Proofs.YtoohgkkmdnbnfaaGreatDoor
open Go.Ideal Kd
noncomputable def IK:gP:=⟨128,[(.pE 10 2),(.cell1 3)],(.seq (.ops [1,2,3] [⟨⟨(some 1),none,(.box (.tmp 0) 28)⟩,[]⟩,⟨⟨(some 2),none,(.new [(.string ⟨⟨[]⟩⟩),(.int .i64 0),(.int .i64 0),(.int .i64 0),(.int .i64 0),(.slice none 0 0),(.slice none 0 0),(.slice none 0 0),(.slice none 0 0),(.slice none 0 0)] 28)⟩,[]⟩,⟨⟨(some 3),none,(.new [(.int .i64 0)] 41)⟩,[]⟩]) (.seq (.ops [11] [⟨⟨(some 11),none,(.Aw (.func 201) [] [(.tmp 2),(.tmp 3)])⟩,[]⟩,⟨⟨none,none,(.dcall (.tmp 11) [])⟩,[]⟩]) (.seq (.seq (.ops [12,13,14,15] [⟨⟨(some 12),none,(.fK 6 (.tmp 1))⟩,[]⟩,⟨⟨(some 13),none,(.gM (.tmp 12))⟩,[]⟩,⟨⟨(some 14),none,(.u7 (.tmp 13))⟩,[]⟩,⟨⟨(some 15),none,(.bin .gtr 3 (.tmp 14) (.const (.int .i64 16)))⟩,[]⟩]) (.cond (.tmp 15) (.seq (.ops [16] [⟨⟨(some 16),none,(.pq 10 (.tmp 2))⟩,[]⟩,⟨⟨none,none,(.store 10 (.tmp 2) (.tmp 16))⟩,[]⟩,⟨⟨none,none,(.store 1 (.tmp 3) (.const (.int .i64 2)))⟩,[]⟩]) .ret) .skip)) (.seq (.ops [17,18,19,20,4] [⟨⟨(some 17),none,(.fK 6 (.tmp 1))⟩,[]⟩,⟨⟨(some 18),none,(.gM (.tmp 17))⟩,[]⟩,⟨⟨(some 19),none,.ug⟩,[]⟩,⟨⟨(some 20),none,(.call (.func 202) [(.tmp 18),(.const (.int .i64 0)),(.func 203),(.tmp 19)])⟩,[]⟩,⟨⟨(some 4),none,(.new [(.map none)] 245)⟩,[]⟩,⟨⟨none,none,(.store 1 (.tmp 4) (.tmp 20))⟩,[]⟩]) (.seq (.ops [21,22,23,24,25,26,5] [⟨⟨(some 21),none,(.fK 7 (.tmp 1))⟩,[]⟩,⟨⟨(some 22),none,(.gM (.tmp 21))⟩,[]⟩,⟨⟨(some 24),none,.ug⟩,[]⟩,⟨⟨(some 23),none,(.call (.func 207) [])⟩,[⟨(some 22),none,(.gM (.tmp 21))⟩]⟩,⟨⟨(some 25),none,(.call (.func 206) [(.tmp 23),(.const (.int .i64 0)),(.func 208),(.tmp 24)])⟩,[⟨(some 22),none,(.gM (.tmp 21))⟩]⟩,⟨⟨(some 26),none,(.call (.func 204) [(.tmp 22),(.const (.int .i64 8)),(.func 205),(.tmp 25)])⟩,[]⟩,⟨⟨(some 5),none,(.mq (.tmp 26))⟩,[]⟩]) (.seq (.ops [27,28,29,30,6] [⟨⟨(some 27),none,(.fK 8 (.tmp 1))⟩,[]⟩,⟨⟨(some 28),none,(.gM (.tmp 27))⟩,[]⟩,⟨⟨(some 29),none,.ug⟩,[]⟩,⟨⟨(some 30),none,(.call (.func 209) [(.tmp 28),(.const (.int .i64 0)),(.func 210),(.tmp 29)])⟩,[]⟩,⟨⟨(some 6),none,(.mq (.tmp 30))⟩,[]⟩]) (.seq (.ops [31,32,33,34] [⟨⟨(some 31),none,(.fK 8 (.tmp 1))⟩,[]⟩,⟨⟨(some 32),none,(.gM (.tmp 31))⟩,[]⟩,⟨⟨(some 33),none,(.call (.func 211) [(.tmp 32)])⟩,[]⟩,⟨⟨(some 34),none,(.fK 8 (.tmp 1))⟩,[]⟩,⟨⟨none,none,(.store 1 (.tmp 34) (.tmp 33))⟩,[]⟩]) (.seq (.seq (.ops [35,36,37,38] [⟨⟨(some 35),none,(.fK 8 (.tmp 1))⟩,[]⟩,⟨⟨(some 36),none,(.gM (.tmp 35))⟩,[]⟩,⟨⟨(some 37),none,(.u7 (.tmp 36))⟩,[]⟩,⟨⟨(some 38),none,(.mv (.const (.int .i64 0)))⟩,[]⟩]) (.block 0 (.loop (.seq (.ops [39] [⟨⟨(some 39),none,(.bin .lss 3 (.tmp 38) (.tmp 37))⟩,[]⟩]) (.seq (.cond (.tmp 39) .skip (.exit 0)) (.seq (.block 1 (.seq (.ops [40,7] [⟨⟨(some 40),none,(.mv (.tmp 38))⟩,[]⟩,⟨⟨(some 7),none,(.mq (.tmp 40))⟩,[]⟩]) (.ops [41,42,43,44,45,46,47,48,49,50,51,52,53] [⟨⟨(some 41),none,(.fK 8 (.tmp 1))⟩,[]⟩,⟨⟨(some 42),none,(.gM (.tmp 41))⟩,[]⟩,⟨⟨(some 43),none,(.mv (.tmp 7))⟩,[]⟩,⟨⟨(some 44),none,(.mv (.tmp 5))⟩,[]⟩,⟨⟨(some 45),none,(.fK 8 (.tmp 1))⟩,[]⟩,⟨⟨(some 46),none,(.gM (.tmp 45))⟩,[]⟩,⟨⟨(some 47),none,(.mv (.tmp 7))⟩,[]⟩,⟨⟨(some 48),none,(.mR 6 (.tmp 46) (.tmp 47))⟩,[]⟩,⟨⟨(some 49),none,(.fK 1 (.tmp 48))⟩,[]⟩,⟨⟨(some 50),none,(.gM (.tmp 49))⟩,[]⟩,⟨⟨(some 51),none,(.call (.func 212) [(.tmp 44),(.tmp 50)])⟩,[⟨(some 42),none,(.gM (.tmp 41))⟩]⟩,⟨⟨(some 52),none,(.mR 6 (.tmp 42) (.tmp 43))⟩,[]⟩,⟨⟨(some 53),none,(.fK 2 (.tmp 52))⟩,[]⟩,⟨⟨none,none,(.store 1 (.tmp 53) (.tmp 51))⟩,[]⟩]))) (.ops [54,38] [⟨⟨(some 54),none,(.bin .add 3 (.tmp 38) (.const (.int .i64 1)))⟩,[]⟩,⟨⟨(some 38),none,(.mv (.tmp 54))⟩,[]⟩]))))))) (.seq (.ops [55,56,57,58] [⟨⟨(some 55),none,(.fK 9 (.tmp 1))⟩,[]⟩,⟨⟨(some 56),none,(.gM (.tmp 55))⟩,[]⟩,⟨⟨(some 57),none,.ug⟩,[]⟩,⟨⟨(some 58),none,(.call (.func 213) [(.tmp 56),(.const (.int .i64 0)),(.func 214),(.tmp 57)])⟩,[]⟩]) (.seq (.ops [59,60,61,62] [⟨⟨(some 59),none,(.fK 9 (.tmp 1))⟩,[]⟩,⟨⟨(some 60),none,(.gM (.tmp 59))⟩,[]⟩,⟨⟨(some 61),none,(.call (.func 215) [(.tmp 60)])⟩,[]⟩,⟨⟨(some 62),none,(.fK 9 (.tmp 1))⟩,[]⟩,⟨⟨none,none,(.store 1 (.tmp 62) (.tmp 61))⟩,[]⟩]) (.seq (.ops [63,8] [⟨⟨(some 63),none,(.Aw (.func 216) [] [(.tmp 4)])⟩,[]⟩,⟨⟨(some 8),none,(.mq (.tmp 63))⟩,[]⟩]) (.seq (.seq (.ops [64,65,66,67] [⟨⟨(some 64),none,(.fK 9 (.tmp 1))⟩,[]⟩,⟨⟨(some 65),none,(.gM (.tmp 64))⟩,[]⟩,⟨⟨(some 66),none,(.u7 (.tmp 65))⟩,[]⟩,⟨⟨(some 67),none,(.mv (.const (.int .i64 0)))⟩,[]⟩]) (.block 2 (.loop (.seq (.ops [68] [⟨⟨(some 68),none,(.bin .lss 3 (.tmp 67) (.tmp 66))⟩,[]⟩]) (.seq (.cond (.tmp 68) .skip (.exit 2)) (.seq (.block 3 (.seq (.ops [69,9] [⟨⟨(some 69),none,(.mv (.tmp 67))⟩,[]⟩,⟨⟨(some 9),none,(.mq (.tmp 69))⟩,[]⟩]) (.seq (.ops [70,71,72,73,10] [⟨⟨(some 70),none,(.fK 9 (.tmp 1))⟩,[]⟩,⟨⟨(some 71),none,(.gM (.tmp 70))⟩,[]⟩,⟨⟨(some 72),none,(.mv (.tmp 9))⟩,[]⟩,⟨⟨(some 73),none,(.mR 12 (.tmp 71) (.tmp 72))⟩,[]⟩,⟨⟨(some 10),none,(.mq (.tmp 73))⟩,[]⟩]) (.seq (.ops [74,75,76,77,78,79] [⟨⟨(some 74),none,(.mv (.tmp 10))⟩,[]⟩,⟨⟨(some 75),none,(.mv (.tmp 10))⟩,[]⟩,⟨⟨(some 76),none,(.kG (.tmp 74))⟩,[]⟩,⟨⟨(some 77),none,(.fK 3 (.tmp 76))⟩,[]⟩,⟨⟨none,none,(.store 1 (.tmp 77) (.const (.int .i64 0)))⟩,[]⟩,⟨⟨(some 78),none,(.kG (.tmp 75))⟩,[]⟩,⟨⟨(some 79),none,(.fK 11 (.tmp 78))⟩,[]⟩,⟨⟨none,none,(.store 1 (.tmp 79) (.const (.int .i64 (-1))))⟩,[]⟩]) (.seq (.seq (.ops [80,81,82,83,84] [⟨⟨(some 80),none,(.mv (.tmp 10))⟩,[]⟩,⟨⟨(some 81),none,(.kG (.tmp 80))⟩,[]⟩,⟨⟨(some 82),none,(.fK 1 (.tmp 81))⟩,[]⟩,⟨⟨(some 83),none,(.gM (.tmp 82))⟩,[]⟩,⟨⟨(some 84),none,(.bin .neq 9 (.tmp 83) (.const (.string ⟨⟨[]⟩⟩)))⟩,[]⟩]) (.cond (.tmp 84) (.ops [85,86,87,88,89,90,91,92,93] [⟨⟨(some 85),none,(.mv (.tmp 10))⟩,[]⟩,⟨⟨(some 86),none,(.mv (.tmp 5))⟩,[]⟩,⟨⟨(some 87),none,(.mv (.tmp 10))⟩,[]⟩,⟨⟨(some 88),none,(.kG (.tmp 87))⟩,[]⟩,⟨⟨(some 89),none,(.fK 1 (.tmp 88))⟩,[]⟩,⟨⟨(some 90),none,(.gM (.tmp 89))⟩,[]⟩,⟨⟨(some 91),none,(.call (.func 212) [(.tmp 86),(.tmp 90)])⟩,[]⟩,⟨⟨(some 92),none,(.kG (.tmp 85))⟩,[]⟩,⟨⟨(some 93),none,(.fK 3 (.tmp 92))⟩,[]⟩,⟨⟨none,none,(.store 1 (.tmp 93) (.tmp 91))⟩,[]⟩]) .skip)) (.seq (.ops [94,95,96,97,98,99,100,101,102,103,104,105,106,107,108,109,110,111] [⟨⟨(some 94),none,(.mv (.tmp 10))⟩,[]⟩,⟨⟨(some 95),none,(.mv (.tmp 10))⟩,[]⟩,⟨⟨(some 96),none,(.mv (.tmp 8))⟩,[]⟩,⟨⟨(some 97),none,(.mv (.tmp 10))⟩,[]⟩,⟨⟨(some 98),none,(.kG (.tmp 97))⟩,[]⟩,⟨⟨(some 99),none,(.fK 4 (.tmp 98))⟩,[]⟩,⟨⟨(some 100),none,(.gM (.tmp 99))⟩,[]⟩,⟨⟨(some 102),none,(.mv (.tmp 8))⟩,[]⟩,⟨⟨(some 103),none,(.mv (.tmp 10))⟩,[]⟩,⟨⟨(some 104),none,(.kG (.tmp 103))⟩,[]⟩,⟨⟨(some 105),none,(.fK 5 (.tmp 104))⟩,[]⟩,⟨⟨(some 106),none,(.gM (.tmp 105))⟩,[]⟩,⟨⟨(some 101),none,(.call (.tmp 96) [(.tmp 100)])⟩,[⟨(some 106),none,(.gM (.tmp 105))⟩]⟩,⟨⟨(some 107),none,(.call (.tmp 102) [(.tmp 106)])⟩,[]⟩,⟨⟨(some 108),none,(.kG (.tmp 94))⟩,[]⟩,⟨⟨(some 109),none,(.fK 6 (.tmp 108))⟩,[]⟩,⟨⟨none,none,(.store 1 (.tmp 109) (.tmp 101))⟩,[]⟩,⟨⟨(some 110),none,(.kG (.tmp 95))⟩,[]⟩,⟨⟨(some 111),none,(.fK 7 (.tmp 110))⟩,[]⟩,⟨⟨none,none,(.store 1 (.tmp 111) (.tmp 107))⟩,[]⟩]) (.seq (.ops [112,113,114,115,116] [⟨⟨(some 112),none,(.mv (.tmp 10))⟩,[]⟩,⟨⟨(some 113),none,(.kG (.tmp 112))⟩,[]⟩,⟨⟨(some 114),none,(.fK 10 (.tmp 113))⟩,[]⟩,⟨⟨(some 115),none,(.gM (.tmp 114))⟩,[]⟩,⟨⟨(some 116),none,(.bin .neq 9 (.tmp 115) (.const (.string ⟨⟨[]⟩⟩)))⟩,[]⟩]) (.cond (.tmp 116) (.ops [117,118,119,120,121,122,123,124,125] [⟨⟨(some 117),none,(.mv (.tmp 10))⟩,[]⟩,⟨⟨(some 118),none,(.mv (.tmp 6))⟩,[]⟩,⟨⟨(some 119),none,(.mv (.tmp 10))⟩,[]⟩,⟨⟨(some 120),none,(.kG (.tmp 119))⟩,[]⟩,⟨⟨(some 121),none,(.fK 10 (.tmp 120))⟩,[]⟩,⟨⟨(some 122),none,(.gM (.tmp 121))⟩,[]⟩,⟨⟨(some 123),none,(.call (.func 212) [(.tmp 118),(.tmp 122)])⟩,[]⟩,⟨⟨(some 124),none,(.kG (.tmp 117))⟩,[]⟩,⟨⟨(some 125),none,(.fK 11 (.tmp 124))⟩,[]⟩,⟨⟨none,none,(.store 1 (.tmp 125) (.tmp 123))⟩,[]⟩]) .skip)))))))) (.ops [126,67] [⟨⟨(some 126),none,(.bin .add 3 (.tmp 67) (.const (.int .i64 1)))⟩,[]⟩,⟨⟨(some 67),none,(.mv (.tmp 126))⟩,[]⟩]))))))) (.seq (.ops [127] [⟨⟨(some 127),none,(.pq 10 (.tmp 1))⟩,[]⟩,⟨⟨none,none,(.store 10 (.tmp 2) (.tmp 127))⟩,[]⟩,⟨⟨none,none,(.store 1 (.tmp 3) (.const (.int .i64 0)))⟩,[]⟩]) .ret)))))))))))))⟩
theorem adg:mF Tryz.prog 150=some IK:=by kernel_rfl
theorem dW(a b:ByteArray):(a.toList==b.toList)=decide (a=b):=by
 rw[ByteArray.toList_eq,ByteArray.toList_eq];by_cases h:a=b
 ·subst h;simp
 ·rw[aU h];cases hb:a.data.toList==b.data.toList with
  |false=>rfl
  |true=>
   have:=eq_of_beq hb;exact absurd (ByteArray.ext (Array.ext' this)) h
abbrev uL:List Value:=[.string ⟨⟨[]⟩⟩,.int .i64 0,.int .i64 0,.int .i64 0,.int .i64 0,.slice none 0 0,.slice none 0 0,.slice none 0 0,.slice none 0 0,.slice none 0 0]
theorem adh{b2 b3:Nat}:Hr Tryz.prog (.func 201) [] [ptr' b2,ptr' b3] .returning [] [] (λ_:Unit=>.ok (.tuple ⟨[]⟩)) (λ_=>.returning) (λ_=>[]) (λ_=>[]) (λ_=>True):=by
 refine Rc ME TM λB w0=>?_;refine go ?_;refine Re (v:=.nilIface) (m':=.returning) rfl ?_;refine go ?_;refine(fJ (v:=.bool false) rfl rfl (λh=>by
  show(match lg Tryz.prog .neq 20 (.tmp 4) (.const .nilIface) .nilIface .nilIface with|some v=>some (v,h)|none=>none)=_;rw[show lg Tryz.prog .neq 20 (.tmp 4) (.const .nilIface) .nilIface .nilIface=some (.bool false)by kernel_rfl])).h ?_
 refine go ?_;exact Ri () (hv:=rfl) (hm:=rfl) (hp:=trivial)
theorem adi{b2 b3:Nat}{e:Int}(he:e=160\/e=161):Hr Tryz.prog (.func 201) [] [ptr' b2,ptr' b3] (.panicking (rV e)) [pt b2 (.cells uL),pt b3 (.cells [.int .i64 0])] [] (λ_:Unit=>.ok (.tuple ⟨[]⟩)) (λ_=>.panicking [{v:=.iface 41 (.int .i64 e),recovered:=true}])
 (λ_=>[pt b2 (.cells uL),pt b3 (.cells [.int .i64 e])]) (λ_=>[]) (λ_=>True):=by
 refine Rc ME TM λB w0=>?_;refine go ?_;refine Re (v:=.iface 41 (.int .i64 e)) (m':=.panicking [{v:=.iface 41 (.int .i64 e),recovered:=true}]) rfl ?_;refine go ?_;refine(fJ (v:=.bool true) rfl rfl (λh=>by
  show(match lg Tryz.prog .neq 20 (.tmp 4) (.const .nilIface) (.iface 41 (.int .i64 e)) .nilIface with|some v=>some (v,h)|none=>none)=_;rcases he with rfl|rfl
  ·rw[show lg Tryz.prog .neq 20 (.tmp 4) (.const .nilIface) (.iface 41 (.int .i64 160)) .nilIface=some (.bool true)by kernel_rfl]
  ·rw[show lg Tryz.prog .neq 20 (.tmp 4) (.const .nilIface) (.iface 41 (.int .i64 161)) .nilIface=some (.bool true)by kernel_rfl])).h ?_
 refine go ?_;exact Ri () (hv:=rfl) (hm:=rfl) (hp:=trivial)
structure Eu where
 ok:Bool
 e:Int
 vc:Value
 vu:Value
abbrev qD(d:bF)(vh vs vr:Value)(y:Eu):Value:=.tuple ⟨[.agg ⟨cond y.ok (gD (Kd.bG d) vh vs vr y.vc y.vu) uL⟩,.int .i64 y.e]⟩
abbrev nN(d:bF)(y:Eu):List aF:=cond y.ok [ah bM y.vc (Kd.bG d).aJ,ah aY y.vu (Kd.bG d).rules] []
def zU(d:bF)(y:Eu):Prop:=(y.ok=true->y.e=0/\BJ d)/\(y.ok=false->y.e≠0/\¬BJ d)
structure l6(d:bF):Prop where
 dO:d.symbols.length<=4096
 regs:d.regions.length<=4096
 jm:d.aJ.length<=4096
 kz:d.rules.length<=4096
 qE:∀r∈d.rules,r.names.length<9223372036854775808/\r.others.length<9223372036854775808
 holes:d.holes.length<9223372036854775808
 qF:∀r∈d.regions,r.lists.length<9223372036854775808/\∀l∈r.lists,l.length<9223372036854775808
section
variable {B:List Nat} {w0:Wd} {kl bB:List OA} {F:List aF} {l:List (Nat×Value)} {b2 b3:Nat} {n:Nat}
theorem wD{d:bF}{vh vs vr:Value}{e:Int}(he:e=160\/e=161)(hno:¬BJ d)(h2:lk l 2=ptr' b2)(h3:lk l 3=ptr' b3)(hk:aG [pt b2 (.cells uL),pt b3 (.cells [.int .i64 0])] kl bB):
 R (λh=>pO Tryz.prog IK (zA B w0 (λy=>.ok (qD d vh vs vr y)) (λ_=>[]) (nN d) (zU d)) (.panic (rV e)) (act n l [{target:=.fn (.func 201) ⟨[ptr' b2,ptr' b3]⟩,args:=⟨[]⟩}] none none) h) B w0 kl F:=by
 refine D6 (m:=.panicking (rV e)) ?_;refine Rf (bB:=bB) (dL:=λ_=>[pt b2 (.cells uL),pt b3 (.cells [.int .i64 e])]++bB) (F2:=λ_=>F) (adi (b2:=b2) (b3:=b3) he) (λy v _ _=>?_) (λy ch _ hc=>by cases hc) (hk:=hk) (hF:=.nil) (hk2:=λ_=>bD.app) (hF2:=λ_=>bD.nil);show RL _ _ _ _ .returning _ _ _ _ _;refine Rj (bB:=[pt b2 (.cells uL),pt b3 (.cells [.int .i64 e])]++bB) (vs:=[.agg ⟨uL⟩,.int .i64 e]) ⟨false,e,.nilFunc,.nilFunc⟩ rfl ⟨(λh=>by cases h),λ_=>⟨by rcases he with rfl|rfl<;>simp,hno⟩⟩ (hr:=?_) (hk:=.nil) (hF:=.nil);show RS l _ [.pE 10 2,.cell1 3] _;exact .pE h2 .here rfl (.cell1 h3 (.there .here) rfl .nil)
end
section
variable {B:List Nat} {w0:Wd} {kl bB:List OA} {F:List aF} {l:List (Nat×Value)} {b2 b3:Nat} {n:Nat}
theorem TR{d:bF}{vh vs vr:Value}{o:Out}{cs:List Value}{e:Int}(y:Eu)(ho:sw o=some .returning)(hcs:cs=cond y.ok (gD (Kd.bG d) vh vs vr y.vc y.vu) uL)(hl:cs.length=10)(hy:y.e=e)(hp:zU d y)(hF:∀w,(∀f∈F,f.p w)->∀f∈nN d y,f.p w)(h2:lk l 2=ptr' b2)(h3:lk l 3=ptr' b3)(hk:aG [pt b2 (.cells cs),pt b3 (.cells [.int .i64 e])] kl bB):
 R (λh=>pO Tryz.prog IK (zA B w0 (λy=>.ok (qD d vh vs vr y)) (λ_=>[]) (nN d) (zU d)) o (act n l [{target:=.fn (.func 201) ⟨[ptr' b2,ptr' b3]⟩,args:=⟨[]⟩}] none none) h) B w0 kl F:=by
 refine D6 (m:=.returning) ?_ ho;refine Rf (k1:=[]) (bB:=kl) (dL:=λ_=>kl) (F2:=λ_=>F) (adh (b2:=b2) (b3:=b3)) (λ_ v _ _=>?_) (λ_ ch _ hc=>by cases hc) (hk:=.nil) (hF:=.nil) (hk2:=λ_=>bD.nil) (hF2:=λ_=>bD.nil);show RL _ _ _ _ .returning _ _ _ _ _;intro w s;have s':St B w0 ([pt b2 (.cells cs),pt b3 (.cells [.int .i64 e])]++bB) (nN d y) w:=by
  have:=s.jy hk;exact⟨this.agree,this.le,this.fI,this.own,hF w this.facts⟩
 refine Rj (F:=nN d y) (bB:=[pt b2 (.cells cs),pt b3 (.cells [.int .i64 e])]++bB) (vs:=[.agg ⟨cs⟩,.int .i64 e]) y ?_ hp (hr:=?_) (hk:=.nil) (hF:=?_) w s'
 ·show iK.ok (qD d vh vs vr y)=_;unfold qD;rw[<- hcs,hy];rfl
 ·show RS l _ [.pE 10 2,.cell1 3] _;exact .pE h2 .here (by rw[nX,oC,yP,if_pos (by omega),<- hl,bK]) (.cell1 h3 (.there .here) rfl .nil)
 ·have:∀k:List aF,Sub k k:=λk=>by
   have:=Sub.refl' k [];simpa using this
  exact this _
end
theorem BP{X:List (aQ×aY.Y)}{k:Nat}(hk:k<X.length){q q':aQ×aY.Y}{j:Nat}{v:Value}(h:(aY.pat q.1 q.2).set j v=aY.pat q'.1 q'.2)(hj:j<12):(gB aY (X.set k q)).set (0+k*12+j) v=gB aY (X.set k q'):=by
 rw[fD];have:=LQ (E:=aY) (aL:=X.set k q) (k:=k) (p:=q) (p':=q') (by rw[uV,if_pos rfl,if_pos hk]) h hj;rw[List.set_set]at this;exact this
theorem zV{X:List (aQ×aY.Y)}{k:Nat}(hk:k<X.length){q:aQ×aY.Y}{j:Nat}{u:Value}(h:(aY.pat q.1 q.2)[j]? =some u):(gB aY (X.set k q))[0+k*12+j]? =some u:=by
 rw[fD];exact zH (E:=aY) (aL:=X.set k q) (k:=k) (by rw[uV,if_pos rfl,if_pos hk]) h
theorem BQ{X:List (aQ×aY.Y)}{k:Nat}(hk:k<X.length){q:aQ×aY.Y}{j:Nat}(hj:j<12):0+k*12+j<(gB aY (X.set k q)).length:=by
 rw[Eb,CE];show 0+k*12+j<X.length*12;omega
theorem TS{d:bF}{vh vs vr vc vu:Value}(hS:l6 d):bn Tryz.prog (.func 150) [.agg ⟨gD d vh vs vr vc vu⟩] [] [] (kM d vh vs vr vc vu) (qD d vh vs vr) (λ_=>[]) (nN d) (zU d):=by
 refine pQ.toC _ ?_ (λ_ _=>rfl);have hsl:=hS.dO;have hrl:=hS.regs;have hcl:=hS.jm;have yu:=hS.kz;refine xU IK adg λB w0=>?_;refine go ?_;intro b1 b2 b3;refine go ?_;refine aaY ?_;refine go ?_;refine ay rfl (λh1=>?_) (λh1=>?_)
 ·refine go ?_;exact TR (e:=2) (cs:=uL) ⟨false,2,.nilFunc,.nilFunc⟩ rfl rfl rfl rfl ⟨(λh=>by cases h),λ_=>⟨by simp,λh=>by have:=h.dO;omega⟩⟩ (λw _ f hf=>by cases hf) rfl rfl (by repeat (first|exact aG.nil|(apply aG.cons;(focus (repeat (first|exact az.here|apply az.there))))))
 have hsy:(bO d).length<=16:=by show(d.symbols.map (·.name)).length<=16;rw[cz];omega
 refine go ?_;refine xW fP (λbs=>?_);refine go ?_;refine sV (ac7 (b:=bs) (start:=0) (ai:=[]) hsl (by omega) tZ) (λy v hy e=>?_) (λy ch hy e=>?_)
 rotate_left
 ·obtain⟨y,ns⟩:=y;cases y with
  |true=>cases e
  |false=>
   injection e with e;subst e;refine go ?_;exact wD (e:=161) (.inr rfl) (λh=>hy.2 rfl (by simpa[bO]using h.Su)) rfl rfl (by repeat (first|exact aG.nil|(apply aG.cons;(focus (repeat (first|exact az.here|apply az.there))))))
 obtain⟨y,ns⟩:=y;cases y with
 |false=>cases e
 |true=>
 injection e with e;subst e;have hns:ns=bO d:=(hy.1 rfl).1;have hsn:(bO d).Nodup:=by have:=(hy.1 rfl).2;simpa[bO]using this
 clear hy;subst hns;dsimp only;rw[show([]:List (ByteArray×Value))++fu _ 0=fu _ 0 from rfl];refine bA (Bw (b:=bs)) (h:=?_);refine go ?_;intro b4;refine go ?_;refine xW fP (λbf=>?_);refine ax adb (next:=λvg _=>?_);refine sV (ac6 (b:=bf) (xs:=iM) (start:=0) (ai:=[]) (by decide) (by omega) tZ) (λy v hy e=>?_) (λy ch hy e=>?_)
 rotate_left
 ·obtain⟨y,ns⟩:=y;cases y with
  |true=>cases e
  |false=>exact absurd (by decide) (hy.2 rfl)
 obtain⟨y,ns⟩:=y;cases y with
 |false=>cases e
 |true=>
 injection e with e;subst e;have hns:ns=iM:=(hy.1 rfl).1;clear hy;subst hns;dsimp only;rw[show([]:List (ByteArray×Value))++fu _ 0=fu _ 0 from rfl];refine sV (ac8 (b:=bf) (start:=8) (ai:=fu iM 0) hrl (by omega) (by rw[rQ];decide)) (λy v hy e=>?_) (λy ch hy e=>?_)
 rotate_left
 ·obtain⟨y,ns⟩:=y;cases y with
  |true=>cases e
  |false=>
   injection e with e;subst e;refine go ?_;exact wD (e:=161) (.inr rfl) (λh=>hy.2 rfl (by rw[rQ];exact h.Sv)) rfl rfl (by repeat (first|exact aG.nil|(apply aG.cons;(focus (repeat (first|exact az.here|apply az.there))))))
 obtain⟨y,ns⟩:=y;cases y with
 |false=>cases e
 |true=>
 injection e with e;subst e;have hns:ns=d.regions.map lX.name:=(hy.1 rfl).1;have hfn:(bV d).Nodup:=by have:=(hy.1 rfl).2;rw[rQ]at this;exact this
 clear hy;subst hns;dsimp only;have hfe:fu iM 0++fu (d.regions.map lX.name) 8=fu (bV d) 0:=by
  unfold bV;rw[Me];rfl
 rw[hfe];clear hfe;refine bA (Bw (b:=bf)) (h:=?_);refine go ?_;refine xW fP (λbc=>?_);refine go ?_;refine sV (ac9 (b:=bc) (start:=0) (ai:=[]) hcl (by omega) tZ) (λy v hy e=>?_) (λy ch hy e=>?_)
 rotate_left
 ·obtain⟨y,ns⟩:=y;cases y with
  |true=>cases e
  |false=>
   injection e with e;subst e;refine go ?_;exact wD (e:=161) (.inr rfl) (λh=>hy.2 rfl (by simpa[dI]using h.Sw)) rfl rfl (by repeat (first|exact aG.nil|(apply aG.cons;(focus (repeat (first|exact az.here|apply az.there))))))
 obtain⟨y,ns⟩:=y;cases y with
 |false=>cases e
 |true=>
 injection e with e;subst e;have hns:ns=dI d:=(hy.1 rfl).1;have hcn:(dI d).Nodup:=by have:=(hy.1 rfl).2;simpa[dI]using this
 clear hy;subst hns;dsimp only;rw[show([]:List (ByteArray×Value))++fu _ 0=fu _ 0 from rfl];refine bA (Bw (b:=bc)) (h:=?_);refine go ?_;refine LU bM vc (λxc BS=>?_);have hxl:xc.length=d.aJ.length:=by rw[<- BS,cz]
 refine ax (ade (aL:=xc) (by omega)) (next:=λv1 _=>?_);refine RJ (E:=bM) (v:=v1) (aL:=xc) (λa1 e1=>?_);subst e1;refine go ?_;let f1:iR×bM.Y->iR×bM.Y:=λp=>(kU (bV d) p.1,p.2)
 rw[show ar bM (.slice a1 xc.length xc.length) xc=ar bM (.slice a1 xc.length xc.length) (jA f1 0 xc)from rfl];refine aZ (λk=>xc.length - k) (λk:Nat=>[(38,.int .i64 (k:Int))]) (λk=>[ar bM (.slice a1 xc.length xc.length) (jA f1 k xc)]) (λ_=>[]) (λk=>k<=xc.length/\∀p∈xc.take k,p.1.on∈bV d) 0 ⟨bY _,by simp⟩ (body:=?_);rintro k ⟨hk,hall⟩;refine go ?_;refine ay rfl (λh2=>?_) (λh2=>?_)
 ·refine go ?_;refine RI (E:=bM) (aL:=jA f1 k xc) (by rw[xY];omega) (λbx fx hfx ev=>?_);injection ev with ea _ _;subst ea;refine go ?_;obtain⟨p,hp⟩:∃p,xc[k]? =some p:=⟨xc[k]'(by omega),cO _⟩
  have hget:(jA f1 k xc)[k]? =some p:=by rw[SA _ (by omega)];exact hp
  have ko:p.1∈d.aJ:=by rw[<- BS];exact Jv (bH hp)
  refine vT (o:=0+k*6+1) (cs:=gB bM (jA f1 k xc)) (.string p.1.on) (by rw[fD];exact zH (E:=bM) (j:=1) hget rfl) ?_;refine sV (IJ (b:=bf) (s:=p.1.on) (ai:=fu (bV d) 0)) (λy v hy e=>?_) (λy ch hy e=>?_)
  rotate_left
  ·have hm:p.1.on∉bV d:=by
    intro h;rw[vZ h]at hy;subst hy;cases e
   rw[qC (by rw[rQ];exact hm)]at hy;subst hy;injection e with e;subst e;refine go ?_;exact wD (e:=160) (.inl rfl) (λh=>hm (h.Mf p.1 ko)) rfl rfl (by repeat (first|exact aG.nil|(apply aG.cons;(focus (repeat (first|exact az.here|apply az.there))))))
  have hm:p.1.on∈bV d:=by
   by_cases h:p.1.on∈bV d
   ·exact h
   ·rw[qC (by rw[rQ];exact h)]at hy;subst hy;cases e
  rw[vZ hm]at hy;subst hy;injection e with e;subst e;rw[fD];refine go ?_;refine xS (o:=0+k*6+2) (cs:=gB bM (jA f1 k xc)) (cs':=gB bM (jA f1 (k+1) xc)) (v:=.int .i64 ((dU p.1.on (bV d):Nat):Int)) (by rw[fD,<- SB f1 hp];exact LQ (E:=bM) (j:=2) (p':=f1 p) hget rfl (by decide)) (by rw[Eb,xY];show 0+k*6+2<xc.length*6;omega) ?_;refine go ?_;refine sW (b:=bx) (f:=fx) (m:=xc.length) bM (aL:=jA f1 (k+1) xc) (by rw[xY]) hfx ?_;refine aP (k+1) (by omega) ⟨by omega,λq hq=>?_⟩;rw[mo,hp]at hq;rcases dZ.1 hq with h|h
  ·exact hall q h
  ·have:q=p:=by simpa using h
   rw[this];exact hm
 have hkl:k=xc.length:=by omega
 subst hkl;rw[bK]at hall;have hcon:∀c∈d.aJ,c.on∈bV d:=by
  intro c hc;rw[<- BS]at hc;obtain⟨p,hp,rfl⟩:=fE.1 hc;exact hall p hp
 clear hall hk;rw[Sz];refine go ?_;refine xW fP (λbu=>?_);refine go ?_;refine sV (ada (b:=bu) (start:=0) (ai:=[]) yu (by omega) tZ) (λy v hy e=>?_) (λy ch hy e=>?_)
 rotate_left
 ·obtain⟨y,ns⟩:=y;cases y with
  |true=>cases e
  |false=>
   injection e with e;subst e;refine go ?_;exact wD (e:=161) (.inr rfl) (λh=>hy.2 rfl (by simpa[mJ]using h.Sy)) rfl rfl (by repeat (first|exact aG.nil|(apply aG.cons;(focus (repeat (first|exact az.here|apply az.there))))))
 obtain⟨y,ns⟩:=y;cases y with
 |false=>cases e
 |true=>
 injection e with e;subst e;have hrn:(mJ d).Nodup:=by have:=(hy.1 rfl).2;simpa[mJ]using this
 clear hy;dsimp only;refine bA (Bw (b:=bu)) (h:=?_);refine go ?_;refine LU aY vu (λxr IL=>?_);have aiB:xr.length=d.rules.length:=by rw[<- IL,cz]
 refine ax (adf (aL:=xr) (by omega)) (next:=λv2 _=>?_);refine RJ (E:=aY) (v:=v2) (aL:=xr) (λa2 e2=>?_);subst e2;refine go ?_;refine bA (eD (b:=b4)) (h:=?_);refine go ?_;let f2:aQ×aY.Y->aQ×aY.Y:=λp=>(lY (bO d) (bV d) (dI d) p.1,p.2)
 rw[show ar aY (.slice a2 xr.length xr.length) xr=ar aY (.slice a2 xr.length xr.length) (jA f2 0 xr)from rfl];refine abh (E:=aY) (v:=vu) (aL:=xr) ?_;refine aZ (λk=>xr.length - k) (λk:Nat=>[(67,.int .i64 (k:Int))]) (λk=>[ar aY (.slice a2 xr.length xr.length) (jA f2 k xr)]) (λ_=>[]) (λk=>k<=xr.length/\∀p∈xr.take k,zK (bO d) (bV d) (dI d) p.1) 0 ⟨bY _,by simp⟩ (body:=?_);rintro k ⟨hk,hall⟩;refine go ?_;refine ay rfl (λh2=>?_) (λh2=>?_)
 ·refine go ?_;refine RI (E:=aY) (aL:=jA f2 k xr) (by rw[xY];omega) (λbW fy TT ev=>?_);injection ev with ea _ _;subst ea;obtain⟨p,hp⟩:∃p,xr[k]? =some p:=⟨xr[k]'(by omega),cO _⟩
  have hpm:=bH hp;have hget:(jA f2 k xr)[k]? =some p:=by rw[SA _ (by omega)];exact hp
  have ko:p.1∈d.rules:=by rw[<- IL];exact Jv hpm
  have hfin:=SB f2 hp;obtain⟨r,v3,v4⟩:=p;have hrs:=hS.qE r ko;have lH:k<(jA f2 k xr).length:=by rw[xY];omega
  have adj:(jA f2 k xr).length=xr.length:=xY _ _ _;have e0:jA f2 k xr=(jA f2 k xr).set k (r,v3,v4):=by
   apply kE;intro i;rw[uV];by_cases hi:k=i
   ·subst hi;rw[if_pos rfl,if_pos lH,hget]
   ·rw[if_neg hi]
  refine eT (ah aT v3 r.names) (λw h=>h (vX aY xr) (dM ..) _ hpm _ (dM ..)) ?_;refine eT (ah aT v4 r.others) (λw h=>h (vX aY xr) (dJ _ (dM ..)) _ hpm _ (dJ _ (dM ..))) ?_;rw[e0];rw[<- e0];generalize hX:jA f2 k xr=X at lH adj e0 hfin;rw[e0];refine go ?_;refine xS (o:=0+k*12+3) (cs:=gB aY (X.set k (r,v3,v4))) (cs':=gB aY (X.set k ({r with family:=0},v3,v4))) (v:=.int .i64 0) (BP lH rfl (by omega)) (BQ lH (by omega)) ?_;refine go ?_;refine xS (o:=0+k*12+11) (cs:=gB aY (X.set k ({r with family:=0},v3,v4))) (cs':=gB aY (X.set k ({r with family:=0,aH:= -1},v3,v4))) (v:=.int .i64 (-1)) (BP lH rfl (by omega)) (BQ lH (by omega)) ?_;refine go ?_;refine vT (o:=0+k*12+1) (cs:=gB aY (X.set k ({r with family:=0,aH:= -1},v3,v4))) (.string r.on) (zV lH rfl) ?_;refine go ?_;refine Ra (bB:=[pt b1 (.cells [.string d.name,.int .i64 d.version,.int .i64 d.shape,.int .i64 d.w,.int .i64 d.h,vh,vs,vr,.slice a1 xc.length xc.length,.slice (some ⟨bW,0,some fy⟩) xr.length xr.length]),ar bM (.slice a1 xc.length xc.length) (xc.map f1),pt b3 (.cells [.int .i64 0]),pt b2 (.cells uL)]) [] (λ_:Unit=>[]) (λ_=>[pt bW (.cells (gB aY (X.set k ({r with family:=if r.on=⟨⟨[]⟩⟩then 0 else(dU r.on (bV d):Int),aH:= -1},v3,v4))))]) (λ_=>[]) (λ_=>r.on=⟨⟨[]⟩⟩\/r.on∈bV d) (hx:=?_) (hy:=?_)
  ·refine eF (p:=r.on=⟨⟨[]⟩⟩) (by show Value.bool _=_;rw[dW]) (λh3=>?_) (λh3=>?_)
   ·refine go ?_;refine vT (o:=0+k*12+1) (cs:=gB aY (X.set k ({r with family:=0,aH:= -1},v3,v4))) (.string r.on) (zV lH rfl) ?_;refine sV (IJ (b:=bf) (s:=r.on) (ai:=fu (bV d) 0)) (λy v hy e=>?_) (λy ch hy e=>?_)
    rotate_left
    ·have hm:r.on∉bV d:=by
      intro h;rw[vZ h]at hy;subst hy;cases e
     rw[qC (by rw[rQ];exact hm)]at hy;subst hy;injection e with e;subst e;refine go ?_;refine aaW ?_;refine go ?_;exact wD (e:=160) (.inl rfl) (λh=>(h.uD r ko).on.elim h3 hm) rfl rfl (by repeat (first|exact aG.nil|(apply aG.cons;(focus (repeat (first|exact az.here|apply az.there))))))
    have hm:r.on∈bV d:=by
     by_cases h:r.on∈bV d
     ·exact h
     ·rw[qC (by rw[rQ];exact h)]at hy;subst hy;cases e
    rw[vZ hm]at hy;subst hy;injection e with e;subst e;rw[fD];refine go ?_;refine xS (o:=0+k*12+3) (cs:=gB aY (X.set k ({r with family:=0,aH:= -1},v3,v4))) (cs':=gB aY (X.set k ({r with family:=if r.on=⟨⟨[]⟩⟩then 0 else(dU r.on (bV d):Int),aH:= -1},v3,v4))) (v:=.int .i64 ((dU r.on (bV d):Nat):Int)) (by rw[if_neg h3];exact BP lH rfl (by omega)) (BQ lH (by omega)) ?_;refine go ?_;exact Hq () (.inr hm)
   ·refine go ?_;rw[show({r with family:=0,aH:= -1}:aQ)={r with family:=if r.on=⟨⟨[]⟩⟩then 0 else(dU r.on (bV d):Int),aH:= -1}by rw[if_pos h3]];exact Hq () (.inl h3)
  intro _ hon;generalize hfm:(if r.on=⟨⟨[]⟩⟩then 0 else(dU r.on (bV d):Int))=fm;refine go ?_;refine vT (o:=0+k*12+4) (cs:=gB aY (X.set k ({r with family:=fm,aH:= -1},v3,v4))) v3 (zV lH rfl) ?_;refine go ?_;refine vT (o:=0+k*12+5) (cs:=gB aY (X.set k ({r with family:=fm,aH:= -1},v3,v4))) v4 (zV lH rfl) ?_;refine go ?_;refine sV (TQ (b4:=b4) (bs:=bs) (vl:=v3) (dO:=bO d) (l:=r.names) hsy hrs.1) (λy v hy e=>?_) (λy ch hy e=>?_)
   (hs:=λy v _ _=>Bn (b:=bW) (o:=0+k*12+5) (cs:=gB aY (X.set k ({r with family:=fm,aH:= -1},v3,v4))) (v:=v4) rfl (by repeat (first|exact az.here|apply az.there)) (by rw[qY];exact zV lH rfl) rfl Bl)
  rotate_left
  ·cases y with
   |true=>cases e
   |false=>
    injection e with e;subst e;refine go ?_;exact wD (e:=160) (.inl rfl) (λh=>hy.2 rfl (h.uD r ko).names) rfl rfl (by repeat (first|exact aG.nil|(apply aG.cons;(focus (repeat (first|exact az.here|apply az.there))))))
  cases y with
  |false=>cases e
  |true=>
  injection e with e;subst e;have adk:=hy.1 rfl;clear hy;refine go ?_;refine go ?_;refine sV (TQ (b4:=b4) (bs:=bs) (vl:=v4) (dO:=bO d) (l:=r.others) hsy hrs.2) (λy v hy e=>?_) (λy ch hy e=>?_)
  rotate_left
  ·cases y with
   |true=>cases e
   |false=>
    injection e with e;subst e;refine go ?_;exact wD (e:=160) (.inl rfl) (λh=>hy.2 rfl (h.uD r ko).others) rfl rfl (by repeat (first|exact aG.nil|(apply aG.cons;(focus (repeat (first|exact az.here|apply az.there))))))
  cases y with
  |false=>cases e
  |true=>
  injection e with e;subst e;have adl:=hy.1 rfl;clear hy;refine go ?_;refine xS (o:=0+k*12+6) (cs:=gB aY (X.set k ({r with family:=fm,aH:= -1},v3,v4))) (cs':=gB aY (X.set k ({r with family:=fm,aH:= -1,set:=(gp (bO d) r.names:Int)},v3,v4))) (v:=.int .i64 (gp (bO d) r.names:Int)) (BP lH rfl (by omega)) (BQ lH (by omega)) ?_;refine go ?_;refine xS (o:=0+k*12+7) (cs:=gB aY (X.set k ({r with family:=fm,aH:= -1,set:=(gp (bO d) r.names:Int)},v3,v4))) (cs':=gB aY (X.set k ({r with family:=fm,aH:= -1,set:=(gp (bO d) r.names:Int),other:=(gp (bO d) r.others:Int)},v3,v4))) (v:=.int .i64 (gp (bO d) r.others:Int)) (BP lH rfl (by omega)) (BQ lH (by omega)) ?_;refine go ?_;refine vT (o:=0+k*12+10) (cs:=gB aY (X.set k ({r with family:=fm,aH:= -1,set:=(gp (bO d) r.names:Int),other:=(gp (bO d) r.others:Int)},v3,v4))) (.string r.bW) (zV lH rfl) ?_;refine go ?_;have hnext:(r.bW=⟨⟨[]⟩⟩\/r.bW∈dI d)->∀q∈xr.take (k+1),zK (bO d) (bV d) (dI d) q.1:=by
   intro hby q hq;rw[mo,hp]at hq;rcases dZ.1 hq with h|h
   ·exact hall q h
   ·have:q=(r,v3,v4):=bI.1 (show q∈[(r,v3,v4)]from h);rw[this];exact⟨hon,adk,adl,hby⟩
  refine eF (p:=r.bW=⟨⟨[]⟩⟩) (by show Value.bool _=_;rw[dW]) (λh3=>?_) (λh3=>?_)
  ·refine go ?_;refine vT (o:=0+k*12+10) (cs:=gB aY (X.set k ({r with family:=fm,aH:= -1,set:=(gp (bO d) r.names:Int),other:=(gp (bO d) r.others:Int)},v3,v4))) (.string r.bW) (zV lH rfl) ?_;refine sV (IJ (b:=bc) (s:=r.bW) (ai:=fu (dI d) 0)) (λy v hy e=>?_) (λy ch hy e=>?_)
   rotate_left
   ·have hm:r.bW∉dI d:=by
     intro h;rw[vZ h]at hy;subst hy;cases e
    rw[qC (by rw[rQ];exact hm)]at hy;subst hy;injection e with e;subst e;refine go ?_;exact wD (e:=160) (.inl rfl) (λh=>(h.uD r ko).bW.elim h3 hm) rfl rfl (by repeat (first|exact aG.nil|(apply aG.cons;(focus (repeat (first|exact az.here|apply az.there))))))
   have hm:r.bW∈dI d:=by
    by_cases h:r.bW∈dI d
    ·exact h
    ·rw[qC (by rw[rQ];exact h)]at hy;subst hy;cases e
   rw[vZ hm]at hy;subst hy;injection e with e;subst e;rw[fD];refine go ?_;refine xS (o:=0+k*12+11) (cs:=gB aY (X.set k ({r with family:=fm,aH:= -1,set:=(gp (bO d) r.names:Int),other:=(gp (bO d) r.others:Int)},v3,v4))) (cs':=gB aY (X.set k (f2 (r,v3,v4)))) (v:=.int .i64 ((dU r.bW (dI d):Nat):Int)) (BP lH (by show _=iQ (lY (bO d) (bV d) (dI d) r) v3 v4;unfold lY;rw[if_neg h3,hfm];rfl) (by omega)) (BQ lH (by omega)) ?_;refine go ?_;rw[hfin];refine sW (b:=bW) (f:=fy) (m:=xr.length) aY (aL:=jA f2 (k+1) xr) (by rw[xY]) TT ?_;exact aP (k+1) (by omega) ⟨by omega,hnext (.inr hm)⟩
  ·refine go ?_;rw[show X.set k (({r with family:=fm,aH:= -1,set:=(gp (bO d) r.names:Int),other:=(gp (bO d) r.others:Int)}:aQ),v3,v4)=jA f2 (k+1) xr by
    rw[<- hfin];congr 1;show _=(lY (bO d) (bV d) (dI d) r,v3,v4)
    unfold lY;rw[if_pos h3,hfm];rfl]
   refine sW (b:=bW) (f:=fy) (m:=xr.length) aY (aL:=jA f2 (k+1) xr) (by rw[xY]) TT ?_;exact aP (k+1) (by omega) ⟨by omega,hnext (.inl h3)⟩
 have hkl:k=xr.length:=by omega
 subst hkl;rw[bK]at hall;rw[Sz];refine Hw (E:=bM) (v:=.slice a1 xc.length xc.length) (aL:=xc.map f1) ?_ (λw h p hp f hf=>by cases hf);refine Hw (E:=aY) (v:=.slice a2 xr.length xr.length) (aL:=xr.map f2) ?_ (λw h p hp f hf=>by
  obtain⟨q,hq,rfl⟩:=fE.1 hp;exact h (vX aY xr) (dJ _ (dJ _ (dM ..))) q hq f hf)
 refine go ?_;refine TR (e:=0) ⟨true,0,.slice a1 xc.length xc.length,.slice a2 xr.length xr.length⟩ rfl (by rfl) rfl rfl ⟨λ_=>⟨rfl,⟨by omega,hsn,hfn,hcn,hcon,hrn,λr hr=>?_⟩⟩,λh=>by cases h⟩ (λw h f hf=>?_) rfl rfl (by repeat (first|exact aG.nil|(apply aG.cons;(focus (repeat (first|exact az.here|apply az.there))))))
 ·rw[<- IL]at hr;obtain⟨p,hp,rfl⟩:=fE.1 hr;exact hall p hp
 ·have ec:(xc.map f1).map (·.1)=(Kd.bG d).aJ:=by
   show _=d.aJ.map (kU (bV d));rw[<- BS,uW,uW];rfl
  have er:(xr.map f2).map (·.1)=(Kd.bG d).rules:=by
   show _=d.rules.map (lY (bO d) (bV d) (dI d));rw[<- IL,uW,uW];rfl
  rw[ec,er]at h;have hf:f∈[ah bM (.slice a1 xc.length xc.length) (Kd.bG d).aJ,ah aY (.slice a2 xr.length xr.length) (Kd.bG d).rules]:=hf;rcases dH.1 hf with rfl|hf
  ·exact h _ (by simp)
  ·rw[bI.1 hf];exact h _ (by simp)
