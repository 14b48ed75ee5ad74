/- Part. -/
import Derived.Test.YtoilpafpgndilaaGreatProg
import Derived.Test.YtoilpafpgndilaaGreatPlainAJ
import Derived.Laws.Strings
set_option linter.all false
set_option maxRecDepth 10000
set_option maxHeartbeats 4000000
namespace Go.Proofs.YtoilpafpgndilaaGreat
open Tryz (prog)
open Go.Ideal
noncomputable def Tk:=qI prog 162
def aaO:mO prog 162=some Tk:=s8
noncomputable def Tm:=qI prog 125
def aaP:mO prog 125=some Tm:=s8
structure alb(grid:List Int):Prop where
 len:grid.length<=1000000
 tN:∀x∈grid,0<=x/\x<16
structure alc(grid cells:List Int):Prop where
 len:cells.length<=1000000
 cell:∀c∈cells,0<=c/\c<grid.length
def sy(grid:ae Int)(c:Int):Nat:=(grid.getD c.toNat 0).toNat
def cnt(grid:ae Int)(set:Nat)(cells:ae Int):Nat:=(cells.filter λc=>set.testBit (sy grid c)).length
def take_one{α:Type}{xs:ae α}{k:Nat}{x:α}(h:xs[k]? =some x):xs.take (k+1)=xs.take k++[x]:=by
 rw[rH,h];rfl
structure ald(values grid:List Int):Prop where
 val:∀v∈values,0<=v/\v<=99
 tN:∀x∈grid,x<values.length
def va(values grid:ae Int)(c:Int):Int:=values.getD (sy grid c) 0
def met(grid cells:ae Int):Nat:=cells.foldl (λm c=>m|||1<<<sy grid c) 0
noncomputable def Tn:=qI prog 58
def aaQ:mO prog 58=some Tn:=s8
def rn(grid:ae Int)(set:Nat):Nat->ae Int->ae Int
 |n,[]=>if 0<n then[(n:Int)]else[]
 |n,c::cs=>if set.testBit (sy grid c)then rn grid set (n+1) cs else if 0<n then(n:Int)::rn grid set 0 cs else rn grid set 0 cs
abbrev aaR{α:Type}(E:Enc α)(b:Nat)(ys:ae α):OA:=Js λv:ah=>[pt b (.cells [v]),ap E v ys]
def vR{va vb:ah}{xs ys:ae Int}(hal:xs.length<2^63):dZ prog 58 [va,vb] [aj ai va xs,aj ai vb ys] (.bool (decide (xs=ys))):=by
 refine mq Tn aaQ λB w0=>?_;refine aO ?_ ?_<;>intro h1
 .exact c6
 have hlen:xs.length=ys.length:=s6
 refine gN xs.length 13 (λk=>k<=xs.length/\∀j,j<k->xs[j]? =ys[j]?) ⟨s6,λj hj=>by omega⟩ ?_;rintro k ⟨hkx,hsame⟩;refine aO ?_ ?_<;>intro h2
 .refine go ?_;intro _ _ x hx _ _ y hy;refine p9 rfl ?_ ?_<;>intro h3
  .exact cP
  exact hU
 exact cC
abbrev NV(P:Program)(fn:Fn)(first cap:ae ah)(v:ah)(F:ae aI)(b:Bool):Prop:=aX P fn (first++[v]) cap [] F (λ_:Unit=>.bool b) (λ_=>[]) (λ_=>[]) (λ_=>True)
variable{va:ah}{xs:ae Int}{fn:Fn}{first cap:ae ah}{F1:ae aI}{p:Int->Bool}
def ale(hl:xs.length<2^63)(hp:∀x∈xs,NV prog fn first cap (iV x) F1 (p x)):
 fC prog 220 [va,.func fn ⟨first⟩ ⟨cap⟩] (aj ai va xs::F1) (λr:Int=>iV r) (λr=>(0<=r↔xs.any p=true)):=by
 refine gB 220 λB w0=>?_;refine gN xs.length 8 (λk=>k<=xs.length/\(xs.take k).any p=false) ⟨s6,s7⟩ ?_;rintro k ⟨hk,hno⟩;refine aO ?_ ?_<;>intro h1
 .refine go ?_;intro _ _ x hx;refine iy (hp x (aT hx)) (next:=λ_ _=>?_);refine go ?_;refine Cw rfl (λh2=>?_) (λh2=>?_)
  .refine go ?_;refine gQ (k:Int) ?_;have:xs.any p=true:=KU.2 ⟨x,aT hx,h2⟩;simp[this]
  .refine go ?_;refine aU (k+1) s6 ⟨s6,?_⟩;rw[take_one hx,List.any_append,hno];simp[h2]
 refine go ?_;have:k=xs.length:=s6
 subst this;rw[fu]at hno;refine gQ (-1) ?_;rw[hno];simp
def aaS(hl:xs.length<2^63)(hp:∀x∈xs,NV prog fn first cap (iV x) F1 (p x)):
 fC prog 145 [va,.func fn ⟨first⟩ ⟨cap⟩] (aj ai va xs::F1) (λ_:Unit=>.bool (xs.any p)) (λ_=>True):=by
 refine gB 145 λB w0=>?_;refine gC (ale hl hp) λr hr=>?_;refine bF ?_;have:decide (0<=r)=xs.any p:=by
  by_cases h:0<=r
  .rw[eT h,hr.1 h]
  .rw[bY h];cases e:xs.any p with
   |false=>rfl
   |true=>exact absurd (hr.2 e) h
 rw[<- this];rfl
variable{z:Int}
def alf(hl:xs.length<2^63):
 fC prog 326 [va,iV z] [aj ai va xs] (λr:Int=>iV r) (λr=>(0<=r↔z∈xs)):=by
 refine gB 326 λB w0=>?_;refine gN xs.length 8 (λk=>k<=xs.length/\z∉xs.take k) ⟨s6,s7⟩ ?_;rintro k ⟨hk,hno⟩;refine aO ?_ ?_<;>intro h1
 .refine go ?_;intro _ _ x hx;refine p9 rfl ?_ ?_<;>intro h2
  .refine go ?_;refine gQ (k:Int) ?_;subst h2;simp[aT hx]
  .refine go ?_;refine aU (k+1) s6 ⟨s6,?_⟩;rw[take_one hx,fq,not_or];exact⟨hno,ua⟩
 refine go ?_;have:k=xs.length:=s6
 subst this;rw[fu]at hno;refine gQ (-1) ?_;simp[hno]
def alg(hl:xs.length<2^63):dZ prog 236 [va,iV z] [aj ai va xs] (.bool (decide (z∈xs))):=by
 refine gB 236 λB w0=>?_;refine gC (alf hl) λr hr=>?_;refine bF ?_;rw[<- rF.2 hr];rfl
variable{lo hi:Int}
def alh{b4 b5:Nat}{x:Int}:NV prog (.func 146) [] [ptr' b4,ptr' b5] (iV x) [bW b4 0 [iV lo],bW b5 0 [iV hi]] (decide (x<lo\/hi<x)):=by
 refine gB 146 λB w0=>?_;refine gH ?_ ?_<;>intro h1
 .refine bF ?_;rw[show decide (x<lo\/hi<x)=decide (hi<x)from rF.2 ⟨λh=>h.elim (λh=>absurd h h1) id,.inr⟩];rfl
 refine bF ?_;rw[eT (.inl h1)];rfl
def Bo(xs:ae Int)(lo hi:Int):Bool:=decide (∀x∈xs,lo<=x/\x<=hi)
def Tp(hl:xs.length<2^63):dZ prog 109 [va,iV lo,iV hi] [aj ai va xs] (.bool (Bo xs lo hi)):=by
 refine gB 109 λB w0=>?_;refine go ?_;intro b4 b5;refine gP b4 ?_;refine gP b5 ?_;refine iy (aaS (p:=λx=>decide (x<lo\/hi<x)) hl (λx _=>alh (b4:=b4) (b5:=b5))) (next:=λ_ _=>?_);refine bF ?_;have:(!xs.any λx=>decide (x<lo\/hi<x))=Bo xs lo hi:=by
  rw[List.not_any_eq_all_not,Bo];rw[Dx];simp only[jy,z8,DC,decide_eq_false_iff_not,not_or,Int.not_lt]
 rw[<- this];rfl
structure l9(g:List (List Int)):Prop where
 len:g.length<=256
 ok:∀(i:Nat) l,g[i]? =some l->∀(k:Nat) n,l[k]? =some n->0<=n/\n<g.length/\n≠i/\(∀m,0<k->l[k - 1]? =some m->m<n)/\∀l',g[n.toNat]? =some l'->(i:Int)∈l'
end Go.Proofs.YtoilpafpgndilaaGreat
namespace Go.Proofs.YtoilpafpgndilaaGreat
open Tryz (prog)
open Go.Ideal
open Go.Ideal Gph
def l9.rg{g:ae (ae Int)}(h:l9 g):∀l∈g,∀n∈l,Rg g n:=λl hl n hn=>by
 obtain⟨i,hi⟩:=iM hl;obtain⟨k,hk⟩:=iM hn;have:=h.ok i l hi k n hk;exact⟨this.1,this.2.1⟩
structure atj where
 a:Option Addr
 n:Nat
 e:Int
structure ali(c:Nq):Prop where
 cells:c.cells.length<2^63
 runs:c.runs.length<2^63
def Fin(cells symbols:Int)(grid:ae Int):Prop:=(grid.length:Int)=cells/\∀s∈grid,0<=s/\s<symbols
structure atl(q:ZM):Prop where
 cells:1<=q.cells/\q.cells<=256
 symbols:1<=q.symbols/\q.symbols<=16
 NW:(q.values.length:Int)=q.symbols
 vals:∀v∈q.values,0<=v/\v<=99
 zH:(q.aP.length:Int)=q.cells
 atm:l9 q.aP
 many:q.cons.length<=4096
 fine:∀c∈q.cons,R8 q.cells q.symbols c
structure atn(q:ZM):Prop where
 values:q.values.length<2^63
 aP:∀l∈q.aP,l.length<2^63
 cons:q.cons.length<2^63
 con:∀c∈q.cons,ali c
open Go.Ideal Kd
noncomputable def aaT:iG:=⟨2,[(.tmp 0)],(.seq (kO [kS 0 (.jm (.const vS))]) (.seq (kO [⟨⟨(some 1),none,(.Aj 9 8 [vE,vE,vE,vE,vE,vE,vE,vE] [⟨0,⟨1,(.const (.string ⟨⟨[99,101,108,108,115]⟩⟩))⟩⟩,⟨1,⟨1,(.const (.string ⟨⟨[114,111,119,115]⟩⟩))⟩⟩,⟨2,⟨1,(.const (.string ⟨⟨[99,111,108,117,109,110,115]⟩⟩))⟩⟩,⟨3,⟨1,(.const (.string ⟨⟨[100,105,97,103,111,110,97,108,115]⟩⟩))⟩⟩,⟨4,⟨1,(.const (.string ⟨⟨[97,114,111,117,110,100]⟩⟩))⟩⟩,⟨5,⟨1,(.const (.string ⟨⟨[110,101,97,114]⟩⟩))⟩⟩,⟨6,⟨1,(.const (.string ⟨⟨[112,97,105,114,115]⟩⟩))⟩⟩,⟨7,⟨1,(.const (.string ⟨⟨[97,108,108]⟩⟩))⟩⟩])⟩,[]⟩,kS 0 (.jm 1)]) .ret))⟩
def alj:mO prog 286=some aaT:=s8
abbrev iZ:ByteArray->ah:=λs=>.string s
def vT:rW prog 9 iZ:=aiy s8
abbrev rZ(e:Int):ae PanicEntry:=[{v:=.iface 43 (iV e),recovered:=false}]
def aaU{x:oL}:dZ prog 282 [.agg ⟨[.string x.name,iV x.value]⟩] [] (.string x.name):=by
 refine gB 282 λB w0=>?_;refine go ?_;intro b;exact eH
def aaV{x:qV}{v:ah}:dZ prog 284 [.agg ⟨[.string x.name,v]⟩] [] (.string x.name):=by
 refine gB 284 λB w0=>?_;refine go ?_;intro b;exact eH
def aaW{x:ji}:dZ prog 289 [.agg ⟨[.string x.name,.string x.on,iV x.family,iV x.type,iV x.lo,iV x.hi]⟩] [] (.string x.name):=by
 refine gB 289 λB w0=>?_;refine go ?_;intro b;exact eH
def aaX{x:dP}{v1 v2:ah}:dZ prog 293 [.agg ⟨vM x v1 v2⟩] [] (.string x.name):=by
 refine gB 293 λB w0=>?_;refine go ?_;intro b;exact eH
def aaY{s:ByteArray}:dZ prog 287 [.string s] [] (.string s):=by
 refine gB 287 λB w0=>?_;exact eH
def JV{P:Program}{B:ae Nat}{w0:Wd}{kl kl':ae OA}{F:ae aI}{K:KO}{ds:ae Tmp}{rest:ae bN}{n:Nat}{l:qr}{D:ae Deferred}{pm:ak FrameMode}{ro:ak Nat}{d:Nat}{g:ak (Tmp×Bool)}
 {α:Type} [DecidableEq α] {bB:α->ah} {kt:aD} {zero:ah} {m k:ay} {b:Nat} {aA:ae (α×ah)} (hk:rW P kt bB) (a:α)
 (hit:∀v,dF a aA=some v->a∈aA.map (·.1)->R (λh=>aM P ds rest (act n ((d,.tuple ⟨[v,.bool true]⟩)::l) D pm ro) h K) B w0 kl F)
 (miss:a∉aA.map (·.1)->R (λh=>aM P ds rest (act n ((d,.tuple ⟨[zero,.bool false]⟩)::l) D pm ro) h K) B w0 kl F)
 (hm:ev l m=.map (some b):=by rfl) (ha:ev l k=bB a:=by conv=>lhs;whnf) (hs:aB (fV bB b aA) kl kl':=by exact dU) (hn:Nat.blt d n=true:=by rfl) (hg:bO l g=true:=by rfl):
 R (λh=>aM P ds (⟨⟨some d,g,.lookup kt zero m k true⟩,[]⟩::rest) (act n l D pm ro) h K) B w0 kl F:=by
 refine Ex (ok:=true) hk a ?_ hm ha hs hn hg;by_cases h:a∈aA.map (·.1)
 .exact js
 .exact lz
variable{aA:ae (ByteArray×ah)}{start:Nat}
def tO{α:Type}{xs:ae α}{nm:α->ByteArray}{k:Nat}{x:α}(hx:xs[k]? =some x):
 (aA++fQ ((xs.take k).map nm) start).map (·.1)=aA.map (·.1)++(xs.take k).map nm/\fQ ((xs.take (k+1)).map nm) start=fQ ((xs.take k).map nm) start++[(nm x,iV ((start:Int)+(k:Int)))]:=by
 have hk:=(aV.1 hx).1;refine⟨by rw[cB,w9],?_⟩;rw[rH,hx,cB,R9];congr 1;rw[aR,fU,DF s6];simp[fQ]
variable{b:Nat}{vs:ah}
def alk{xs:ae ByteArray}(hl:xs.length<=4096)(hs:start<=4096)(hnd:(aA.map (·.1)).Nodup):
 qR prog (.func 285) [vs,iV (start:Int),.func (.func 287) #[] #[],.map (some b)] [] [fV iZ b aA] [aj jR vs xs] (λy:Bool×ae ByteArray=>if y.1=true then .ok (.map (some b))else .gI (rZ 161))
  (λy=>[fV iZ b (aA++fQ y.2 start)]) (λ_=>[]) (λy=>(y.1=true->y.2=xs/\(aA.map (·.1)++xs).Nodup)/\(y.1=false->¬(aA.map (·.1)++xs).Nodup)):=by
 let nm:ByteArray->ByteArray:=λs=>s
 have hmap:∀l:ae ByteArray,l.map nm=l:=λl=>List.map_id' l;suffices h:qR prog (.func 285) [vs,iV (start:Int),.func (.func 287) #[] #[],.map (some b)] [] [fV iZ b aA] [aj jR vs xs] (λy:Bool×ae ByteArray=>if y.1=true then .ok (.map (some b))else .gI (rZ 161))
  (λy=>[fV iZ b (aA++fQ y.2 start)]) (λ_=>[]) (λy=>(y.1=true->y.2=(xs.map nm)/\(aA.map (·.1)++xs.map nm).Nodup)/\(y.1=false->¬(aA.map (·.1)++xs.map nm).Nodup))by
  rw[hmap]at h;exact h
 refine yC _ (qo 285) λB w0=>?_;refine go ?_;rw[show fV iZ b aA=fV iZ b (aA++fQ ((xs.take 0).map nm) start)by simp[fQ]];refine dV (λk=>xs.length - k) (λk:Nat=>[(15,iV (k:Int))]) (λk=>[fV iZ b (aA++fQ ((xs.take k).map nm) start)]) (λ_=>[]) (λk=>k<=xs.length/\(aA.map (·.1)++(xs.take k).map nm).Nodup) 0 ⟨bM _,w8⟩ (body:=?_);rintro k ⟨hk,hall⟩;refine aO ?_ ?_<;>intro h1
 .refine gX jR λ_ _ x (y:Unit) hx=>?_;refine gC (aaY (s:=x)) λ_ _=>?_;refine go ?_;refine JV vT (nm x) (λv hv hm=>?_) (λhm=>?_)
  .exact cj
  refine gC (aaY (s:=x)) λ_ _=>?_;refine go ?_;refine vJ vT (nm x) (aA:=aA++fQ ((xs.take k).map nm) start) (v:=iV ((start:Int)+(k:Int))) ?_;have hm2:=hm;rw[(tO hx).1]at hm2;rw[Gw hm,List.append_assoc,<- (tO (aA:=aA) hx).2];refine go ?_;refine aU (k+1) s6 ⟨s6,?_⟩;rw[rH,hx,cB,<- List.append_assoc,jA];refine⟨hall,s7,λa ha c hc=>?_⟩;have:c=nm x:=xa
  exact ir
 have hkl:k=xs.length:=s6
 subst hkl;rw[fu]at hall;rw[fu];refine go ?_;exact CB (true,xs.map nm) (hv:=rfl) (hp:=⟨λ_=>⟨rfl,hall⟩,λh=>by cases h⟩)
def alm{xs:ae oL}(hl:xs.length<=4096)(hs:start<=4096)(hnd:(aA.map (·.1)).Nodup):
 qR prog (.func 281) [vs,iV (start:Int),.func (.func 282) #[] #[],.map (some b)] [] [fV iZ b aA] [aj kF vs xs] (λy:Bool×ae ByteArray=>if y.1=true then .ok (.map (some b))else .gI (rZ 161))
  (λy=>[fV iZ b (aA++fQ y.2 start)]) (λ_=>[]) (λy=>(y.1=true->y.2=(xs.map oL.name)/\(aA.map (·.1)++xs.map oL.name).Nodup)/\(y.1=false->¬(aA.map (·.1)++xs.map oL.name).Nodup)):=by
 let nm:oL->ByteArray:=oL.name
 refine yC _ (qo 281) λB w0=>?_;refine go ?_;rw[show fV iZ b aA=fV iZ b (aA++fQ ((xs.take 0).map nm) start)by simp[fQ]];refine dV (λk=>xs.length - k) (λk:Nat=>[(15,iV (k:Int))]) (λk=>[fV iZ b (aA++fQ ((xs.take k).map nm) start)]) (λ_=>[]) (λk=>k<=xs.length/\(aA.map (·.1)++(xs.take k).map nm).Nodup) 0 ⟨bM _,w8⟩ (body:=?_);rintro k ⟨hk,hall⟩;refine aO ?_ ?_<;>intro h1
 .refine gX kF λ_ _ x y hx=>?_;refine go ?_;intro b10;refine gC (aaU (x:=x)) λ_ _=>?_;refine go ?_;refine JV vT (nm x) (λv hv hm=>?_) (λhm=>?_)
  .exact cj
  refine gC (aaU (x:=x)) λ_ _=>?_;refine go ?_;refine vJ vT (nm x) (aA:=aA++fQ ((xs.take k).map nm) start) (v:=iV ((start:Int)+(k:Int))) ?_;have hm2:=hm;rw[(tO hx).1]at hm2;rw[Gw hm,List.append_assoc,<- (tO (aA:=aA) hx).2];refine go ?_;refine aU (k+1) s6 ⟨s6,?_⟩;rw[rH,hx,cB,<- List.append_assoc,jA];refine⟨hall,s7,λa ha c hc=>?_⟩;have:c=nm x:=xa
  exact ir
 have hkl:k=xs.length:=s6
 subst hkl;rw[fu]at hall;rw[fu];refine go ?_;exact CB (true,xs.map nm) (hv:=rfl) (hp:=⟨λ_=>⟨rfl,hall⟩,λh=>by cases h⟩)
def aln{xs:ae qV}(hl:xs.length<=4096)(hs:start<=4096)(hnd:(aA.map (·.1)).Nodup):
 qR prog (.func 283) [vs,iV (start:Int),.func (.func 284) #[] #[],.map (some b)] [] [fV iZ b aA] [aj lG vs xs] (λy:Bool×ae ByteArray=>if y.1=true then .ok (.map (some b))else .gI (rZ 161))
  (λy=>[fV iZ b (aA++fQ y.2 start)]) (λ_=>[]) (λy=>(y.1=true->y.2=(xs.map qV.name)/\(aA.map (·.1)++xs.map qV.name).Nodup)/\(y.1=false->¬(aA.map (·.1)++xs.map qV.name).Nodup)):=by
 let nm:qV->ByteArray:=qV.name
 refine yC _ (qo 283) λB w0=>?_;refine go ?_;rw[show fV iZ b aA=fV iZ b (aA++fQ ((xs.take 0).map nm) start)by simp[fQ]];refine dV (λk=>xs.length - k) (λk:Nat=>[(15,iV (k:Int))]) (λk=>[fV iZ b (aA++fQ ((xs.take k).map nm) start)]) (λ_=>[]) (λk=>k<=xs.length/\(aA.map (·.1)++(xs.take k).map nm).Nodup) 0 ⟨bM _,w8⟩ (body:=?_);rintro k ⟨hk,hall⟩;refine aO ?_ ?_<;>intro h1
 .refine gX lG λ_ _ x y hx=>?_;refine go ?_;intro b10;refine gC (aaV (x:=x) (v:=y)) λ_ _=>?_;refine go ?_;refine JV vT (nm x) (λv hv hm=>?_) (λhm=>?_)
  .exact cj
  refine gC (aaV (x:=x) (v:=y)) λ_ _=>?_;refine go ?_;refine vJ vT (nm x) (aA:=aA++fQ ((xs.take k).map nm) start) (v:=iV ((start:Int)+(k:Int))) ?_;have hm2:=hm;rw[(tO hx).1]at hm2;rw[Gw hm,List.append_assoc,<- (tO (aA:=aA) hx).2];refine go ?_;refine aU (k+1) s6 ⟨s6,?_⟩;rw[rH,hx,cB,<- List.append_assoc,jA];refine⟨hall,s7,λa ha c hc=>?_⟩;have:c=nm x:=xa
  exact ir
 have hkl:k=xs.length:=s6
 subst hkl;rw[fu]at hall;rw[fu];refine go ?_;exact CB (true,xs.map nm) (hv:=rfl) (hp:=⟨λ_=>⟨rfl,hall⟩,λh=>by cases h⟩)
def alo{xs:ae ji}(hl:xs.length<=4096)(hs:start<=4096)(hnd:(aA.map (·.1)).Nodup):
 qR prog (.func 288) [vs,iV (start:Int),.func (.func 289) #[] #[],.map (some b)] [] [fV iZ b aA] [aj eZ vs xs] (λy:Bool×ae ByteArray=>if y.1=true then .ok (.map (some b))else .gI (rZ 161))
  (λy=>[fV iZ b (aA++fQ y.2 start)]) (λ_=>[]) (λy=>(y.1=true->y.2=(xs.map ji.name)/\(aA.map (·.1)++xs.map ji.name).Nodup)/\(y.1=false->¬(aA.map (·.1)++xs.map ji.name).Nodup)):=by
 let nm:ji->ByteArray:=ji.name
 refine yC _ (qo 288) λB w0=>?_;refine go ?_;rw[show fV iZ b aA=fV iZ b (aA++fQ ((xs.take 0).map nm) start)by simp[fQ]];refine dV (λk=>xs.length - k) (λk:Nat=>[(15,iV (k:Int))]) (λk=>[fV iZ b (aA++fQ ((xs.take k).map nm) start)]) (λ_=>[]) (λk=>k<=xs.length/\(aA.map (·.1)++(xs.take k).map nm).Nodup) 0 ⟨bM _,w8⟩ (body:=?_);rintro k ⟨hk,hall⟩;refine aO ?_ ?_<;>intro h1
 .refine gX eZ λ_ _ x y hx=>?_;refine go ?_;intro b10;refine gC (aaW (x:=x)) λ_ _=>?_;refine go ?_;refine JV vT (nm x) (λv hv hm=>?_) (λhm=>?_)
  .exact cj
  refine gC (aaW (x:=x)) λ_ _=>?_;refine go ?_;refine vJ vT (nm x) (aA:=aA++fQ ((xs.take k).map nm) start) (v:=iV ((start:Int)+(k:Int))) ?_;have hm2:=hm;rw[(tO hx).1]at hm2;rw[Gw hm,List.append_assoc,<- (tO (aA:=aA) hx).2];refine go ?_;refine aU (k+1) s6 ⟨s6,?_⟩;rw[rH,hx,cB,<- List.append_assoc,jA];refine⟨hall,s7,λa ha c hc=>?_⟩;have:c=nm x:=xa
  exact ir
 have hkl:k=xs.length:=s6
 subst hkl;rw[fu]at hall;rw[fu];refine go ?_;exact CB (true,xs.map nm) (hv:=rfl) (hp:=⟨λ_=>⟨rfl,hall⟩,λh=>by cases h⟩)
def alp{xs:ae dP}(hl:xs.length<=4096)(hs:start<=4096)(hnd:(aA.map (·.1)).Nodup):
 qR prog (.func 292) [vs,iV (start:Int),.func (.func 293) #[] #[],.map (some b)] [] [fV iZ b aA] [aj bZ vs xs] (λy:Bool×ae ByteArray=>if y.1=true then .ok (.map (some b))else .gI (rZ 161))
  (λy=>[fV iZ b (aA++fQ y.2 start)]) (λ_=>[]) (λy=>(y.1=true->y.2=(xs.map dP.name)/\(aA.map (·.1)++xs.map dP.name).Nodup)/\(y.1=false->¬(aA.map (·.1)++xs.map dP.name).Nodup)):=by
 let nm:dP->ByteArray:=dP.name
 refine yC _ (qo 292) λB w0=>?_;refine go ?_;rw[show fV iZ b aA=fV iZ b (aA++fQ ((xs.take 0).map nm) start)by simp[fQ]];refine dV (λk=>xs.length - k) (λk:Nat=>[(15,iV (k:Int))]) (λk=>[fV iZ b (aA++fQ ((xs.take k).map nm) start)]) (λ_=>[]) (λk=>k<=xs.length/\(aA.map (·.1)++(xs.take k).map nm).Nodup) 0 ⟨bM _,w8⟩ (body:=?_);rintro k ⟨hk,hall⟩;refine aO ?_ ?_<;>intro h1
 .refine gX bZ λ_ _ x y hx=>?_;refine go ?_;intro b10;refine gC (aaX (x:=x) (v1:=y.1) (v2:=y.2)) λ_ _=>?_;refine go ?_;refine JV vT (nm x) (λv hv hm=>?_) (λhm=>?_)
  .exact cj
  refine gC (aaX (x:=x) (v1:=y.1) (v2:=y.2)) λ_ _=>?_;refine go ?_;refine vJ vT (nm x) (aA:=aA++fQ ((xs.take k).map nm) start) (v:=iV ((start:Int)+(k:Int))) ?_;have hm2:=hm;rw[(tO hx).1]at hm2;rw[Gw hm,List.append_assoc,<- (tO (aA:=aA) hx).2];refine go ?_;refine aU (k+1) s6 ⟨s6,?_⟩;rw[rH,hx,cB,<- List.append_assoc,jA];refine⟨hall,s7,λa ha c hc=>?_⟩;have:c=nm x:=xa
  exact ir
 have hkl:k=xs.length:=s6
 subst hkl;rw[fu]at hall;rw[fu];refine go ?_;exact CB (true,xs.map nm) (hv:=rfl) (hp:=⟨λ_=>⟨rfl,hall⟩,λh=>by cases h⟩)
end Go.Proofs.YtoilpafpgndilaaGreat
namespace Go.Proofs.YtoilpafpgndilaaGreat
open Tryz (prog)
open Go.Ideal Kd
noncomputable def Tq:iG:=⟨9,[],(.seq (kO [⟨⟨(some 3),none,.recover⟩,[]⟩,kS 2 (.jm 3)]) (.seq (kO [kM 4 2,kS 5 (.bin .neq 20 4 (.const .nilIface))]) (.cond 5 (kO [⟨⟨(some 6),none,(.build [vE,(iV 0),(iV 0),(iV 0),(iV 0),vS,vS,vS,vS,vS] [])⟩,[]⟩,kM 7 2,kS 8 (.K3 43 (iV 0) false 7),kN (.store 10 0 6),kN (.store 1 1 8)]) .skip)))⟩
def aaZ:mO prog 280=some Tq:=s8
section
variable {P:Program} {B:ae Nat} {w0:Wd} {kl kl':ae OA} {F:ae aI} {K:KO} {ds:ae Tmp} {rest:ae bN} {n:Nat} {l:qr} {D:ae Deferred} {pm:ak FrameMode} {ro:ak Nat} {d:Nat} {g:ak (Tmp×Bool)}
variable{α:Type}
def aa0[DecidableEq α]{bB:α->ah}{kt:aD}{zero:ah}{m k:ay}{b:Nat}{aA:ae (α×ah)}(hk:rW P kt bB)(a:α)
 (hit:∀v,dF a aA=some v->a∈aA.map (·.1)->R (λh=>aM P ds rest (act n ((d,.tuple ⟨[v,.bool true]⟩)::l) D pm ro) h K) B w0 kl F)
 (miss:a∉aA.map (·.1)->R (λh=>aM P ds rest (act n ((d,.tuple ⟨[zero,.bool false]⟩)::l) D pm ro) h K) B w0 kl F)
 (hm:ev l m=.map (some b):=by rfl) (ha:ev l k=bB a:=by conv=>lhs;whnf) (hf:Ba bB b aA∈F:=by exact iN) (hn:Nat.blt d n=true:=by rfl) (hg:bO l g=true:=by rfl):
 R (λh=>aM P ds (⟨⟨some d,g,.lookup kt zero m k true⟩,[]⟩::rest) (act n l D pm ro) h K) B w0 kl F:=by
 refine Rz (ok:=true) hk a ?_ hm ha hf hn hg;by_cases h:a∈aA.map (·.1)
 .exact js
 .exact lz
def Tt(E:Enc α){v:ah}{aC:ae (α×E.Y)}{Q:IH->Prop}(h0:aC=[]->∀c,v=.slice none 0 c->R Q B w0 kl F)(h1:aC=[]->∀i o f c,v=.slice (some ⟨i,o,some f⟩) 0 c->R Q B w0 kl F)
 (h2:0<aC.length->∀i o f c,v=.slice (some ⟨i,o,some f⟩) aC.length c->R Q B w0 kl F) (hf:vK E v aC∈F:=by exact iN):R Q B w0 kl F:=λw s=>by
 rcases s.facts _ hf with⟨e,a,c,hv,hg⟩|⟨i,o,f,c,cells,⟨hv,_⟩,_⟩
 .exact kx
 .exact nl
def Tu(E:Enc α){Q:IH->Prop}(h:R Q B w0 (ar E (.slice none 0 0) []::kl) F):R Q B w0 kl F:=λw s=>by
 obtain⟨S,h1,h2,h3⟩:=s.own;exact h w ⟨s.agree,s.le,s.fH,⟨S,⟨[],S,.inl ⟨rfl,⟨none,rfl,trivial⟩,rfl⟩,h1,rfl⟩,h2,h3⟩,s.facts⟩
end
def alq:aX prog (.func 286) [] [] [] [] (λv:ah=>v) (λ_=>[]) (λv=>[aj jR v EC]) (λ_=>True):=by
 refine mq aaT alj λB w0=>?_;refine go ?_;intro b;refine go ?_;refine wV (b:=b) (m:=8) (f:=0) jR (aC:=EC.map λs=>(s,())) rfl (.inl rfl) ?_ (hk:=aB.here);refine M7 (E:=jR) ?_ (λw hw p hp f hf=>by cases hf);exact gQ (.slice (some ⟨b,0,some 0⟩) 8 8) trivial (hF:=.cons (dB _ (dD ..)) .nil)
variable{s:ByteArray}
def NY{b:Nat}{aA:ae (ByteArray×ah)}:
 qR prog (.func 291) [.map (some b),.string s] [] [] [Ba iZ b aA] (λy:ak ah=>match y with|some v=>.ok v|none=>.gI (rZ 160)) (λ_=>[]) (λ_=>[]) (λy=>y=dF s aA):=by
 refine yC _ (qo 291) λB w0=>?_;refine go ?_;refine aa0 vT s (λv hv hm=>?_) (λhm=>?_)
 .refine go ?_;exact CB (some v) (hv:=rfl) (hp:=hv.symm)
 .refine go ?_;refine Er ?_;refine go ?_;exact CF none (hv:=rfl) (hp:=(vN hm).symm)
variable{fB l:ae ByteArray}
def alr{k:Nat}(h:l[k]? =some s):mG fB (l.take (k+1))=mG fB (l.take k)|||1<<<jZ s fB:=by
 unfold mG;rw[rH,h,wD];rfl
def aa1{fB:ae ByteArray}(hs:fB.length<=16):∀(l:ae ByteArray) (m:Nat),(∀s∈l,s∈fB)->m<65536->l.foldl (λm s=>m|||1<<<jZ s fB) m<65536
 |[],m,_,hm=>hm
 |s::l,m,h,hm=>by
  rw[nC];refine aa1 hs l _ (λx hx=>h x (dB _ hx)) ?_;have h1:=EB (h s (dD ..));have h2:1<<<jZ s fB<2^16:=by
   rw[Nat.shiftLeft_eq,Ad];exact nr
  exact Nat.or_lt_two_pow (n:=16) hm h2
def aa2{b4 bs:Nat}{vl:ah}(hs:fB.length<=16)(hl:l.length<2^63):
 qR prog (.func 295) [vl] [ptr' b4] [] [bW b4 0 [.map (some bs)],Ba iZ bs (fQ fB 0),aj jR vl l] (λy:Bool=>if y=true then .ok (iV (mG fB l:Int))else .gI (rZ 160)) (λ_=>[]) (λ_=>[])
  (λy=>(y=true->∀s∈l,s∈fB)/\(y=false->¬∀s∈l,s∈fB)):=by
 refine yC _ (qo 295) λB w0=>?_;refine gL (λk=>l.length - k) (λk:Nat=>[(8,iV (k:Int)),(3,iV (mG fB (l.take k):Int))]) (λk=>k<=l.length/\∀s∈l.take k,s∈fB) 0 ⟨bM _,s7⟩ ?_;rintro k ⟨hk,hall⟩;refine aO ?_ ?_<;>intro h1
 .refine gX jR λ_ _ x (y:Unit) hx=>?_;refine go ?_;refine sZ (NY (b:=bs) (s:=x) (aA:=fQ fB 0)) (λy v hy e=>?_) (λy ch hy e=>?_)
  .have hm:x∈fB:=by
    by_cases h:x∈fB
    .exact h
    .exact iS
   rw[Bd hm]at hy;subst hy;injection e with e;subst e;have hp:=EB hm;have h2:1<<<jZ x fB<2^16:=by
    rw[Nat.shiftLeft_eq,Ad];exact nr
   have h3:=aa1 hs (l.take k) 0 hall s6;rw[eB];refine(cZ rfl rfl (ain (a:=1) (b:=jZ x fB) rfl rfl s6 s6)).h ?_;refine(cZ rfl rfl (aio (a:=mG fB (l.take k)) (b:=1<<<jZ x fB) rfl rfl (Nat.lt_trans h3 s6) s6)).h ?_;refine go ?_;refine aU (k+1) s6 ⟨s6,λs hs'=>?_⟩ (hl:=⟨rfl,by rw[alr hx];rfl,DM⟩);rw[rH,hx]at hs';rcases fq.1 hs' with h|h
   .exact hall s h
   .have:s=x:=by simpa using h
    rw[this];exact hm
  .refine go ?_;have hm:x∉fB:=by
    exact mu
   have hch:ch=rZ 160:=by
    rw[vN zc]at hy;subst hy;injection e with e;exact e.symm
   subst hch;exact CF false (hv:=rfl) (hp:=⟨(λh=>by cases h),λ_ h=>hm (h x (aT hx))⟩)
 have hkl:k=l.length:=s6
 subst hkl;rw[fu]at hall⊢;refine go ?_;exact CB true (hv:=rfl) (hp:=⟨λ_=>hall,λh=>by cases h⟩)
variable{v:ah}
def als{aC:ae (ji×eZ.Y)}(hl:aC.length<=4096):aX prog (.func 290) [v] [] [] [vK eZ v aC] (λv':ah=>v') (λv'=>[ar eZ v' aC]) (λ_=>[]) (λ_=>True):=by
 refine gB 290 λB w0=>?_;refine Tt (v:=v) (aC:=aC) eZ (λe c ev=>?_) (λe i o f c ev=>?_) (λhne i o f c ev=>?_)
 .subst e ev;refine go ?_;refine(cZ rfl rfl (Gi (e:=94) s8 rfl)).h ?_;refine go ?_;refine Tu eZ ?_;exact p0
 .subst e ev;refine go ?_;refine(cZ rfl rfl (zy (e:=94) s8 rfl)).h ?_;refine go ?_;intro b;refine go ?_;refine Jw (b:=b) ?_;refine go ?_;refine wV (b:=b) (m:=0) (f:=0) eZ (aC:=[]) rfl (.inl rfl) ?_ (hk:=aB.here);exact mc
 .subst ev;refine go ?_;refine(cZ rfl rfl (zy (e:=94) s8 rfl)).h ?_;refine go ?_;intro b;refine go ?_;refine Jy (b:=b) eZ aC hne s6 (λb'=>?_);refine go ?_;refine wV (b:=b') (m:=aC.length) (f:=eZ.n) eZ (aC:=aC) rfl (.inr rfl) ?_ (hk:=aB.here);exact gQ (.slice (some ⟨b',0,some eZ.n⟩) aC.length aC.length) trivial
def alu{aC:ae (dP×bZ.Y)}(hl:aC.length<=4096):aX prog (.func 294) [v] [] [] [vK bZ v aC] (λv':ah=>v') (λv'=>[ar bZ v' aC]) (λ_=>[]) (λ_=>True):=by
 refine gB 294 λB w0=>?_;refine Tt (v:=v) (aC:=aC) bZ (λe c ev=>?_) (λe i o f c ev=>?_) (λhne i o f c ev=>?_)
 .subst e ev;refine go ?_;refine(cZ rfl rfl (Gi (e:=155) s8 rfl)).h ?_;refine go ?_;refine Tu bZ ?_;exact p0
 .subst e ev;refine go ?_;refine(cZ rfl rfl (zy (e:=155) s8 rfl)).h ?_;refine go ?_;intro b;refine go ?_;refine Jw (b:=b) ?_;refine go ?_;refine wV (b:=b) (m:=0) (f:=0) bZ (aC:=[]) rfl (.inl rfl) ?_ (hk:=aB.here);exact mc
 .subst ev;refine go ?_;refine(cZ rfl rfl (zy (e:=155) s8 rfl)).h ?_;refine go ?_;intro b;refine go ?_;refine Jy (b:=b) bZ aC hne s6 (λb'=>?_);refine go ?_;refine wV (b:=b') (m:=aC.length) (f:=bZ.n) bZ (aC:=aC) rfl (.inr rfl) ?_ (hk:=aB.here);exact gQ (.slice (some ⟨b',0,some bZ.n⟩) aC.length aC.length) trivial
end Go.Proofs.YtoilpafpgndilaaGreat
namespace Go.Proofs.YtoilpafpgndilaaGreat
open Tryz (prog)
open Go.Ideal Kd
noncomputable def NZ:iG:=⟨128,[(.pV 10 2),(.cell1 3)],(.seq (kO [kS 1 (.box 0 35),⟨⟨(some 2),none,(.new [vE,(iV 0),(iV 0),(iV 0),(iV 0),vS,vS,vS,vS,vS] 35)⟩,[]⟩,kS 3 (.new [(iV 0)] 43)]) (.seq (kO [kS 11 (.DJ (.func 280) [] [2,3]),kN (.dcall 11 [])]) (.seq (.seq (kO [kS 12 (.gU 6 1),kS 13 (.fE 12),kS 14 (.pR 13),kS 15 (.bin .gtr 3 14 (.const (iV 16)))]) (.cond 15 (.seq (kO [kS 16 (.sH 10 2),kN (.store 10 2 16),kN (.store 1 3 (.const (iV 2)))]) .ret) .skip)) (.seq (kO [kS 17 (.gU 6 1),kS 18 (.fE 17),⟨⟨(some 19),none,.za⟩,[]⟩,kS 20 (kC 281 [18,(.const (iV 0)),(.func 282),19]),kS 4 (.new [(.map none)] 310),kN (.store 1 4 20)]) (.seq (.ops [21,22,23,24,25,26,5] [kS 21 (.gU 7 1),kS 22 (.fE 21),⟨⟨(some 24),none,.za⟩,[]⟩,⟨⟨(some 23),none,(kC 286 [])⟩,[⟨(some 22),none,(.fE 21)⟩]⟩,⟨⟨(some 25),none,(kC 285 [23,(.const (iV 0)),(.func 287),24])⟩,[⟨(some 22),none,(.fE 21)⟩]⟩,kS 26 (kC 283 [22,(.const (iV 8)),(.func 284),25]),kS 5 (.jm 26)]) (.seq (kO [kS 27 (.gU 8 1),kS 28 (.fE 27),⟨⟨(some 29),none,.za⟩,[]⟩,kS 30 (kC 288 [28,(.const (iV 0)),(.func 289),29]),kS 6 (.jm 30)]) (.seq (kO [kS 31 (.gU 8 1),kS 32 (.fE 31),kS 33 (kC 290 [32]),kS 34 (.gU 8 1),kN (.store 1 34 33)]) (.seq (.seq (kO [kS 35 (.gU 8 1),kS 36 (.fE 35),kS 37 (.pR 36),kS 38 (.mv (.const (iV 0)))]) (.block 0 (.loop (.seq (kO [kS 39 (.bin .lss 3 38 37)]) (.seq (.cond 39 .skip (.exit 0)) (.seq (.block 1 (.seq (kO [kM 40 38,kS 7 (.jm 40)]) (.ops [41,42,43,44,45,46,47,48,49,50,51,52,53] [kS 41 (.gU 8 1),kS 42 (.fE 41),kM 43 7,kM 44 5,kS 45 (.gU 8 1),kS 46 (.fE 45),kM 47 7,kS 48 (.jw 6 46 47),kS 49 (.gU 1 48),kS 50 (.fE 49),⟨⟨(some 51),none,(kC 291 [44,50])⟩,[⟨(some 42),none,(.fE 41)⟩]⟩,kS 52 (.jw 6 42 43),kS 53 (.gU 2 52),kN (.store 1 53 51)]))) (kO [kS 54 (.bin .add 3 38 (.const (iV 1))),kM 38 54]))))))) (.seq (kO [kS 55 (.gU 9 1),kS 56 (.fE 55),⟨⟨(some 57),none,.za⟩,[]⟩,kS 58 (kC 292 [56,(.const (iV 0)),(.func 293),57])]) (.seq (kO [kS 59 (.gU 9 1),kS 60 (.fE 59),kS 61 (kC 294 [60]),kS 62 (.gU 9 1),kN (.store 1 62 61)]) (.seq (kO [kS 63 (.DJ (.func 295) [] [4]),kS 8 (.jm 63)]) (.seq (.seq (kO [kS 64 (.gU 9 1),kS 65 (.fE 64),kS 66 (.pR 65),kS 67 (.mv (.const (iV 0)))]) (.block 2 (.loop (.seq (kO [kS 68 (.bin .lss 3 67 66)]) (.seq (.cond 68 .skip (.exit 2)) (.seq (.block 3 (.seq (kO [kM 69 67,kS 9 (.jm 69)]) (.seq (kO [kS 70 (.gU 9 1),kS 71 (.fE 70),kM 72 9,kS 73 (.jw 12 71 72),kS 10 (.jm 73)]) (.seq (kO [kM 74 10,kM 75 10,kS 76 (.nI 74),kS 77 (.gU 3 76),kN (.store 1 77 (.const (iV 0))),kS 78 (.nI 75),kS 79 (.gU 11 78),kN (.store 1 79 (.const (iV (-1))))]) (.seq (.seq (kO [kM 80 10,kS 81 (.nI 80),kS 82 (.gU 1 81),kS 83 (.fE 82),⟨⟨(some 84),none,(.bin .neq 9 83 (.const vE))⟩,[]⟩]) (.cond 84 (kO [kM 85 10,kM 86 5,kM 87 10,kS 88 (.nI 87),kS 89 (.gU 1 88),kS 90 (.fE 89),kS 91 (kC 291 [86,90]),kS 92 (.nI 85),kS 93 (.gU 3 92),kN (.store 1 93 91)]) .skip)) (.seq (.ops [94,95,96,97,98,99,100,101,102,103,104,105,106,107,108,109,110,111] [kM 94 10,kM 95 10,kM 96 8,kM 97 10,kS 98 (.nI 97),kS 99 (.gU 4 98),kS 100 (.fE 99),kM 102 8,kM 103 10,kS 104 (.nI 103),kS 105 (.gU 5 104),kS 106 (.fE 105),⟨⟨(some 101),none,(.call 96 [100])⟩,[⟨(some 106),none,(.fE 105)⟩]⟩,kS 107 (.call 102 [106]),kS 108 (.nI 94),kS 109 (.gU 6 108),kN (.store 1 109 101),kS 110 (.nI 95),kS 111 (.gU 7 110),kN (.store 1 111 107)]) (.seq (kO [kM 112 10,kS 113 (.nI 112),kS 114 (.gU 10 113),kS 115 (.fE 114),⟨⟨(some 116),none,(.bin .neq 9 115 (.const vE))⟩,[]⟩]) (.cond 116 (kO [kM 117 10,kM 118 6,kM 119 10,kS 120 (.nI 119),kS 121 (.gU 10 120),kS 122 (.fE 121),kS 123 (kC 291 [118,122]),kS 124 (.nI 117),kS 125 (.gU 11 124),kN (.store 1 125 123)]) .skip)))))))) (kO [kS 126 (.bin .add 3 67 (.const (iV 1))),kM 67 126]))))))) (.seq (kO [kS 127 (.sH 10 1),kN (.store 10 2 127),kN (.store 1 3 (.const (iV 0)))]) .ret)))))))))))))⟩
def alv:mO prog 206=some NZ:=s8
def uO(a b:ByteArray):(a.toList==b.toList)=decide (a=b):=by
 rw[ByteArray.toList_eq,ByteArray.toList_eq];by_cases h:a=b
 .subst h;simp
 .rw[bY h];cases hb:a.data.toList==b.data.toList with
  |false=>rfl
  |true=>
   have:=eq_of_beq hb;exact absurd (ByteArray.ext (Array.ext' this)) h
abbrev zI:ae ah:=[.string ⟨⟨[]⟩⟩,iV 0,iV 0,iV 0,iV 0,.slice none 0 0,.slice none 0 0,.slice none 0 0,.slice none 0 0,.slice none 0 0]
variable{b2 b3:Nat}
def alx:Gg prog (.func 280) [] [ptr' b2,ptr' b3] .returning [] [] (λ_:Unit=>.ok (.tuple ⟨[]⟩)) (λ_=>.returning) (λ_=>[]) (λ_=>[]) (λ_=>True):=by
 refine MW Tq aaZ λB w0=>?_;refine go ?_;refine MX (v:=.nilIface) (m':=.returning) rfl ?_;refine go ?_;refine(cZ (v:=.bool false) rfl rfl (λh=>by
  exact eI)).h ?_
 exact qe
def aly{e:Int}(he:e=160\/e=161):Gg prog (.func 280) [] [ptr' b2,ptr' b3] (.panicking (rZ e)) [pt b2 (.cells zI),pt b3 (.cells [iV 0])] [] (λ_:Unit=>.ok (.tuple ⟨[]⟩)) (λ_=>.panicking [{v:=.iface 43 (iV e),recovered:=true}])
 (λ_=>[pt b2 (.cells zI),pt b3 (.cells [iV e])]) (λ_=>[]) (λ_=>True):=by
 refine MW Tq aaZ λB w0=>?_;refine go ?_;refine MX (v:=.iface 43 (iV e)) (m':=.panicking [{v:=.iface 43 (iV e),recovered:=true}]) rfl ?_;refine go ?_;refine(cZ (v:=.bool true) rfl rfl (λh=>by
  show(match l7 prog .neq 20 (.tmp 4) (.const .nilIface) (.iface 43 (iV e)) .nilIface with|some v=>some (v,h)|none=>none)=_;rcases he with rfl|rfl
  .rw[show l7 prog .neq 20 (.tmp 4) (.const .nilIface) (.iface 43 (iV 160)) .nilIface=some (.bool true)by kernel_rfl]
  .rw[show l7 prog .neq 20 (.tmp 4) (.const .nilIface) (.iface 43 (iV 161)) .nilIface=some (.bool true)by kernel_rfl])).h ?_
 refine go ?_;exact M0 () (hv:=rfl) (hm:=rfl) (hp:=trivial)
structure JW where
 ok:Bool
 e:Int
 vc:Value
 vu:Value
abbrev C9(d:dQ)(vh vs vr:ah)(y:JW):ah:=.tuple ⟨[.agg ⟨cond y.ok (oM (Kd.ed d) vh vs vr y.vc y.vu) zI⟩,iV y.e]⟩
abbrev xz(d:dQ)(y:JW):ae aI:=cond y.ok [aj eZ y.vc (Kd.ed d).bV,aj bZ y.vu (Kd.ed d).rules] []
def GN(d:dQ)(y:JW):Prop:=(y.ok=true->y.e=0/\Gy d)/\(y.ok=false->y.e≠0/\¬Gy d)
structure uP(d:dQ):Prop where
 fB:d.symbols.length<=4096
 regs:d.regions.length<=4096
 om:d.bV.length<=4096
 qZ:d.rules.length<=4096
 Bp:∀r∈d.rules,r.names.length<2^63/\r.others.length<2^63
 holes:d.holes.length<2^63
 Bq:∀r∈d.regions,r.lists.length<2^63/\∀l∈r.lists,l.length<2^63
section
variable {B:ae Nat} {w0:Wd} {kl bz:ae OA} {F:ae aI} {l:qr} {b2 b3:Nat} {n:Nat}
def Br{d:dQ}{vh vs vr:ah}{e:Int}(he:e=160\/e=161)(hno:¬Gy d)(h2:lk l 2=ptr' b2)(h3:lk l 3=ptr' b3)(hk:aF [pt b2 (.cells zI),pt b3 (.cells [iV 0])] kl bz):
 R (λh=>sU prog NZ (A9 B w0 (λy=>.ok (C9 d vh vs vr y)) (λ_=>[]) (xz d) (GN d)) (.panic (rZ e)) (act n l [{target:=.fn (.func 280) ⟨[ptr' b2,ptr' b3]⟩,args:=⟨[]⟩}] none none) h) B w0 kl F:=by
 refine Es (m:=.panicking (rZ e)) ?_;refine MZ (bz:=bz) (eX:=λ_=>[pt b2 (.cells zI),pt b3 (.cells [iV e])]++bz) (F2:=λ_=>F) (aly (b2:=b2) (b3:=b3) he) (λy v _ _=>?_) (λy ch _ hc=>by cases hc) (hk:=hk) (hF:=.nil) (hk2:=λ_=>dO.app) (hF2:=λ_=>dO.nil);show RL _ _ _ _ .returning _ _ _ _ _;refine M3 (bz:=[pt b2 (.cells zI),pt b3 (.cells [iV e])]++bz) (vs:=[.agg ⟨zI⟩,iV e]) ⟨false,e,.nilFunc,.nilFunc⟩ rfl ⟨(λh=>by cases h),λ_=>⟨by rcases he with rfl|rfl<;>simp,hno⟩⟩ (hr:=?_) (hk:=.nil) (hF:=.nil);show RS l _ [.pV 10 2,.cell1 3] _;exact .pV h2 .here rfl (.cell1 h3 (.there .here) rfl .nil)
end
section
variable {B:ae Nat} {w0:Wd} {kl bz:ae OA} {F:ae aI} {l:qr} {b2 b3:Nat} {n:Nat}
def aa3{d:dQ}{vh vs vr:ah}{o:Out}{cs:ae ah}{e:Int}(y:JW)(ho:wJ o=some .returning)(hcs:cs=cond y.ok (oM (Kd.ed d) vh vs vr y.vc y.vu) zI)(hl:cs.length=10)(hy:y.e=e)(hp:GN d y)(hF:∀w,(∀f∈F,f.p w)->∀f∈xz d y,f.p w)(h2:lk l 2=ptr' b2)(h3:lk l 3=ptr' b3)(hk:aF [pt b2 (.cells cs),pt b3 (.cells [iV e])] kl bz):
 R (λh=>sU prog NZ (A9 B w0 (λy=>.ok (C9 d vh vs vr y)) (λ_=>[]) (xz d) (GN d)) o (act n l [{target:=.fn (.func 280) ⟨[ptr' b2,ptr' b3]⟩,args:=⟨[]⟩}] none none) h) B w0 kl F:=by
 refine Es (m:=.returning) ?_ ho;refine MZ (k1:=[]) (bz:=kl) (eX:=λ_=>kl) (F2:=λ_=>F) (alx (b2:=b2) (b3:=b3)) (λ_ v _ _=>?_) (λ_ ch _ hc=>by cases hc) (hk:=.nil) (hF:=.nil) (hk2:=λ_=>dO.nil) (hF2:=λ_=>dO.nil);show RL _ _ _ _ .returning _ _ _ _ _;intro w s;have s':St B w0 ([pt b2 (.cells cs),pt b3 (.cells [iV e])]++bz) (xz d y) w:=by
  exact ox
 refine M3 (F:=xz d y) (bz:=[pt b2 (.cells cs),pt b3 (.cells [iV e])]++bz) (vs:=[.agg ⟨cs⟩,iV e]) y ?_ hp (hr:=?_) (hk:=.nil) (hF:=?_) w s'
 .show jB.ok (C9 d vh vs vr y)=_;unfold C9;rw[<- hcs,hy];rfl
 .show RS l _ [.pV 10 2,.cell1 3] _;exact .pV h2 .here (by rw[qp,qJ,yX,if_pos s6,<- hl,fu]) (.cell1 h3 (.there .here) rfl .nil)
 .exact n9
end
variable{X:ae (dP×bZ.Y)}{k:Nat}
def GQ(hk:k<X.length){q q':dP×bZ.Y}{j:Nat}{v:ah}(h:(bZ.pat q.1 q.2).set j v=bZ.pat q'.1 q'.2)(hj:j<12):(cO bZ (X.set k q)).set (0+k*12+j) v=cO bZ (X.set k q'):=by
 rw[eB];have:=RG (E:=bZ) (aC:=X.set k q) (k:=k) (p:=q) (p':=q') DO h hj;rw[List.set_set]at this;exact this
def EM(hk:k<X.length){q:dP×bZ.Y}{j:Nat}{u:ah}(h:(bZ.pat q.1 q.2)[j]? =some u):(cO bZ (X.set k q))[0+k*12+j]? =some u:=by
 rw[eB];exact yF (E:=bZ) (aC:=X.set k q) (k:=k) DO h
def GR(hk:k<X.length){q:dP×bZ.Y}{j:Nat}(hj:j<12):0+k*12+j<(cO bZ (X.set k q)).length:=by
 rw[yE,ku];show 0+k*12+j<X.length*12;omega
def aa4{d:dQ}{vh vs vr vc vu:ah}(hS:uP d):aX prog (.func 206) [.agg ⟨oM d vh vs vr vc vu⟩] [] [] (uF d vh vs vr vc vu) (C9 d vh vs vr) (λ_=>[]) (xz d) (GN d):=by
 refine qR.toC _ ?_ (λ_ _=>rfl);have hsl:=hS.fB;have hrl:=hS.regs;have hcl:=hS.om;have rq:=hS.qZ;refine yC NZ alv λB w0=>?_;refine go ?_;intro b1 b2 b3;refine go ?_;refine Ru ?_;refine aO ?_ ?_<;>intro h1
 .refine go ?_;exact aa3 (e:=2) (cs:=zI) ⟨false,2,.nilFunc,.nilFunc⟩ rfl rfl rfl rfl ⟨(λh=>by cases h),λ_=>⟨s7,λh=>by have:=h.fB;omega⟩⟩ (λw _ f hf=>by cases hf) rfl rfl s9
 have hsy:(jv d).length<=16:=by show(d.symbols.map (·.name)).length<=16;rw[aR];omega
 refine go ?_;refine yD iZ (λbs=>?_);refine go ?_;refine sZ (alm (b:=bs) (start:=0) (aA:=[]) hsl s6 Ae) (λy v hy e=>?_) (λy ch hy e=>?_)
 rotate_left
 .obtain⟨y,ns⟩:=y;cases y with
  |true=>cases e
  |false=>
   injection e with e;subst e;refine go ?_;exact Br (e:=161) (.inr rfl) (λh=>hy.2 rfl (by simpa[jv]using h.ajO)) rfl rfl s9
 obtain⟨y,ns⟩:=y;cases y with
 |false=>cases e
 |true=>
 injection e with e;subst e;have hns:ns=jv d:=(hy.1 rfl).1;have hsn:(jv d).Nodup:=by have:=(hy.1 rfl).2;simpa[jv]using this
 clear hy;subst hns;dsimp only;rw[show([]:ae (ByteArray×ah))++fQ _ 0=fQ _ 0 from rfl];refine gZ (Ew (b:=bs)) ?_;refine go ?_;intro b4;refine go ?_;refine yD iZ (λbf=>?_);refine iy alq (next:=λvg _=>?_);refine sZ (alk (b:=bf) (xs:=EC) (start:=0) (aA:=[]) td s6 Ae) (λy v hy e=>?_) (λy ch hy e=>?_)
 rotate_left
 .obtain⟨y,ns⟩:=y;cases y with
  |true=>cases e
  |false=>exact absurd td (hy.2 rfl)
 obtain⟨y,ns⟩:=y;cases y with
 |false=>cases e
 |true=>
 injection e with e;subst e;have hns:ns=EC:=(hy.1 rfl).1;clear hy;subst hns;dsimp only;rw[show([]:ae (ByteArray×ah))++fQ _ 0=fQ _ 0 from rfl];refine sZ (aln (b:=bf) (start:=8) (aA:=fQ EC 0) hrl s6 (by rw[w9];decide)) (λy v hy e=>?_) (λy ch hy e=>?_)
 rotate_left
 .obtain⟨y,ns⟩:=y;cases y with
  |true=>cases e
  |false=>
   injection e with e;subst e;refine go ?_;exact Br (e:=161) (.inr rfl) (λh=>hy.2 rfl (by rw[w9];exact h.ajP)) rfl rfl s9
 obtain⟨y,ns⟩:=y;cases y with
 |false=>cases e
 |true=>
 injection e with e;subst e;have hns:ns=d.regions.map qV.name:=(hy.1 rfl).1;have hfn:(iJ d).Nodup:=by have:=(hy.1 rfl).2;rw[w9]at this;exact this
 clear hy;subst hns;dsimp only;have hfe:fQ EC 0++fQ (d.regions.map qV.name) 8=fQ (iJ d) 0:=by
  unfold iJ;rw[R9];rfl
 rw[hfe];clear hfe;refine gZ (Ew (b:=bf)) ?_;refine go ?_;refine yD iZ (λbc=>?_);refine go ?_;refine sZ (alo (b:=bc) (start:=0) (aA:=[]) hcl s6 Ae) (λy v hy e=>?_) (λy ch hy e=>?_)
 rotate_left
 .obtain⟨y,ns⟩:=y;cases y with
  |true=>cases e
  |false=>
   injection e with e;subst e;refine go ?_;exact Br (e:=161) (.inr rfl) (λh=>hy.2 rfl (by simpa[mY]using h.ajQ)) rfl rfl s9
 obtain⟨y,ns⟩:=y;cases y with
 |false=>cases e
 |true=>
 injection e with e;subst e;have hns:ns=mY d:=(hy.1 rfl).1;have hcn:(mY d).Nodup:=by have:=(hy.1 rfl).2;simpa[mY]using this
 clear hy;subst hns;dsimp only;rw[show([]:ae (ByteArray×ah))++fQ _ 0=fQ _ 0 from rfl];refine gZ (Ew (b:=bc)) ?_;refine go ?_;refine Jv eZ vc (λxc zA=>?_);have hxl:xc.length=d.bV.length:=by rw[<- zA,aR]
 refine iy (als (aC:=xc) s6) (next:=λv1 _=>?_);refine YU (E:=eZ) (v:=v1) (aC:=xc) (λa1 e1=>?_);subst e1;refine go ?_;let f1:ji×eZ.Y->ji×eZ.Y:=λp=>(Gx (iJ d) p.1,p.2)
 rw[show ar eZ (.slice a1 xc.length xc.length) xc=ar eZ (.slice a1 xc.length xc.length) (kG f1 0 xc)from rfl];refine dV (λk=>xc.length - k) (λk:Nat=>[(38,iV (k:Int))]) (λk=>[ar eZ (.slice a1 xc.length xc.length) (kG f1 k xc)]) (λ_=>[]) (λk=>k<=xc.length/\∀p∈xc.take k,p.1.on∈iJ d) 0 ⟨bM _,s7⟩ (body:=?_);rintro k ⟨hk,hall⟩;refine aO ?_ ?_<;>intro h2
 .refine go ?_;refine YT (E:=eZ) (aC:=kG f1 k xc) (by rw[CP];omega) (λbx fx hfx ev=>?_);injection ev with ea _ _;subst ea;refine go ?_;obtain⟨p,hp⟩:∃p,xc[k]? =some p:=⟨xc[k]'(s6),bG _⟩
  have hget:(kG f1 k xc)[k]? =some p:=by rw[ZP _ s6];exact hp
  have mQ:p.1∈d.bV:=by rw[<- zA];exact Fg (aT hp)
  refine ol (o:=0+k*6+1) (cs:=cO eZ (kG f1 k xc)) (.string p.1.on) (by rw[eB];exact yF (E:=eZ) (j:=1) hget rfl) ?_;refine sZ (NY (b:=bf) (s:=p.1.on) (aA:=fQ (iJ d) 0)) (λy v hy e=>?_) (λy ch hy e=>?_)
  rotate_left
  .have hm:p.1.on∉iJ d:=by
    exact mu
   rw[vN zc]at hy;subst hy;injection e with e;subst e;refine go ?_;exact Br (e:=160) (.inl rfl) (λh=>hm (h.ZN p.1 mQ)) rfl rfl s9
  have hm:p.1.on∈iJ d:=by
   by_cases h:p.1.on∈iJ d
   .exact h
   .exact iS
  rw[Bd hm]at hy;subst hy;injection e with e;subst e;rw[eB];refine go ?_;refine jN (o:=0+k*6+2) (cs:=cO eZ (kG f1 k xc)) (cs':=cO eZ (kG f1 (k+1) xc)) (v:=iV ((jZ p.1.on (iJ d):Nat):Int)) (by rw[eB,<- ZQ f1 hp];exact RG (E:=eZ) (j:=2) (p':=f1 p) hget rfl td) (by rw[yE,CP];show 0+k*6+2<xc.length*6;omega) ?_;refine go ?_;refine wV (b:=bx) (f:=fx) (m:=xc.length) eZ (aC:=kG f1 (k+1) xc) (by rw[CP]) hfx ?_;refine aU (k+1) s6 ⟨s6,λq hq=>?_⟩;rw[rH,hp]at hq;rcases fq.1 hq with h|h
  .exact hall q h
  .have:q=p:=by simpa using h
   rw[this];exact hm
 have hkl:k=xc.length:=s6
 subst hkl;rw[fu]at hall;have hcon:∀c∈d.bV,c.on∈iJ d:=by
  intro c hc;rw[<- zA]at hc;obtain⟨p,hp,rfl⟩:=bS.1 hc;exact hall p hp
 clear hall hk;rw[ZO];refine go ?_;refine yD iZ (λbu=>?_);refine go ?_;refine sZ (alp (b:=bu) (start:=0) (aA:=[]) rq s6 Ae) (λy v hy e=>?_) (λy ch hy e=>?_)
 rotate_left
 .obtain⟨y,ns⟩:=y;cases y with
  |true=>cases e
  |false=>
   injection e with e;subst e;refine go ?_;exact Br (e:=161) (.inr rfl) (λh=>hy.2 rfl (by simpa[Nr]using h.ajR)) rfl rfl s9
 obtain⟨y,ns⟩:=y;cases y with
 |false=>cases e
 |true=>
 injection e with e;subst e;have hrn:(Nr d).Nodup:=by have:=(hy.1 rfl).2;simpa[Nr]using this
 clear hy;dsimp only;refine gZ (Ew (b:=bu)) ?_;refine go ?_;refine Jv bZ vu (λxr mZ=>?_);have atp:xr.length=d.rules.length:=by rw[<- mZ,aR]
 refine iy (alu (aC:=xr) s6) (next:=λv2 _=>?_);refine YU (E:=bZ) (v:=v2) (aC:=xr) (λa2 e2=>?_);subst e2;refine go ?_;refine gP b4 ?_;refine go ?_;let f2:dP×bZ.Y->dP×bZ.Y:=λp=>(yG (jv d) (iJ d) (mY d) p.1,p.2)
 rw[show ar bZ (.slice a2 xr.length xr.length) xr=ar bZ (.slice a2 xr.length xr.length) (kG f2 0 xr)from rfl];refine RH (E:=bZ) (v:=vu) (aC:=xr) ?_;refine dV (λk=>xr.length - k) (λk:Nat=>[(67,iV (k:Int))]) (λk=>[ar bZ (.slice a2 xr.length xr.length) (kG f2 k xr)]) (λ_=>[]) (λk=>k<=xr.length/\∀p∈xr.take k,Sa (jv d) (iJ d) (mY d) p.1) 0 ⟨bM _,s7⟩ (body:=?_);rintro k ⟨hk,hall⟩;refine aO ?_ ?_<;>intro h2
 .refine go ?_;refine YT (E:=bZ) (aC:=kG f2 k xr) (by rw[CP];omega) (λiX fy hfy ev=>?_);injection ev with ea _ _;subst ea;obtain⟨p,hp⟩:∃p,xr[k]? =some p:=⟨xr[k]'(s6),bG _⟩
  have hpm:=aT hp;have hget:(kG f2 k xr)[k]? =some p:=by rw[ZP _ s6];exact hp
  have mQ:p.1∈d.rules:=by rw[<- mZ];exact Fg hpm
  have hfin:=ZQ f2 hp;obtain⟨r,v3,v4⟩:=p;have hrs:=hS.Bp r mQ;have oU:k<(kG f2 k xr).length:=by rw[CP];omega
  have alz:(kG f2 k xr).length=xr.length:=CP _ _ _;have e0:kG f2 k xr=(kG f2 k xr).set k (r,v3,v4):=by
   apply iH;intro i;rw[nY];by_cases hi:k=i
   .subst hi;rw[if_pos rfl,if_pos oU,hget]
   .rw[if_neg hi]
  refine eD (aj jR v3 r.names) (λw h=>h (qz bZ xr) (dD ..) _ hpm _ (dD ..)) ?_;refine eD (aj jR v4 r.others) (λw h=>h (qz bZ xr) (dB _ (dD ..)) _ hpm _ (dB _ (dD ..))) ?_;rw[e0];rw[<- e0];generalize hX:kG f2 k xr=X at oU alz e0 hfin;rw[e0];refine go ?_;refine jN (o:=0+k*12+3) (cs:=cO bZ (X.set k (r,v3,v4))) (cs':=cO bZ (X.set k ({r with family:=0},v3,v4))) (v:=iV 0) (GQ oU rfl s6) (GR oU s6) ?_;refine go ?_;refine jN (o:=0+k*12+11) (cs:=cO bZ (X.set k ({r with family:=0},v3,v4))) (cs':=cO bZ (X.set k ({r with family:=0,aS:= -1},v3,v4))) (v:=iV (-1)) (GQ oU rfl s6) (GR oU s6) ?_;refine go ?_;refine ol (o:=0+k*12+1) (cs:=cO bZ (X.set k ({r with family:=0,aS:= -1},v3,v4))) (.string r.on) (EM oU rfl) ?_;refine go ?_;refine YA (bz:=[pt b1 (.cells [.string d.name,iV d.version,iV d.shape,iV d.w,iV d.h,vh,vs,vr,.slice a1 xc.length xc.length,.slice (some ⟨iX,0,some fy⟩) xr.length xr.length]),ar eZ (.slice a1 xc.length xc.length) (xc.map f1),pt b3 (.cells [iV 0]),pt b2 (.cells zI)]) [] (λ_:Unit=>[]) (λ_=>[pt iX (.cells (cO bZ (X.set k ({r with family:=if r.on=⟨⟨[]⟩⟩then 0 else(jZ r.on (iJ d):Int),aS:= -1},v3,v4))))]) (λ_=>[]) (λ_=>r.on=⟨⟨[]⟩⟩\/r.on∈iJ d) (hx:=?_) (hy:=?_)
  .refine sQ (p:=r.on=⟨⟨[]⟩⟩) Bm (λh3=>?_) (λh3=>?_)
   .refine go ?_;refine ol (o:=0+k*12+1) (cs:=cO bZ (X.set k ({r with family:=0,aS:= -1},v3,v4))) (.string r.on) (EM oU rfl) ?_;refine sZ (NY (b:=bf) (s:=r.on) (aA:=fQ (iJ d) 0)) (λy v hy e=>?_) (λy ch hy e=>?_)
    rotate_left
    .have hm:r.on∉iJ d:=by
      exact mu
     rw[vN zc]at hy;subst hy;injection e with e;subst e;refine go ?_;refine aiu ?_;refine go ?_;exact Br (e:=160) (.inl rfl) (λh=>(h.tu r mQ).on.elim h3 hm) rfl rfl s9
    have hm:r.on∈iJ d:=by
     by_cases h:r.on∈iJ d
     .exact h
     .exact iS
    rw[Bd hm]at hy;subst hy;injection e with e;subst e;rw[eB];refine go ?_;refine jN (o:=0+k*12+3) (cs:=cO bZ (X.set k ({r with family:=0,aS:= -1},v3,v4))) (cs':=cO bZ (X.set k ({r with family:=if r.on=⟨⟨[]⟩⟩then 0 else(jZ r.on (iJ d):Int),aS:= -1},v3,v4))) (v:=iV ((jZ r.on (iJ d):Nat):Int)) (by rw[if_neg h3];exact GQ oU rfl s6) (GR oU s6) ?_;refine go ?_;exact MV () (.inr hm)
   .refine go ?_;rw[show({r with family:=0,aS:= -1}:dP)={r with family:=if r.on=⟨⟨[]⟩⟩then 0 else(jZ r.on (iJ d):Int),aS:= -1}by rw[if_pos h3]];exact MV () (.inl h3)
  intro _ hon;generalize hfm:(if r.on=⟨⟨[]⟩⟩then 0 else(jZ r.on (iJ d):Int))=fm;refine go ?_;refine ol (o:=0+k*12+4) (cs:=cO bZ (X.set k ({r with family:=fm,aS:= -1},v3,v4))) v3 (EM oU rfl) ?_;refine go ?_;refine ol (o:=0+k*12+5) (cs:=cO bZ (X.set k ({r with family:=fm,aS:= -1},v3,v4))) v4 (EM oU rfl) ?_;refine go ?_;refine sZ (aa2 (b4:=b4) (bs:=bs) (vl:=v3) (fB:=jv d) (l:=r.names) hsy hrs.1) (λy v hy e=>?_) (λy ch hy e=>?_)
   (hs:=λy v _ _=>Em (b:=iX) (o:=0+k*12+5) (cs:=cO bZ (X.set k ({r with family:=fm,aS:= -1},v3,v4))) (v:=v4) rfl zd (by rw[uw];exact EM oU rfl) rfl Cy)
  rotate_left
  .cases y with
   |true=>cases e
   |false=>
    injection e with e;subst e;refine go ?_;exact Br (e:=160) (.inl rfl) (λh=>hy.2 rfl (h.tu r mQ).names) rfl rfl s9
  cases y with
  |false=>cases e
  |true=>
  injection e with e;subst e;have alA:=hy.1 rfl;clear hy;refine go ?_;refine go ?_;refine sZ (aa2 (b4:=b4) (bs:=bs) (vl:=v4) (fB:=jv d) (l:=r.others) hsy hrs.2) (λy v hy e=>?_) (λy ch hy e=>?_)
  rotate_left
  .cases y with
   |true=>cases e
   |false=>
    injection e with e;subst e;refine go ?_;exact Br (e:=160) (.inl rfl) (λh=>hy.2 rfl (h.tu r mQ).others) rfl rfl s9
  cases y with
  |false=>cases e
  |true=>
  injection e with e;subst e;have alB:=hy.1 rfl;clear hy;refine go ?_;refine jN (o:=0+k*12+6) (cs:=cO bZ (X.set k ({r with family:=fm,aS:= -1},v3,v4))) (cs':=cO bZ (X.set k ({r with family:=fm,aS:= -1,set:=(mG (jv d) r.names:Int)},v3,v4))) (v:=iV (mG (jv d) r.names:Int)) (GQ oU rfl s6) (GR oU s6) ?_;refine go ?_;refine jN (o:=0+k*12+7) (cs:=cO bZ (X.set k ({r with family:=fm,aS:= -1,set:=(mG (jv d) r.names:Int)},v3,v4))) (cs':=cO bZ (X.set k ({r with family:=fm,aS:= -1,set:=(mG (jv d) r.names:Int),other:=(mG (jv d) r.others:Int)},v3,v4))) (v:=iV (mG (jv d) r.others:Int)) (GQ oU rfl s6) (GR oU s6) ?_;refine go ?_;refine ol (o:=0+k*12+10) (cs:=cO bZ (X.set k ({r with family:=fm,aS:= -1,set:=(mG (jv d) r.names:Int),other:=(mG (jv d) r.others:Int)},v3,v4))) (.string r.iX) (EM oU rfl) ?_;refine go ?_;have hnext:(r.iX=⟨⟨[]⟩⟩\/r.iX∈mY d)->∀q∈xr.take (k+1),Sa (jv d) (iJ d) (mY d) q.1:=by
   intro hby q hq;rw[rH,hp]at hq;rcases fq.1 hq with h|h
   .exact hall q h
   .have:q=(r,v3,v4):=bA.1 (show q∈[(r,v3,v4)]from h);rw[this];exact⟨hon,alA,alB,hby⟩
  refine sQ (p:=r.iX=⟨⟨[]⟩⟩) Bm (λh3=>?_) (λh3=>?_)
  .refine go ?_;refine ol (o:=0+k*12+10) (cs:=cO bZ (X.set k ({r with family:=fm,aS:= -1,set:=(mG (jv d) r.names:Int),other:=(mG (jv d) r.others:Int)},v3,v4))) (.string r.iX) (EM oU rfl) ?_;refine sZ (NY (b:=bc) (s:=r.iX) (aA:=fQ (mY d) 0)) (λy v hy e=>?_) (λy ch hy e=>?_)
   rotate_left
   .have hm:r.iX∉mY d:=by
     exact mu
    rw[vN zc]at hy;subst hy;injection e with e;subst e;refine go ?_;exact Br (e:=160) (.inl rfl) (λh=>(h.tu r mQ).iX.elim h3 hm) rfl rfl s9
   have hm:r.iX∈mY d:=by
    by_cases h:r.iX∈mY d
    .exact h
    .exact iS
   rw[Bd hm]at hy;subst hy;injection e with e;subst e;rw[eB];refine go ?_;refine jN (o:=0+k*12+11) (cs:=cO bZ (X.set k ({r with family:=fm,aS:= -1,set:=(mG (jv d) r.names:Int),other:=(mG (jv d) r.others:Int)},v3,v4))) (cs':=cO bZ (X.set k (f2 (r,v3,v4)))) (v:=iV ((jZ r.iX (mY d):Nat):Int)) (GQ oU (by show _=vM (yG (jv d) (iJ d) (mY d) r) v3 v4;unfold yG;rw[if_neg h3,hfm];rfl) s6) (GR oU s6) ?_;refine go ?_;rw[hfin];refine wV (b:=iX) (f:=fy) (m:=xr.length) bZ (aC:=kG f2 (k+1) xr) (by rw[CP]) hfy ?_;exact aU (k+1) s6 ⟨s6,hnext (.inr hm)⟩
  .refine go ?_;rw[show X.set k (({r with family:=fm,aS:= -1,set:=(mG (jv d) r.names:Int),other:=(mG (jv d) r.others:Int)}:dP),v3,v4)=kG f2 (k+1) xr by
    rw[<- hfin];congr 1;show _=(yG (jv d) (iJ d) (mY d) r,v3,v4)
    unfold yG;rw[if_pos h3,hfm];rfl]
   refine wV (b:=iX) (f:=fy) (m:=xr.length) bZ (aC:=kG f2 (k+1) xr) (by rw[CP]) hfy ?_;exact aU (k+1) s6 ⟨s6,hnext (.inl h3)⟩
 have hkl:k=xr.length:=s6
 subst hkl;rw[fu]at hall;rw[ZO];refine M7 (E:=eZ) (v:=.slice a1 xc.length xc.length) (aC:=xc.map f1) ?_ (λw h p hp f hf=>by cases hf);refine M7 (E:=bZ) (v:=.slice a2 xr.length xr.length) (aC:=xr.map f2) ?_ (λw h p hp f hf=>by
  obtain⟨q,hq,rfl⟩:=bS.1 hp;exact h (qz bZ xr) (dB _ (dB _ (dD ..))) q hq f hf)
 refine go ?_;refine aa3 (e:=0) ⟨true,0,.slice a1 xc.length xc.length,.slice a2 xr.length xr.length⟩ rfl (by rfl) rfl rfl ⟨λ_=>⟨rfl,⟨s6,hsn,hfn,hcn,hcon,hrn,λr hr=>?_⟩⟩,λh=>by cases h⟩ (λw h f hf=>?_) rfl rfl s9
 .rw[<- mZ]at hr;obtain⟨p,hp,rfl⟩:=bS.1 hr;exact hall p hp
 .have ec:(xc.map f1).map (·.1)=(Kd.ed d).bV:=by
   show _=d.bV.map (Gx (iJ d));rw[<- zA,rG,rG];rfl
  have er:(xr.map f2).map (·.1)=(Kd.ed d).rules:=by
   show _=d.rules.map (yG (jv d) (iJ d) (mY d));rw[<- mZ,rG,rG];rfl
  rw[ec,er]at h;have hf:f∈[aj eZ (.slice a1 xc.length xc.length) (Kd.ed d).bV,aj bZ (.slice a2 xr.length xr.length) (Kd.ed d).rules]:=hf;rcases bH.1 hf with rfl|hf
  .exact h _ s7
  .exact rI
end Go.Proofs.YtoilpafpgndilaaGreat
namespace Go.Proofs.YtoilpafpgndilaaGreat
open Tryz (prog)
open Go.Ideal Kd
variable{va vb:ah}{xs ys:ae (ae Int)}
def aa6(hal:xs.length<2^63)(hl:∀l∈xs,l.length<2^63):dZ prog 213 [va,vb,.func (.func 58) #[] #[]] [aj (az ai) va xs,aj (az ai) vb ys] (.bool (decide (xs=ys))):=by
 refine gB 213 λB w0=>?_;refine aO ?_ ?_<;>intro h1
 .exact c6
 have hlen:xs.length=ys.length:=s6
 refine gN xs.length 17 (λk=>k<=xs.length/\∀j,j<k->xs[j]? =ys[j]?) ⟨s6,λj hj=>by omega⟩ ?_;rintro k ⟨hkx,hsame⟩;refine aO ?_ ?_<;>intro h2
 .refine gX (az ai) λ_ _ x (vx:ah) hx=>?_;refine gX (az ai) λ_ _ y (vy:ah) hy=>?_;refine gC (vR (xs:=x) (ys:=y) (hl x (aT hx))) λ_ _=>?_;refine go ?_;refine sQ rfl (λh3=>?_) (λh3=>?_)
  .exact cP
  exact cF
 exact cC
def aa7(hal:xs.length<2^63)(hl:∀l∈xs,l.length<2^63):dZ prog 143 [va,vb] [aj (az ai) va xs,aj (az ai) vb ys] (.bool (decide (xs=ys))):=by
 refine gB 143 λB w0=>?_;refine gC (aa6 (xs:=xs) (ys:=ys) hal hl) λ_ _=>?_;exact eH
def alC{xs ys:ae (ae (ae Int))}(hal:xs.length<2^63)(hl:∀l∈xs,l.length<2^63/\∀m∈l,m.length<2^63):dZ prog 144 [va,vb,.func (.func 143) #[] #[]] [aj (az (az ai)) va xs,aj (az (az ai)) vb ys] (.bool (decide (xs=ys))):=by
 refine gB 144 λB w0=>?_;refine aO ?_ ?_<;>intro h1
 .exact c6
 have hlen:xs.length=ys.length:=s6
 refine gN xs.length 17 (λk=>k<=xs.length/\∀j,j<k->xs[j]? =ys[j]?) ⟨s6,λj hj=>by omega⟩ ?_;rintro k ⟨hkx,hsame⟩;refine aO ?_ ?_<;>intro h2
 .refine gX (az (az ai)) λ_ _ x (vx:ah) hx=>?_;refine gX (az (az ai)) λ_ _ y (vy:ah) hy=>?_;refine gC (aa7 (xs:=x) (ys:=y) (hl x (aT hx)).1 (hl x (aT hx)).2) λ_ _=>?_;refine go ?_;refine sQ rfl (λh3=>?_) (λh3=>?_)
  .exact cP
  exact cF
 exact cC
def aa8{xs ys:ae ByteArray}(hal:xs.length<2^63):dZ prog 215 [va,vb] [aj jR va xs,aj jR vb ys] (.bool (decide (xs=ys))):=by
 refine gB 215 λB w0=>?_;refine aO ?_ ?_<;>intro h1
 .exact c6
 have hlen:xs.length=ys.length:=s6
 refine gN xs.length 13 (λk=>k<=xs.length/\∀j,j<k->xs[j]? =ys[j]?) ⟨s6,λj hj=>by omega⟩ ?_;rintro k ⟨hkx,hsame⟩;refine aO ?_ ?_<;>intro h2
 .refine gX jR λ_ _ x (_:Unit) hx=>?_;refine gX jR λ_ _ y (_:Unit) hy=>?_;refine go ?_;refine sQ (p:=x=y) Bm (λh3=>?_) (λh3=>?_)
  .exact cP
  exact cF
 exact cC
def alD(x y:oL):cellsE [.string x.name,iV x.value] [.string y.name,iV y.value]=decide (x=y):=by
 obtain⟨a,b⟩:=x;obtain⟨c,e⟩:=y;show(decide (a=c)&&(decide (b=e)&&true))=_;rw[Bool.and_true,<- Bool.decide_and];exact rF.2 ⟨λh=>by rw[h.1,h.2],λh=>by cases h;exact⟨rfl,rfl⟩⟩
abbrev Tv(x:ji):ae ah:=[.string x.name,.string x.on,iV x.family,iV x.type,iV x.lo,iV x.hi]
def alE(x y:ji):cellsE (Tv x) (Tv y)=decide (x=y):=by
 obtain⟨a1,a2,a3,a4,a5,a6⟩:=x;obtain⟨b1,b2,b3,b4,b5,b6⟩:=y;show(decide (a1=b1)&&(decide (a2=b2)&&(decide (a3=b3)&&(decide (a4=b4)&&(decide (a5=b5)&&(decide (a6=b6)&&true))))))=_;rw[Bool.and_true];simp only[<- Bool.decide_and];exact rF.2 ⟨λh=>by rw[h.1,h.2.1,h.2.2.1,h.2.2.2.1,h.2.2.2.2.1,h.2.2.2.2.2],λh=>by cases h;exact⟨rfl,rfl,rfl,rfl,rfl,rfl⟩⟩
def alF:∃fs:Array Field,prog.underlying 246=some (.struct fs)/\Gm prog fs.toList 0 [false,true]=true:=by
 refine⟨prog.fieldsOf 246,s8,s8⟩
def alG:∃fs:Array Field,prog.underlying 94=some (.struct fs)/\Gm prog fs.toList 0 [false,false,true,true,true,true]=true:=by
 refine⟨prog.fieldsOf 94,s8,s8⟩
def alH{xs ys:ae oL}(hal:xs.length<2^63):dZ prog 216 [va,vb] [aj kF va xs,aj kF vb ys] (.bool (decide (xs=ys))):=by
 obtain⟨fs,hu,hrow⟩:=alF;refine gB 216 λB w0=>?_;refine aO ?_ ?_<;>intro h1
 .exact c6
 have hlen:xs.length=ys.length:=s6
 refine gN xs.length 13 (λk=>k<=xs.length/\∀j,j<k->xs[j]? =ys[j]?) ⟨s6,λj hj=>by omega⟩ ?_;rintro k ⟨hkx,hsame⟩;refine aO ?_ ?_<;>intro h2
 .refine gX kF λ_ _ x (_:Unit) hx=>?_;refine gX kF λ_ _ y (_:Unit) hy=>?_;refine go ?_;refine(cZ (v:=.bool (!decide (x=y))) rfl rfl (by rw[<- alD];exact YY rfl rfl hu s8 s8 (row_of hrow rfl rfl (λj=>by rw[eB]) (λj=>by rw[eB])) zj zj)).h ?_;refine go ?_;refine sQ rfl (λh3=>?_) (λh3=>?_)
  .exact cP
  exact cF
 exact cC
def alI{xs ys:ae ji}(hal:xs.length<2^63):dZ prog 218 [va,vb] [aj eZ va xs,aj eZ vb ys] (.bool (decide (xs=ys))):=by
 obtain⟨fs,hu,hrow⟩:=alG;refine gB 218 λB w0=>?_;refine aO ?_ ?_<;>intro h1
 .exact c6
 have hlen:xs.length=ys.length:=s6
 refine gN xs.length 13 (λk=>k<=xs.length/\∀j,j<k->xs[j]? =ys[j]?) ⟨s6,λj hj=>by omega⟩ ?_;rintro k ⟨hkx,hsame⟩;refine aO ?_ ?_<;>intro h2
 .refine gX eZ λ_ _ x (_:Unit) hx=>?_;refine gX eZ λ_ _ y (_:Unit) hy=>?_;refine go ?_;refine(cZ (v:=.bool (!decide (x=y))) rfl rfl (by rw[<- alE];exact YY rfl rfl hu s8 s8 (row_of hrow rfl rfl (λj=>by rw[eB]) (λj=>by rw[eB])) zj zj)).h ?_;refine go ?_;refine sQ rfl (λh3=>?_) (λh3=>?_)
  .exact cP
  exact cF
 exact cC
end Go.Proofs.YtoilpafpgndilaaGreat
namespace Go.Proofs.YtoilpafpgndilaaGreat
open Tryz (prog)
open Go.Ideal Kd
def alJ{x y:qV}{vx vy:ah}(hl:x.lists.length<2^63)(hll:∀l∈x.lists,l.length<2^63):dZ prog 212 [.agg ⟨[.string x.name,vx]⟩,.agg ⟨[.string y.name,vy]⟩] [aj (az ai) vx x.lists,aj (az ai) vy y.lists] (.bool (decide (x=y))):=by
 obtain⟨n1,l1⟩:=x;obtain⟨n2,l2⟩:=y;dsimp only at hl hll⊢;refine gB 212 λB w0=>?_;refine go ?_;intro b2 b3;refine gH ?_ ?_<;>intro h1
 .rw[uO]at h1;refine bF ?_;rw[bY (λe=>uZ h1 tr)];rfl
 rw[uO]at h1;have h1:=ko h1;refine gC (aa6 (xs:=l1) (ys:=l2) hl hll) λ_ _=>?_;refine bF ?_;rw[show decide (qV.mk n1 l1=qV.mk n2 l2)=decide (l1=l2)from rF.2 ⟨λh=>by cases h;rfl,λh=>by rw[h1,h]⟩];rfl
variable{u1 u2:ah}
def alK{x y:dP}{v1 v2:ah}(hl:x.names.length<2^63)(hll:x.others.length<2^63):dZ prog 214 [.agg ⟨vM x v1 v2⟩,.agg ⟨vM y u1 u2⟩] [aj jR v1 x.names,aj jR v2 x.others,aj jR u1 y.names,aj jR u2 y.others] (.bool (decide (x=y))):=by
 obtain⟨n1,o1,k1,f1,ns1,os1,s1,t1,p1,m1,y1,c1⟩:=x;obtain⟨n2,o2,k2,f2,ns2,os2,s2,t2,p2,m2,y2,c2⟩:=y;dsimp only[vM]at hl hll⊢;refine gB 214 λB w0=>?_;refine go ?_;intro b2 b3;refine gC (aa8 (xs:=ns1) (ys:=ns2) hl) λ_ _=>?_;refine gH ?_ ?_<;>intro h1
 .refine bF ?_;rw[bY (λe=>h1 tr)];rfl
 refine gC (aa8 (xs:=os1) (ys:=os2) hll) λ_ _=>?_;refine gH ?_ ?_<;>intro h2
 .refine bF ?_;rw[bY (λe=>h2 tr)];rfl
 refine gH ?_ ?_<;>intro h3
 .rw[uO]at h3;refine bF ?_;rw[bY (λe=>uZ h3 tr)];rfl
 rw[uO]at h3;have h3:=ko h3;refine gH ?_ ?_<;>intro h4
 .rw[uO]at h4;refine bF ?_;rw[bY (λe=>uZ h4 tr)];rfl
 rw[uO]at h4;have h4:=ko h4;refine gH ?_ ?_<;>intro h5
 .rw[uO]at h5;refine bF ?_;rw[bY (λe=>uZ h5 tr)];rfl
 rw[uO]at h5;have h5:=ko h5;refine go ?_;refine(cZ (v:=.bool (decide ([k1,f1,s1,t1,p1,m1,c1]=[k2,f2,s2,t2,p2,m2,c2]))) rfl rfl (aiP (n:=7) (e:=3) rfl rfl s8 s8 s8 rfl rfl s8)).h ?_;refine bF ?_;rw[show decide (dP.mk n1 o1 k1 f1 ns1 os1 s1 t1 p1 m1 y1 c1=dP.mk n2 o2 k2 f2 ns2 os2 s2 t2 p2 m2 y2 c2)=decide ([k1,f1,s1,t1,p1,m1,c1]=[k2,f2,s2,t2,p2,m2,c2])from rF.2 ⟨λh=>by cases h;rfl,λh=>by cases h;rw[h1,h2,h3,h4,h5]⟩];rfl
variable{va vb:ah}
def alL{xs ys:ae qV}(hal:xs.length<2^63)(hl:∀r∈xs,r.lists.length<2^63/\∀l∈r.lists,l.length<2^63):dZ prog 217 [va,vb,.func (.func 212) #[] #[]] [aj lG va xs,aj lG vb ys] (.bool (decide (xs=ys))):=by
 refine gB 217 λB w0=>?_;refine aO ?_ ?_<;>intro h1
 .exact c6
 have hlen:xs.length=ys.length:=s6
 refine gN xs.length 17 (λk=>k<=xs.length/\∀j,j<k->xs[j]? =ys[j]?) ⟨s6,λj hj=>by omega⟩ ?_;rintro k ⟨hkx,hsame⟩;refine aO ?_ ?_<;>intro h2
 .refine gX lG λ_ _ x (vx:ah) hx=>?_;refine go ?_;intro b8;refine gX lG λ_ _ y (vy:ah) hy=>?_;refine go ?_;intro b9;refine gC (alJ (x:=x) (y:=y) (vx:=vx) (vy:=vy) (hl x (aT hx)).1 (hl x (aT hx)).2) λ_ _=>?_;refine go ?_;refine sQ rfl (λh3=>?_) (λh3=>?_)
  .exact cP
  exact cF
 exact cC
def alM{xs ys:ae dP}(hal:xs.length<2^63)(hl:∀r∈xs,r.names.length<2^63/\r.others.length<2^63):dZ prog 219 [va,vb,.func (.func 214) #[] #[]] [aj bZ va xs,aj bZ vb ys] (.bool (decide (xs=ys))):=by
 refine gB 219 λB w0=>?_;refine aO ?_ ?_<;>intro h1
 .exact c6
 have hlen:xs.length=ys.length:=s6
 refine gN xs.length 17 (λk=>k<=xs.length/\∀j,j<k->xs[j]? =ys[j]?) ⟨s6,λj hj=>by omega⟩ ?_;rintro k ⟨hkx,hsame⟩;refine aO ?_ ?_<;>intro h2
 .refine gX bZ λ_ _ x (vx:ah×ah) hx=>?_;refine go ?_;intro b8;refine gX bZ λ_ _ y (vy:ah×ah) hy=>?_;refine go ?_;intro b9;refine gC (alK (x:=x) (y:=y) (v1:=vx.1) (v2:=vx.2) (u1:=vy.1) (u2:=vy.2) (hl x (aT hx)).1 (hl x (aT hx)).2) λ_ _=>?_;refine go ?_;refine sQ rfl (λh3=>?_) (λh3=>?_)
  .exact cP
  exact cF
 exact cC
def abb{x y:dQ}{h1 s1 r1 c1 h2 s2 r2 c2:ah}(hS:uP x):dZ prog 142 [.agg ⟨oM x h1 s1 r1 c1 u1⟩,.agg ⟨oM y h2 s2 r2 c2 u2⟩] (uF x h1 s1 r1 c1 u1++uF y h2 s2 r2 c2 u2) (.bool (decide (x=y))):=by
 have e1:=hS.fB;have e2:=hS.regs;have e3:=hS.om;have e4:=hS.qZ;have e5:=hS.Bp;have e6:=hS.holes;have e7:=hS.Bq;clear hS;obtain⟨n1,v1,p1,w1,g1,ho1,sy1,re1,cl1,Tw⟩:=x;obtain⟨n2,v2,p2,w2,g2,ho2,sy2,re2,cl2,Tx⟩:=y;dsimp only at e1 e2 e3 e4 e5 e6 e7;dsimp only[oM,uF,List.cons_append,List.nil_append];refine gB 142 λB w0=>?_;refine go ?_;intro b2 b3;refine gH ?_ ?_<;>intro k1
 .rw[uO]at k1;refine bF ?_;rw[bY (λe=>uZ k1 tr)];rfl
 rw[uO]at k1;have k1:=ko k1;refine gH ?_ ?_<;>intro k2
 .exact sE
 refine gH ?_ ?_<;>intro k3
 .exact sC
 refine gH ?_ ?_<;>intro k4
 .exact sB
 refine gH ?_ ?_<;>intro k5
 .exact sA
 refine gC (vR (xs:=ho1) (ys:=ho2) e6) λ_ _=>?_;refine gH ?_ ?_<;>intro k6
 .exact sx
 refine gC (alH (xs:=sy1) (ys:=sy2) s6) λ_ _=>?_;refine gH ?_ ?_<;>intro k7
 .exact sv
 refine gC (alL (xs:=re1) (ys:=re2) s6 e7) λ_ _=>?_;refine gH ?_ ?_<;>intro k8
 .refine bF ?_;rw[bY (λe=>k8 tr)];rfl
 refine gC (alI (xs:=cl1) (ys:=cl2) s6) λ_ _=>?_;refine gH ?_ ?_<;>intro k9
 .refine bF ?_;rw[bY (λe=>k9 tr)];rfl
 refine gC (alM (xs:=Tw) (ys:=Tx) s6 e5) λ_ _=>?_;refine bF ?_;rw[show decide (dQ.mk n1 v1 p1 w1 g1 ho1 sy1 re1 cl1 Tw=dQ.mk n2 v2 p2 w2 g2 ho2 sy2 re2 cl2 Tx)=decide (Tw=Tx)from rF.2 ⟨λh=>by cases h;rfl,λh=>by rw[k1,k2,k3,k4,k5,k6,k7,k8,k9,h]⟩];rfl
