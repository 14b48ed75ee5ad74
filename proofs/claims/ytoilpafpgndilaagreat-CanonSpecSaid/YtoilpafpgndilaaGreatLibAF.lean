/- Part. -/
import Derived.Test.YtoilpafpgndilaaGreatProg
import Derived.Test.YtoilpafpgndilaaGreatPlainAF
import Derived.Laws.Strings
set_option linter.all false
set_option maxRecDepth 10000
set_option maxHeartbeats 4000000
namespace Go.Proofs.YtoilpafpgndilaaGreat
open Tryz (prog)
open Go.Ideal
noncomputable def Vj:=uE prog 162
def aeY:mO prog 162=some Vj:=Ax
noncomputable def Vk:=uE prog 125
def aeZ:mO prog 125=some Vk:=Ax
structure ae0(grid:List Int):Prop where
 len:grid.length<=1000000
 oJ:∀x∈grid,0<=x/\x<16
structure ae1(grid cells:List Int):Prop where
 len:cells.length<=1000000
 cell:∀c∈cells,0<=c/\c<grid.length
def sy(grid:kI Int)(c:Int):Nat:=(grid.getD c.toNat 0).toNat
def cnt(grid:kI Int)(set:Nat)(cells:kI Int):Nat:=(cells.filter λc=>set.testBit (sy grid c)).length
def take_one{α:Type}{xs:kI α}{k:Nat}{x:α}(h:xs[k]? =some x):xs.take (k+1)=xs.take k++[x]:=by
 rw[nP,h];rfl
structure ae2(values grid:List Int):Prop where
 val:∀v∈values,0<=v/\v<=99
 oJ:∀x∈grid,x<values.length
def va(values grid:kI Int)(c:Int):Int:=values.getD (sy grid c) 0
def met(grid cells:kI Int):Nat:=cells.foldl (λm c=>m|||1<<<sy grid c) 0
noncomputable def Vl:=uE prog 58
def ae3:mO prog 58=some Vl:=Ax
def rn(grid:kI Int)(set:Nat):Nat->kI Int->kI Int
 |n,[]=>if 0<n then[(n:Int)]else[]
 |n,c::cs=>if set.testBit (sy grid c)then rn grid set (n+1) cs else if 0<n then(n:Int)::rn grid set 0 cs else rn grid set 0 cs
abbrev ae4{α:Type}(E:Enc α)(b:Nat)(ys:kI α):OA:=MK λv:vI=>[pt b (.cells [v]),ap E v ys]
def Bf{va vb:vI}{xs ys:kI Int}(hal:xs.length<2^63):dD prog 58 [va,vb] [ai ae va xs,ai ae vb ys] (.bool (decide (xs=ys))):=by
 refine aM Vl ae3 λB w0=>?_;refine gIf ?_ ?_<;>intro h1
 .exact ez
 have hlen:xs.length=ys.length:=z7
 refine gN xs.length 13 (λk=>k<=xs.length/\∀j,j<k->xs[j]? =ys[j]?) ⟨z7,λj hj=>by omega⟩ ?_;rintro k ⟨hkx,hsame⟩;refine gIf ?_ ?_<;>intro h2
 .refine go ?_;intro _ _ x hx _ _ y hy;refine aA rfl ?_ ?_<;>intro h3
  .exact cV
  exact nl
 exact cF
abbrev NY(P:Program)(fn:Fn)(first cap:kI vI)(v:vI)(F:kI aO)(b:Bool):Prop:=bA P fn (first++[v]) cap [] F (λ_:Unit=>.bool b) (λ_=>[]) (λ_=>[]) (λ_=>True)
variable{va:vI}{xs:kI Int}{fn:Fn}{first cap:kI vI}{F1:kI aO}{p:Int->Bool}
def ae5(hl:xs.length<2^63)(hp:∀x∈xs,NY prog fn first cap (iV x) F1 (p x)):
 fC prog 220 [va,.func fn ⟨first⟩ ⟨cap⟩] (ai ae va xs::F1) (λr:Int=>iV r) (λr=>(0<=r↔xs.any p=true)):=by
 refine gB 220 λB w0=>?_;refine gN xs.length 8 (λk=>k<=xs.length/\(xs.take k).any p=false) ⟨z7,An⟩ ?_;rintro k ⟨hk,hno⟩;refine gIf ?_ ?_<;>intro h1
 .refine go ?_;intro _ _ x hx;refine ay (hp x (aZ hx)) (next:=λ_ _=>?_);refine go ?_;refine kw rfl (λh2=>?_) (λh2=>?_)
  .refine go ?_;refine gQ (k:Int) ?_;have:xs.any p=true:=List.any_eq_true.2 ⟨x,aZ hx,h2⟩;simp[this]
  .refine go ?_;refine aN (k+1) z7 ⟨z7,?_⟩;rw[take_one hx,amP,hno];simp[h2]
 refine go ?_;have:k=xs.length:=z7
 subst this;rw[bU]at hno;refine gQ (-1) ?_;rw[hno];simp
def ae6(hl:xs.length<2^63)(hp:∀x∈xs,NY prog fn first cap (iV x) F1 (p x)):
 fC prog 145 [va,.func fn ⟨first⟩ ⟨cap⟩] (ai ae va xs::F1) (λ_:Unit=>.bool (xs.any p)) (λ_=>True):=by
 refine gB 145 λB w0=>?_;refine gC (ae5 hl hp) λr hr=>?_;refine acM ?_;have:decide (0<=r)=xs.any p:=by
  by_cases h:0<=r
  .rw[dK h,hr.1 h]
  .rw[aR h];cases e:xs.any p with
   |false=>rfl
   |true=>exact absurd (hr.2 e) h
 rw[<- this];rfl
variable{z:Int}
def apP(hl:xs.length<2^63):
 fC prog 326 [va,iV z] [ai ae va xs] (λr:Int=>iV r) (λr=>(0<=r↔z∈xs)):=by
 refine gB 326 λB w0=>?_;refine gN xs.length 8 (λk=>k<=xs.length/\z∉xs.take k) ⟨z7,An⟩ ?_;rintro k ⟨hk,hno⟩;refine gIf ?_ ?_<;>intro h1
 .refine go ?_;intro _ _ x hx;refine aA rfl ?_ ?_<;>intro h2
  .refine go ?_;refine gQ (k:Int) ?_;subst h2;simp[aZ hx]
  .refine go ?_;refine aN (k+1) z7 ⟨z7,?_⟩;rw[take_one hx,dX,not_or];exact⟨hno,BW⟩
 refine go ?_;have:k=xs.length:=z7
 subst this;rw[bU]at hno;refine gQ (-1) ?_;simp[hno]
def apQ(hl:xs.length<2^63):dD prog 236 [va,iV z] [ai ae va xs] (.bool (decide (z∈xs))):=by
 refine gB 236 λB w0=>?_;refine gC (apP hl) λr hr=>?_;refine acM ?_;rw[<- nO.2 hr];rfl
variable{lo hi:Int}
def ae7{b4 b5:Nat}{x:Int}:NY prog (.func 146) [] [ptr' b4,ptr' b5] (iV x) [gY b4 0 [iV lo],gY b5 0 [iV hi]] (decide (x<lo\/hi<x)):=by
 refine gB 146 λB w0=>?_;refine gH ?_ ?_<;>intro h1
 .refine acM ?_;rw[show decide (x<lo\/hi<x)=decide (hi<x)from nO.2 ⟨λh=>h.elim (λh=>absurd h h1) id,.inr⟩];rfl
 refine acM ?_;rw[dK (.inl h1)];rfl
def xZ(xs:kI Int)(lo hi:Int):Bool:=decide (∀x∈xs,lo<=x/\x<=hi)
def NZ(hl:xs.length<2^63):dD prog 109 [va,iV lo,iV hi] [ai ae va xs] (.bool (xZ xs lo hi)):=by
 refine gB 109 λB w0=>?_;refine go ?_;intro b4 b5;refine gP b4 ?_;refine gP b5 ?_;refine ay (ae6 (p:=λx=>decide (x<lo\/hi<x)) hl (λx _=>ae7 (b4:=b4) (b5:=b5))) (next:=λ_ _=>?_);refine acM ?_;have:(!xs.any λx=>decide (x<lo\/hi<x))=xZ xs lo hi:=by
  rw[List.not_any_eq_all_not,xZ];rw[zP];simp only[lK,wP,Dy,decide_eq_false_iff_not,not_or,Int.not_lt]
 rw[<- this];rfl
structure kL(g:List (List Int)):Prop where
 len:g.length<=256
 ok:∀(i:Nat) l,g[i]? =some l->∀(k:Nat) n,l[k]? =some n->0<=n/\n<g.length/\n≠i/\(∀m,0<k->l[k - 1]? =some m->m<n)/\∀l',g[n.toNat]? =some l'->(i:Int)∈l'
end Go.Proofs.YtoilpafpgndilaaGreat
namespace Go.Proofs.YtoilpafpgndilaaGreat
open Tryz (prog)
open Go.Ideal
open Go.Ideal Gph
def kL.rg{g:kI (kI Int)}(h:kL g):∀l∈g,∀n∈l,Rg g n:=λl hl n hn=>by
 obtain⟨i,hi⟩:=jS hl;obtain⟨k,hk⟩:=jS hn;have:=h.ok i l hi k n hk;exact⟨this.1,this.2.1⟩
structure akx where
 a:Option Addr
 n:Nat
 e:Int
structure ae8(c:Jc):Prop where
 cells:c.cells.length<2^63
 runs:c.runs.length<2^63
def Fin(cells symbols:Int)(grid:kI Int):Prop:=(grid.length:Int)=cells/\∀s∈grid,0<=s/\s<symbols
structure aky(q:Ua):Prop where
 cells:1<=q.cells/\q.cells<=256
 symbols:1<=q.symbols/\q.symbols<=16
 akz:(q.values.length:Int)=q.symbols
 vals:∀v∈q.values,0<=v/\v<=99
 Vm:(q.aQ.length:Int)=q.cells
 akA:kL q.aQ
 many:q.cons.length<=4096
 fine:∀c∈q.cons,Na q.cells q.symbols c
structure akB(q:Ua):Prop where
 values:q.values.length<2^63
 aQ:∀l∈q.aQ,l.length<2^63
 cons:q.cons.length<2^63
 con:∀c∈q.cons,ae8 c
structure asD(q:Ua)(c:Jc)(grid:List Int):Prop where
 gr:ae0 grid
 ce:ae1 grid c.cells
 vs:ae2 q.values grid
 st:0<=c.set/\c.set<65537
 ot:0<=c.other/\c.other<65537
open Go.Ideal Kd
noncomputable def Vn:gV:=⟨2,[(.tmp 0)],(.seq (kO [kS 0 (.nD (.const vS))]) (.seq (kO [⟨⟨(some 1),none,(.wU 9 8 [vE,vE,vE,vE,vE,vE,vE,vE] [⟨0,⟨1,(.const (.string ⟨⟨[99,101,108,108,115]⟩⟩))⟩⟩,⟨1,⟨1,(.const (.string ⟨⟨[114,111,119,115]⟩⟩))⟩⟩,⟨2,⟨1,(.const (.string ⟨⟨[99,111,108,117,109,110,115]⟩⟩))⟩⟩,⟨3,⟨1,(.const (.string ⟨⟨[100,105,97,103,111,110,97,108,115]⟩⟩))⟩⟩,⟨4,⟨1,(.const (.string ⟨⟨[97,114,111,117,110,100]⟩⟩))⟩⟩,⟨5,⟨1,(.const (.string ⟨⟨[110,101,97,114]⟩⟩))⟩⟩,⟨6,⟨1,(.const (.string ⟨⟨[112,97,105,114,115]⟩⟩))⟩⟩,⟨7,⟨1,(.const (.string ⟨⟨[97,108,108]⟩⟩))⟩⟩])⟩,[]⟩,kS 0 (.nD 1)]) .ret))⟩
def ae9:mO prog 286=some Vn:=Ax
abbrev iW:ByteArray->vI:=λs=>.string s
def vB:rR prog 9 iW:=acT Ax
abbrev uh(e:Int):kI PanicEntry:=[{v:=.iface 43 (iV e),recovered:=false}]
def Vo{x:mU}:dD prog 282 [.agg ⟨[.string x.name,iV x.value]⟩] [] (.string x.name):=by
 refine gB 282 λB w0=>?_;refine go ?_;intro b;exact afN
def Vp{x:mV}{v:vI}:dD prog 284 [.agg ⟨[.string x.name,v]⟩] [] (.string x.name):=by
 refine gB 284 λB w0=>?_;refine go ?_;intro b;exact afN
def Vq{x:gW}:dD prog 289 [.agg ⟨[.string x.name,.string x.on,iV x.family,iV x.type,iV x.lo,iV x.hi]⟩] [] (.string x.name):=by
 refine gB 289 λB w0=>?_;refine go ?_;intro b;exact afN
def Vr{x:bN}{v1 v2:vI}:dD prog 293 [.agg ⟨lV x v1 v2⟩] [] (.string x.name):=by
 refine gB 293 λB w0=>?_;refine go ?_;intro b;exact afN
def Vs{s:ByteArray}:dD prog 287 [.string s] [] (.string s):=by
 refine gB 287 λB w0=>?_;exact afN
def FD{P:Program}{B:kI Nat}{w0:Wd}{kl kl':kI OA}{F:kI aO}{K:KO}{ds:kI Tmp}{rest:kI bV}{n:Nat}{l:qr}{D:kI Deferred}{pm:x8 FrameMode}{ro:x8 Nat}{d:Nat}{g:x8 (Tmp×Bool)}
 {α:Type} [DecidableEq α] {aX:α->vI} {kt:adH} {zero:vI} {m k:aaB} {b:Nat} {aj:kI (α×vI)} (hk:rR P kt aX) (a:α)
 (hit:∀v,dR a aj=some v->a∈aj.map (·.1)->R (λh=>aH P ds rest (act n ((d,.tuple ⟨[v,.bool true]⟩)::l) D pm ro) h K) B w0 kl F)
 (miss:a∉aj.map (·.1)->R (λh=>aH P ds rest (act n ((d,.tuple ⟨[zero,.bool false]⟩)::l) D pm ro) h K) B w0 kl F)
 (hm:ev l m=.map (some b):=by rfl) (ha:ev l k=aX a:=by conv=>lhs;whnf) (hs:az (mpA aX b aj) kl kl':=by exact afv) (hn:Nat.blt d n=true:=by rfl) (hg:cZ l g=true:=by rfl):
 R (λh=>aH P ds (⟨⟨some d,g,.lookup kt zero m k true⟩,[]⟩::rest) (act n l D pm ro) h K) B w0 kl F:=by
 refine E9 (ok:=true) hk a ?_ hm ha hs hn hg;by_cases h:a∈aj.map (·.1)
 .exact oe
 .exact pA
variable{aj:kI (ByteArray×vI)}{start:Nat}
def qi{α:Type}{xs:kI α}{nm:α->ByteArray}{k:Nat}{x:α}(hx:xs[k]? =some x):
 (aj++fD ((xs.take k).map nm) start).map (·.1)=aj.map (·.1)++(xs.take k).map nm/\fD ((xs.take (k+1)).map nm) start=fD ((xs.take k).map nm) start++[(nm x,iV ((start:Int)+(k:Int)))]:=by
 have hk:=(bq.1 hx).1;refine⟨by rw[fP,tZ],?_⟩;rw[nP,hx,fP,Nc];congr 1;rw[bY,gT,DF z7];simp[fD]
variable{b:Nat}{vs:vI}
def afa{xs:kI ByteArray}(hl:xs.length<=4096)(hs:start<=4096)(hnd:(aj.map (·.1)).Nodup):
 qJ prog (.func 285) [vs,iV (start:Int),.func (.func 287) #[] #[],.map (some b)] [] [mpA iW b aj] [ai bC vs xs] (λy:Bool×kI ByteArray=>if y.1=true then .ok (.map (some b))else .fT (uh 161))
  (λy=>[mpA iW b (aj++fD y.2 start)]) (λ_=>[]) (λy=>(y.1=true->y.2=xs/\(aj.map (·.1)++xs).Nodup)/\(y.1=false->¬(aj.map (·.1)++xs).Nodup)):=by
 let nm:ByteArray->ByteArray:=λs=>s
 have hmap:∀l:kI ByteArray,l.map nm=l:=λl=>List.map_id' l;suffices h:qJ prog (.func 285) [vs,iV (start:Int),.func (.func 287) #[] #[],.map (some b)] [] [mpA iW b aj] [ai bC vs xs] (λy:Bool×kI ByteArray=>if y.1=true then .ok (.map (some b))else .fT (uh 161))
  (λy=>[mpA iW b (aj++fD y.2 start)]) (λ_=>[]) (λy=>(y.1=true->y.2=(xs.map nm)/\(aj.map (·.1)++xs.map nm).Nodup)/\(y.1=false->¬(aj.map (·.1)++xs.map nm).Nodup))by
  rw[hmap]at h;exact h
 refine y7 _ (aP 285) λB w0=>?_;refine go ?_;rw[show mpA iW b aj=mpA iW b (aj++fD ((xs.take 0).map nm) start)by simp[fD]];refine aU (λk=>xs.length - k) (λk:Nat=>[(15,iV (k:Int))]) (λk=>[mpA iW b (aj++fD ((xs.take k).map nm) start)]) (λ_=>[]) (λk=>k<=xs.length/\(aj.map (·.1)++(xs.take k).map nm).Nodup) 0 ⟨bR _,CD⟩ (body:=?_);rintro k ⟨hk,hall⟩;refine gIf ?_ ?_<;>intro h1
 .refine gX bC λ_ _ x (y:Unit) hx=>?_;refine gC (Vs (s:=x)) λ_ _=>?_;refine go ?_;refine FD vB (nm x) (λv hv hm=>?_) (λhm=>?_)
  .exact bj
  refine gC (Vs (s:=x)) λ_ _=>?_;refine go ?_;refine xN vB (nm x) (aj:=aj++fD ((xs.take k).map nm) start) (v:=iV ((start:Int)+(k:Int))) ?_;have hm2:=hm;rw[(qi hx).1]at hm2;rw[CS hm,List.append_assoc,<- (qi (aj:=aj) hx).2];refine go ?_;refine aN (k+1) z7 ⟨z7,?_⟩;rw[nP,hx,fP,<- List.append_assoc,iT];refine⟨hall,An,λa ha c hc=>?_⟩;have:c=nm x:=CH
  exact nF
 have hkl:k=xs.length:=z7
 subst hkl;rw[bU]at hall;rw[bU];refine go ?_;exact AP (true,xs.map nm) (hv:=rfl) (hp:=⟨λ_=>⟨rfl,hall⟩,λh=>by cases h⟩)
def afb{xs:kI mU}(hl:xs.length<=4096)(hs:start<=4096)(hnd:(aj.map (·.1)).Nodup):
 qJ prog (.func 281) [vs,iV (start:Int),.func (.func 282) #[] #[],.map (some b)] [] [mpA iW b aj] [ai fF vs xs] (λy:Bool×kI ByteArray=>if y.1=true then .ok (.map (some b))else .fT (uh 161))
  (λy=>[mpA iW b (aj++fD y.2 start)]) (λ_=>[]) (λy=>(y.1=true->y.2=(xs.map mU.name)/\(aj.map (·.1)++xs.map mU.name).Nodup)/\(y.1=false->¬(aj.map (·.1)++xs.map mU.name).Nodup)):=by
 let nm:mU->ByteArray:=mU.name
 refine y7 _ (aP 281) λB w0=>?_;refine go ?_;rw[show mpA iW b aj=mpA iW b (aj++fD ((xs.take 0).map nm) start)by simp[fD]];refine aU (λk=>xs.length - k) (λk:Nat=>[(15,iV (k:Int))]) (λk=>[mpA iW b (aj++fD ((xs.take k).map nm) start)]) (λ_=>[]) (λk=>k<=xs.length/\(aj.map (·.1)++(xs.take k).map nm).Nodup) 0 ⟨bR _,CD⟩ (body:=?_);rintro k ⟨hk,hall⟩;refine gIf ?_ ?_<;>intro h1
 .refine gX fF λ_ _ x y hx=>?_;refine go ?_;intro b10;refine gC (Vo (x:=x)) λ_ _=>?_;refine go ?_;refine FD vB (nm x) (λv hv hm=>?_) (λhm=>?_)
  .exact bj
  refine gC (Vo (x:=x)) λ_ _=>?_;refine go ?_;refine xN vB (nm x) (aj:=aj++fD ((xs.take k).map nm) start) (v:=iV ((start:Int)+(k:Int))) ?_;have hm2:=hm;rw[(qi hx).1]at hm2;rw[CS hm,List.append_assoc,<- (qi (aj:=aj) hx).2];refine go ?_;refine aN (k+1) z7 ⟨z7,?_⟩;rw[nP,hx,fP,<- List.append_assoc,iT];refine⟨hall,An,λa ha c hc=>?_⟩;have:c=nm x:=CH
  exact nF
 have hkl:k=xs.length:=z7
 subst hkl;rw[bU]at hall;rw[bU];refine go ?_;exact AP (true,xs.map nm) (hv:=rfl) (hp:=⟨λ_=>⟨rfl,hall⟩,λh=>by cases h⟩)
def afc{xs:kI mV}(hl:xs.length<=4096)(hs:start<=4096)(hnd:(aj.map (·.1)).Nodup):
 qJ prog (.func 283) [vs,iV (start:Int),.func (.func 284) #[] #[],.map (some b)] [] [mpA iW b aj] [ai eY vs xs] (λy:Bool×kI ByteArray=>if y.1=true then .ok (.map (some b))else .fT (uh 161))
  (λy=>[mpA iW b (aj++fD y.2 start)]) (λ_=>[]) (λy=>(y.1=true->y.2=(xs.map mV.name)/\(aj.map (·.1)++xs.map mV.name).Nodup)/\(y.1=false->¬(aj.map (·.1)++xs.map mV.name).Nodup)):=by
 let nm:mV->ByteArray:=mV.name
 refine y7 _ (aP 283) λB w0=>?_;refine go ?_;rw[show mpA iW b aj=mpA iW b (aj++fD ((xs.take 0).map nm) start)by simp[fD]];refine aU (λk=>xs.length - k) (λk:Nat=>[(15,iV (k:Int))]) (λk=>[mpA iW b (aj++fD ((xs.take k).map nm) start)]) (λ_=>[]) (λk=>k<=xs.length/\(aj.map (·.1)++(xs.take k).map nm).Nodup) 0 ⟨bR _,CD⟩ (body:=?_);rintro k ⟨hk,hall⟩;refine gIf ?_ ?_<;>intro h1
 .refine gX eY λ_ _ x y hx=>?_;refine go ?_;intro b10;refine gC (Vp (x:=x) (v:=y)) λ_ _=>?_;refine go ?_;refine FD vB (nm x) (λv hv hm=>?_) (λhm=>?_)
  .exact bj
  refine gC (Vp (x:=x) (v:=y)) λ_ _=>?_;refine go ?_;refine xN vB (nm x) (aj:=aj++fD ((xs.take k).map nm) start) (v:=iV ((start:Int)+(k:Int))) ?_;have hm2:=hm;rw[(qi hx).1]at hm2;rw[CS hm,List.append_assoc,<- (qi (aj:=aj) hx).2];refine go ?_;refine aN (k+1) z7 ⟨z7,?_⟩;rw[nP,hx,fP,<- List.append_assoc,iT];refine⟨hall,An,λa ha c hc=>?_⟩;have:c=nm x:=CH
  exact nF
 have hkl:k=xs.length:=z7
 subst hkl;rw[bU]at hall;rw[bU];refine go ?_;exact AP (true,xs.map nm) (hv:=rfl) (hp:=⟨λ_=>⟨rfl,hall⟩,λh=>by cases h⟩)
def afd{xs:kI gW}(hl:xs.length<=4096)(hs:start<=4096)(hnd:(aj.map (·.1)).Nodup):
 qJ prog (.func 288) [vs,iV (start:Int),.func (.func 289) #[] #[],.map (some b)] [] [mpA iW b aj] [ai bI vs xs] (λy:Bool×kI ByteArray=>if y.1=true then .ok (.map (some b))else .fT (uh 161))
  (λy=>[mpA iW b (aj++fD y.2 start)]) (λ_=>[]) (λy=>(y.1=true->y.2=(xs.map gW.name)/\(aj.map (·.1)++xs.map gW.name).Nodup)/\(y.1=false->¬(aj.map (·.1)++xs.map gW.name).Nodup)):=by
 let nm:gW->ByteArray:=gW.name
 refine y7 _ (aP 288) λB w0=>?_;refine go ?_;rw[show mpA iW b aj=mpA iW b (aj++fD ((xs.take 0).map nm) start)by simp[fD]];refine aU (λk=>xs.length - k) (λk:Nat=>[(15,iV (k:Int))]) (λk=>[mpA iW b (aj++fD ((xs.take k).map nm) start)]) (λ_=>[]) (λk=>k<=xs.length/\(aj.map (·.1)++(xs.take k).map nm).Nodup) 0 ⟨bR _,CD⟩ (body:=?_);rintro k ⟨hk,hall⟩;refine gIf ?_ ?_<;>intro h1
 .refine gX bI λ_ _ x y hx=>?_;refine go ?_;intro b10;refine gC (Vq (x:=x)) λ_ _=>?_;refine go ?_;refine FD vB (nm x) (λv hv hm=>?_) (λhm=>?_)
  .exact bj
  refine gC (Vq (x:=x)) λ_ _=>?_;refine go ?_;refine xN vB (nm x) (aj:=aj++fD ((xs.take k).map nm) start) (v:=iV ((start:Int)+(k:Int))) ?_;have hm2:=hm;rw[(qi hx).1]at hm2;rw[CS hm,List.append_assoc,<- (qi (aj:=aj) hx).2];refine go ?_;refine aN (k+1) z7 ⟨z7,?_⟩;rw[nP,hx,fP,<- List.append_assoc,iT];refine⟨hall,An,λa ha c hc=>?_⟩;have:c=nm x:=CH
  exact nF
 have hkl:k=xs.length:=z7
 subst hkl;rw[bU]at hall;rw[bU];refine go ?_;exact AP (true,xs.map nm) (hv:=rfl) (hp:=⟨λ_=>⟨rfl,hall⟩,λh=>by cases h⟩)
def afe{xs:kI bN}(hl:xs.length<=4096)(hs:start<=4096)(hnd:(aj.map (·.1)).Nodup):
 qJ prog (.func 292) [vs,iV (start:Int),.func (.func 293) #[] #[],.map (some b)] [] [mpA iW b aj] [ai aY vs xs] (λy:Bool×kI ByteArray=>if y.1=true then .ok (.map (some b))else .fT (uh 161))
  (λy=>[mpA iW b (aj++fD y.2 start)]) (λ_=>[]) (λy=>(y.1=true->y.2=(xs.map bN.name)/\(aj.map (·.1)++xs.map bN.name).Nodup)/\(y.1=false->¬(aj.map (·.1)++xs.map bN.name).Nodup)):=by
 let nm:bN->ByteArray:=bN.name
 refine y7 _ (aP 292) λB w0=>?_;refine go ?_;rw[show mpA iW b aj=mpA iW b (aj++fD ((xs.take 0).map nm) start)by simp[fD]];refine aU (λk=>xs.length - k) (λk:Nat=>[(15,iV (k:Int))]) (λk=>[mpA iW b (aj++fD ((xs.take k).map nm) start)]) (λ_=>[]) (λk=>k<=xs.length/\(aj.map (·.1)++(xs.take k).map nm).Nodup) 0 ⟨bR _,CD⟩ (body:=?_);rintro k ⟨hk,hall⟩;refine gIf ?_ ?_<;>intro h1
 .refine gX aY λ_ _ x y hx=>?_;refine go ?_;intro b10;refine gC (Vr (x:=x) (v1:=y.1) (v2:=y.2)) λ_ _=>?_;refine go ?_;refine FD vB (nm x) (λv hv hm=>?_) (λhm=>?_)
  .exact bj
  refine gC (Vr (x:=x) (v1:=y.1) (v2:=y.2)) λ_ _=>?_;refine go ?_;refine xN vB (nm x) (aj:=aj++fD ((xs.take k).map nm) start) (v:=iV ((start:Int)+(k:Int))) ?_;have hm2:=hm;rw[(qi hx).1]at hm2;rw[CS hm,List.append_assoc,<- (qi (aj:=aj) hx).2];refine go ?_;refine aN (k+1) z7 ⟨z7,?_⟩;rw[nP,hx,fP,<- List.append_assoc,iT];refine⟨hall,An,λa ha c hc=>?_⟩;have:c=nm x:=CH
  exact nF
 have hkl:k=xs.length:=z7
 subst hkl;rw[bU]at hall;rw[bU];refine go ?_;exact AP (true,xs.map nm) (hv:=rfl) (hp:=⟨λ_=>⟨rfl,hall⟩,λh=>by cases h⟩)
end Go.Proofs.YtoilpafpgndilaaGreat
namespace Go.Proofs.YtoilpafpgndilaaGreat
open Tryz (prog)
open Go.Ideal Kd
noncomputable def N7:gV:=⟨9,[],(.seq (kO [⟨⟨(some 3),none,.recover⟩,[]⟩,kS 2 (.nD 3)]) (.seq (kO [kM 4 2,kS 5 (.bin .neq 20 4 (.const .nilIface))]) (.cond 5 (kO [⟨⟨(some 6),none,(.build [vE,(iV 0),(iV 0),(iV 0),(iV 0),vS,vS,vS,vS,vS] [])⟩,[]⟩,kM 7 2,kS 8 (.Gs 43 (iV 0) false 7),kN (.store 10 0 6),kN (.store 1 1 8)]) .skip)))⟩
def Vt:mO prog 280=some N7:=Ax
section
variable {P:Program} {B:kI Nat} {w0:Wd} {kl kl':kI OA} {F:kI aO} {K:KO} {ds:kI Tmp} {rest:kI bV} {n:Nat} {l:qr} {D:kI Deferred} {pm:x8 FrameMode} {ro:x8 Nat} {d:Nat} {g:x8 (Tmp×Bool)}
variable{α:Type}
def Vu[DecidableEq α]{aX:α->vI}{kt:adH}{zero:vI}{m k:aaB}{b:Nat}{aj:kI (α×vI)}(hk:rR P kt aX)(a:α)
 (hit:∀v,dR a aj=some v->a∈aj.map (·.1)->R (λh=>aH P ds rest (act n ((d,.tuple ⟨[v,.bool true]⟩)::l) D pm ro) h K) B w0 kl F)
 (miss:a∉aj.map (·.1)->R (λh=>aH P ds rest (act n ((d,.tuple ⟨[zero,.bool false]⟩)::l) D pm ro) h K) B w0 kl F)
 (hm:ev l m=.map (some b):=by rfl) (ha:ev l k=aX a:=by conv=>lhs;whnf) (hf:xM aX b aj∈F:=by exact vW) (hn:Nat.blt d n=true:=by rfl) (hg:cZ l g=true:=by rfl):
 R (λh=>aH P ds (⟨⟨some d,g,.lookup kt zero m k true⟩,[]⟩::rest) (act n l D pm ro) h K) B w0 kl F:=by
 refine Tg (ok:=true) hk a ?_ hm ha hf hn hg;by_cases h:a∈aj.map (·.1)
 .exact oe
 .exact pA
def N8(E:Enc α){v:vI}{aC:kI (α×E.Y)}{Q:IH->Prop}(h0:aC=[]->∀c,v=.slice none 0 c->R Q B w0 kl F)(h1:aC=[]->∀i o f c,v=.slice (some ⟨i,o,some f⟩) 0 c->R Q B w0 kl F)
 (h2:0<aC.length->∀i o f c,v=.slice (some ⟨i,o,some f⟩) aC.length c->R Q B w0 kl F) (hf:rT E v aC∈F:=by exact vW):R Q B w0 kl F:=λw s=>by
 rcases s.facts _ hf with⟨e,a,c,hv,hg⟩|⟨i,o,f,c,cells,⟨hv,_⟩,_⟩
 .exact px
 .exact r8
def N9(E:Enc α){Q:IH->Prop}(h:R Q B w0 (ar E (.slice none 0 0) []::kl) F):R Q B w0 kl F:=λw s=>by
 obtain⟨S,h1,h2,h3⟩:=s.own;exact h w ⟨s.agree,s.le,s.af9,⟨S,⟨[],S,.inl ⟨rfl,⟨none,rfl,trivial⟩,rfl⟩,h1,rfl⟩,h2,h3⟩,s.facts⟩
end
def aff:bA prog (.func 286) [] [] [] [] (λv:vI=>v) (λ_=>[]) (λv=>[ai bC v iN]) (λ_=>True):=by
 refine aM Vn ae9 λB w0=>?_;refine go ?_;intro b;refine go ?_;refine tT (b:=b) (m:=8) (f:=0) bC (aC:=iN.map λs=>(s,())) rfl (.inl rfl) ?_ (hk:=az.here);refine IX (E:=bC) ?_ (λw hw p hp f hf=>by cases hf);exact gQ (.slice (some ⟨b,0,some 0⟩) 8 8) trivial (hF:=.cons (cO _ (cB ..)) .nil)
variable{s:ByteArray}
def JH{b:Nat}{aj:kI (ByteArray×vI)}:
 qJ prog (.func 291) [.map (some b),.string s] [] [] [xM iW b aj] (λy:x8 vI=>match y with|some v=>.ok v|none=>.fT (uh 160)) (λ_=>[]) (λ_=>[]) (λy=>y=dR s aj):=by
 refine y7 _ (aP 291) λB w0=>?_;refine go ?_;refine Vu vB s (λv hv hm=>?_) (λhm=>?_)
 .refine go ?_;exact AP (some v) (hv:=rfl) (hp:=hv.symm)
 .refine go ?_;refine CJ ?_;refine go ?_;exact AQ none (hv:=rfl) (hp:=(rU hm).symm)
variable{eH l:kI ByteArray}
def Vv{k:Nat}(h:l[k]? =some s):gK eH (l.take (k+1))=gK eH (l.take k)|||1<<<dZ s eH:=by
 unfold gK;rw[nP,h,DI];rfl
def Oa{eH:kI ByteArray}(hs:eH.length<=16):∀(l:kI ByteArray) (m:Nat),(∀s∈l,s∈eH)->m<65536->l.foldl (λm s=>m|||1<<<dZ s eH) m<65536
 |[],m,_,hm=>hm
 |s::l,m,h,hm=>by
  rw[wO];refine Oa hs l _ (λx hx=>h x (cO _ hx)) ?_;have h1:=AZ (h s (cB ..));have h2:1<<<dZ s eH<2^16:=by
   rw[amL,BL];exact ox
  exact amM (n:=16) hm h2
def Vw{b4 bs:Nat}{vl:vI}(hs:eH.length<=16)(hl:l.length<2^63):
 qJ prog (.func 295) [vl] [ptr' b4] [] [gY b4 0 [.map (some bs)],xM iW bs (fD eH 0),ai bC vl l] (λy:Bool=>if y=true then .ok (iV (gK eH l:Int))else .fT (uh 160)) (λ_=>[]) (λ_=>[])
  (λy=>(y=true->∀s∈l,s∈eH)/\(y=false->¬∀s∈l,s∈eH)):=by
 refine y7 _ (aP 295) λB w0=>?_;refine gL (λk=>l.length - k) (λk:Nat=>[(8,iV (k:Int)),(3,iV (gK eH (l.take k):Int))]) (λk=>k<=l.length/\∀s∈l.take k,s∈eH) 0 ⟨bR _,An⟩ ?_;rintro k ⟨hk,hall⟩;refine gIf ?_ ?_<;>intro h1
 .refine gX bC λ_ _ x (y:Unit) hx=>?_;refine go ?_;refine uT (JH (b:=bs) (s:=x) (aj:=fD eH 0)) (λy v hy e=>?_) (λy ch hy e=>?_)
  .have hm:x∈eH:=by
    by_cases h:x∈eH
    .exact h
    .exact n9
   rw[xP hm]at hy;subst hy;injection e with e;subst e;have hp:=AZ hm;have h2:1<<<dZ x eH<2^16:=by
    rw[amL,BL];exact ox
   have h3:=Oa hs (l.take k) 0 hall z7;rw[fo];refine(fA rfl rfl (Sy (a:=1) (b:=dZ x eH) rfl rfl z7 z7)).h ?_;refine(fA rfl rfl (SA (a:=gK eH (l.take k)) (b:=1<<<dZ x eH) rfl rfl (Nat.lt_trans h3 z7) z7)).h ?_;exact fb
  .refine go ?_;have hm:x∉eH:=by
    exact qe
   have hch:ch=uh 160:=by
    rw[rU DQ]at hy;subst hy;injection e with e;exact e.symm
   subst hch;exact AQ false (hv:=rfl) (hp:=⟨(λh=>by cases h),λ_ h=>hm (h x (aZ hx))⟩)
 have hkl:k=l.length:=z7
 subst hkl;rw[bU]at hall⊢;refine go ?_;exact AP true (hv:=rfl) (hp:=⟨λ_=>hall,λh=>by cases h⟩)
variable{v:vI}
def afg{aC:kI (gW×bI.Y)}(hl:aC.length<=4096):bA prog (.func 290) [v] [] [] [rT bI v aC] (λv':vI=>v') (λv'=>[ar bI v' aC]) (λ_=>[]) (λ_=>True):=by
 refine gB 290 λB w0=>?_;refine N8 (v:=v) (aC:=aC) bI (λe c ev=>?_) (λe i o f c ev=>?_) (λhne i o f c ev=>?_)
 .subst e ev;refine go ?_;refine(fA rfl rfl (Fe (e:=94) Ax rfl)).h ?_;refine go ?_;refine N9 bI ?_;exact ud
 .subst e ev;refine go ?_;refine(fA rfl rfl (zb (e:=94) Ax rfl)).h ?_;refine go ?_;intro b;refine go ?_;refine IY (b:=b) ?_;refine go ?_;refine tT (b:=b) (m:=0) (f:=0) bI (aC:=[]) rfl (.inl rfl) ?_ (hk:=az.here);exact pS
 .subst ev;refine go ?_;refine(fA rfl rfl (zb (e:=94) Ax rfl)).h ?_;refine go ?_;intro b;refine go ?_;refine IZ (b:=b) bI aC hne z7 (λb'=>?_);refine go ?_;refine tT (b:=b') (m:=aC.length) (f:=bI.n) bI (aC:=aC) rfl (.inr rfl) ?_ (hk:=az.here);exact gQ (.slice (some ⟨b',0,some bI.n⟩) aC.length aC.length) trivial
def afh{aC:kI (bN×aY.Y)}(hl:aC.length<=4096):bA prog (.func 294) [v] [] [] [rT aY v aC] (λv':vI=>v') (λv'=>[ar aY v' aC]) (λ_=>[]) (λ_=>True):=by
 refine gB 294 λB w0=>?_;refine N8 (v:=v) (aC:=aC) aY (λe c ev=>?_) (λe i o f c ev=>?_) (λhne i o f c ev=>?_)
 .subst e ev;refine go ?_;refine(fA rfl rfl (Fe (e:=155) Ax rfl)).h ?_;refine go ?_;refine N9 aY ?_;exact ud
 .subst e ev;refine go ?_;refine(fA rfl rfl (zb (e:=155) Ax rfl)).h ?_;refine go ?_;intro b;refine go ?_;refine IY (b:=b) ?_;refine go ?_;refine tT (b:=b) (m:=0) (f:=0) aY (aC:=[]) rfl (.inl rfl) ?_ (hk:=az.here);exact pS
 .subst ev;refine go ?_;refine(fA rfl rfl (zb (e:=155) Ax rfl)).h ?_;refine go ?_;intro b;refine go ?_;refine IZ (b:=b) aY aC hne z7 (λb'=>?_);refine go ?_;refine tT (b:=b') (m:=aC.length) (f:=aY.n) aY (aC:=aC) rfl (.inr rfl) ?_ (hk:=az.here);exact gQ (.slice (some ⟨b',0,some aY.n⟩) aC.length aC.length) trivial
end Go.Proofs.YtoilpafpgndilaaGreat
namespace Go.Proofs.YtoilpafpgndilaaGreat
open Tryz (prog)
open Go.Ideal Kd
noncomputable def JI:gV:=⟨128,[(.qA 10 2),(.cell1 3)],(.seq (kO [kS 1 (.box 0 35),⟨⟨(some 2),none,(.new [vE,(iV 0),(iV 0),(iV 0),(iV 0),vS,vS,vS,vS,vS] 35)⟩,[]⟩,kS 3 (.new [(iV 0)] 43)]) (.seq (kO [kS 11 (.BM (.func 280) [] [2,3]),kN (.dcall 11 [])]) (.seq (.seq (kO [kS 12 (.fQ 6 1),kS 13 (.ah2 12),kS 14 (.wW 13),kS 15 (.bin .gtr 3 14 (.const (iV 16)))]) (.cond 15 (.seq (kO [kS 16 (.pW 10 2),kN (.store 10 2 16),kN (.store 1 3 (.const (iV 2)))]) .ret) .skip)) (.seq (kO [kS 17 (.fQ 6 1),kS 18 (.ah2 17),⟨⟨(some 19),none,.vN⟩,[]⟩,kS 20 (kC 281 [18,(.const (iV 0)),(.func 282),19]),kS 4 (.new [(.map none)] 310),kN (.store 1 4 20)]) (.seq (.ops [21,22,23,24,25,26,5] [kS 21 (.fQ 7 1),kS 22 (.ah2 21),⟨⟨(some 24),none,.vN⟩,[]⟩,⟨⟨(some 23),none,(kC 286 [])⟩,[⟨(some 22),none,(.ah2 21)⟩]⟩,⟨⟨(some 25),none,(kC 285 [23,(.const (iV 0)),(.func 287),24])⟩,[⟨(some 22),none,(.ah2 21)⟩]⟩,kS 26 (kC 283 [22,(.const (iV 8)),(.func 284),25]),kS 5 (.nD 26)]) (.seq (kO [kS 27 (.fQ 8 1),kS 28 (.ah2 27),⟨⟨(some 29),none,.vN⟩,[]⟩,kS 30 (kC 288 [28,(.const (iV 0)),(.func 289),29]),kS 6 (.nD 30)]) (.seq (kO [kS 31 (.fQ 8 1),kS 32 (.ah2 31),kS 33 (kC 290 [32]),kS 34 (.fQ 8 1),kN (.store 1 34 33)]) (.seq (.seq (kO [kS 35 (.fQ 8 1),kS 36 (.ah2 35),kS 37 (.wW 36),kS 38 (.mv (.const (iV 0)))]) (.block 0 (.loop (.seq (kO [kS 39 (.bin .lss 3 38 37)]) (.seq (.cond 39 .skip (.exit 0)) (.seq (.block 1 (.seq (kO [kM 40 38,kS 7 (.nD 40)]) (.ops [41,42,43,44,45,46,47,48,49,50,51,52,53] [kS 41 (.fQ 8 1),kS 42 (.ah2 41),kM 43 7,kM 44 5,kS 45 (.fQ 8 1),kS 46 (.ah2 45),kM 47 7,kS 48 (.nQ 6 46 47),kS 49 (.fQ 1 48),kS 50 (.ah2 49),⟨⟨(some 51),none,(kC 291 [44,50])⟩,[⟨(some 42),none,(.ah2 41)⟩]⟩,kS 52 (.nQ 6 42 43),kS 53 (.fQ 2 52),kN (.store 1 53 51)]))) (kO [kS 54 (.bin .add 3 38 (.const (iV 1))),kM 38 54]))))))) (.seq (kO [kS 55 (.fQ 9 1),kS 56 (.ah2 55),⟨⟨(some 57),none,.vN⟩,[]⟩,kS 58 (kC 292 [56,(.const (iV 0)),(.func 293),57])]) (.seq (kO [kS 59 (.fQ 9 1),kS 60 (.ah2 59),kS 61 (kC 294 [60]),kS 62 (.fQ 9 1),kN (.store 1 62 61)]) (.seq (kO [kS 63 (.BM (.func 295) [] [4]),kS 8 (.nD 63)]) (.seq (.seq (kO [kS 64 (.fQ 9 1),kS 65 (.ah2 64),kS 66 (.wW 65),kS 67 (.mv (.const (iV 0)))]) (.block 2 (.loop (.seq (kO [kS 68 (.bin .lss 3 67 66)]) (.seq (.cond 68 .skip (.exit 2)) (.seq (.block 3 (.seq (kO [kM 69 67,kS 9 (.nD 69)]) (.seq (kO [kS 70 (.fQ 9 1),kS 71 (.ah2 70),kM 72 9,kS 73 (.nQ 12 71 72),kS 10 (.nD 73)]) (.seq (kO [kM 74 10,kM 75 10,kS 76 (.lm 74),kS 77 (.fQ 3 76),kN (.store 1 77 (.const (iV 0))),kS 78 (.lm 75),kS 79 (.fQ 11 78),kN (.store 1 79 (.const (iV (-1))))]) (.seq (.seq (kO [kM 80 10,kS 81 (.lm 80),kS 82 (.fQ 1 81),kS 83 (.ah2 82),⟨⟨(some 84),none,(.bin .neq 9 83 (.const vE))⟩,[]⟩]) (.cond 84 (kO [kM 85 10,kM 86 5,kM 87 10,kS 88 (.lm 87),kS 89 (.fQ 1 88),kS 90 (.ah2 89),kS 91 (kC 291 [86,90]),kS 92 (.lm 85),kS 93 (.fQ 3 92),kN (.store 1 93 91)]) .skip)) (.seq (.ops [94,95,96,97,98,99,100,101,102,103,104,105,106,107,108,109,110,111] [kM 94 10,kM 95 10,kM 96 8,kM 97 10,kS 98 (.lm 97),kS 99 (.fQ 4 98),kS 100 (.ah2 99),kM 102 8,kM 103 10,kS 104 (.lm 103),kS 105 (.fQ 5 104),kS 106 (.ah2 105),⟨⟨(some 101),none,(.call 96 [100])⟩,[⟨(some 106),none,(.ah2 105)⟩]⟩,kS 107 (.call 102 [106]),kS 108 (.lm 94),kS 109 (.fQ 6 108),kN (.store 1 109 101),kS 110 (.lm 95),kS 111 (.fQ 7 110),kN (.store 1 111 107)]) (.seq (kO [kM 112 10,kS 113 (.lm 112),kS 114 (.fQ 10 113),kS 115 (.ah2 114),⟨⟨(some 116),none,(.bin .neq 9 115 (.const vE))⟩,[]⟩]) (.cond 116 (kO [kM 117 10,kM 118 6,kM 119 10,kS 120 (.lm 119),kS 121 (.fQ 10 120),kS 122 (.ah2 121),kS 123 (kC 291 [118,122]),kS 124 (.lm 117),kS 125 (.fQ 11 124),kN (.store 1 125 123)]) .skip)))))))) (kO [kS 126 (.bin .add 3 67 (.const (iV 1))),kM 67 126]))))))) (.seq (kO [kS 127 (.pW 10 1),kN (.store 10 2 127),kN (.store 1 3 (.const (iV 0)))]) .ret)))))))))))))⟩
def afi:mO prog 206=some JI:=Ax
def eB(a b:ByteArray):(a.toList==b.toList)=decide (a=b):=by
 rw[ByteArray.toList_eq,ByteArray.toList_eq];by_cases h:a=b
 .subst h;simp
 .rw[aR h];cases hb:a.data.toList==b.data.toList with
  |false=>rfl
  |true=>
   have:=eq_of_beq hb;exact absurd (ByteArray.ext (Array.ext' this)) h
abbrev wF:kI vI:=[.string ⟨⟨[]⟩⟩,iV 0,iV 0,iV 0,iV 0,.slice none 0 0,.slice none 0 0,.slice none 0 0,.slice none 0 0,.slice none 0 0]
variable{b2 b3:Nat}
def afj:IP prog (.func 280) [] [ptr' b2,ptr' b3] .returning [] [] (λ_:Unit=>.ok (.tuple ⟨[]⟩)) (λ_=>.returning) (λ_=>[]) (λ_=>[]) (λ_=>True):=by
 refine SH N7 Vt λB w0=>?_;refine go ?_;refine SI (v:=.nilIface) (m':=.returning) rfl ?_;refine go ?_;refine(fA (v:=.bool false) rfl rfl (λh=>by
  show(match mg prog .neq 20 (.tmp 4) (.const .nilIface) .nilIface .nilIface with|some v=>some (v,h)|none=>none)=_;rw[show mg prog .neq 20 (.tmp 4) (.const .nilIface) .nilIface .nilIface=some (.bool false)by kernel_rfl])).h ?_
 refine go ?_;exact SN () (hv:=rfl) (hm:=rfl) (hp:=trivial)
def afk{e:Int}(he:e=160\/e=161):IP prog (.func 280) [] [ptr' b2,ptr' b3] (.panicking (uh e)) [pt b2 (.cells wF),pt b3 (.cells [iV 0])] [] (λ_:Unit=>.ok (.tuple ⟨[]⟩)) (λ_=>.panicking [{v:=.iface 43 (iV e),recovered:=true}])
 (λ_=>[pt b2 (.cells wF),pt b3 (.cells [iV e])]) (λ_=>[]) (λ_=>True):=by
 refine SH N7 Vt λB w0=>?_;refine go ?_;refine SI (v:=.iface 43 (iV e)) (m':=.panicking [{v:=.iface 43 (iV e),recovered:=true}]) rfl ?_;refine go ?_;refine(fA (v:=.bool true) rfl rfl (λh=>by
  show(match mg prog .neq 20 (.tmp 4) (.const .nilIface) (.iface 43 (iV e)) .nilIface with|some v=>some (v,h)|none=>none)=_;rcases he with rfl|rfl
  .rw[show mg prog .neq 20 (.tmp 4) (.const .nilIface) (.iface 43 (iV 160)) .nilIface=some (.bool true)by kernel_rfl]
  .rw[show mg prog .neq 20 (.tmp 4) (.const .nilIface) (.iface 43 (iV 161)) .nilIface=some (.bool true)by kernel_rfl])).h ?_
 refine go ?_;exact SN () (hv:=rfl) (hm:=rfl) (hp:=trivial)
structure FE where
 ok:Bool
 e:Int
 vc:Value
 vu:Value
abbrev rX(d:bF)(vh vs vr:vI)(y:FE):vI:=.tuple ⟨[.agg ⟨cond y.ok (ahE (Kd.bE d) vh vs vr y.vc y.vu) wF⟩,iV y.e]⟩
abbrev oL(d:bF)(y:FE):kI aO:=cond y.ok [ai bI y.vc (Kd.bE d).aJ,ai aY y.vu (Kd.bE d).rules] []
def Bg(d:bF)(y:FE):Prop:=(y.ok=true->y.e=0/\CU d)/\(y.ok=false->y.e≠0/\¬CU d)
structure ng(d:bF):Prop where
 eH:d.symbols.length<=4096
 regs:d.regions.length<=4096
 jg:d.aJ.length<=4096
 kX:d.rules.length<=4096
 rY:∀r∈d.rules,r.names.length<2^63/\r.others.length<2^63
 holes:d.holes.length<2^63
 rZ:∀r∈d.regions,r.lists.length<2^63/\∀l∈r.lists,l.length<2^63
section
variable {B:kI Nat} {w0:Wd} {kl bH:kI OA} {F:kI aO} {l:qr} {b2 b3:Nat} {n:Nat}
def x9{d:bF}{vh vs vr:vI}{e:Int}(he:e=160\/e=161)(hno:¬CU d)(h2:lk l 2=ptr' b2)(h3:lk l 3=ptr' b3)(hk:aI [pt b2 (.cells wF),pt b3 (.cells [iV 0])] kl bH):
 R (λh=>rQ prog JI (AO B w0 (λy=>.ok (rX d vh vs vr y)) (λ_=>[]) (oL d) (Bg d)) (.panic (uh e)) (act n l [{target:=.fn (.func 280) ⟨[ptr' b2,ptr' b3]⟩,args:=⟨[]⟩}] none none) h) B w0 kl F:=by
 refine E5 (m:=.panicking (uh e)) ?_;refine SK (bH:=bH) (fu:=λ_=>[pt b2 (.cells wF),pt b3 (.cells [iV e])]++bH) (F2:=λ_=>F) (afk (b2:=b2) (b3:=b3) he) (λy v _ _=>?_) (λy ch _ hc=>by cases hc) (hk:=hk) (hF:=.nil) (hk2:=λ_=>bS.app) (hF2:=λ_=>bS.nil);show RL _ _ _ _ .returning _ _ _ _ _;refine SQ (bH:=[pt b2 (.cells wF),pt b3 (.cells [iV e])]++bH) (vs:=[.agg ⟨wF⟩,iV e]) ⟨false,e,.nilFunc,.nilFunc⟩ rfl ⟨(λh=>by cases h),λ_=>⟨by rcases he with rfl|rfl<;>simp,hno⟩⟩ (hr:=?_) (hk:=.nil) (hF:=.nil);show RS l _ [.qA 10 2,.cell1 3] _;exact .qA h2 .here rfl (.cell1 h3 (.there .here) rfl .nil)
end
section
variable {B:kI Nat} {w0:Wd} {kl bH:kI OA} {F:kI aO} {l:qr} {b2 b3:Nat} {n:Nat}
def Vx{d:bF}{vh vs vr:vI}{o:Out}{cs:kI vI}{e:Int}(y:FE)(ho:uC o=some .returning)(hcs:cs=cond y.ok (ahE (Kd.bE d) vh vs vr y.vc y.vu) wF)(hl:cs.length=10)(hy:y.e=e)(hp:Bg d y)(hF:∀w,(∀f∈F,f.p w)->∀f∈oL d y,f.p w)(h2:lk l 2=ptr' b2)(h3:lk l 3=ptr' b3)(hk:aI [pt b2 (.cells cs),pt b3 (.cells [iV e])] kl bH):
 R (λh=>rQ prog JI (AO B w0 (λy=>.ok (rX d vh vs vr y)) (λ_=>[]) (oL d) (Bg d)) o (act n l [{target:=.fn (.func 280) ⟨[ptr' b2,ptr' b3]⟩,args:=⟨[]⟩}] none none) h) B w0 kl F:=by
 refine E5 (m:=.returning) ?_ ho;refine SK (k1:=[]) (bH:=kl) (fu:=λ_=>kl) (F2:=λ_=>F) (afj (b2:=b2) (b3:=b3)) (λ_ v _ _=>?_) (λ_ ch _ hc=>by cases hc) (hk:=.nil) (hF:=.nil) (hk2:=λ_=>bS.nil) (hF2:=λ_=>bS.nil);show RL _ _ _ _ .returning _ _ _ _ _;intro w s;have s':St B w0 ([pt b2 (.cells cs),pt b3 (.cells [iV e])]++bH) (oL d y) w:=by
  have:=s.kv hk;exact⟨this.agree,this.le,this.af9,this.own,hF w this.facts⟩
 refine SQ (F:=oL d y) (bH:=[pt b2 (.cells cs),pt b3 (.cells [iV e])]++bH) (vs:=[.agg ⟨cs⟩,iV e]) y ?_ hp (hr:=?_) (hk:=.nil) (hF:=?_) w s'
 .show iU.ok (rX d vh vs vr y)=_;unfold rX;rw[<- hcs,hy];rfl
 .show RS l _ [.qA 10 2,.cell1 3] _;exact .qA h2 .here (by rw[p9,qD,DC,if_pos z7,<- hl,bU]) (.cell1 h3 (.there .here) rfl .nil)
 .have:∀k:kI aO,Sub k k:=λk=>by
   have:=Sub.refl' k [];simpa using this
  exact this _
end
variable{X:kI (bN×aY.Y)}{k:Nat}
def De(hk:k<X.length){q q':bN×aY.Y}{j:Nat}{v:vI}(h:(aY.pat q.1 q.2).set j v=aY.pat q'.1 q'.2)(hj:j<12):(eG aY (X.set k q)).set (0+k*12+j) v=eG aY (X.set k q'):=by
 rw[fo];have:=MZ (E:=aY) (aC:=X.set k q) (k:=k) (p:=q) (p':=q') HX h hj;rw[List.set_set]at this;exact this
def Bh(hk:k<X.length){q:bN×aY.Y}{j:Nat}{u:vI}(h:(aY.pat q.1 q.2)[j]? =some u):(eG aY (X.set k q))[0+k*12+j]? =some u:=by
 rw[fo];exact vZ (E:=aY) (aC:=X.set k q) (k:=k) HX h
def Df(hk:k<X.length){q:bN×aY.Y}{j:Nat}(hj:j<12):0+k*12+j<(eG aY (X.set k q)).length:=by
 rw[za,pV];show 0+k*12+j<X.length*12;omega
def Vy{d:bF}{vh vs vr vc vu:vI}(hS:ng d):bA prog (.func 206) [.agg ⟨ahE d vh vs vr vc vu⟩] [] [] (lG d vh vs vr vc vu) (rX d vh vs vr) (λ_=>[]) (oL d) (Bg d):=by
 refine qJ.toC _ ?_ (λ_ _=>rfl);have hsl:=hS.eH;have hrl:=hS.regs;have hcl:=hS.jg;have yc:=hS.kX;refine y7 JI afi λB w0=>?_;refine go ?_;intro b1 b2 b3;refine go ?_;refine acQ ?_;refine gIf ?_ ?_<;>intro h1
 .refine go ?_;exact Vx (e:=2) (cs:=wF) ⟨false,2,.nilFunc,.nilFunc⟩ rfl rfl rfl rfl ⟨(λh=>by cases h),λ_=>⟨An,λh=>by have:=h.eH;omega⟩⟩ (λw _ f hf=>by cases hf) rfl rfl As
 have hsy:(bX d).length<=16:=by show(d.symbols.map (·.name)).length<=16;rw[bY];omega
 refine go ?_;refine y8 iW (λbs=>?_);refine go ?_;refine uT (afb (b:=bs) (start:=0) (aj:=[]) hsl z7 yE) (λy v hy e=>?_) (λy ch hy e=>?_)
 rotate_left
 .obtain⟨y,ns⟩:=y;cases y with
  |true=>cases e
  |false=>
   injection e with e;subst e;refine go ?_;exact x9 (e:=161) (.inr rfl) (λh=>hy.2 rfl (by simpa[bX]using h.Ub)) rfl rfl As
 obtain⟨y,ns⟩:=y;cases y with
 |false=>cases e
 |true=>
 injection e with e;subst e;have hns:ns=bX d:=(hy.1 rfl).1;have hsn:(bX d).Nodup:=by have:=(hy.1 rfl).2;simpa[bX]using this
 clear hy;subst hns;dsimp only;rw[show([]:kI (ByteArray×vI))++fD _ 0=fD _ 0 from rfl];refine gZ (CK (b:=bs)) ?_;refine go ?_;intro b4;refine go ?_;refine y8 iW (λbf=>?_);refine ay aff (next:=λvg _=>?_);refine uT (afa (b:=bf) (xs:=iN) (start:=0) (aj:=[]) AE z7 yE) (λy v hy e=>?_) (λy ch hy e=>?_)
 rotate_left
 .obtain⟨y,ns⟩:=y;cases y with
  |true=>cases e
  |false=>exact absurd AE (hy.2 rfl)
 obtain⟨y,ns⟩:=y;cases y with
 |false=>cases e
 |true=>
 injection e with e;subst e;have hns:ns=iN:=(hy.1 rfl).1;clear hy;subst hns;dsimp only;rw[show([]:kI (ByteArray×vI))++fD _ 0=fD _ 0 from rfl];refine uT (afc (b:=bf) (start:=8) (aj:=fD iN 0) hrl z7 (by rw[tZ];decide)) (λy v hy e=>?_) (λy ch hy e=>?_)
 rotate_left
 .obtain⟨y,ns⟩:=y;cases y with
  |true=>cases e
  |false=>
   injection e with e;subst e;refine go ?_;exact x9 (e:=161) (.inr rfl) (λh=>hy.2 rfl (by rw[tZ];exact h.Uc)) rfl rfl As
 obtain⟨y,ns⟩:=y;cases y with
 |false=>cases e
 |true=>
 injection e with e;subst e;have hns:ns=d.regions.map mV.name:=(hy.1 rfl).1;have hfn:(cz d).Nodup:=by have:=(hy.1 rfl).2;rw[tZ]at this;exact this
 clear hy;subst hns;dsimp only;have hfe:fD iN 0++fD (d.regions.map mV.name) 8=fD (cz d) 0:=by
  unfold cz;rw[Nc];rfl
 rw[hfe];clear hfe;refine gZ (CK (b:=bf)) ?_;refine go ?_;refine y8 iW (λbc=>?_);refine go ?_;refine uT (afd (b:=bc) (start:=0) (aj:=[]) hcl z7 yE) (λy v hy e=>?_) (λy ch hy e=>?_)
 rotate_left
 .obtain⟨y,ns⟩:=y;cases y with
  |true=>cases e
  |false=>
   injection e with e;subst e;refine go ?_;exact x9 (e:=161) (.inr rfl) (λh=>hy.2 rfl (by simpa[dO]using h.Ud)) rfl rfl As
 obtain⟨y,ns⟩:=y;cases y with
 |false=>cases e
 |true=>
 injection e with e;subst e;have hns:ns=dO d:=(hy.1 rfl).1;have hcn:(dO d).Nodup:=by have:=(hy.1 rfl).2;simpa[dO]using this
 clear hy;subst hns;dsimp only;rw[show([]:kI (ByteArray×vI))++fD _ 0=fD _ 0 from rfl];refine gZ (CK (b:=bc)) ?_;refine go ?_;refine IW bI vc (λxc Dg=>?_);have hxl:xc.length=d.aJ.length:=by rw[<- Dg,bY]
 refine ay (afg (aC:=xc) z7) (next:=λv1 _=>?_);refine Tt (E:=bI) (v:=v1) (aC:=xc) (λa1 e1=>?_);subst e1;refine go ?_;let f1:gW×bI.Y->gW×bI.Y:=λp=>(lW (cz d) p.1,p.2)
 rw[show ar bI (.slice a1 xc.length xc.length) xc=ar bI (.slice a1 xc.length xc.length) (jD f1 0 xc)from rfl];refine aU (λk=>xc.length - k) (λk:Nat=>[(38,iV (k:Int))]) (λk=>[ar bI (.slice a1 xc.length xc.length) (jD f1 k xc)]) (λ_=>[]) (λk=>k<=xc.length/\∀p∈xc.take k,p.1.on∈cz d) 0 ⟨bR _,An⟩ (body:=?_);rintro k ⟨hk,hall⟩;refine gIf ?_ ?_<;>intro h2
 .refine go ?_;refine Tq (E:=bI) (aC:=jD f1 k xc) (by rw[zf];omega) (λbx fx hfx ev=>?_);injection ev with ea _ _;subst ea;refine go ?_;obtain⟨p,hp⟩:∃p,xc[k]? =some p:=⟨xc[k]'(z7),bP _⟩
  have hget:(jD f1 k xc)[k]? =some p:=by rw[Ug _ z7];exact hp
  have kP:p.1∈d.aJ:=by rw[<- Dg];exact Kn (aZ hp)
  refine qh (o:=0+k*6+1) (cs:=eG bI (jD f1 k xc)) (.string p.1.on) (by rw[fo];exact vZ (E:=bI) (j:=1) hget rfl) ?_;refine uT (JH (b:=bf) (s:=p.1.on) (aj:=fD (cz d) 0)) (λy v hy e=>?_) (λy ch hy e=>?_)
  rotate_left
  .have hm:p.1.on∉cz d:=by
    exact qe
   rw[rU DQ]at hy;subst hy;injection e with e;subst e;refine go ?_;exact x9 (e:=160) (.inl rfl) (λh=>hm (h.Nf p.1 kP)) rfl rfl As
  have hm:p.1.on∈cz d:=by
   by_cases h:p.1.on∈cz d
   .exact h
   .exact n9
  rw[xP hm]at hy;subst hy;injection e with e;subst e;rw[fo];refine go ?_;refine qI (o:=0+k*6+2) (cs:=eG bI (jD f1 k xc)) (cs':=eG bI (jD f1 (k+1) xc)) (v:=iV ((dZ p.1.on (cz d):Nat):Int)) (by rw[fo,<- Uh f1 hp];exact MZ (E:=bI) (j:=2) (p':=f1 p) hget rfl AE) (by rw[za,zf];show 0+k*6+2<xc.length*6;omega) ?_;refine go ?_;refine tT (b:=bx) (f:=fx) (m:=xc.length) bI (aC:=jD f1 (k+1) xc) (by rw[zf]) hfx ?_;refine aN (k+1) z7 ⟨z7,λq hq=>?_⟩;rw[nP,hp]at hq;rcases dX.1 hq with h|h
  .exact hall q h
  .have:q=p:=by simpa using h
   rw[this];exact hm
 have hkl:k=xc.length:=z7
 subst hkl;rw[bU]at hall;have hcon:∀c∈d.aJ,c.on∈cz d:=by
  intro c hc;rw[<- Dg]at hc;obtain⟨p,hp,rfl⟩:=eT.1 hc;exact hall p hp
 clear hall hk;rw[Uf];refine go ?_;refine y8 iW (λbu=>?_);refine go ?_;refine uT (afe (b:=bu) (start:=0) (aj:=[]) yc z7 yE) (λy v hy e=>?_) (λy ch hy e=>?_)
 rotate_left
 .obtain⟨y,ns⟩:=y;cases y with
  |true=>cases e
  |false=>
   injection e with e;subst e;refine go ?_;exact x9 (e:=161) (.inr rfl) (λh=>hy.2 rfl (by simpa[nL]using h.Ue)) rfl rfl As
 obtain⟨y,ns⟩:=y;cases y with
 |false=>cases e
 |true=>
 injection e with e;subst e;have hrn:(nL d).Nodup:=by have:=(hy.1 rfl).2;simpa[nL]using this
 clear hy;dsimp only;refine gZ (CK (b:=bu)) ?_;refine go ?_;refine IW aY vu (λxr Dh=>?_);have akD:xr.length=d.rules.length:=by rw[<- Dh,bY]
 refine ay (afh (aC:=xr) z7) (next:=λv2 _=>?_);refine Tt (E:=aY) (v:=v2) (aC:=xr) (λa2 e2=>?_);subst e2;refine go ?_;refine gP b4 ?_;refine go ?_;let f2:bN×aY.Y->bN×aY.Y:=λp=>(mW (bX d) (cz d) (dO d) p.1,p.2)
 rw[show ar aY (.slice a2 xr.length xr.length) xr=ar aY (.slice a2 xr.length xr.length) (jD f2 0 xr)from rfl];refine Tp (E:=aY) (v:=vu) (aC:=xr) ?_;refine aU (λk=>xr.length - k) (λk:Nat=>[(67,iV (k:Int))]) (λk=>[ar aY (.slice a2 xr.length xr.length) (jD f2 k xr)]) (λ_=>[]) (λk=>k<=xr.length/\∀p∈xr.take k,A7 (bX d) (cz d) (dO d) p.1) 0 ⟨bR _,An⟩ (body:=?_);rintro k ⟨hk,hall⟩;refine gIf ?_ ?_<;>intro h2
 .refine go ?_;refine Tq (E:=aY) (aC:=jD f2 k xr) (by rw[zf];omega) (λdS fy Vz ev=>?_);injection ev with ea _ _;subst ea;obtain⟨p,hp⟩:∃p,xr[k]? =some p:=⟨xr[k]'(z7),bP _⟩
  have hpm:=aZ hp;have hget:(jD f2 k xr)[k]? =some p:=by rw[Ug _ z7];exact hp
  have kP:p.1∈d.rules:=by rw[<- Dh];exact Kn hpm
  have hfin:=Uh f2 hp;obtain⟨r,v3,v4⟩:=p;have hrs:=hS.rY r kP;have mE:k<(jD f2 k xr).length:=by rw[zf];omega
  have afl:(jD f2 k xr).length=xr.length:=zf _ _ _;have e0:jD f2 k xr=(jD f2 k xr).set k (r,v3,v4):=by
   apply iY;intro i;rw[oQ];by_cases hi:k=i
   .subst hi;rw[if_pos rfl,if_pos mE,hget]
   .rw[if_neg hi]
  refine eF (ai bC v3 r.names) (λw h=>h (pG aY xr) (cB ..) _ hpm _ (cB ..)) ?_;refine eF (ai bC v4 r.others) (λw h=>h (pG aY xr) (cO _ (cB ..)) _ hpm _ (cO _ (cB ..))) ?_;rw[e0];rw[<- e0];generalize hX:jD f2 k xr=X at mE afl e0 hfin;rw[e0];refine go ?_;refine qI (o:=0+k*12+3) (cs:=eG aY (X.set k (r,v3,v4))) (cs':=eG aY (X.set k ({r with family:=0},v3,v4))) (v:=iV 0) (De mE rfl z7) (Df mE z7) ?_;refine go ?_;refine qI (o:=0+k*12+11) (cs:=eG aY (X.set k ({r with family:=0},v3,v4))) (cs':=eG aY (X.set k ({r with family:=0,adJ:= -1},v3,v4))) (v:=iV (-1)) (De mE rfl z7) (Df mE z7) ?_;refine go ?_;refine qh (o:=0+k*12+1) (cs:=eG aY (X.set k ({r with family:=0,adJ:= -1},v3,v4))) (.string r.on) (Bh mE rfl) ?_;refine go ?_;refine SF (bH:=[pt b1 (.cells [.string d.name,iV d.version,iV d.shape,iV d.w,iV d.h,vh,vs,vr,.slice a1 xc.length xc.length,.slice (some ⟨dS,0,some fy⟩) xr.length xr.length]),ar bI (.slice a1 xc.length xc.length) (xc.map f1),pt b3 (.cells [iV 0]),pt b2 (.cells wF)]) [] (λ_:Unit=>[]) (λ_=>[pt dS (.cells (eG aY (X.set k ({r with family:=if r.on=⟨⟨[]⟩⟩then 0 else(dZ r.on (cz d):Int),adJ:= -1},v3,v4))))]) (λ_=>[]) (λ_=>r.on=⟨⟨[]⟩⟩\/r.on∈cz d) (hx:=?_) (hy:=?_)
  .refine fq (p:=r.on=⟨⟨[]⟩⟩) B3 (λh3=>?_) (λh3=>?_)
   .refine go ?_;refine qh (o:=0+k*12+1) (cs:=eG aY (X.set k ({r with family:=0,adJ:= -1},v3,v4))) (.string r.on) (Bh mE rfl) ?_;refine uT (JH (b:=bf) (s:=r.on) (aj:=fD (cz d) 0)) (λy v hy e=>?_) (λy ch hy e=>?_)
    rotate_left
    .have hm:r.on∉cz d:=by
      exact qe
     rw[rU DQ]at hy;subst hy;injection e with e;subst e;refine go ?_;refine acN ?_;refine go ?_;exact x9 (e:=160) (.inl rfl) (λh=>(h.rV r kP).on.elim h3 hm) rfl rfl As
    have hm:r.on∈cz d:=by
     by_cases h:r.on∈cz d
     .exact h
     .exact n9
    rw[xP hm]at hy;subst hy;injection e with e;subst e;rw[fo];refine go ?_;refine qI (o:=0+k*12+3) (cs:=eG aY (X.set k ({r with family:=0,adJ:= -1},v3,v4))) (cs':=eG aY (X.set k ({r with family:=if r.on=⟨⟨[]⟩⟩then 0 else(dZ r.on (cz d):Int),adJ:= -1},v3,v4))) (v:=iV ((dZ r.on (cz d):Nat):Int)) (by rw[if_neg h3];exact De mE rfl z7) (Df mE z7) ?_;refine go ?_;exact IM () (.inr hm)
   .refine go ?_;rw[show({r with family:=0,adJ:= -1}:bN)={r with family:=if r.on=⟨⟨[]⟩⟩then 0 else(dZ r.on (cz d):Int),adJ:= -1}by rw[if_pos h3]];exact IM () (.inl h3)
  intro _ hon;generalize hfm:(if r.on=⟨⟨[]⟩⟩then 0 else(dZ r.on (cz d):Int))=fm;refine go ?_;refine qh (o:=0+k*12+4) (cs:=eG aY (X.set k ({r with family:=fm,adJ:= -1},v3,v4))) v3 (Bh mE rfl) ?_;refine go ?_;refine qh (o:=0+k*12+5) (cs:=eG aY (X.set k ({r with family:=fm,adJ:= -1},v3,v4))) v4 (Bh mE rfl) ?_;refine go ?_;refine uT (Vw (b4:=b4) (bs:=bs) (vl:=v3) (eH:=bX d) (l:=r.names) hsy hrs.1) (λy v hy e=>?_) (λy ch hy e=>?_)
   (hs:=λy v _ _=>AJ (b:=dS) (o:=0+k*12+5) (cs:=eG aY (X.set k ({r with family:=fm,adJ:= -1},v3,v4))) (v:=v4) rfl Is (by rw[sZ];exact Bh mE rfl) rfl yZ)
  rotate_left
  .cases y with
   |true=>cases e
   |false=>
    injection e with e;subst e;refine go ?_;exact x9 (e:=160) (.inl rfl) (λh=>hy.2 rfl (h.rV r kP).names) rfl rfl As
  cases y with
  |false=>cases e
  |true=>
  injection e with e;subst e;have afm:=hy.1 rfl;clear hy;refine go ?_;refine go ?_;refine uT (Vw (b4:=b4) (bs:=bs) (vl:=v4) (eH:=bX d) (l:=r.others) hsy hrs.2) (λy v hy e=>?_) (λy ch hy e=>?_)
  rotate_left
  .cases y with
   |true=>cases e
   |false=>
    injection e with e;subst e;refine go ?_;exact x9 (e:=160) (.inl rfl) (λh=>hy.2 rfl (h.rV r kP).others) rfl rfl As
  cases y with
  |false=>cases e
  |true=>
  injection e with e;subst e;have afn:=hy.1 rfl;clear hy;refine go ?_;refine qI (o:=0+k*12+6) (cs:=eG aY (X.set k ({r with family:=fm,adJ:= -1},v3,v4))) (cs':=eG aY (X.set k ({r with family:=fm,adJ:= -1,set:=(gK (bX d) r.names:Int)},v3,v4))) (v:=iV (gK (bX d) r.names:Int)) (De mE rfl z7) (Df mE z7) ?_;refine go ?_;refine qI (o:=0+k*12+7) (cs:=eG aY (X.set k ({r with family:=fm,adJ:= -1,set:=(gK (bX d) r.names:Int)},v3,v4))) (cs':=eG aY (X.set k ({r with family:=fm,adJ:= -1,set:=(gK (bX d) r.names:Int),other:=(gK (bX d) r.others:Int)},v3,v4))) (v:=iV (gK (bX d) r.others:Int)) (De mE rfl z7) (Df mE z7) ?_;refine go ?_;refine qh (o:=0+k*12+10) (cs:=eG aY (X.set k ({r with family:=fm,adJ:= -1,set:=(gK (bX d) r.names:Int),other:=(gK (bX d) r.others:Int)},v3,v4))) (.string r.dS) (Bh mE rfl) ?_;refine go ?_;have hnext:(r.dS=⟨⟨[]⟩⟩\/r.dS∈dO d)->∀q∈xr.take (k+1),A7 (bX d) (cz d) (dO d) q.1:=by
   intro hby q hq;rw[nP,hp]at hq;rcases dX.1 hq with h|h
   .exact hall q h
   .have:q=(r,v3,v4):=bM.1 (show q∈[(r,v3,v4)]from h);rw[this];exact⟨hon,afm,afn,hby⟩
  refine fq (p:=r.dS=⟨⟨[]⟩⟩) B3 (λh3=>?_) (λh3=>?_)
  .refine go ?_;refine qh (o:=0+k*12+10) (cs:=eG aY (X.set k ({r with family:=fm,adJ:= -1,set:=(gK (bX d) r.names:Int),other:=(gK (bX d) r.others:Int)},v3,v4))) (.string r.dS) (Bh mE rfl) ?_;refine uT (JH (b:=bc) (s:=r.dS) (aj:=fD (dO d) 0)) (λy v hy e=>?_) (λy ch hy e=>?_)
   rotate_left
   .have hm:r.dS∉dO d:=by
     exact qe
    rw[rU DQ]at hy;subst hy;injection e with e;subst e;refine go ?_;exact x9 (e:=160) (.inl rfl) (λh=>(h.rV r kP).dS.elim h3 hm) rfl rfl As
   have hm:r.dS∈dO d:=by
    by_cases h:r.dS∈dO d
    .exact h
    .exact n9
   rw[xP hm]at hy;subst hy;injection e with e;subst e;rw[fo];refine go ?_;refine qI (o:=0+k*12+11) (cs:=eG aY (X.set k ({r with family:=fm,adJ:= -1,set:=(gK (bX d) r.names:Int),other:=(gK (bX d) r.others:Int)},v3,v4))) (cs':=eG aY (X.set k (f2 (r,v3,v4)))) (v:=iV ((dZ r.dS (dO d):Nat):Int)) (De mE (by show _=lV (mW (bX d) (cz d) (dO d) r) v3 v4;unfold mW;rw[if_neg h3,hfm];rfl) z7) (Df mE z7) ?_;refine go ?_;rw[hfin];refine tT (b:=dS) (f:=fy) (m:=xr.length) aY (aC:=jD f2 (k+1) xr) (by rw[zf]) Vz ?_;exact aN (k+1) z7 ⟨z7,hnext (.inr hm)⟩
  .refine go ?_;rw[show X.set k (({r with family:=fm,adJ:= -1,set:=(gK (bX d) r.names:Int),other:=(gK (bX d) r.others:Int)}:bN),v3,v4)=jD f2 (k+1) xr by
    rw[<- hfin];congr 1;show _=(mW (bX d) (cz d) (dO d) r,v3,v4)
    unfold mW;rw[if_pos h3,hfm];rfl]
   refine tT (b:=dS) (f:=fy) (m:=xr.length) aY (aC:=jD f2 (k+1) xr) (by rw[zf]) Vz ?_;exact aN (k+1) z7 ⟨z7,hnext (.inl h3)⟩
 have hkl:k=xr.length:=z7
 subst hkl;rw[bU]at hall;rw[Uf];refine IX (E:=bI) (v:=.slice a1 xc.length xc.length) (aC:=xc.map f1) ?_ (λw h p hp f hf=>by cases hf);refine IX (E:=aY) (v:=.slice a2 xr.length xr.length) (aC:=xr.map f2) ?_ (λw h p hp f hf=>by
  obtain⟨q,hq,rfl⟩:=eT.1 hp;exact h (pG aY xr) (cO _ (cO _ (cB ..))) q hq f hf)
 refine go ?_;refine Vx (e:=0) ⟨true,0,.slice a1 xc.length xc.length,.slice a2 xr.length xr.length⟩ rfl AD rfl rfl ⟨λ_=>⟨rfl,⟨z7,hsn,hfn,hcn,hcon,hrn,λr hr=>?_⟩⟩,λh=>by cases h⟩ (λw h f hf=>?_) rfl rfl As
 .rw[<- Dh]at hr;obtain⟨p,hp,rfl⟩:=eT.1 hr;exact hall p hp
 .have ec:(xc.map f1).map (·.1)=(Kd.bE d).aJ:=by
   show _=d.aJ.map (lW (cz d));rw[<- Dg,wR,wR];rfl
  have er:(xr.map f2).map (·.1)=(Kd.bE d).rules:=by
   show _=d.rules.map (mW (bX d) (cz d) (dO d));rw[<- Dh,wR,wR];rfl
  rw[ec,er]at h;have hf:f∈[ai bI (.slice a1 xc.length xc.length) (Kd.bE d).aJ,ai aY (.slice a2 xr.length xr.length) (Kd.bE d).rules]:=hf;rcases dx.1 hf with rfl|hf
  .exact h _ An
  .rw[bM.1 hf];exact h _ An
end Go.Proofs.YtoilpafpgndilaaGreat
namespace Go.Proofs.YtoilpafpgndilaaGreat
open Tryz (prog)
open Go.Ideal Kd
variable{va vb:vI}{xs ys:kI (kI Int)}
def VA(hal:xs.length<2^63)(hl:∀l∈xs,l.length<2^63):dD prog 213 [va,vb,.func (.func 58) #[] #[]] [ai (ak ae) va xs,ai (ak ae) vb ys] (.bool (decide (xs=ys))):=by
 refine gB 213 λB w0=>?_;refine gIf ?_ ?_<;>intro h1
 .exact ez
 have hlen:xs.length=ys.length:=z7
 refine gN xs.length 17 (λk=>k<=xs.length/\∀j,j<k->xs[j]? =ys[j]?) ⟨z7,λj hj=>by omega⟩ ?_;rintro k ⟨hkx,hsame⟩;refine gIf ?_ ?_<;>intro h2
 .refine gX (ak ae) λ_ _ x (vx:vI) hx=>?_;refine gX (ak ae) λ_ _ y (vy:vI) hy=>?_;refine gC (Bf (xs:=x) (ys:=y) (hl x (aZ hx))) λ_ _=>?_;refine go ?_;refine fq rfl (λh3=>?_) (λh3=>?_)
  .exact cV
  exact cJ
 exact cF
def VB(hal:xs.length<2^63)(hl:∀l∈xs,l.length<2^63):dD prog 143 [va,vb] [ai (ak ae) va xs,ai (ak ae) vb ys] (.bool (decide (xs=ys))):=by
 refine gB 143 λB w0=>?_;refine gC (VA (xs:=xs) (ys:=ys) hal hl) λ_ _=>?_;exact afN
def afo{xs ys:kI (kI (kI Int))}(hal:xs.length<2^63)(hl:∀l∈xs,l.length<2^63/\∀m∈l,m.length<2^63):dD prog 144 [va,vb,.func (.func 143) #[] #[]] [ai (ak (ak ae)) va xs,ai (ak (ak ae)) vb ys] (.bool (decide (xs=ys))):=by
 refine gB 144 λB w0=>?_;refine gIf ?_ ?_<;>intro h1
 .exact ez
 have hlen:xs.length=ys.length:=z7
 refine gN xs.length 17 (λk=>k<=xs.length/\∀j,j<k->xs[j]? =ys[j]?) ⟨z7,λj hj=>by omega⟩ ?_;rintro k ⟨hkx,hsame⟩;refine gIf ?_ ?_<;>intro h2
 .refine gX (ak (ak ae)) λ_ _ x (vx:vI) hx=>?_;refine gX (ak (ak ae)) λ_ _ y (vy:vI) hy=>?_;refine gC (VB (xs:=x) (ys:=y) (hl x (aZ hx)).1 (hl x (aZ hx)).2) λ_ _=>?_;refine go ?_;refine fq rfl (λh3=>?_) (λh3=>?_)
  .exact cV
  exact cJ
 exact cF
def VC{xs ys:kI ByteArray}(hal:xs.length<2^63):dD prog 215 [va,vb] [ai bC va xs,ai bC vb ys] (.bool (decide (xs=ys))):=by
 refine gB 215 λB w0=>?_;refine gIf ?_ ?_<;>intro h1
 .exact ez
 have hlen:xs.length=ys.length:=z7
 refine gN xs.length 13 (λk=>k<=xs.length/\∀j,j<k->xs[j]? =ys[j]?) ⟨z7,λj hj=>by omega⟩ ?_;rintro k ⟨hkx,hsame⟩;refine gIf ?_ ?_<;>intro h2
 .refine gX bC λ_ _ x (_:Unit) hx=>?_;refine gX bC λ_ _ y (_:Unit) hy=>?_;refine go ?_;refine fq (p:=x=y) B3 (λh3=>?_) (λh3=>?_)
  .exact cV
  exact cJ
 exact cF
def Ob(x y:mU):cellsE [.string x.name,iV x.value] [.string y.name,iV y.value]=decide (x=y):=by
 obtain⟨a,b⟩:=x;obtain⟨c,e⟩:=y;show(decide (a=c)&&(decide (b=e)&&true))=_;rw[Bool.and_true,<- Bool.decide_and];exact nO.2 ⟨λh=>by rw[h.1,h.2],λh=>by cases h;exact⟨rfl,rfl⟩⟩
abbrev JJ(x:gW):kI vI:=[.string x.name,.string x.on,iV x.family,iV x.type,iV x.lo,iV x.hi]
def Oc(x y:gW):cellsE (JJ x) (JJ y)=decide (x=y):=by
 obtain⟨a1,a2,a3,a4,a5,a6⟩:=x;obtain⟨b1,b2,b3,b4,b5,b6⟩:=y;show(decide (a1=b1)&&(decide (a2=b2)&&(decide (a3=b3)&&(decide (a4=b4)&&(decide (a5=b5)&&(decide (a6=b6)&&true))))))=_;rw[Bool.and_true];simp only[<- Bool.decide_and];exact nO.2 ⟨λh=>by rw[h.1,h.2.1,h.2.2.1,h.2.2.2.1,h.2.2.2.2.1,h.2.2.2.2.2],λh=>by cases h;exact⟨rfl,rfl,rfl,rfl,rfl,rfl⟩⟩
def Od:∃fs:Array Field,prog.underlying 246=some (.struct fs)/\Ff prog fs.toList 0 [false,true]=true:=by
 refine⟨prog.fieldsOf 246,Ax,Ax⟩
def Oe:∃fs:Array Field,prog.underlying 94=some (.struct fs)/\Ff prog fs.toList 0 [false,false,true,true,true,true]=true:=by
 refine⟨prog.fieldsOf 94,Ax,Ax⟩
def afp{xs ys:kI mU}(hal:xs.length<2^63):dD prog 216 [va,vb] [ai fF va xs,ai fF vb ys] (.bool (decide (xs=ys))):=by
 obtain⟨fs,hu,hrow⟩:=Od;refine gB 216 λB w0=>?_;refine gIf ?_ ?_<;>intro h1
 .exact ez
 have hlen:xs.length=ys.length:=z7
 refine gN xs.length 13 (λk=>k<=xs.length/\∀j,j<k->xs[j]? =ys[j]?) ⟨z7,λj hj=>by omega⟩ ?_;rintro k ⟨hkx,hsame⟩;refine gIf ?_ ?_<;>intro h2
 .refine gX fF λ_ _ x (_:Unit) hx=>?_;refine gX fF λ_ _ y (_:Unit) hy=>?_;refine go ?_;refine(fA (v:=.bool (!decide (x=y))) rfl rfl (by rw[<- Ob];exact CQ rfl rfl hu Ax Ax (row_of hrow rfl rfl (λj=>by rw[fo]) (λj=>by rw[fo])) DS DS)).h ?_;refine go ?_;refine fq rfl (λh3=>?_) (λh3=>?_)
  .exact cV
  exact cJ
 exact cF
def afq{xs ys:kI gW}(hal:xs.length<2^63):dD prog 218 [va,vb] [ai bI va xs,ai bI vb ys] (.bool (decide (xs=ys))):=by
 obtain⟨fs,hu,hrow⟩:=Oe;refine gB 218 λB w0=>?_;refine gIf ?_ ?_<;>intro h1
 .exact ez
 have hlen:xs.length=ys.length:=z7
 refine gN xs.length 13 (λk=>k<=xs.length/\∀j,j<k->xs[j]? =ys[j]?) ⟨z7,λj hj=>by omega⟩ ?_;rintro k ⟨hkx,hsame⟩;refine gIf ?_ ?_<;>intro h2
 .refine gX bI λ_ _ x (_:Unit) hx=>?_;refine gX bI λ_ _ y (_:Unit) hy=>?_;refine go ?_;refine(fA (v:=.bool (!decide (x=y))) rfl rfl (by rw[<- Oc];exact CQ rfl rfl hu Ax Ax (row_of hrow rfl rfl (λj=>by rw[fo]) (λj=>by rw[fo])) DS DS)).h ?_;refine go ?_;refine fq rfl (λh3=>?_) (λh3=>?_)
  .exact cV
  exact cJ
 exact cF
end Go.Proofs.YtoilpafpgndilaaGreat
namespace Go.Proofs.YtoilpafpgndilaaGreat
open Tryz (prog)
open Go.Ideal Kd
def afr{x y:mV}{vx vy:vI}(hl:x.lists.length<2^63)(hll:∀l∈x.lists,l.length<2^63):dD prog 212 [.agg ⟨[.string x.name,vx]⟩,.agg ⟨[.string y.name,vy]⟩] [ai (ak ae) vx x.lists,ai (ak ae) vy y.lists] (.bool (decide (x=y))):=by
 obtain⟨n1,l1⟩:=x;obtain⟨n2,l2⟩:=y;dsimp only at hl hll⊢;refine gB 212 λB w0=>?_;refine go ?_;intro b2 b3;refine gH ?_ ?_<;>intro h1
 .rw[eB]at h1;refine acM ?_;rw[aR (λe=>nC h1 CI)];rfl
 rw[eB]at h1;have h1:=iI h1;refine gC (VA (xs:=l1) (ys:=l2) hl hll) λ_ _=>?_;refine acM ?_;rw[show decide (mV.mk n1 l1=mV.mk n2 l2)=decide (l1=l2)from nO.2 ⟨λh=>by cases h;rfl,λh=>by rw[h1,h]⟩];rfl
variable{u1 u2:vI}
def afs{x y:bN}{v1 v2:vI}(hl:x.names.length<2^63)(hll:x.others.length<2^63):dD prog 214 [.agg ⟨lV x v1 v2⟩,.agg ⟨lV y u1 u2⟩] [ai bC v1 x.names,ai bC v2 x.others,ai bC u1 y.names,ai bC u2 y.others] (.bool (decide (x=y))):=by
 obtain⟨n1,o1,k1,f1,wG,os1,s1,t1,p1,m1,y1,c1⟩:=x;obtain⟨n2,o2,k2,f2,Di,os2,s2,t2,p2,m2,y2,c2⟩:=y;dsimp only[lV]at hl hll⊢;refine gB 214 λB w0=>?_;refine go ?_;intro b2 b3;refine gC (VC (xs:=wG) (ys:=Di) hl) λ_ _=>?_;refine gH ?_ ?_<;>intro h1
 .exact rp
 refine gC (VC (xs:=os1) (ys:=os2) hll) λ_ _=>?_;refine gH ?_ ?_<;>intro h2
 .exact rj
 refine gH ?_ ?_<;>intro h3
 .rw[eB]at h3;refine acM ?_;rw[aR (λe=>nC h3 CI)];rfl
 rw[eB]at h3;have h3:=iI h3;refine gH ?_ ?_<;>intro h4
 .rw[eB]at h4;refine acM ?_;rw[aR (λe=>nC h4 CI)];rfl
 rw[eB]at h4;have h4:=iI h4;refine gH ?_ ?_<;>intro h5
 .rw[eB]at h5;refine acM ?_;rw[aR (λe=>nC h5 CI)];rfl
 rw[eB]at h5;have h5:=iI h5;refine go ?_;refine(fA (v:=.bool (decide ([k1,f1,s1,t1,p1,m1,c1]=[k2,f2,s2,t2,p2,m2,c2]))) rfl rfl (adh (n:=7) (e:=3) rfl rfl Ax Ax Ax rfl rfl Ax)).h ?_;refine acM ?_;rw[show decide (bN.mk n1 o1 k1 f1 wG os1 s1 t1 p1 m1 y1 c1=bN.mk n2 o2 k2 f2 Di os2 s2 t2 p2 m2 y2 c2)=decide ([k1,f1,s1,t1,p1,m1,c1]=[k2,f2,s2,t2,p2,m2,c2])from nO.2 ⟨λh=>by cases h;rfl,λh=>by cases h;rw[h1,h2,h3,h4,h5]⟩];rfl
variable{va vb:vI}
def aft{xs ys:kI mV}(hal:xs.length<2^63)(hl:∀r∈xs,r.lists.length<2^63/\∀l∈r.lists,l.length<2^63):dD prog 217 [va,vb,.func (.func 212) #[] #[]] [ai eY va xs,ai eY vb ys] (.bool (decide (xs=ys))):=by
 refine gB 217 λB w0=>?_;refine gIf ?_ ?_<;>intro h1
 .exact ez
 have hlen:xs.length=ys.length:=z7
 refine gN xs.length 17 (λk=>k<=xs.length/\∀j,j<k->xs[j]? =ys[j]?) ⟨z7,λj hj=>by omega⟩ ?_;rintro k ⟨hkx,hsame⟩;refine gIf ?_ ?_<;>intro h2
 .refine gX eY λ_ _ x (vx:vI) hx=>?_;refine go ?_;intro b8;refine gX eY λ_ _ y (vy:vI) hy=>?_;refine go ?_;intro b9;refine gC (afr (x:=x) (y:=y) (vx:=vx) (vy:=vy) (hl x (aZ hx)).1 (hl x (aZ hx)).2) λ_ _=>?_;refine go ?_;refine fq rfl (λh3=>?_) (λh3=>?_)
  .exact cV
  exact cJ
 exact cF
def afu{xs ys:kI bN}(hal:xs.length<2^63)(hl:∀r∈xs,r.names.length<2^63/\r.others.length<2^63):dD prog 219 [va,vb,.func (.func 214) #[] #[]] [ai aY va xs,ai aY vb ys] (.bool (decide (xs=ys))):=by
 refine gB 219 λB w0=>?_;refine gIf ?_ ?_<;>intro h1
 .exact ez
 have hlen:xs.length=ys.length:=z7
 refine gN xs.length 17 (λk=>k<=xs.length/\∀j,j<k->xs[j]? =ys[j]?) ⟨z7,λj hj=>by omega⟩ ?_;rintro k ⟨hkx,hsame⟩;refine gIf ?_ ?_<;>intro h2
 .refine gX aY λ_ _ x (vx:vI×vI) hx=>?_;refine go ?_;intro b8;refine gX aY λ_ _ y (vy:vI×vI) hy=>?_;refine go ?_;intro b9;refine gC (afs (x:=x) (y:=y) (v1:=vx.1) (v2:=vx.2) (u1:=vy.1) (u2:=vy.2) (hl x (aZ hx)).1 (hl x (aZ hx)).2) λ_ _=>?_;refine go ?_;refine fq rfl (λh3=>?_) (λh3=>?_)
  .exact cV
  exact cJ
 exact cF
def VD{x y:bF}{h1 s1 r1 c1 h2 s2 r2 c2:vI}(hS:ng x):dD prog 142 [.agg ⟨ahE x h1 s1 r1 c1 u1⟩,.agg ⟨ahE y h2 s2 r2 c2 u2⟩] (lG x h1 s1 r1 c1 u1++lG y h2 s2 r2 c2 u2) (.bool (decide (x=y))):=by
 have e1:=hS.eH;have e2:=hS.regs;have e3:=hS.jg;have e4:=hS.kX;have e5:=hS.rY;have e6:=hS.holes;have e7:=hS.rZ;clear hS;obtain⟨n1,v1,p1,w1,g1,ho1,ni,mF,nu,mG⟩:=x;obtain⟨n2,v2,p2,w2,g2,ho2,qN,qj,qO,ql⟩:=y;dsimp only at e1 e2 e3 e4 e5 e6 e7;dsimp only[ahE,lG,List.cons_append,List.nil_append];refine gB 142 λB w0=>?_;refine go ?_;intro b2 b3;refine gH ?_ ?_<;>intro k1
 .rw[eB]at k1;refine acM ?_;rw[aR (λe=>nC k1 CI)];rfl
 rw[eB]at k1;have k1:=iI k1;refine gH ?_ ?_<;>intro k2
 .exact jz
 refine gH ?_ ?_<;>intro k3
 .exact jx
 refine gH ?_ ?_<;>intro k4
 .exact ju
 refine gH ?_ ?_<;>intro k5
 .exact mT
 refine gC (Bf (xs:=ho1) (ys:=ho2) e6) λ_ _=>?_;refine gH ?_ ?_<;>intro k6
 .exact jt
 refine gC (afp (xs:=ni) (ys:=qN) z7) λ_ _=>?_;refine gH ?_ ?_<;>intro k7
 .exact js
 refine gC (aft (xs:=mF) (ys:=qj) z7 e7) λ_ _=>?_;refine gH ?_ ?_<;>intro k8
 .exact ri
 refine gC (afq (xs:=nu) (ys:=qO) z7) λ_ _=>?_;refine gH ?_ ?_<;>intro k9
 .exact rh
 refine gC (afu (xs:=mG) (ys:=ql) z7 e5) λ_ _=>?_;refine acM ?_;rw[show decide (bF.mk n1 v1 p1 w1 g1 ho1 ni mF nu mG=bF.mk n2 v2 p2 w2 g2 ho2 qN qj qO ql)=decide (mG=ql)from nO.2 ⟨λh=>by cases h;rfl,λh=>by rw[k1,k2,k3,k4,k5,k6,k7,k8,k9,h]⟩];rfl
