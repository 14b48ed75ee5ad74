/- Part. -/
import Derived.Test.YtignbinlipkmfaaGreatDoorProg
import Derived.Test.YtignbinlipkmfaaGreatDoorPlainAR
import Derived.Laws.Strings
set_option linter.all false
set_option maxRecDepth 10000
set_option maxHeartbeats 4000000
namespace Go.Proofs.YtignbinlipkmfaaGreatDoor
open Tryz (prog)
open Go.Ideal
noncomputable def abp:=qd prog 312
def anq:lF prog 312=some abp:=th
noncomputable def abq:=qd prog 280
def anr:lF prog 280=some abq:=th
structure abr(grid:List Int):Prop where
 len:grid.length<=1000000
 yG:∀x∈grid,0<=x/\x<16
structure abt(grid cells:List Int):Prop where
 len:cells.length<=1000000
 cell:∀c∈cells,0<=c/\c<grid.length
def sy(grid:ae Int)(c:Int):Nat:=(grid.getD c.toNat 0).toNat
def cnt(grid:ae Int)(set:Nat)(cells:ae Int):Nat:=(cells.filter λc=>set.testBit (sy grid c)).length
def take_one{α:Type}{xs:ae α}{k:Nat}{x:α}(h:xs[k]? =some x):xs.take (k+1)=xs.take k++[x]:=by
 rw[qw,h];rfl
structure abu(values grid:List Int):Prop where
 val:∀v∈values,0<=v/\v<=99
 yG:∀x∈grid,x<values.length
def va(values grid:ae Int)(c:Int):Int:=values.getD (sy grid c) 0
def met(grid cells:ae Int):Nat:=cells.foldl (λm c=>m|||1<<<sy grid c) 0
noncomputable def abv:=qd prog 48
def ant:lF prog 48=some abv:=th
def rn(grid:ae Int)(set:Nat):Nat->ae Int->ae Int
 |n,[]=>if 0<n then[(n:Int)]else[]
 |n,c::cs=>if set.testBit (sy grid c)then rn grid set (n+1) cs else if 0<n then(n:Int)::rn grid set 0 cs else rn grid set 0 cs
abbrev anu{α:Type}(E:Enc α)(b:Nat)(ys:ae α):OA:=JV λv:ah=>[pt b (.cells [v]),ap E v ys]
def yI{va vb:ah}{xs ys:ae Int}(hal:xs.length<2^63):dF prog 48 [va,vb] [aj ai va xs,aj ai vb ys] (.bool (decide (xs=ys))):=by
 refine jD abv ant λB w0=>?_;refine aC ?_ ?_<;>intro h1
 .exact eA
 have hlen:xs.length=ys.length:=tf
 refine gN xs.length 13 (λk=>k<=xs.length/\∀j,j<k->xs[j]? =ys[j]?) ⟨tf,λj hj=>by omega⟩ ?_;rintro k ⟨hkx,hsame⟩;refine aC ?_ ?_<;>intro h2
 .refine go ?_;intro _ _ x hx _ _ y hy;refine kW rfl ?_ ?_<;>intro h3
  .exact cU
  refine go ?_;refine aO (k+1) tf ⟨tf,λj hj=>?_⟩;by_cases e:j=k
  .subst e;rw[hx,hy,iX.1 h3]
  .exact hsame j tf
 exact cE
abbrev UM(P:Program)(fn:Fn)(first cap:ae ah)(v:ah)(F:ae aM)(b:Bool):Prop:=bG P fn (first++[v]) cap [] F (λ_:Unit=>.bool b) (λ_=>[]) (λ_=>[]) (λ_=>True)
variable{va:ah}{xs:ae Int}{fn:Fn}{first cap:ae ah}{F1:ae aM}{p:Int->Bool}
def anv(hl:xs.length<2^63)(hp:∀x∈xs,UM prog fn first cap (iV x) F1 (p x)):
 fC prog 197 [va,.func fn ⟨first⟩ ⟨cap⟩] (aj ai va xs::F1) (λr:Int=>iV r) (λr=>(0<=r↔xs.any p=true)):=by
 refine gB 197 λB w0=>?_;refine gN xs.length 8 (λk=>k<=xs.length/\(xs.take k).any p=false) ⟨tf,tg⟩ ?_;rintro k ⟨hk,hno⟩;refine aC ?_ ?_<;>intro h1
 .refine go ?_;intro _ _ x hx;refine fD (hp x (aU hx)) (next:=λ_ _=>?_);refine go ?_;refine kX rfl (λh2=>?_) (λh2=>?_)
  .refine go ?_;refine gQ (k:Int) ?_;have:xs.any p=true:=List.any_eq_true.2 ⟨x,aU hx,h2⟩;simp[this]
  .refine go ?_;refine aO (k+1) tf ⟨tf,?_⟩;rw[take_one hx,List.any_append,hno];simp[h2]
 refine go ?_;have:k=xs.length:=tf
 subst this;rw[bP]at hno;refine gQ (-1) ?_;rw[hno];simp
def anw(hl:xs.length<2^63)(hp:∀x∈xs,UM prog fn first cap (iV x) F1 (p x)):
 fC prog 109 [va,.func fn ⟨first⟩ ⟨cap⟩] (aj ai va xs::F1) (λ_:Unit=>.bool (xs.any p)) (λ_=>True):=by
 refine gB 109 λB w0=>?_;refine gC (anv hl hp) λr hr=>?_;refine aP ?_;have:decide (0<=r)=xs.any p:=by
  by_cases h:0<=r
  .rw[dQ h,hr.1 h]
  .rw[aW h];cases e:xs.any p with
   |false=>rfl
   |true=>exact absurd (hr.2 e) h
 rw[<- this];rfl
variable{z:Int}
def anx(hl:xs.length<2^63):
 fC prog 268 [va,iV z] [aj ai va xs] (λr:Int=>iV r) (λr=>(0<=r↔z∈xs)):=by
 refine gB 268 λB w0=>?_;refine gN xs.length 8 (λk=>k<=xs.length/\z∉xs.take k) ⟨tf,tg⟩ ?_;rintro k ⟨hk,hno⟩;refine aC ?_ ?_<;>intro h1
 .refine go ?_;intro _ _ x hx;refine kW rfl ?_ ?_<;>intro h2
  .refine go ?_;refine gQ (k:Int) ?_;subst h2;simp[aU hx]
  .refine go ?_;refine aO (k+1) tf ⟨tf,?_⟩;rw[take_one hx,eP,not_or];exact⟨hno,wA⟩
 refine go ?_;have:k=xs.length:=tf
 subst this;rw[bP]at hno;refine gQ (-1) ?_;simp[hno]
def anz(hl:xs.length<2^63):dF prog 201 [va,iV z] [aj ai va xs] (.bool (decide (z∈xs))):=by
 refine gB 201 λB w0=>?_;refine gC (anx hl) λr hr=>?_;refine aP ?_;rw[<- qx.2 hr];rfl
structure lZ(g:List (List Int)):Prop where
 len:g.length<=256
 ok:∀(i:Nat) l,g[i]? =some l->∀(k:Nat) n,l[k]? =some n->0<=n/\n<g.length/\n≠i/\(∀m,0<k->l[k - 1]? =some m->m<n)/\∀l',g[n.toNat]? =some l'->(i:Int)∈l'
end Go.Proofs.YtignbinlipkmfaaGreatDoor
namespace Go.Proofs.YtignbinlipkmfaaGreatDoor
open Tryz (prog)
open Go.Ideal
open Go.Ideal Gph
def lZ.rg{g:ae (ae Int)}(h:lZ g):∀l∈g,∀n∈l,Rg g n:=λl hl n hn=>by
 obtain⟨i,hi⟩:=iI hl;obtain⟨k,hk⟩:=iI hn;have:=h.ok i l hi k n hk;exact⟨this.1,this.2.1⟩
structure awt where
 a:Option Addr
 n:Nat
 e:Int
structure anA(c:Kc):Prop where
 cells:c.cells.length<2^63
 runs:c.runs.length<2^63
def Fin(cells symbols:Int)(grid:ae Int):Prop:=(grid.length:Int)=cells/\∀s∈grid,0<=s/\s<symbols
structure awu(q:TU):Prop where
 cells:1<=q.cells/\q.cells<=256
 symbols:1<=q.symbols/\q.symbols<=16
 awv:(q.values.length:Int)=q.symbols
 vals:∀v∈q.values,0<=v/\v<=99
 EE:(q.aR.length:Int)=q.cells
 aww:lZ q.aR
 many:q.cons.length<=4096
 fine:∀c∈q.cons,TV q.cells q.symbols c
structure awx(q:TU):Prop where
 values:q.values.length<2^63
 aR:∀l∈q.aR,l.length<2^63
 cons:q.cons.length<2^63
 con:∀c∈q.cons,anA c
structure awz(q:TU)(c:Kc)(grid:List Int):Prop where
 gr:abr grid
 ce:abt grid c.cells
 vs:abu q.values grid
 st:0<=c.set/\c.set<65537
 ot:0<=c.other/\c.other<65537
open Go.Ideal Kd
noncomputable def abw:iL:=⟨2,[(.tmp 0)],(.seq (kO [kS 0 (.jh (.const vS))]) (.seq (kO [⟨⟨(some 1),none,(.yX 9 8 [vE,vE,vE,vE,vE,vE,vE,vE] [⟨0,⟨1,(.const (.string ⟨⟨[99,101,108,108,115]⟩⟩))⟩⟩,⟨1,⟨1,(.const (.string ⟨⟨[114,111,119,115]⟩⟩))⟩⟩,⟨2,⟨1,(.const (.string ⟨⟨[99,111,108,117,109,110,115]⟩⟩))⟩⟩,⟨3,⟨1,(.const (.string ⟨⟨[100,105,97,103,111,110,97,108,115]⟩⟩))⟩⟩,⟨4,⟨1,(.const (.string ⟨⟨[97,114,111,117,110,100]⟩⟩))⟩⟩,⟨5,⟨1,(.const (.string ⟨⟨[110,101,97,114]⟩⟩))⟩⟩,⟨6,⟨1,(.const (.string ⟨⟨[112,97,105,114,115]⟩⟩))⟩⟩,⟨7,⟨1,(.const (.string ⟨⟨[97,108,108]⟩⟩))⟩⟩])⟩,[]⟩,kS 0 (.jh 1)]) .ret))⟩
def anB:lF prog 152=some abw:=th
abbrev fU:ByteArray->ah:=λs=>.string s
def vJ:rM prog 9 fU:=akD th
abbrev w9(e:Int):ae PanicEntry:=[{v:=.iface 37 (iV e),recovered:=false}]
def abx{x:oz}:dF prog 148 [.agg ⟨[.string x.name,iV x.value]⟩] [] (.string x.name):=by
 refine gB 148 λB w0=>?_;refine go ?_;intro b;exact fQ
def aby{x:pu}{v:ah}:dF prog 150 [.agg ⟨[.string x.name,v]⟩] [] (.string x.name):=by
 refine gB 150 λB w0=>?_;refine go ?_;intro b;exact fQ
def abz{x:iT}:dF prog 155 [.agg ⟨[.string x.name,.string x.on,iV x.family,iV x.type,iV x.lo,iV x.hi]⟩] [] (.string x.name):=by
 refine gB 155 λB w0=>?_;refine go ?_;intro b;exact fQ
def abA{x:bE}{v1 v2:ah}:dF prog 159 [.agg ⟨mg x v1 v2⟩] [] (.string x.name):=by
 refine gB 159 λB w0=>?_;refine go ?_;intro b;exact fQ
def abB{s:ByteArray}:dF prog 153 [.string s] [] (.string s):=by
 refine gB 153 λB w0=>?_;exact fQ
def Ky{P:Program}{B:ae Nat}{w0:Wd}{kl kl':ae OA}{F:ae aM}{K:KO}{ds:ae Tmp}{rest:ae bW}{n:Nat}{l:qr}{D:ae Deferred}{pm:ak FrameMode}{ro:ak Nat}{d:Nat}{g:ak (Tmp×Bool)}
 {α:Type} [DecidableEq α] {bF:α->ah} {kt:aF} {zero:ah} {m k:az} {b:Nat} {aA:ae (α×ah)} (hk:rM P kt bF) (a:α)
 (hit:∀v,dG a aA=some v->a∈aA.map (·.1)->R (λh=>aJ P ds rest (act n ((d,.tuple ⟨[v,.bool true]⟩)::l) D pm ro) h K) B w0 kl F)
 (miss:a∉aA.map (·.1)->R (λh=>aJ P ds rest (act n ((d,.tuple ⟨[zero,.bool false]⟩)::l) D pm ro) h K) B w0 kl F)
 (hm:ev l m=.map (some b):=by rfl) (ha:ev l k=bF a:=by conv=>lhs;whnf) (hs:aB (gW bF b aA) kl kl':=by exact dV) (hn:Nat.blt d n=true:=by rfl) (hg:bV l g=true:=by rfl):
 R (λh=>aJ P ds (⟨⟨some d,g,.lookup kt zero m k true⟩,[]⟩::rest) (act n l D pm ro) h K) B w0 kl F:=by
 refine Eo (ok:=true) hk a ?_ hm ha hs hn hg;by_cases h:a∈aA.map (·.1)
 .exact lB
 .exact mN
variable{aA:ae (ByteArray×ah)}{start:Nat}
def sU{α:Type}{xs:ae α}{nm:α->ByteArray}{k:Nat}{x:α}(hx:xs[k]? =some x):
 (aA++gq ((xs.take k).map nm) start).map (·.1)=aA.map (·.1)++(xs.take k).map nm/\gq ((xs.take (k+1)).map nm) start=gq ((xs.take k).map nm) start++[(nm x,iV ((start:Int)+(k:Int)))]:=by
 have hk:=(bJ.1 hx).1;refine⟨by rw[ek,wS],?_⟩;rw[qw,hx,ek,TW];congr 1;rw[bC,gM,MX tf];simp[gq]
variable{b:Nat}{vs:ah}
def anC{xs:ae ByteArray}(hl:xs.length<=4096)(hs:start<=4096)(hnd:(aA.map (·.1)).Nodup):
 uA prog (.func 151) [vs,iV (start:Int),.func (.func 153) #[] #[],.map (some b)] [] [gW fU b aA] [aj aX vs xs] (λy:Bool×ae ByteArray=>if y.1=true then .ok (.map (some b))else .gT (w9 161))
  (λy=>[gW fU b (aA++gq y.2 start)]) (λ_=>[]) (λy=>(y.1=true->y.2=xs/\(aA.map (·.1)++xs).Nodup)/\(y.1=false->¬(aA.map (·.1)++xs).Nodup)):=by
 let nm:ByteArray->ByteArray:=λs=>s
 have hmap:∀l:ae ByteArray,l.map nm=l:=λl=>List.map_id' l;suffices h:uA prog (.func 151) [vs,iV (start:Int),.func (.func 153) #[] #[],.map (some b)] [] [gW fU b aA] [aj aX vs xs] (λy:Bool×ae ByteArray=>if y.1=true then .ok (.map (some b))else .gT (w9 161))
  (λy=>[gW fU b (aA++gq y.2 start)]) (λ_=>[]) (λy=>(y.1=true->y.2=(xs.map nm)/\(aA.map (·.1)++xs.map nm).Nodup)/\(y.1=false->¬(aA.map (·.1)++xs.map nm).Nodup))by
  rw[hmap]at h;exact h
 refine Co _ (wC 151) λB w0=>?_;refine go ?_;rw[show gW fU b aA=gW fU b (aA++gq ((xs.take 0).map nm) start)by simp[gq]];refine di (λk=>xs.length - k) (λk:Nat=>[(15,iV (k:Int))]) (λk=>[gW fU b (aA++gq ((xs.take k).map nm) start)]) (λ_=>[]) (λk=>k<=xs.length/\(aA.map (·.1)++(xs.take k).map nm).Nodup) 0 ⟨bH _,w7⟩ (body:=?_);rintro k ⟨hk,hall⟩;refine aC ?_ ?_<;>intro h1
 .refine gX aX λ_ _ x (y:Unit) hx=>?_;refine gC (abB (s:=x)) λ_ _=>?_;refine go ?_;refine Ky vJ (nm x) (λv hv hm=>?_) (λhm=>?_)
  .exact bh
  refine gC (abB (s:=x)) λ_ _=>?_;refine go ?_;refine vD vJ (nm x) (aA:=aA++gq ((xs.take k).map nm) start) (v:=iV ((start:Int)+(k:Int))) ?_;have hm2:=hm;rw[(sU hx).1]at hm2;rw[GJ hm,iO,<- (sU (aA:=aA) hx).2];refine go ?_;refine aO (k+1) tf ⟨tf,?_⟩;rw[qw,hx,ek,<- iO,jV];refine⟨hall,tg,λa ha c hc=>?_⟩;have:c=nm x:=w8
  exact ki
 have hkl:k=xs.length:=tf
 subst hkl;rw[bP]at hall;rw[bP];refine go ?_;exact Ei (true,xs.map nm) (hv:=rfl) (hp:=⟨λ_=>⟨rfl,hall⟩,λh=>by cases h⟩)
def anD{xs:ae oz}(hl:xs.length<=4096)(hs:start<=4096)(hnd:(aA.map (·.1)).Nodup):
 uA prog (.func 147) [vs,iV (start:Int),.func (.func 148) #[] #[],.map (some b)] [] [gW fU b aA] [aj fG vs xs] (λy:Bool×ae ByteArray=>if y.1=true then .ok (.map (some b))else .gT (w9 161))
  (λy=>[gW fU b (aA++gq y.2 start)]) (λ_=>[]) (λy=>(y.1=true->y.2=(xs.map oz.name)/\(aA.map (·.1)++xs.map oz.name).Nodup)/\(y.1=false->¬(aA.map (·.1)++xs.map oz.name).Nodup)):=by
 let nm:oz->ByteArray:=oz.name
 refine Co _ (wC 147) λB w0=>?_;refine go ?_;rw[show gW fU b aA=gW fU b (aA++gq ((xs.take 0).map nm) start)by simp[gq]];refine di (λk=>xs.length - k) (λk:Nat=>[(15,iV (k:Int))]) (λk=>[gW fU b (aA++gq ((xs.take k).map nm) start)]) (λ_=>[]) (λk=>k<=xs.length/\(aA.map (·.1)++(xs.take k).map nm).Nodup) 0 ⟨bH _,w7⟩ (body:=?_);rintro k ⟨hk,hall⟩;refine aC ?_ ?_<;>intro h1
 .refine gX fG λ_ _ x y hx=>?_;refine go ?_;intro b10;refine gC (abx (x:=x)) λ_ _=>?_;refine go ?_;refine Ky vJ (nm x) (λv hv hm=>?_) (λhm=>?_)
  .exact bh
  refine gC (abx (x:=x)) λ_ _=>?_;refine go ?_;refine vD vJ (nm x) (aA:=aA++gq ((xs.take k).map nm) start) (v:=iV ((start:Int)+(k:Int))) ?_;have hm2:=hm;rw[(sU hx).1]at hm2;rw[GJ hm,iO,<- (sU (aA:=aA) hx).2];refine go ?_;refine aO (k+1) tf ⟨tf,?_⟩;rw[qw,hx,ek,<- iO,jV];refine⟨hall,tg,λa ha c hc=>?_⟩;have:c=nm x:=w8
  exact ki
 have hkl:k=xs.length:=tf
 subst hkl;rw[bP]at hall;rw[bP];refine go ?_;exact Ei (true,xs.map nm) (hv:=rfl) (hp:=⟨λ_=>⟨rfl,hall⟩,λh=>by cases h⟩)
def anE{xs:ae pu}(hl:xs.length<=4096)(hs:start<=4096)(hnd:(aA.map (·.1)).Nodup):
 uA prog (.func 149) [vs,iV (start:Int),.func (.func 150) #[] #[],.map (some b)] [] [gW fU b aA] [aj fw vs xs] (λy:Bool×ae ByteArray=>if y.1=true then .ok (.map (some b))else .gT (w9 161))
  (λy=>[gW fU b (aA++gq y.2 start)]) (λ_=>[]) (λy=>(y.1=true->y.2=(xs.map pu.name)/\(aA.map (·.1)++xs.map pu.name).Nodup)/\(y.1=false->¬(aA.map (·.1)++xs.map pu.name).Nodup)):=by
 let nm:pu->ByteArray:=pu.name
 refine Co _ (wC 149) λB w0=>?_;refine go ?_;rw[show gW fU b aA=gW fU b (aA++gq ((xs.take 0).map nm) start)by simp[gq]];refine di (λk=>xs.length - k) (λk:Nat=>[(15,iV (k:Int))]) (λk=>[gW fU b (aA++gq ((xs.take k).map nm) start)]) (λ_=>[]) (λk=>k<=xs.length/\(aA.map (·.1)++(xs.take k).map nm).Nodup) 0 ⟨bH _,w7⟩ (body:=?_);rintro k ⟨hk,hall⟩;refine aC ?_ ?_<;>intro h1
 .refine gX fw λ_ _ x y hx=>?_;refine go ?_;intro b10;refine gC (aby (x:=x) (v:=y)) λ_ _=>?_;refine go ?_;refine Ky vJ (nm x) (λv hv hm=>?_) (λhm=>?_)
  .exact bh
  refine gC (aby (x:=x) (v:=y)) λ_ _=>?_;refine go ?_;refine vD vJ (nm x) (aA:=aA++gq ((xs.take k).map nm) start) (v:=iV ((start:Int)+(k:Int))) ?_;have hm2:=hm;rw[(sU hx).1]at hm2;rw[GJ hm,iO,<- (sU (aA:=aA) hx).2];refine go ?_;refine aO (k+1) tf ⟨tf,?_⟩;rw[qw,hx,ek,<- iO,jV];refine⟨hall,tg,λa ha c hc=>?_⟩;have:c=nm x:=w8
  exact ki
 have hkl:k=xs.length:=tf
 subst hkl;rw[bP]at hall;rw[bP];refine go ?_;exact Ei (true,xs.map nm) (hv:=rfl) (hp:=⟨λ_=>⟨rfl,hall⟩,λh=>by cases h⟩)
def anF{xs:ae iT}(hl:xs.length<=4096)(hs:start<=4096)(hnd:(aA.map (·.1)).Nodup):
 uA prog (.func 154) [vs,iV (start:Int),.func (.func 155) #[] #[],.map (some b)] [] [gW fU b aA] [aj bZ vs xs] (λy:Bool×ae ByteArray=>if y.1=true then .ok (.map (some b))else .gT (w9 161))
  (λy=>[gW fU b (aA++gq y.2 start)]) (λ_=>[]) (λy=>(y.1=true->y.2=(xs.map iT.name)/\(aA.map (·.1)++xs.map iT.name).Nodup)/\(y.1=false->¬(aA.map (·.1)++xs.map iT.name).Nodup)):=by
 let nm:iT->ByteArray:=iT.name
 refine Co _ (wC 154) λB w0=>?_;refine go ?_;rw[show gW fU b aA=gW fU b (aA++gq ((xs.take 0).map nm) start)by simp[gq]];refine di (λk=>xs.length - k) (λk:Nat=>[(15,iV (k:Int))]) (λk=>[gW fU b (aA++gq ((xs.take k).map nm) start)]) (λ_=>[]) (λk=>k<=xs.length/\(aA.map (·.1)++(xs.take k).map nm).Nodup) 0 ⟨bH _,w7⟩ (body:=?_);rintro k ⟨hk,hall⟩;refine aC ?_ ?_<;>intro h1
 .refine gX bZ λ_ _ x y hx=>?_;refine go ?_;intro b10;refine gC (abz (x:=x)) λ_ _=>?_;refine go ?_;refine Ky vJ (nm x) (λv hv hm=>?_) (λhm=>?_)
  .exact bh
  refine gC (abz (x:=x)) λ_ _=>?_;refine go ?_;refine vD vJ (nm x) (aA:=aA++gq ((xs.take k).map nm) start) (v:=iV ((start:Int)+(k:Int))) ?_;have hm2:=hm;rw[(sU hx).1]at hm2;rw[GJ hm,iO,<- (sU (aA:=aA) hx).2];refine go ?_;refine aO (k+1) tf ⟨tf,?_⟩;rw[qw,hx,ek,<- iO,jV];refine⟨hall,tg,λa ha c hc=>?_⟩;have:c=nm x:=w8
  exact ki
 have hkl:k=xs.length:=tf
 subst hkl;rw[bP]at hall;rw[bP];refine go ?_;exact Ei (true,xs.map nm) (hv:=rfl) (hp:=⟨λ_=>⟨rfl,hall⟩,λh=>by cases h⟩)
def anG{xs:ae bE}(hl:xs.length<=4096)(hs:start<=4096)(hnd:(aA.map (·.1)).Nodup):
 uA prog (.func 158) [vs,iV (start:Int),.func (.func 159) #[] #[],.map (some b)] [] [gW fU b aA] [aj bi vs xs] (λy:Bool×ae ByteArray=>if y.1=true then .ok (.map (some b))else .gT (w9 161))
  (λy=>[gW fU b (aA++gq y.2 start)]) (λ_=>[]) (λy=>(y.1=true->y.2=(xs.map bE.name)/\(aA.map (·.1)++xs.map bE.name).Nodup)/\(y.1=false->¬(aA.map (·.1)++xs.map bE.name).Nodup)):=by
 let nm:bE->ByteArray:=bE.name
 refine Co _ (wC 158) λB w0=>?_;refine go ?_;rw[show gW fU b aA=gW fU b (aA++gq ((xs.take 0).map nm) start)by simp[gq]];refine di (λk=>xs.length - k) (λk:Nat=>[(15,iV (k:Int))]) (λk=>[gW fU b (aA++gq ((xs.take k).map nm) start)]) (λ_=>[]) (λk=>k<=xs.length/\(aA.map (·.1)++(xs.take k).map nm).Nodup) 0 ⟨bH _,w7⟩ (body:=?_);rintro k ⟨hk,hall⟩;refine aC ?_ ?_<;>intro h1
 .refine gX bi λ_ _ x y hx=>?_;refine go ?_;intro b10;refine gC (abA (x:=x) (v1:=y.1) (v2:=y.2)) λ_ _=>?_;refine go ?_;refine Ky vJ (nm x) (λv hv hm=>?_) (λhm=>?_)
  .exact bh
  refine gC (abA (x:=x) (v1:=y.1) (v2:=y.2)) λ_ _=>?_;refine go ?_;refine vD vJ (nm x) (aA:=aA++gq ((xs.take k).map nm) start) (v:=iV ((start:Int)+(k:Int))) ?_;have hm2:=hm;rw[(sU hx).1]at hm2;rw[GJ hm,iO,<- (sU (aA:=aA) hx).2];refine go ?_;refine aO (k+1) tf ⟨tf,?_⟩;rw[qw,hx,ek,<- iO,jV];refine⟨hall,tg,λa ha c hc=>?_⟩;have:c=nm x:=w8
  exact ki
 have hkl:k=xs.length:=tf
 subst hkl;rw[bP]at hall;rw[bP];refine go ?_;exact Ei (true,xs.map nm) (hv:=rfl) (hp:=⟨λ_=>⟨rfl,hall⟩,λh=>by cases h⟩)
end Go.Proofs.YtignbinlipkmfaaGreatDoor
namespace Go.Proofs.YtignbinlipkmfaaGreatDoor
open Tryz (prog)
open Go.Ideal Kd
noncomputable def UN:iL:=⟨9,[],(.seq (kO [⟨⟨(some 3),none,.recover⟩,[]⟩,kS 2 (.jh 3)]) (.seq (kO [kM 4 2,kS 5 (.bin .neq 20 4 (.const .nilIface))]) (.cond 5 (kO [⟨⟨(some 6),none,(.build [vE,(iV 0),(iV 0),(iV 0),(iV 0),vS,vS,vS,vS,vS] [])⟩,[]⟩,kM 7 2,kS 8 (.M4 37 (iV 0) false 7),kN (.store 10 0 6),kN (.store 1 1 8)]) .skip)))⟩
def abC:lF prog 146=some UN:=th
section
variable {P:Program} {B:ae Nat} {w0:Wd} {kl kl':ae OA} {F:ae aM} {K:KO} {ds:ae Tmp} {rest:ae bW} {n:Nat} {l:qr} {D:ae Deferred} {pm:ak FrameMode} {ro:ak Nat} {d:Nat} {g:ak (Tmp×Bool)}
variable{α:Type}
def abD[DecidableEq α]{bF:α->ah}{kt:aF}{zero:ah}{m k:az}{b:Nat}{aA:ae (α×ah)}(hk:rM P kt bF)(a:α)
 (hit:∀v,dG a aA=some v->a∈aA.map (·.1)->R (λh=>aJ P ds rest (act n ((d,.tuple ⟨[v,.bool true]⟩)::l) D pm ro) h K) B w0 kl F)
 (miss:a∉aA.map (·.1)->R (λh=>aJ P ds rest (act n ((d,.tuple ⟨[zero,.bool false]⟩)::l) D pm ro) h K) B w0 kl F)
 (hm:ev l m=.map (some b):=by rfl) (ha:ev l k=bF a:=by conv=>lhs;whnf) (hf:wN bF b aA∈F:=by exact ic) (hn:Nat.blt d n=true:=by rfl) (hg:bV l g=true:=by rfl):
 R (λh=>aJ P ds (⟨⟨some d,g,.lookup kt zero m k true⟩,[]⟩::rest) (act n l D pm ro) h K) B w0 kl F:=by
 refine Tt (ok:=true) hk a ?_ hm ha hf hn hg;by_cases h:a∈aA.map (·.1)
 .exact lB
 .exact mN
def UO(E:Enc α){v:ah}{aD:ae (α×E.Y)}{Q:IH->Prop}(h0:aD=[]->∀c,v=.slice none 0 c->R Q B w0 kl F)(h1:aD=[]->∀i o f c,v=.slice (some ⟨i,o,some f⟩) 0 c->R Q B w0 kl F)
 (h2:0<aD.length->∀i o f c,v=.slice (some ⟨i,o,some f⟩) aD.length c->R Q B w0 kl F) (hf:sP E v aD∈F:=by exact ic):R Q B w0 kl F:=λw s=>by
 rcases s.facts _ hf with⟨e,a,c,hv,hg⟩|⟨i,o,f,c,cells,⟨hv,_⟩,_⟩
 .exact mC
 .by_cases hx:aD=[]
  .subst hx;exact h1 rfl i o f c hv w s
  .exact h2 (Ig.2 hx) i o f c hv w s
def UQ(E:Enc α){Q:IH->Prop}(h:R Q B w0 (ar E (.slice none 0 0) []::kl) F):R Q B w0 kl F:=λw s=>by
 obtain⟨S,h1,h2,h3⟩:=s.own;exact h w ⟨s.agree,s.le,s.fZ,⟨S,⟨[],S,.inl ⟨rfl,⟨none,rfl,trivial⟩,rfl⟩,h1,rfl⟩,h2,h3⟩,s.facts⟩
end
def anH:bG prog (.func 152) [] [] [] [] (λv:ah=>v) (λ_=>[]) (λv=>[aj aX v jB]) (λ_=>True):=by
 refine jD abw anB λB w0=>?_;refine go ?_;intro b;refine go ?_;refine wQ (b:=b) (m:=8) (f:=0) aX (aD:=jB.map λs=>(s,())) rfl (.inl rfl) ?_ (hk:=aB.here);refine Oo (E:=aX) ?_ (λw hw p hp f hf=>by cases hf);exact gQ (.slice (some ⟨b,0,some 0⟩) 8 8) trivial (hF:=.cons (iw _ (fF ..)) .nil)
variable{s:ByteArray}
def Pw{b:Nat}{aA:ae (ByteArray×ah)}:
 uA prog (.func 157) [.map (some b),.string s] [] [] [wN fU b aA] (λy:ak ah=>match y with|some v=>.ok v|none=>.gT (w9 160)) (λ_=>[]) (λ_=>[]) (λy=>y=dG s aA):=by
 refine Co _ (wC 157) λB w0=>?_;refine go ?_;refine abD vJ s (λv hv hm=>?_) (λhm=>?_)
 .refine go ?_;exact Ei (some v) (hv:=rfl) (hp:=hv.symm)
 .refine go ?_;refine Gt ?_;refine go ?_;exact Ej none (hv:=rfl) (hp:=(vH hm).symm)
variable{dK l:ae ByteArray}
def abE{k:Nat}(h:l[k]? =some s):gY dK (l.take (k+1))=gY dK (l.take k)|||1<<<eD s dK:=by
 unfold gY;rw[qw,h,yU];rfl
def UR{dK:ae ByteArray}(hs:dK.length<=16):∀(l:ae ByteArray) (m:Nat),(∀s∈l,s∈dK)->m<65536->l.foldl (λm s=>m|||1<<<eD s dK) m<65536
 |[],m,_,hm=>hm
 |s::l,m,h,hm=>by
  rw[xC];refine UR hs l _ (λx hx=>h x (iw _ hx)) ?_;have h1:=AJ (h s (fF ..));have h2:1<<<eD s dK<2^16:=by
   exact mT
  exact Wy (n:=16) hm h2
def abF{b4 bs:Nat}{vl:ah}(hs:dK.length<=16)(hl:l.length<2^63):
 uA prog (.func 161) [vl] [ptr' b4] [] [dO b4 0 [.map (some bs)],wN fU bs (gq dK 0),aj aX vl l] (λy:Bool=>if y=true then .ok (iV (gY dK l:Int))else .gT (w9 160)) (λ_=>[]) (λ_=>[])
  (λy=>(y=true->∀s∈l,s∈dK)/\(y=false->¬∀s∈l,s∈dK)):=by
 refine Co _ (wC 161) λB w0=>?_;refine gL (λk=>l.length - k) (λk:Nat=>[(8,iV (k:Int)),(3,iV (gY dK (l.take k):Int))]) (λk=>k<=l.length/\∀s∈l.take k,s∈dK) 0 ⟨bH _,tg⟩ ?_;rintro k ⟨hk,hall⟩;refine aC ?_ ?_<;>intro h1
 .refine gX aX λ_ _ x (y:Unit) hx=>?_;refine go ?_;refine yo (Pw (b:=bs) (s:=x) (aA:=gq dK 0)) (λy v hy e=>?_) (λy ch hy e=>?_)
  .have hm:x∈dK:=by
    by_cases h:x∈dK
    .exact h
    .exact li
   rw[AO hm]at hy;subst hy;injection e with e;subst e;have hp:=AJ hm;have h2:1<<<eD x dK<2^16:=by
    exact mT
   have h3:=UR hs (l.take k) 0 hall tf;rw[gI];refine(cZ rfl rfl (Y5 (a:=1) (b:=eD x dK) rfl rfl tf tf)).h ?_;refine(cZ rfl rfl (Y6 (a:=gY dK (l.take k)) (b:=1<<<eD x dK) rfl rfl (Nat.lt_trans h3 tf) tf)).h ?_;exact ez
  .refine go ?_;have hm:x∉dK:=by
    exact nt
   have hch:ch=w9 160:=by
    rw[vH yp]at hy;subst hy;injection e with e;exact e.symm
   subst hch;exact Ej false (hv:=rfl) (hp:=⟨(λh=>by cases h),λ_ h=>hm (h x (aU hx))⟩)
 have hkl:k=l.length:=tf
 subst hkl;rw[bP]at hall⊢;refine go ?_;exact Ei true (hv:=rfl) (hp:=⟨λ_=>hall,λh=>by cases h⟩)
variable{v:ah}
def anI{aD:ae (iT×bZ.Y)}(hl:aD.length<=4096):bG prog (.func 156) [v] [] [] [sP bZ v aD] (λv':ah=>v') (λv'=>[ar bZ v' aD]) (λ_=>[]) (λ_=>True):=by
 refine gB 156 λB w0=>?_;refine UO (v:=v) (aD:=aD) bZ (λe c ev=>?_) (λe i o f c ev=>?_) (λhne i o f c ev=>?_)
 .subst e ev;refine go ?_;refine(cZ rfl rfl (J3 (e:=173) th rfl)).h ?_;refine go ?_;refine UQ bZ ?_;exact rh
 .subst e ev;refine go ?_;refine(cZ rfl rfl (Cu (e:=173) th rfl)).h ?_;refine go ?_;intro b;refine go ?_;refine Oq (b:=b) ?_;refine go ?_;refine wQ (b:=b) (m:=0) (f:=0) bZ (aD:=[]) rfl (.inl rfl) ?_ (hk:=aB.here);exact nn
 .subst ev;refine go ?_;refine(cZ rfl rfl (Cu (e:=173) th rfl)).h ?_;refine go ?_;intro b;refine go ?_;refine Ot (b:=b) bZ aD hne tf (λb'=>?_);refine go ?_;refine wQ (b:=b') (m:=aD.length) (f:=bZ.n) bZ (aD:=aD) rfl (.inr rfl) ?_ (hk:=aB.here);exact gQ (.slice (some ⟨b',0,some bZ.n⟩) aD.length aD.length) trivial
def anJ{aD:ae (bE×bi.Y)}(hl:aD.length<=4096):bG prog (.func 160) [v] [] [] [sP bi v aD] (λv':ah=>v') (λv'=>[ar bi v' aD]) (λ_=>[]) (λ_=>True):=by
 refine gB 160 λB w0=>?_;refine UO (v:=v) (aD:=aD) bi (λe c ev=>?_) (λe i o f c ev=>?_) (λhne i o f c ev=>?_)
 .subst e ev;refine go ?_;refine(cZ rfl rfl (J3 (e:=61) th rfl)).h ?_;refine go ?_;refine UQ bi ?_;exact rh
 .subst e ev;refine go ?_;refine(cZ rfl rfl (Cu (e:=61) th rfl)).h ?_;refine go ?_;intro b;refine go ?_;refine Oq (b:=b) ?_;refine go ?_;refine wQ (b:=b) (m:=0) (f:=0) bi (aD:=[]) rfl (.inl rfl) ?_ (hk:=aB.here);exact nn
 .subst ev;refine go ?_;refine(cZ rfl rfl (Cu (e:=61) th rfl)).h ?_;refine go ?_;intro b;refine go ?_;refine Ot (b:=b) bi aD hne tf (λb'=>?_);refine go ?_;refine wQ (b:=b') (m:=aD.length) (f:=bi.n) bi (aD:=aD) rfl (.inr rfl) ?_ (hk:=aB.here);exact gQ (.slice (some ⟨b',0,some bi.n⟩) aD.length aD.length) trivial
end Go.Proofs.YtignbinlipkmfaaGreatDoor
namespace Go.Proofs.YtignbinlipkmfaaGreatDoor
open Tryz (prog)
open Go.Ideal Kd
noncomputable def Px:iL:=⟨128,[(.sD 10 2),(.cell1 3)],(.seq (kO [kS 1 (.box 0 28),⟨⟨(some 2),none,(.new [vE,(iV 0),(iV 0),(iV 0),(iV 0),vS,vS,vS,vS,vS] 28)⟩,[]⟩,kS 3 (.new [(iV 0)] 37)]) (.seq (kO [kS 11 (.Dy (.func 146) [] [2,3]),kN (.dcall 11 [])]) (.seq (.seq (kO [kS 12 (.iq 6 1),kS 13 (.fE 12),kS 14 (.p9 13),kS 15 (.bin .gtr 3 14 (.const (iV 16)))]) (.cond 15 (.seq (kO [kS 16 (.tX 10 2),kN (.store 10 2 16),kN (.store 1 3 (.const (iV 2)))]) .ret) .skip)) (.seq (kO [kS 17 (.iq 6 1),kS 18 (.fE 17),⟨⟨(some 19),none,.yY⟩,[]⟩,kS 20 (kC 147 [18,(.const (iV 0)),(.func 148),19]),kS 4 (.new [(.map none)] 175),kN (.store 1 4 20)]) (.seq (.ops [21,22,23,24,25,26,5] [kS 21 (.iq 7 1),kS 22 (.fE 21),⟨⟨(some 24),none,.yY⟩,[]⟩,⟨⟨(some 23),none,(kC 152 [])⟩,[⟨(some 22),none,(.fE 21)⟩]⟩,⟨⟨(some 25),none,(kC 151 [23,(.const (iV 0)),(.func 153),24])⟩,[⟨(some 22),none,(.fE 21)⟩]⟩,kS 26 (kC 149 [22,(.const (iV 8)),(.func 150),25]),kS 5 (.jh 26)]) (.seq (kO [kS 27 (.iq 8 1),kS 28 (.fE 27),⟨⟨(some 29),none,.yY⟩,[]⟩,kS 30 (kC 154 [28,(.const (iV 0)),(.func 155),29]),kS 6 (.jh 30)]) (.seq (kO [kS 31 (.iq 8 1),kS 32 (.fE 31),kS 33 (kC 156 [32]),kS 34 (.iq 8 1),kN (.store 1 34 33)]) (.seq (.seq (kO [kS 35 (.iq 8 1),kS 36 (.fE 35),kS 37 (.p9 36),kS 38 (.mv (.const (iV 0)))]) (.block 0 (.loop (.seq (kO [kS 39 (.bin .lss 3 38 37)]) (.seq (.cond 39 .skip (.exit 0)) (.seq (.block 1 (.seq (kO [kM 40 38,kS 7 (.jh 40)]) (.ops [41,42,43,44,45,46,47,48,49,50,51,52,53] [kS 41 (.iq 8 1),kS 42 (.fE 41),kM 43 7,kM 44 5,kS 45 (.iq 8 1),kS 46 (.fE 45),kM 47 7,kS 48 (.jv 6 46 47),kS 49 (.iq 1 48),kS 50 (.fE 49),⟨⟨(some 51),none,(kC 157 [44,50])⟩,[⟨(some 42),none,(.fE 41)⟩]⟩,kS 52 (.jv 6 42 43),kS 53 (.iq 2 52),kN (.store 1 53 51)]))) (kO [kS 54 (.bin .add 3 38 (.const (iV 1))),kM 38 54]))))))) (.seq (kO [kS 55 (.iq 9 1),kS 56 (.fE 55),⟨⟨(some 57),none,.yY⟩,[]⟩,kS 58 (kC 158 [56,(.const (iV 0)),(.func 159),57])]) (.seq (kO [kS 59 (.iq 9 1),kS 60 (.fE 59),kS 61 (kC 160 [60]),kS 62 (.iq 9 1),kN (.store 1 62 61)]) (.seq (kO [kS 63 (.Dy (.func 161) [] [4]),kS 8 (.jh 63)]) (.seq (.seq (kO [kS 64 (.iq 9 1),kS 65 (.fE 64),kS 66 (.p9 65),kS 67 (.mv (.const (iV 0)))]) (.block 2 (.loop (.seq (kO [kS 68 (.bin .lss 3 67 66)]) (.seq (.cond 68 .skip (.exit 2)) (.seq (.block 3 (.seq (kO [kM 69 67,kS 9 (.jh 69)]) (.seq (kO [kS 70 (.iq 9 1),kS 71 (.fE 70),kM 72 9,kS 73 (.jv 12 71 72),kS 10 (.jh 73)]) (.seq (kO [kM 74 10,kM 75 10,kS 76 (.ng 74),kS 77 (.iq 3 76),kN (.store 1 77 (.const (iV 0))),kS 78 (.ng 75),kS 79 (.iq 11 78),kN (.store 1 79 (.const (iV (-1))))]) (.seq (.seq (kO [kM 80 10,kS 81 (.ng 80),kS 82 (.iq 1 81),kS 83 (.fE 82),⟨⟨(some 84),none,(.bin .neq 9 83 (.const vE))⟩,[]⟩]) (.cond 84 (kO [kM 85 10,kM 86 5,kM 87 10,kS 88 (.ng 87),kS 89 (.iq 1 88),kS 90 (.fE 89),kS 91 (kC 157 [86,90]),kS 92 (.ng 85),kS 93 (.iq 3 92),kN (.store 1 93 91)]) .skip)) (.seq (.ops [94,95,96,97,98,99,100,101,102,103,104,105,106,107,108,109,110,111] [kM 94 10,kM 95 10,kM 96 8,kM 97 10,kS 98 (.ng 97),kS 99 (.iq 4 98),kS 100 (.fE 99),kM 102 8,kM 103 10,kS 104 (.ng 103),kS 105 (.iq 5 104),kS 106 (.fE 105),⟨⟨(some 101),none,(.call 96 [100])⟩,[⟨(some 106),none,(.fE 105)⟩]⟩,kS 107 (.call 102 [106]),kS 108 (.ng 94),kS 109 (.iq 6 108),kN (.store 1 109 101),kS 110 (.ng 95),kS 111 (.iq 7 110),kN (.store 1 111 107)]) (.seq (kO [kM 112 10,kS 113 (.ng 112),kS 114 (.iq 10 113),kS 115 (.fE 114),⟨⟨(some 116),none,(.bin .neq 9 115 (.const vE))⟩,[]⟩]) (.cond 116 (kO [kM 117 10,kM 118 6,kM 119 10,kS 120 (.ng 119),kS 121 (.iq 10 120),kS 122 (.fE 121),kS 123 (kC 157 [118,122]),kS 124 (.ng 117),kS 125 (.iq 11 124),kN (.store 1 125 123)]) .skip)))))))) (kO [kS 126 (.bin .add 3 67 (.const (iV 1))),kM 67 126]))))))) (.seq (kO [kS 127 (.tX 10 1),kN (.store 10 2 127),kN (.store 1 3 (.const (iV 0)))]) .ret)))))))))))))⟩
def anK:lF prog 94=some Px:=th
def eZ(a b:ByteArray):(a.toList==b.toList)=decide (a=b):=by
 rw[ByteArray.toList_eq,ByteArray.toList_eq];by_cases h:a=b
 .subst h;simp
 .rw[aW h];cases hb:a.data.toList==b.data.toList with
  |false=>rfl
  |true=>
   have:=eq_of_beq hb;exact absurd (ByteArray.ext (Array.ext' this)) h
abbrev zI:ae ah:=[.string ⟨⟨[]⟩⟩,iV 0,iV 0,iV 0,iV 0,.slice none 0 0,.slice none 0 0,.slice none 0 0,.slice none 0 0,.slice none 0 0]
variable{b2 b3:Nat}
def anL:Oh prog (.func 146) [] [ptr' b2,ptr' b3] .returning [] [] (λ_:Unit=>.ok (.tuple ⟨[]⟩)) (λ_=>.returning) (λ_=>[]) (λ_=>[]) (λ_=>True):=by
 refine Zd UN abC λB w0=>?_;refine go ?_;refine Ze (v:=.nilIface) (m':=.returning) rfl ?_;refine go ?_;refine(cZ (v:=.bool false) rfl rfl (λh=>by
  show(match ow prog .neq 20 (.tmp 4) (.const .nilIface) .nilIface .nilIface with|some v=>some (v,h)|none=>none)=_;rw[show ow prog .neq 20 (.tmp 4) (.const .nilIface) .nilIface .nilIface=some (.bool false)by kernel_rfl])).h ?_
 refine go ?_;exact Zh () (hv:=rfl) (hm:=rfl) (hp:=trivial)
def anM{e:Int}(he:e=160\/e=161):Oh prog (.func 146) [] [ptr' b2,ptr' b3] (.panicking (w9 e)) [pt b2 (.cells zI),pt b3 (.cells [iV 0])] [] (λ_:Unit=>.ok (.tuple ⟨[]⟩)) (λ_=>.panicking [{v:=.iface 37 (iV e),recovered:=true}])
 (λ_=>[pt b2 (.cells zI),pt b3 (.cells [iV e])]) (λ_=>[]) (λ_=>True):=by
 refine Zd UN abC λB w0=>?_;refine go ?_;refine Ze (v:=.iface 37 (iV e)) (m':=.panicking [{v:=.iface 37 (iV e),recovered:=true}]) rfl ?_;refine go ?_;refine(cZ (v:=.bool true) rfl rfl (λh=>by
  show(match ow prog .neq 20 (.tmp 4) (.const .nilIface) (.iface 37 (iV e)) .nilIface with|some v=>some (v,h)|none=>none)=_;rcases he with rfl|rfl
  .rw[show ow prog .neq 20 (.tmp 4) (.const .nilIface) (.iface 37 (iV 160)) .nilIface=some (.bool true)by kernel_rfl]
  .rw[show ow prog .neq 20 (.tmp 4) (.const .nilIface) (.iface 37 (iV 161)) .nilIface=some (.bool true)by kernel_rfl])).h ?_
 refine go ?_;exact Zh () (hv:=rfl) (hm:=rfl) (hp:=trivial)
structure Kz where
 ok:Bool
 e:Int
 vc:Value
 vu:Value
abbrev vK(d:bK)(vh vs vr:ah)(y:Kz):ah:=.tuple ⟨[.agg ⟨cond y.ok (iD (Kd.bO d) vh vs vr y.vc y.vu) zI⟩,iV y.e]⟩
abbrev ry(d:bK)(y:Kz):ae aM:=cond y.ok [aj bZ y.vc (Kd.bO d).aQ,aj bi y.vu (Kd.bO d).rules] []
def EF(d:bK)(y:Kz):Prop:=(y.ok=true->y.e=0/\GK d)/\(y.ok=false->y.e≠0/\¬GK d)
structure pI(d:bK):Prop where
 dK:d.symbols.length<=4096
 regs:d.regions.length<=4096
 jS:d.aQ.length<=4096
 lH:d.rules.length<=4096
 uF:∀r∈d.rules,r.names.length<2^63/\r.others.length<2^63
 holes:d.holes.length<2^63
 uG:∀r∈d.regions,r.lists.length<2^63/\∀l∈r.lists,l.length<2^63
section
variable {B:ae Nat} {w0:Wd} {kl bM:ae OA} {F:ae aM} {l:qr} {b2 b3:Nat} {n:Nat}
def A7{d:bK}{vh vs vr:ah}{e:Int}(he:e=160\/e=161)(hno:¬GK d)(h2:lk l 2=ptr' b2)(h3:lk l 3=ptr' b3)(hk:aH [pt b2 (.cells zI),pt b3 (.cells [iV 0])] kl bM):
 R (λh=>vB prog Px (Eh B w0 (λy=>.ok (vK d vh vs vr y)) (λ_=>[]) (ry d) (EF d)) (.panic (w9 e)) (act n l [{target:=.fn (.func 146) ⟨[ptr' b2,ptr' b3]⟩,args:=⟨[]⟩}] none none) h) B w0 kl F:=by
 refine JY (m:=.panicking (w9 e)) ?_;refine Zf (bM:=bM) (fq:=λ_=>[pt b2 (.cells zI),pt b3 (.cells [iV e])]++bM) (F2:=λ_=>F) (anM (b2:=b2) (b3:=b3) he) (λy v _ _=>?_) (λy ch _ hc=>by cases hc) (hk:=hk) (hF:=.nil) (hk2:=λ_=>dW.app) (hF2:=λ_=>dW.nil);show RL _ _ _ _ .returning _ _ _ _ _;refine Zi (bM:=[pt b2 (.cells zI),pt b3 (.cells [iV e])]++bM) (vs:=[.agg ⟨zI⟩,iV e]) ⟨false,e,.nilFunc,.nilFunc⟩ rfl ⟨(λh=>by cases h),λ_=>⟨by rcases he with rfl|rfl<;>simp,hno⟩⟩ (hr:=?_) (hk:=.nil) (hF:=.nil);show RS l _ [.sD 10 2,.cell1 3] _;exact .sD h2 .here rfl (.cell1 h3 (.there .here) rfl .nil)
end
section
variable {B:ae Nat} {w0:Wd} {kl bM:ae OA} {F:ae aM} {l:qr} {b2 b3:Nat} {n:Nat}
def abG{d:bK}{vh vs vr:ah}{o:Out}{cs:ae ah}{e:Int}(y:Kz)(ho:xM o=some .returning)(hcs:cs=cond y.ok (iD (Kd.bO d) vh vs vr y.vc y.vu) zI)(hl:cs.length=10)(hy:y.e=e)(hp:EF d y)(hF:∀w,(∀f∈F,f.p w)->∀f∈ry d y,f.p w)(h2:lk l 2=ptr' b2)(h3:lk l 3=ptr' b3)(hk:aH [pt b2 (.cells cs),pt b3 (.cells [iV e])] kl bM):
 R (λh=>vB prog Px (Eh B w0 (λy=>.ok (vK d vh vs vr y)) (λ_=>[]) (ry d) (EF d)) o (act n l [{target:=.fn (.func 146) ⟨[ptr' b2,ptr' b3]⟩,args:=⟨[]⟩}] none none) h) B w0 kl F:=by
 refine JY (m:=.returning) ?_ ho;refine Zf (k1:=[]) (bM:=kl) (fq:=λ_=>kl) (F2:=λ_=>F) (anL (b2:=b2) (b3:=b3)) (λ_ v _ _=>?_) (λ_ ch _ hc=>by cases hc) (hk:=.nil) (hF:=.nil) (hk2:=λ_=>dW.nil) (hF2:=λ_=>dW.nil);show RL _ _ _ _ .returning _ _ _ _ _;intro w s;have s':St B w0 ([pt b2 (.cells cs),pt b3 (.cells [iV e])]++bM) (ry d y) w:=by
  have:=s.lK hk;exact⟨this.agree,this.le,this.fZ,this.own,hF w this.facts⟩
 refine Zi (F:=ry d y) (bM:=[pt b2 (.cells cs),pt b3 (.cells [iV e])]++bM) (vs:=[.agg ⟨cs⟩,iV e]) y ?_ hp (hr:=?_) (hk:=.nil) (hF:=?_) w s'
 .show jy.ok (vK d vh vs vr y)=_;unfold vK;rw[<- hcs,hy];rfl
 .show RS l _ [.sD 10 2,.cell1 3] _;exact .sD h2 .here (by rw[o8,o9,wh,if_pos tf,<- hl,bP]) (.cell1 h3 (.there .here) rfl .nil)
 .have:∀k:ae aM,Sub k k:=λk=>by
   have:=Sub.refl' k [];simpa using this
  exact this _
end
variable{X:ae (bE×bi.Y)}{k:Nat}
def GY(hk:k<X.length){q q':bE×bi.Y}{j:Nat}{v:ah}(h:(bi.pat q.1 q.2).set j v=bi.pat q'.1 q'.2)(hj:j<12):(dx bi (X.set k q)).set (0+k*12+j) v=dx bi (X.set k q'):=by
 rw[gI];have:=Tx (E:=bi) (aD:=X.set k q) (k:=k) (p:=q) (p':=q') CA h hj;rw[List.set_set]at this;exact this
def EG(hk:k<X.length){q:bE×bi.Y}{j:Nat}{u:ah}(h:(bi.pat q.1 q.2)[j]? =some u):(dx bi (X.set k q))[0+k*12+j]? =some u:=by
 rw[gI];exact zu (E:=bi) (aD:=X.set k q) (k:=k) CA h
def GZ(hk:k<X.length){q:bE×bi.Y}{j:Nat}(hj:j<12):0+k*12+j<(dx bi (X.set k q)).length:=by
 rw[Ct,oU];show 0+k*12+j<X.length*12;omega
def abH{d:bK}{vh vs vr vc vu:ah}(hS:pI d):bG prog (.func 94) [.agg ⟨iD d vh vs vr vc vu⟩] [] [] (nK d vh vs vr vc vu) (vK d vh vs vr) (λ_=>[]) (ry d) (EF d):=by
 refine uA.toC _ ?_ (λ_ _=>rfl);have hsl:=hS.dK;have hrl:=hS.regs;have hcl:=hS.jS;have oG:=hS.lH;refine Co Px anK λB w0=>?_;refine go ?_;intro b1 b2 b3;refine go ?_;refine akA ?_;refine aC ?_ ?_<;>intro h1
 .refine go ?_;exact abG (e:=2) (cs:=zI) ⟨false,2,.nilFunc,.nilFunc⟩ rfl rfl rfl rfl ⟨(λh=>by cases h),λ_=>⟨tg,λh=>by have:=h.dK;omega⟩⟩ (λw _ f hf=>by cases hf) rfl rfl tj
 have hsy:(bX d).length<=16:=by show(d.symbols.map (·.name)).length<=16;rw[bC];omega
 refine go ?_;refine yu fU (λbs=>?_);refine go ?_;refine yo (anD (b:=bs) (start:=0) (aA:=[]) hsl tf xH) (λy v hy e=>?_) (λy ch hy e=>?_)
 rotate_left
 .obtain⟨y,ns⟩:=y;cases y with
  |true=>cases e
  |false=>
   injection e with e;subst e;refine go ?_;exact A7 (e:=161) (.inr rfl) (λh=>hy.2 rfl (by simpa[bX]using h.TY)) rfl rfl tj
 obtain⟨y,ns⟩:=y;cases y with
 |false=>cases e
 |true=>
 injection e with e;subst e;have hns:ns=bX d:=(hy.1 rfl).1;have hsn:(bX d).Nodup:=by have:=(hy.1 rfl).2;simpa[bX]using this
 clear hy;subst hns;dsimp only;rw[show([]:ae (ByteArray×ah))++gq _ 0=gq _ 0 from rfl];refine gZ (En (b:=bs)) ?_;refine go ?_;intro b4;refine go ?_;refine yu fU (λbf=>?_);refine fD anH (next:=λvg _=>?_);refine yo (anC (b:=bf) (xs:=jB) (start:=0) (aA:=[]) tr tf xH) (λy v hy e=>?_) (λy ch hy e=>?_)
 rotate_left
 .obtain⟨y,ns⟩:=y;cases y with
  |true=>cases e
  |false=>exact absurd tr (hy.2 rfl)
 obtain⟨y,ns⟩:=y;cases y with
 |false=>cases e
 |true=>
 injection e with e;subst e;have hns:ns=jB:=(hy.1 rfl).1;clear hy;subst hns;dsimp only;rw[show([]:ae (ByteArray×ah))++gq _ 0=gq _ 0 from rfl];refine yo (anE (b:=bf) (start:=8) (aA:=gq jB 0) hrl tf (by rw[wS];decide)) (λy v hy e=>?_) (λy ch hy e=>?_)
 rotate_left
 .obtain⟨y,ns⟩:=y;cases y with
  |true=>cases e
  |false=>
   injection e with e;subst e;refine go ?_;exact A7 (e:=161) (.inr rfl) (λh=>hy.2 rfl (by rw[wS];exact h.TZ)) rfl rfl tj
 obtain⟨y,ns⟩:=y;cases y with
 |false=>cases e
 |true=>
 injection e with e;subst e;have hns:ns=d.regions.map pu.name:=(hy.1 rfl).1;have hfn:(cO d).Nodup:=by have:=(hy.1 rfl).2;rw[wS]at this;exact this
 clear hy;subst hns;dsimp only;have hfe:gq jB 0++gq (d.regions.map pu.name) 8=gq (cO d) 0:=by
  unfold cO;rw[TW];rfl
 rw[hfe];clear hfe;refine gZ (En (b:=bf)) ?_;refine go ?_;refine yu fU (λbc=>?_);refine go ?_;refine yo (anF (b:=bc) (start:=0) (aA:=[]) hcl tf xH) (λy v hy e=>?_) (λy ch hy e=>?_)
 rotate_left
 .obtain⟨y,ns⟩:=y;cases y with
  |true=>cases e
  |false=>
   injection e with e;subst e;refine go ?_;exact A7 (e:=161) (.inr rfl) (λh=>hy.2 rfl (by simpa[dN]using h.T9)) rfl rfl tj
 obtain⟨y,ns⟩:=y;cases y with
 |false=>cases e
 |true=>
 injection e with e;subst e;have hns:ns=dN d:=(hy.1 rfl).1;have hcn:(dN d).Nodup:=by have:=(hy.1 rfl).2;simpa[dN]using this
 clear hy;subst hns;dsimp only;rw[show([]:ae (ByteArray×ah))++gq _ 0=gq _ 0 from rfl];refine gZ (En (b:=bc)) ?_;refine go ?_;refine Gx bZ vc (λxc zz=>?_);have hxl:xc.length=d.aQ.length:=by rw[<- zz,bC]
 refine fD (anI (aD:=xc) tf) (next:=λv1 _=>?_);refine ZE (E:=bZ) (v:=v1) (aD:=xc) (λa1 e1=>?_);subst e1;refine go ?_;let f1:iT×bZ.Y->iT×bZ.Y:=λp=>(mO (cO d) p.1,p.2)
 rw[show ar bZ (.slice a1 xc.length xc.length) xc=ar bZ (.slice a1 xc.length xc.length) (kE f1 0 xc)from rfl];refine di (λk=>xc.length - k) (λk:Nat=>[(38,iV (k:Int))]) (λk=>[ar bZ (.slice a1 xc.length xc.length) (kE f1 k xc)]) (λ_=>[]) (λk=>k<=xc.length/\∀p∈xc.take k,p.1.on∈cO d) 0 ⟨bH _,tg⟩ (body:=?_);rintro k ⟨hk,hall⟩;refine aC ?_ ?_<;>intro h2
 .refine go ?_;refine ZC (E:=bZ) (aD:=kE f1 k xc) (by rw[Cx];omega) (λbx fx hfx ev=>?_);injection ev with ea _ _;subst ea;refine go ?_;obtain⟨p,hp⟩:∃p,xc[k]? =some p:=⟨xc[k]'(tf),bY _⟩
  have hget:(kE f1 k xc)[k]? =some p:=by rw[aau _ tf];exact hp
  have nD:p.1∈d.aQ:=by rw[<- zz];exact List.mem_map_of_mem (aU hp)
  refine rJ (o:=0+k*6+1) (cs:=dx bZ (kE f1 k xc)) (.string p.1.on) (by rw[gI];exact zu (E:=bZ) (j:=1) hget rfl) ?_;refine yo (Pw (b:=bf) (s:=p.1.on) (aA:=gq (cO d) 0)) (λy v hy e=>?_) (λy ch hy e=>?_)
  rotate_left
  .have hm:p.1.on∉cO d:=by
    exact nt
   rw[vH yp]at hy;subst hy;injection e with e;subst e;refine go ?_;exact A7 (e:=160) (.inl rfl) (λh=>hm (h.OV p.1 nD)) rfl rfl tj
  have hm:p.1.on∈cO d:=by
   by_cases h:p.1.on∈cO d
   .exact h
   .exact li
  rw[AO hm]at hy;subst hy;injection e with e;subst e;rw[gI];refine go ?_;refine l9 (o:=0+k*6+2) (cs:=dx bZ (kE f1 k xc)) (cs':=dx bZ (kE f1 (k+1) xc)) (v:=iV ((eD p.1.on (cO d):Nat):Int)) (by rw[gI,<- aav f1 hp];exact Tx (E:=bZ) (j:=2) (p':=f1 p) hget rfl tr) (by rw[Ct,Cx];show 0+k*6+2<xc.length*6;omega) ?_;refine go ?_;refine wQ (b:=bx) (f:=fx) (m:=xc.length) bZ (aD:=kE f1 (k+1) xc) (by rw[Cx]) hfx ?_;refine aO (k+1) tf ⟨tf,λq hq=>?_⟩;rw[qw,hp]at hq;rcases eP.1 hq with h|h
  .exact hall q h
  .have:q=p:=by simpa using h
   rw[this];exact hm
 have hkl:k=xc.length:=tf
 subst hkl;rw[bP]at hall;have hcon:∀c∈d.aQ,c.on∈cO d:=by
  intro c hc;rw[<- zz]at hc;obtain⟨p,hp,rfl⟩:=dM.1 hc;exact hall p hp
 clear hall hk;rw[aat];refine go ?_;refine yu fU (λbu=>?_);refine go ?_;refine yo (anG (b:=bu) (start:=0) (aA:=[]) oG tf xH) (λy v hy e=>?_) (λy ch hy e=>?_)
 rotate_left
 .obtain⟨y,ns⟩:=y;cases y with
  |true=>cases e
  |false=>
   injection e with e;subst e;refine go ?_;exact A7 (e:=161) (.inr rfl) (λh=>hy.2 rfl (by simpa[pz]using h.Ua)) rfl rfl tj
 obtain⟨y,ns⟩:=y;cases y with
 |false=>cases e
 |true=>
 injection e with e;subst e;have hrn:(pz d).Nodup:=by have:=(hy.1 rfl).2;simpa[pz]using this
 clear hy;dsimp only;refine gZ (En (b:=bu)) ?_;refine go ?_;refine Gx bi vu (λxr qF=>?_);have awC:xr.length=d.rules.length:=by rw[<- qF,bC]
 refine fD (anJ (aD:=xr) tf) (next:=λv2 _=>?_);refine ZE (E:=bi) (v:=v2) (aD:=xr) (λa2 e2=>?_);subst e2;refine go ?_;refine gP b4 ?_;refine go ?_;let f2:bE×bi.Y->bE×bi.Y:=λp=>(nL (bX d) (cO d) (dN d) p.1,p.2)
 rw[show ar bi (.slice a2 xr.length xr.length) xr=ar bi (.slice a2 xr.length xr.length) (kE f2 0 xr)from rfl];refine Om (E:=bi) (v:=vu) (aD:=xr) ?_;refine di (λk=>xr.length - k) (λk:Nat=>[(67,iV (k:Int))]) (λk=>[ar bi (.slice a2 xr.length xr.length) (kE f2 k xr)]) (λ_=>[]) (λk=>k<=xr.length/\∀p∈xr.take k,Ew (bX d) (cO d) (dN d) p.1) 0 ⟨bH _,tg⟩ (body:=?_);rintro k ⟨hk,hall⟩;refine aC ?_ ?_<;>intro h2
 .refine go ?_;refine ZC (E:=bi) (aD:=kE f2 k xr) (by rw[Cx];omega) (λdm fy hfy ev=>?_);injection ev with ea _ _;subst ea;obtain⟨p,hp⟩:∃p,xr[k]? =some p:=⟨xr[k]'(tf),bY _⟩
  have hpm:=aU hp;have hget:(kE f2 k xr)[k]? =some p:=by rw[aau _ tf];exact hp
  have nD:p.1∈d.rules:=by rw[<- qF];exact List.mem_map_of_mem hpm
  have hfin:=aav f2 hp;obtain⟨r,v3,v4⟩:=p;have hrs:=hS.uF r nD;have oH:k<(kE f2 k xr).length:=by rw[Cx];omega
  have anN:(kE f2 k xr).length=xr.length:=Cx _ _ _;have e0:kE f2 k xr=(kE f2 k xr).set k (r,v3,v4):=by
   apply jr;intro i;rw[xE];by_cases hi:k=i
   .subst hi;rw[if_pos rfl,if_pos oH,hget]
   .rw[if_neg hi]
  refine fo (aj aX v3 r.names) (λw h=>h (wP bi xr) (fF ..) _ hpm _ (fF ..)) ?_;refine fo (aj aX v4 r.others) (λw h=>h (wP bi xr) (iw _ (fF ..)) _ hpm _ (iw _ (fF ..))) ?_;rw[e0];rw[<- e0];generalize hX:kE f2 k xr=X at oH anN e0 hfin;rw[e0];refine go ?_;refine l9 (o:=0+k*12+3) (cs:=dx bi (X.set k (r,v3,v4))) (cs':=dx bi (X.set k ({r with family:=0},v3,v4))) (v:=iV 0) (GY oH rfl tf) (GZ oH tf) ?_;refine go ?_;refine l9 (o:=0+k*12+11) (cs:=dx bi (X.set k ({r with family:=0},v3,v4))) (cs':=dx bi (X.set k ({r with family:=0,aS:= -1},v3,v4))) (v:=iV (-1)) (GY oH rfl tf) (GZ oH tf) ?_;refine go ?_;refine rJ (o:=0+k*12+1) (cs:=dx bi (X.set k ({r with family:=0,aS:= -1},v3,v4))) (.string r.on) (EG oH rfl) ?_;refine go ?_;refine Za (bM:=[pt b1 (.cells [.string d.name,iV d.version,iV d.shape,iV d.w,iV d.h,vh,vs,vr,.slice a1 xc.length xc.length,.slice (some ⟨dm,0,some fy⟩) xr.length xr.length]),ar bZ (.slice a1 xc.length xc.length) (xc.map f1),pt b3 (.cells [iV 0]),pt b2 (.cells zI)]) [] (λ_:Unit=>[]) (λ_=>[pt dm (.cells (dx bi (X.set k ({r with family:=if r.on=⟨⟨[]⟩⟩then 0 else(eD r.on (cO d):Int),aS:= -1},v3,v4))))]) (λ_=>[]) (λ_=>r.on=⟨⟨[]⟩⟩\/r.on∈cO d) (hx:=?_) (hy:=?_)
  .refine fP (p:=r.on=⟨⟨[]⟩⟩) wg (λh3=>?_) (λh3=>?_)
   .refine go ?_;refine rJ (o:=0+k*12+1) (cs:=dx bi (X.set k ({r with family:=0,aS:= -1},v3,v4))) (.string r.on) (EG oH rfl) ?_;refine yo (Pw (b:=bf) (s:=r.on) (aA:=gq (cO d) 0)) (λy v hy e=>?_) (λy ch hy e=>?_)
    rotate_left
    .have hm:r.on∉cO d:=by
      exact nt
     rw[vH yp]at hy;subst hy;injection e with e;subst e;refine go ?_;refine akw ?_;refine go ?_;exact A7 (e:=160) (.inl rfl) (λh=>(h.pE r nD).on.elim h3 hm) rfl rfl tj
    have hm:r.on∈cO d:=by
     by_cases h:r.on∈cO d
     .exact h
     .exact li
    rw[AO hm]at hy;subst hy;injection e with e;subst e;rw[gI];refine go ?_;refine l9 (o:=0+k*12+3) (cs:=dx bi (X.set k ({r with family:=0,aS:= -1},v3,v4))) (cs':=dx bi (X.set k ({r with family:=if r.on=⟨⟨[]⟩⟩then 0 else(eD r.on (cO d):Int),aS:= -1},v3,v4))) (v:=iV ((eD r.on (cO d):Nat):Int)) (by rw[if_neg h3];exact GY oH rfl tf) (GZ oH tf) ?_;refine go ?_;exact Oe () (.inr hm)
   .refine go ?_;rw[show({r with family:=0,aS:= -1}:bE)={r with family:=if r.on=⟨⟨[]⟩⟩then 0 else(eD r.on (cO d):Int),aS:= -1}by rw[if_pos h3]];exact Oe () (.inl h3)
  intro _ hon;generalize hfm:(if r.on=⟨⟨[]⟩⟩then 0 else(eD r.on (cO d):Int))=fm;refine go ?_;refine rJ (o:=0+k*12+4) (cs:=dx bi (X.set k ({r with family:=fm,aS:= -1},v3,v4))) v3 (EG oH rfl) ?_;refine go ?_;refine rJ (o:=0+k*12+5) (cs:=dx bi (X.set k ({r with family:=fm,aS:= -1},v3,v4))) v4 (EG oH rfl) ?_;refine go ?_;refine yo (abF (b4:=b4) (bs:=bs) (vl:=v3) (dK:=bX d) (l:=r.names) hsy hrs.1) (λy v hy e=>?_) (λy ch hy e=>?_)
   (hs:=λy v _ _=>Ec (b:=dm) (o:=0+k*12+5) (cs:=dx bi (X.set k ({r with family:=fm,aS:= -1},v3,v4))) (v:=v4) rfl (by repeat (first|exact aB.here|apply aB.there)) (by rw[uo];exact EG oH rfl) rfl Eb)
  rotate_left
  .cases y with
   |true=>cases e
   |false=>
    injection e with e;subst e;refine go ?_;exact A7 (e:=160) (.inl rfl) (λh=>hy.2 rfl (h.pE r nD).names) rfl rfl tj
  cases y with
  |false=>cases e
  |true=>
  injection e with e;subst e;have anO:=hy.1 rfl;clear hy;refine go ?_;refine go ?_;refine yo (abF (b4:=b4) (bs:=bs) (vl:=v4) (dK:=bX d) (l:=r.others) hsy hrs.2) (λy v hy e=>?_) (λy ch hy e=>?_)
  rotate_left
  .cases y with
   |true=>cases e
   |false=>
    injection e with e;subst e;refine go ?_;exact A7 (e:=160) (.inl rfl) (λh=>hy.2 rfl (h.pE r nD).others) rfl rfl tj
  cases y with
  |false=>cases e
  |true=>
  injection e with e;subst e;have anP:=hy.1 rfl;clear hy;refine go ?_;refine l9 (o:=0+k*12+6) (cs:=dx bi (X.set k ({r with family:=fm,aS:= -1},v3,v4))) (cs':=dx bi (X.set k ({r with family:=fm,aS:= -1,set:=(gY (bX d) r.names:Int)},v3,v4))) (v:=iV (gY (bX d) r.names:Int)) (GY oH rfl tf) (GZ oH tf) ?_;refine go ?_;refine l9 (o:=0+k*12+7) (cs:=dx bi (X.set k ({r with family:=fm,aS:= -1,set:=(gY (bX d) r.names:Int)},v3,v4))) (cs':=dx bi (X.set k ({r with family:=fm,aS:= -1,set:=(gY (bX d) r.names:Int),other:=(gY (bX d) r.others:Int)},v3,v4))) (v:=iV (gY (bX d) r.others:Int)) (GY oH rfl tf) (GZ oH tf) ?_;refine go ?_;refine rJ (o:=0+k*12+10) (cs:=dx bi (X.set k ({r with family:=fm,aS:= -1,set:=(gY (bX d) r.names:Int),other:=(gY (bX d) r.others:Int)},v3,v4))) (.string r.dm) (EG oH rfl) ?_;refine go ?_;have hnext:(r.dm=⟨⟨[]⟩⟩\/r.dm∈dN d)->∀q∈xr.take (k+1),Ew (bX d) (cO d) (dN d) q.1:=by
   intro hby q hq;rw[qw,hp]at hq;rcases eP.1 hq with h|h
   .exact hall q h
   .have:q=(r,v3,v4):=bS.1 (show q∈[(r,v3,v4)]from h);rw[this];exact⟨hon,anO,anP,hby⟩
  refine fP (p:=r.dm=⟨⟨[]⟩⟩) wg (λh3=>?_) (λh3=>?_)
  .refine go ?_;refine rJ (o:=0+k*12+10) (cs:=dx bi (X.set k ({r with family:=fm,aS:= -1,set:=(gY (bX d) r.names:Int),other:=(gY (bX d) r.others:Int)},v3,v4))) (.string r.dm) (EG oH rfl) ?_;refine yo (Pw (b:=bc) (s:=r.dm) (aA:=gq (dN d) 0)) (λy v hy e=>?_) (λy ch hy e=>?_)
   rotate_left
   .have hm:r.dm∉dN d:=by
     exact nt
    rw[vH yp]at hy;subst hy;injection e with e;subst e;refine go ?_;exact A7 (e:=160) (.inl rfl) (λh=>(h.pE r nD).dm.elim h3 hm) rfl rfl tj
   have hm:r.dm∈dN d:=by
    by_cases h:r.dm∈dN d
    .exact h
    .exact li
   rw[AO hm]at hy;subst hy;injection e with e;subst e;rw[gI];refine go ?_;refine l9 (o:=0+k*12+11) (cs:=dx bi (X.set k ({r with family:=fm,aS:= -1,set:=(gY (bX d) r.names:Int),other:=(gY (bX d) r.others:Int)},v3,v4))) (cs':=dx bi (X.set k (f2 (r,v3,v4)))) (v:=iV ((eD r.dm (dN d):Nat):Int)) (GY oH (by show _=mg (nL (bX d) (cO d) (dN d) r) v3 v4;unfold nL;rw[if_neg h3,hfm];rfl) tf) (GZ oH tf) ?_;refine go ?_;rw[hfin];refine wQ (b:=dm) (f:=fy) (m:=xr.length) bi (aD:=kE f2 (k+1) xr) (by rw[Cx]) hfy ?_;exact aO (k+1) tf ⟨tf,hnext (.inr hm)⟩
  .refine go ?_;rw[show X.set k (({r with family:=fm,aS:= -1,set:=(gY (bX d) r.names:Int),other:=(gY (bX d) r.others:Int)}:bE),v3,v4)=kE f2 (k+1) xr by
    rw[<- hfin];congr 1;show _=(nL (bX d) (cO d) (dN d) r,v3,v4)
    unfold nL;rw[if_pos h3,hfm];rfl]
   refine wQ (b:=dm) (f:=fy) (m:=xr.length) bi (aD:=kE f2 (k+1) xr) (by rw[Cx]) hfy ?_;exact aO (k+1) tf ⟨tf,hnext (.inl h3)⟩
 have hkl:k=xr.length:=tf
 subst hkl;rw[bP]at hall;rw[aat];refine Oo (E:=bZ) (v:=.slice a1 xc.length xc.length) (aD:=xc.map f1) ?_ (λw h p hp f hf=>by cases hf);refine Oo (E:=bi) (v:=.slice a2 xr.length xr.length) (aD:=xr.map f2) ?_ (λw h p hp f hf=>by
  obtain⟨q,hq,rfl⟩:=dM.1 hp;exact h (wP bi xr) (iw _ (iw _ (fF ..))) q hq f hf)
 refine go ?_;refine abG (e:=0) ⟨true,0,.slice a1 xc.length xc.length,.slice a2 xr.length xr.length⟩ rfl tn rfl rfl ⟨λ_=>⟨rfl,⟨tf,hsn,hfn,hcn,hcon,hrn,λr hr=>?_⟩⟩,λh=>by cases h⟩ (λw h f hf=>?_) rfl rfl tj
 .rw[<- qF]at hr;obtain⟨p,hp,rfl⟩:=dM.1 hr;exact hall p hp
 .have ec:(xc.map f1).map (·.1)=(Kd.bO d).aQ:=by
   show _=d.aQ.map (mO (cO d));rw[<- zz,sj,sj];rfl
  have er:(xr.map f2).map (·.1)=(Kd.bO d).rules:=by
   show _=d.rules.map (nL (bX d) (cO d) (dN d));rw[<- qF,sj,sj];rfl
  rw[ec,er]at h;have hf:f∈[aj bZ (.slice a1 xc.length xc.length) (Kd.bO d).aQ,aj bi (.slice a2 xr.length xr.length) (Kd.bO d).rules]:=hf;rcases dB.1 hf with rfl|hf
  .exact h _ tg
  .rw[bS.1 hf];exact h _ tg
end Go.Proofs.YtignbinlipkmfaaGreatDoor
namespace Go.Proofs.YtignbinlipkmfaaGreatDoor
open Tryz (prog)
open Go.Ideal Kd
variable{va vb:ah}{xs ys:ae (ae Int)}
def abJ(hal:xs.length<2^63)(hl:∀l∈xs,l.length<2^63):dF prog 184 [va,vb,.func (.func 48) #[] #[]] [aj (ay ai) va xs,aj (ay ai) vb ys] (.bool (decide (xs=ys))):=by
 refine gB 184 λB w0=>?_;refine aC ?_ ?_<;>intro h1
 .exact eA
 have hlen:xs.length=ys.length:=tf
 refine gN xs.length 17 (λk=>k<=xs.length/\∀j,j<k->xs[j]? =ys[j]?) ⟨tf,λj hj=>by omega⟩ ?_;rintro k ⟨hkx,hsame⟩;refine aC ?_ ?_<;>intro h2
 .refine gX (ay ai) λ_ _ x (vx:ah) hx=>?_;refine gX (ay ai) λ_ _ y (vy:ah) hy=>?_;refine gC (yI (xs:=x) (ys:=y) (hl x (aU hx))) λ_ _=>?_;refine go ?_;refine fP rfl (λh3=>?_) (λh3=>?_)
  .exact cU
  exact cF
 exact cE
def abK(hal:xs.length<2^63)(hl:∀l∈xs,l.length<2^63):dF prog 102 [va,vb] [aj (ay ai) va xs,aj (ay ai) vb ys] (.bool (decide (xs=ys))):=by
 refine gB 102 λB w0=>?_;refine gC (abJ (xs:=xs) (ys:=ys) hal hl) λ_ _=>?_;exact fQ
def anQ{xs ys:ae (ae (ae Int))}(hal:xs.length<2^63)(hl:∀l∈xs,l.length<2^63/\∀m∈l,m.length<2^63):dF prog 103 [va,vb,.func (.func 102) #[] #[]] [aj (ay (ay ai)) va xs,aj (ay (ay ai)) vb ys] (.bool (decide (xs=ys))):=by
 refine gB 103 λB w0=>?_;refine aC ?_ ?_<;>intro h1
 .exact eA
 have hlen:xs.length=ys.length:=tf
 refine gN xs.length 17 (λk=>k<=xs.length/\∀j,j<k->xs[j]? =ys[j]?) ⟨tf,λj hj=>by omega⟩ ?_;rintro k ⟨hkx,hsame⟩;refine aC ?_ ?_<;>intro h2
 .refine gX (ay (ay ai)) λ_ _ x (vx:ah) hx=>?_;refine gX (ay (ay ai)) λ_ _ y (vy:ah) hy=>?_;refine gC (abK (xs:=x) (ys:=y) (hl x (aU hx)).1 (hl x (aU hx)).2) λ_ _=>?_;refine go ?_;refine fP rfl (λh3=>?_) (λh3=>?_)
  .exact cU
  exact cF
 exact cE
def abL{xs ys:ae ByteArray}(hal:xs.length<2^63):dF prog 186 [va,vb] [aj aX va xs,aj aX vb ys] (.bool (decide (xs=ys))):=by
 refine gB 186 λB w0=>?_;refine aC ?_ ?_<;>intro h1
 .exact eA
 have hlen:xs.length=ys.length:=tf
 refine gN xs.length 13 (λk=>k<=xs.length/\∀j,j<k->xs[j]? =ys[j]?) ⟨tf,λj hj=>by omega⟩ ?_;rintro k ⟨hkx,hsame⟩;refine aC ?_ ?_<;>intro h2
 .refine gX aX λ_ _ x (_:Unit) hx=>?_;refine gX aX λ_ _ y (_:Unit) hy=>?_;refine go ?_;refine fP (p:=x=y) wg (λh3=>?_) (λh3=>?_)
  .exact cU
  exact cF
 exact cE
def UT(x y:oz):cellsE [.string x.name,iV x.value] [.string y.name,iV y.value]=decide (x=y):=by
 obtain⟨a,b⟩:=x;obtain⟨c,e⟩:=y;show(decide (a=c)&&(decide (b=e)&&true))=_;rw[Bool.and_true,<- Bool.decide_and];exact qx.2 ⟨λh=>by rw[h.1,h.2],λh=>by cases h;exact⟨rfl,rfl⟩⟩
abbrev Py(x:iT):ae ah:=[.string x.name,.string x.on,iV x.family,iV x.type,iV x.lo,iV x.hi]
def UU(x y:iT):cellsE (Py x) (Py y)=decide (x=y):=by
 obtain⟨a1,a2,a3,a4,a5,a6⟩:=x;obtain⟨b1,b2,b3,b4,b5,b6⟩:=y;show(decide (a1=b1)&&(decide (a2=b2)&&(decide (a3=b3)&&(decide (a4=b4)&&(decide (a5=b5)&&(decide (a6=b6)&&true))))))=_;rw[Bool.and_true];simp only[<- Bool.decide_and];exact qx.2 ⟨λh=>by rw[h.1,h.2.1,h.2.2.1,h.2.2.2.1,h.2.2.2.2.1,h.2.2.2.2.2],λh=>by cases h;exact⟨rfl,rfl,rfl,rfl,rfl,rfl⟩⟩
def UW:∃fs:Array Field,prog.underlying 158=some (.struct fs)/\GD prog fs.toList 0 [false,true]=true:=by
 refine⟨prog.fieldsOf 158,th,th⟩
def UX:∃fs:Array Field,prog.underlying 173=some (.struct fs)/\GD prog fs.toList 0 [false,false,true,true,true,true]=true:=by
 refine⟨prog.fieldsOf 173,th,th⟩
def anR{xs ys:ae oz}(hal:xs.length<2^63):dF prog 187 [va,vb] [aj fG va xs,aj fG vb ys] (.bool (decide (xs=ys))):=by
 obtain⟨fs,hu,hrow⟩:=UW;refine gB 187 λB w0=>?_;refine aC ?_ ?_<;>intro h1
 .exact eA
 have hlen:xs.length=ys.length:=tf
 refine gN xs.length 13 (λk=>k<=xs.length/\∀j,j<k->xs[j]? =ys[j]?) ⟨tf,λj hj=>by omega⟩ ?_;rintro k ⟨hkx,hsame⟩;refine aC ?_ ?_<;>intro h2
 .refine gX fG λ_ _ x (_:Unit) hx=>?_;refine gX fG λ_ _ y (_:Unit) hy=>?_;refine go ?_;refine(cZ (v:=.bool (!decide (x=y))) rfl rfl (by rw[<- UT];exact GA rfl rfl hu th th (row_of hrow rfl rfl (λj=>by rw[gI]) (λj=>by rw[gI])) yq yq)).h ?_;refine go ?_;refine fP rfl (λh3=>?_) (λh3=>?_)
  .exact cU
  exact cF
 exact cE
def anS{xs ys:ae iT}(hal:xs.length<2^63):dF prog 189 [va,vb] [aj bZ va xs,aj bZ vb ys] (.bool (decide (xs=ys))):=by
 obtain⟨fs,hu,hrow⟩:=UX;refine gB 189 λB w0=>?_;refine aC ?_ ?_<;>intro h1
 .exact eA
 have hlen:xs.length=ys.length:=tf
 refine gN xs.length 13 (λk=>k<=xs.length/\∀j,j<k->xs[j]? =ys[j]?) ⟨tf,λj hj=>by omega⟩ ?_;rintro k ⟨hkx,hsame⟩;refine aC ?_ ?_<;>intro h2
 .refine gX bZ λ_ _ x (_:Unit) hx=>?_;refine gX bZ λ_ _ y (_:Unit) hy=>?_;refine go ?_;refine(cZ (v:=.bool (!decide (x=y))) rfl rfl (by rw[<- UU];exact GA rfl rfl hu th th (row_of hrow rfl rfl (λj=>by rw[gI]) (λj=>by rw[gI])) yq yq)).h ?_;refine go ?_;refine fP rfl (λh3=>?_) (λh3=>?_)
  .exact cU
  exact cF
 exact cE
end Go.Proofs.YtignbinlipkmfaaGreatDoor
namespace Go.Proofs.YtignbinlipkmfaaGreatDoor
open Tryz (prog)
open Go.Ideal Kd
def anT{x y:pu}{vx vy:ah}(hl:x.lists.length<2^63)(hll:∀l∈x.lists,l.length<2^63):dF prog 183 [.agg ⟨[.string x.name,vx]⟩,.agg ⟨[.string y.name,vy]⟩] [aj (ay ai) vx x.lists,aj (ay ai) vy y.lists] (.bool (decide (x=y))):=by
 obtain⟨n1,l1⟩:=x;obtain⟨n2,l2⟩:=y;dsimp only at hl hll⊢;refine gB 183 λB w0=>?_;refine go ?_;intro b2 b3;refine gH ?_ ?_<;>intro h1
 .rw[eZ]at h1;refine aP ?_;rw[aW (λe=>ou h1 xa)];rfl
 rw[eZ]at h1;have h1:=iN h1;refine gC (abJ (xs:=l1) (ys:=l2) hl hll) λ_ _=>?_;refine aP ?_;rw[show decide (pu.mk n1 l1=pu.mk n2 l2)=decide (l1=l2)from qx.2 ⟨λh=>by cases h;rfl,λh=>by rw[h1,h]⟩];rfl
variable{u1 u2:ah}
def anU{x y:bE}{v1 v2:ah}(hl:x.names.length<2^63)(hll:x.others.length<2^63):dF prog 185 [.agg ⟨mg x v1 v2⟩,.agg ⟨mg y u1 u2⟩] [aj aX v1 x.names,aj aX v2 x.others,aj aX u1 y.names,aj aX u2 y.others] (.bool (decide (x=y))):=by
 obtain⟨n1,o1,k1,f1,zJ,os1,s1,t1,p1,m1,y1,c1⟩:=x;obtain⟨n2,o2,k2,f2,G5,os2,s2,t2,p2,m2,y2,c2⟩:=y;dsimp only[mg]at hl hll⊢;refine gB 185 λB w0=>?_;refine go ?_;intro b2 b3;refine gC (abL (xs:=zJ) (ys:=G5) hl) λ_ _=>?_;refine gH ?_ ?_<;>intro h1
 .exact oA
 refine gC (abL (xs:=os1) (ys:=os2) hll) λ_ _=>?_;refine gH ?_ ?_<;>intro h2
 .exact oy
 refine gH ?_ ?_<;>intro h3
 .rw[eZ]at h3;refine aP ?_;rw[aW (λe=>ou h3 xa)];rfl
 rw[eZ]at h3;have h3:=iN h3;refine gH ?_ ?_<;>intro h4
 .rw[eZ]at h4;refine aP ?_;rw[aW (λe=>ou h4 xa)];rfl
 rw[eZ]at h4;have h4:=iN h4;refine gH ?_ ?_<;>intro h5
 .rw[eZ]at h5;refine aP ?_;rw[aW (λe=>ou h5 xa)];rfl
 rw[eZ]at h5;have h5:=iN h5;refine go ?_;refine(cZ (v:=.bool (decide ([k1,f1,s1,t1,p1,m1,c1]=[k2,f2,s2,t2,p2,m2,c2]))) rfl rfl (akR (n:=7) (e:=3) rfl rfl th th th rfl rfl th)).h ?_;refine aP ?_;rw[show decide (bE.mk n1 o1 k1 f1 zJ os1 s1 t1 p1 m1 y1 c1=bE.mk n2 o2 k2 f2 G5 os2 s2 t2 p2 m2 y2 c2)=decide ([k1,f1,s1,t1,p1,m1,c1]=[k2,f2,s2,t2,p2,m2,c2])from qx.2 ⟨λh=>by cases h;rfl,λh=>by cases h;rw[h1,h2,h3,h4,h5]⟩];rfl
variable{va vb:ah}
def anV{xs ys:ae pu}(hal:xs.length<2^63)(hl:∀r∈xs,r.lists.length<2^63/\∀l∈r.lists,l.length<2^63):dF prog 188 [va,vb,.func (.func 183) #[] #[]] [aj fw va xs,aj fw vb ys] (.bool (decide (xs=ys))):=by
 refine gB 188 λB w0=>?_;refine aC ?_ ?_<;>intro h1
 .exact eA
 have hlen:xs.length=ys.length:=tf
 refine gN xs.length 17 (λk=>k<=xs.length/\∀j,j<k->xs[j]? =ys[j]?) ⟨tf,λj hj=>by omega⟩ ?_;rintro k ⟨hkx,hsame⟩;refine aC ?_ ?_<;>intro h2
 .refine gX fw λ_ _ x (vx:ah) hx=>?_;refine go ?_;intro b8;refine gX fw λ_ _ y (vy:ah) hy=>?_;refine go ?_;intro b9;refine gC (anT (x:=x) (y:=y) (vx:=vx) (vy:=vy) (hl x (aU hx)).1 (hl x (aU hx)).2) λ_ _=>?_;refine go ?_;refine fP rfl (λh3=>?_) (λh3=>?_)
  .exact cU
  exact cF
 exact cE
def anW{xs ys:ae bE}(hal:xs.length<2^63)(hl:∀r∈xs,r.names.length<2^63/\r.others.length<2^63):dF prog 190 [va,vb,.func (.func 185) #[] #[]] [aj bi va xs,aj bi vb ys] (.bool (decide (xs=ys))):=by
 refine gB 190 λB w0=>?_;refine aC ?_ ?_<;>intro h1
 .exact eA
 have hlen:xs.length=ys.length:=tf
 refine gN xs.length 17 (λk=>k<=xs.length/\∀j,j<k->xs[j]? =ys[j]?) ⟨tf,λj hj=>by omega⟩ ?_;rintro k ⟨hkx,hsame⟩;refine aC ?_ ?_<;>intro h2
 .refine gX bi λ_ _ x (vx:ah×ah) hx=>?_;refine go ?_;intro b8;refine gX bi λ_ _ y (vy:ah×ah) hy=>?_;refine go ?_;intro b9;refine gC (anU (x:=x) (y:=y) (v1:=vx.1) (v2:=vx.2) (u1:=vy.1) (u2:=vy.2) (hl x (aU hx)).1 (hl x (aU hx)).2) λ_ _=>?_;refine go ?_;refine fP rfl (λh3=>?_) (λh3=>?_)
  .exact cU
  exact cF
 exact cE
def abM{x y:bK}{h1 s1 r1 c1 h2 s2 r2 c2:ah}(hS:pI x):dF prog 101 [.agg ⟨iD x h1 s1 r1 c1 u1⟩,.agg ⟨iD y h2 s2 r2 c2 u2⟩] (nK x h1 s1 r1 c1 u1++nK y h2 s2 r2 c2 u2) (.bool (decide (x=y))):=by
 have e1:=hS.dK;have e2:=hS.regs;have e3:=hS.jS;have e4:=hS.lH;have e5:=hS.uF;have e6:=hS.holes;have e7:=hS.uG;clear hS;obtain⟨n1,v1,p1,w1,g1,ho1,pJ,oI,pK,oJ⟩:=x;obtain⟨n2,v2,p2,w2,g2,ho2,uH,sV,lc,sW⟩:=y;dsimp only at e1 e2 e3 e4 e5 e6 e7;dsimp only[iD,nK,List.cons_append,List.nil_append];refine gB 101 λB w0=>?_;refine go ?_;intro b2 b3;refine gH ?_ ?_<;>intro k1
 .rw[eZ]at k1;refine aP ?_;rw[aW (λe=>ou k1 xa)];rfl
 rw[eZ]at k1;have k1:=iN k1;refine gH ?_ ?_<;>intro k2
 .exact gA
 refine gH ?_ ?_<;>intro k3
 .exact gx
 refine gH ?_ ?_<;>intro k4
 .exact gk
 refine gH ?_ ?_<;>intro k5
 .exact j7
 refine gC (yI (xs:=ho1) (ys:=ho2) e6) λ_ _=>?_;refine gH ?_ ?_<;>intro k6
 .exact gj
 refine gC (anR (xs:=pJ) (ys:=uH) tf) λ_ _=>?_;refine gH ?_ ?_<;>intro k7
 .exact gg
 refine gC (anV (xs:=oI) (ys:=sV) tf e7) λ_ _=>?_;refine gH ?_ ?_<;>intro k8
 .exact ox
 refine gC (anS (xs:=pK) (ys:=lc) tf) λ_ _=>?_;refine gH ?_ ?_<;>intro k9
 .exact ov
 refine gC (anW (xs:=oJ) (ys:=sW) tf e5) λ_ _=>?_;refine aP ?_;rw[show decide (bK.mk n1 v1 p1 w1 g1 ho1 pJ oI pK oJ=bK.mk n2 v2 p2 w2 g2 ho2 uH sV lc sW)=decide (oJ=sW)from qx.2 ⟨λh=>by cases h;rfl,λh=>by rw[k1,k2,k3,k4,k5,k6,k7,k8,k9,h]⟩];rfl
