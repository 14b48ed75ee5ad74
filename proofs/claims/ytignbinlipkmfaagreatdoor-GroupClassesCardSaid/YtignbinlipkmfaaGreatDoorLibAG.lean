/- Part. -/
import Derived.Test.YtignbinlipkmfaaGreatDoorProg
import Derived.Test.YtignbinlipkmfaaGreatDoorPlainAG
import Derived.Laws.Strings
set_option linter.all false
set_option maxRecDepth 10000
set_option maxHeartbeats 4000000
namespace Go.Proofs.YtignbinlipkmfaaGreatDoor
open Tryz (prog)
open Go.Ideal
noncomputable def Yh:=oG prog 312
def ajW:lu prog 312=some Yh:=qk
noncomputable def Yi:=oG prog 280
def ajX:lu prog 280=some Yi:=qk
structure ajY(grid:List Int):Prop where
 len:grid.length<=1000000
 wI:∀x∈grid,0<=x/\x<16
structure ajZ(grid cells:List Int):Prop where
 len:cells.length<=1000000
 cell:∀c∈cells,0<=c/\c<grid.length
def sy(grid:ae Int)(c:Int):Nat:=(grid.getD c.toNat 0).toNat
def cnt(grid:ae Int)(set:Nat)(cells:ae Int):Nat:=(cells.filter λc=>set.testBit (sy grid c)).length
def take_one{α:Type}{xs:ae α}{k:Nat}{x:α}(h:xs[k]? =some x):xs.take (k+1)=xs.take k++[x]:=by
 rw[qC,h];rfl
structure aj0(values grid:List Int):Prop where
 val:∀v∈values,0<=v/\v<=99
 wI:∀x∈grid,x<values.length
def va(values grid:ae Int)(c:Int):Int:=values.getD (sy grid c) 0
def met(grid cells:ae Int):Nat:=cells.foldl (λm c=>m|||1<<<sy grid c) 0
noncomputable def Yj:=oG prog 48
def aj1:lu prog 48=some Yj:=qk
def rn(grid:ae Int)(set:Nat):Nat->ae Int->ae Int
 |n,[]=>if 0<n then[(n:Int)]else[]
 |n,c::cs=>if set.testBit (sy grid c)then rn grid set (n+1) cs else if 0<n then(n:Int)::rn grid set 0 cs else rn grid set 0 cs
abbrev aj2{α:Type}(E:Enc α)(b:Nat)(ys:ae α):OA:=GU λv:ah=>[pt b (.cells [v]),ap E v ys]
def uY{va vb:ah}{xs ys:ae Int}(hal:xs.length<2^63):eU prog 48 [va,vb] [aA ai va xs,aA ai vb ys] (.bool (decide (xs=ys))):=by
 refine nZ Yj aj1 λB w0=>?_;refine aP ?_ ?_<;>intro h1
 .exact c7
 have hlen:xs.length=ys.length:=p0
 refine gN xs.length 13 (λk=>k<=xs.length/\∀j,j<k->xs[j]? =ys[j]?) ⟨p0,λj hj=>by omega⟩ ?_;rintro k ⟨hkx,hsame⟩;refine aP ?_ ?_<;>intro h2
 .refine go ?_;intro _ _ x hx _ _ y hy;refine uH rfl ?_ ?_<;>intro h3
  .exact cI
  refine go ?_;refine aY (k+1) p0 ⟨p0,λj hj=>?_⟩;by_cases e:j=k
  .subst e;rw[hx,hy,lV.1 h3]
  .exact hsame j p0
 exact ck
abbrev QD(P:Program)(fn:Fn)(first cap:ae ah)(v:ah)(F:ae aH)(b:Bool):Prop:=bA P fn (first++[v]) cap [] F (λ_:Unit=>.bool b) (λ_=>[]) (λ_=>[]) (λ_=>True)
variable{va:ah}{xs:ae Int}{fn:Fn}{first cap:ae ah}{F1:ae aH}{p:Int->Bool}
def aj3(hl:xs.length<2^63)(hp:∀x∈xs,QD prog fn first cap (iV x) F1 (p x)):
 fC prog 197 [va,.func fn ⟨first⟩ ⟨cap⟩] (aA ai va xs::F1) (λr:Int=>iV r) (λr=>(0<=r↔xs.any p=true)):=by
 refine gB 197 λB w0=>?_;refine gN xs.length 8 (λk=>k<=xs.length/\(xs.take k).any p=false) ⟨p0,qe⟩ ?_;rintro k ⟨hk,hno⟩;refine aP ?_ ?_<;>intro h1
 .refine go ?_;intro _ _ x hx;refine jY (hp x (aV hx)) (next:=λ_ _=>?_);refine go ?_;refine Aw rfl (λh2=>?_) (λh2=>?_)
  .refine go ?_;refine gQ (k:Int) ?_;have:xs.any p=true:=IX.2 ⟨x,aV hx,h2⟩;simp[this]
  .refine go ?_;refine aY (k+1) p0 ⟨p0,?_⟩;rw[take_one hx,List.any_append,hno];simp[h2]
 refine go ?_;have:k=xs.length:=p0
 subst this;rw[eH]at hno;refine gQ (-1) ?_;rw[hno];simp
def aj4(hl:xs.length<2^63)(hp:∀x∈xs,QD prog fn first cap (iV x) F1 (p x)):
 fC prog 109 [va,.func fn ⟨first⟩ ⟨cap⟩] (aA ai va xs::F1) (λ_:Unit=>.bool (xs.any p)) (λ_=>True):=by
 refine gB 109 λB w0=>?_;refine gC (aj3 hl hp) λr hr=>?_;refine bT ?_;have:decide (0<=r)=xs.any p:=by
  by_cases h:0<=r
  .rw[fo h,hr.1 h]
  .rw[di h];cases e:xs.any p with
   |false=>rfl
   |true=>exact absurd (hr.2 e) h
 rw[<- this];rfl
variable{z:Int}
def aj5(hl:xs.length<2^63):
 fC prog 268 [va,iV z] [aA ai va xs] (λr:Int=>iV r) (λr=>(0<=r↔z∈xs)):=by
 refine gB 268 λB w0=>?_;refine gN xs.length 8 (λk=>k<=xs.length/\z∉xs.take k) ⟨p0,qe⟩ ?_;rintro k ⟨hk,hno⟩;refine aP ?_ ?_<;>intro h1
 .refine go ?_;intro _ _ x hx;refine uH rfl ?_ ?_<;>intro h2
  .refine go ?_;refine gQ (k:Int) ?_;subst h2;simp[aV hx]
  .refine go ?_;refine aY (k+1) p0 ⟨p0,?_⟩;rw[take_one hx,fO,not_or];exact⟨hno,sq⟩
 refine go ?_;have:k=xs.length:=p0
 subst this;rw[eH]at hno;refine gQ (-1) ?_;simp[hno]
def aj6(hl:xs.length<2^63):eU prog 201 [va,iV z] [aA ai va xs] (.bool (decide (z∈xs))):=by
 refine gB 201 λB w0=>?_;refine gC (aj5 hl) λr hr=>?_;refine bT ?_;rw[<- sP.2 hr];rfl
structure GOK(g:List (List Int)):Prop where
 len:g.length<=256
 ok:∀(i:Nat) l,g[i]? =some l->∀(k:Nat) n,l[k]? =some n->0<=n/\n<g.length/\n≠i/\(∀m,0<k->l[k - 1]? =some m->m<n)/\∀l',g[n.toNat]? =some l'->(i:Int)∈l'
end Go.Proofs.YtignbinlipkmfaaGreatDoor
namespace Go.Proofs.YtignbinlipkmfaaGreatDoor
open Tryz (prog)
open Go.Ideal
open Go.Ideal Gph
def GOK.rg{g:ae (ae Int)}(h:GOK g):∀l∈g,∀n∈l,Rg g n:=λl hl n hn=>by
 obtain⟨i,hi⟩:=ik hl;obtain⟨k,hk⟩:=ik hn;have:=h.ok i l hi k n hk;exact⟨this.1,this.2.1⟩
structure arv where
 a:Option Addr
 n:Nat
 e:Int
structure aj7(c:Lc):Prop where
 cells:c.cells.length<2^63
 runs:c.runs.length<2^63
def Fin(cells symbols:Int)(grid:ae Int):Prop:=(grid.length:Int)=cells/\∀s∈grid,0<=s/\s<symbols
structure arw(q:Xn):Prop where
 cells:1<=q.cells/\q.cells<=256
 symbols:1<=q.symbols/\q.symbols<=16
 arx:(q.values.length:Int)=q.symbols
 vals:∀v∈q.values,0<=v/\v<=99
 EQ:(q.aN.length:Int)=q.cells
 ary:GOK q.aN
 many:q.cons.length<=4096
 fine:∀c∈q.cons,PY q.cells q.symbols c
structure arz(q:Xn):Prop where
 values:q.values.length<2^63
 aN:∀l∈q.aN,l.length<2^63
 cons:q.cons.length<2^63
 con:∀c∈q.cons,aj7 c
open Go.Ideal Kd
noncomputable def Yk:gK:=⟨2,[(.tmp 0)],(.seq (kO [kS 0 (.pq (.const vS))]) (.seq (kO [⟨⟨(some 1),none,(.zX 9 8 [vE,vE,vE,vE,vE,vE,vE,vE] [⟨0,⟨1,(.const (.string ⟨⟨[99,101,108,108,115]⟩⟩))⟩⟩,⟨1,⟨1,(.const (.string ⟨⟨[114,111,119,115]⟩⟩))⟩⟩,⟨2,⟨1,(.const (.string ⟨⟨[99,111,108,117,109,110,115]⟩⟩))⟩⟩,⟨3,⟨1,(.const (.string ⟨⟨[100,105,97,103,111,110,97,108,115]⟩⟩))⟩⟩,⟨4,⟨1,(.const (.string ⟨⟨[97,114,111,117,110,100]⟩⟩))⟩⟩,⟨5,⟨1,(.const (.string ⟨⟨[110,101,97,114]⟩⟩))⟩⟩,⟨6,⟨1,(.const (.string ⟨⟨[112,97,105,114,115]⟩⟩))⟩⟩,⟨7,⟨1,(.const (.string ⟨⟨[97,108,108]⟩⟩))⟩⟩])⟩,[]⟩,kS 0 (.pq 1)]) .ret))⟩
def aj8:lu prog 152=some Yk:=qk
abbrev eP:ByteArray->ah:=λs=>.string s
def tQ:qf prog 9 eP:=aha qk
abbrev uZ(e:Int):ae PanicEntry:=[{v:=.iface 37 (iV e),recovered:=false}]
def Yl{x:mP}:eU prog 148 [.agg ⟨[.string x.name,iV x.value]⟩] [] (.string x.name):=by
 refine gB 148 λB w0=>?_;refine go ?_;intro b;exact fH
def Ym{x:pQ}{v:ah}:eU prog 150 [.agg ⟨[.string x.name,v]⟩] [] (.string x.name):=by
 refine gB 150 λB w0=>?_;refine go ?_;intro b;exact fH
def Yn{x:iR}:eU prog 155 [.agg ⟨[.string x.name,.string x.on,iV x.family,iV x.type,iV x.lo,iV x.hi]⟩] [] (.string x.name):=by
 refine gB 155 λB w0=>?_;refine go ?_;intro b;exact fH
def Yo{x:dz}{v1 v2:ah}:eU prog 159 [.agg ⟨tJ x v1 v2⟩] [] (.string x.name):=by
 refine gB 159 λB w0=>?_;refine go ?_;intro b;exact fH
def Yp{s:ByteArray}:eU prog 153 [.string s] [] (.string s):=by
 refine gB 153 λB w0=>?_;exact fH
def H9{P:Program}{B:ae Nat}{w0:Wd}{kl kl':ae OA}{F:ae aH}{K:KO}{ds:ae Tmp}{rest:ae bJ}{n:Nat}{l:qr}{D:ae Deferred}{pm:aj FrameMode}{ro:aj Nat}{d:Nat}{g:aj (Tmp×Bool)}
 {α:Type} [DecidableEq α] {aW:α->ah} {kt:aB} {zero:ah} {m k:ak} {b:Nat} {ay:ae (α×ah)} (hk:qf P kt aW) (a:α)
 (hit:∀v,bZ a ay=some v->a∈ay.map (·.1)->R (λh=>aK P ds rest (act n ((d,.tuple ⟨[v,.bool true]⟩)::l) D pm ro) h K) B w0 kl F)
 (miss:a∉ay.map (·.1)->R (λh=>aK P ds rest (act n ((d,.tuple ⟨[zero,.bool false]⟩)::l) D pm ro) h K) B w0 kl F)
 (hm:ev l m=.map (some b):=by rfl) (ha:ev l k=aW a:=by conv=>lhs;whnf) (hs:aC (fw aW b ay) kl kl':=by exact dK) (hn:Nat.blt d n=true:=by rfl) (hg:bK l g=true:=by rfl):
 R (λh=>aK P ds (⟨⟨some d,g,.lookup kt zero m k true⟩,[]⟩::rest) (act n l D pm ro) h K) B w0 kl F:=by
 refine Cw (ok:=true) hk a ?_ hm ha hs hn hg;by_cases h:a∈ay.map (·.1)
 .exact gf
 .exact ij
variable{ay:ae (ByteArray×ah)}{start:Nat}
def qU{α:Type}{xs:ae α}{nm:α->ByteArray}{k:Nat}{x:α}(hx:xs[k]? =some x):
 (ay++eY ((xs.take k).map nm) start).map (·.1)=ay.map (·.1)++(xs.take k).map nm/\eY ((xs.take (k+1)).map nm) start=eY ((xs.take k).map nm) start++[(nm x,iV ((start:Int)+(k:Int)))]:=by
 have hk:=(aT.1 hx).1;refine⟨by rw[dQ,uS],?_⟩;rw[qC,hx,dQ,PZ];congr 1;rw[aS,gq,BD p0];simp[eY]
variable{b:Nat}{vs:ah}
def aj9{xs:ae ByteArray}(hl:xs.length<=4096)(hs:start<=4096)(hnd:(ay.map (·.1)).Nodup):
 rW prog (.func 151) [vs,iV (start:Int),.func (.func 153) #[] #[],.map (some b)] [] [fw eP b ay] [aA dF vs xs] (λy:Bool×ae ByteArray=>if y.1=true then .ok (.map (some b))else .fD (uZ 161))
  (λy=>[fw eP b (ay++eY y.2 start)]) (λ_=>[]) (λy=>(y.1=true->y.2=xs/\(ay.map (·.1)++xs).Nodup)/\(y.1=false->¬(ay.map (·.1)++xs).Nodup)):=by
 let nm:ByteArray->ByteArray:=λs=>s
 have hmap:∀l:ae ByteArray,l.map nm=l:=λl=>List.map_id' l;suffices h:rW prog (.func 151) [vs,iV (start:Int),.func (.func 153) #[] #[],.map (some b)] [] [fw eP b ay] [aA dF vs xs] (λy:Bool×ae ByteArray=>if y.1=true then .ok (.map (some b))else .fD (uZ 161))
  (λy=>[fw eP b (ay++eY y.2 start)]) (λ_=>[]) (λy=>(y.1=true->y.2=(xs.map nm)/\(ay.map (·.1)++xs.map nm).Nodup)/\(y.1=false->¬(ay.map (·.1)++xs.map nm).Nodup))by
  rw[hmap]at h;exact h
 refine AJ _ (uw 151) λB w0=>?_;refine go ?_;rw[show fw eP b ay=fw eP b (ay++eY ((xs.take 0).map nm) start)by simp[eY]];refine dS (λk=>xs.length - k) (λk:Nat=>[(15,iV (k:Int))]) (λk=>[fw eP b (ay++eY ((xs.take k).map nm) start)]) (λ_=>[]) (λk=>k<=xs.length/\(ay.map (·.1)++(xs.take k).map nm).Nodup) 0 ⟨bS _,td⟩ (body:=?_);rintro k ⟨hk,hall⟩;refine aP ?_ ?_<;>intro h1
 .refine gX dF λ_ _ x (y:Unit) hx=>?_;refine gC (Yp (s:=x)) λ_ _=>?_;refine go ?_;refine H9 tQ (nm x) (λv hv hm=>?_) (λhm=>?_)
  .exact bh
  refine gC (Yp (s:=x)) λ_ _=>?_;refine go ?_;refine tu tQ (nm x) (ay:=ay++eY ((xs.take k).map nm) start) (v:=iV ((start:Int)+(k:Int))) ?_;have hm2:=hm;rw[(qU hx).1]at hm2;rw[EC hm,fq,<- (qU (ay:=ay) hx).2];refine go ?_;refine aY (k+1) p0 ⟨p0,?_⟩;rw[qC,hx,dQ,<- fq,iT];refine⟨hall,qe,λa ha c hc=>?_⟩;have:c=nm x:=tf
  exact fN
 have hkl:k=xs.length:=p0
 subst hkl;rw[eH]at hall;rw[eH];refine go ?_;exact Cs (true,xs.map nm) (hv:=rfl) (hp:=⟨λ_=>⟨rfl,hall⟩,λh=>by cases h⟩)
def aka{xs:ae mP}(hl:xs.length<=4096)(hs:start<=4096)(hnd:(ay.map (·.1)).Nodup):
 rW prog (.func 147) [vs,iV (start:Int),.func (.func 148) #[] #[],.map (some b)] [] [fw eP b ay] [aA jH vs xs] (λy:Bool×ae ByteArray=>if y.1=true then .ok (.map (some b))else .fD (uZ 161))
  (λy=>[fw eP b (ay++eY y.2 start)]) (λ_=>[]) (λy=>(y.1=true->y.2=(xs.map mP.name)/\(ay.map (·.1)++xs.map mP.name).Nodup)/\(y.1=false->¬(ay.map (·.1)++xs.map mP.name).Nodup)):=by
 let nm:mP->ByteArray:=mP.name
 refine AJ _ (uw 147) λB w0=>?_;refine go ?_;rw[show fw eP b ay=fw eP b (ay++eY ((xs.take 0).map nm) start)by simp[eY]];refine dS (λk=>xs.length - k) (λk:Nat=>[(15,iV (k:Int))]) (λk=>[fw eP b (ay++eY ((xs.take k).map nm) start)]) (λ_=>[]) (λk=>k<=xs.length/\(ay.map (·.1)++(xs.take k).map nm).Nodup) 0 ⟨bS _,td⟩ (body:=?_);rintro k ⟨hk,hall⟩;refine aP ?_ ?_<;>intro h1
 .refine gX jH λ_ _ x y hx=>?_;refine go ?_;intro b10;refine gC (Yl (x:=x)) λ_ _=>?_;refine go ?_;refine H9 tQ (nm x) (λv hv hm=>?_) (λhm=>?_)
  .exact bh
  refine gC (Yl (x:=x)) λ_ _=>?_;refine go ?_;refine tu tQ (nm x) (ay:=ay++eY ((xs.take k).map nm) start) (v:=iV ((start:Int)+(k:Int))) ?_;have hm2:=hm;rw[(qU hx).1]at hm2;rw[EC hm,fq,<- (qU (ay:=ay) hx).2];refine go ?_;refine aY (k+1) p0 ⟨p0,?_⟩;rw[qC,hx,dQ,<- fq,iT];refine⟨hall,qe,λa ha c hc=>?_⟩;have:c=nm x:=tf
  exact fN
 have hkl:k=xs.length:=p0
 subst hkl;rw[eH]at hall;rw[eH];refine go ?_;exact Cs (true,xs.map nm) (hv:=rfl) (hp:=⟨λ_=>⟨rfl,hall⟩,λh=>by cases h⟩)
def akb{xs:ae pQ}(hl:xs.length<=4096)(hs:start<=4096)(hnd:(ay.map (·.1)).Nodup):
 rW prog (.func 149) [vs,iV (start:Int),.func (.func 150) #[] #[],.map (some b)] [] [fw eP b ay] [aA kz vs xs] (λy:Bool×ae ByteArray=>if y.1=true then .ok (.map (some b))else .fD (uZ 161))
  (λy=>[fw eP b (ay++eY y.2 start)]) (λ_=>[]) (λy=>(y.1=true->y.2=(xs.map pQ.name)/\(ay.map (·.1)++xs.map pQ.name).Nodup)/\(y.1=false->¬(ay.map (·.1)++xs.map pQ.name).Nodup)):=by
 let nm:pQ->ByteArray:=pQ.name
 refine AJ _ (uw 149) λB w0=>?_;refine go ?_;rw[show fw eP b ay=fw eP b (ay++eY ((xs.take 0).map nm) start)by simp[eY]];refine dS (λk=>xs.length - k) (λk:Nat=>[(15,iV (k:Int))]) (λk=>[fw eP b (ay++eY ((xs.take k).map nm) start)]) (λ_=>[]) (λk=>k<=xs.length/\(ay.map (·.1)++(xs.take k).map nm).Nodup) 0 ⟨bS _,td⟩ (body:=?_);rintro k ⟨hk,hall⟩;refine aP ?_ ?_<;>intro h1
 .refine gX kz λ_ _ x y hx=>?_;refine go ?_;intro b10;refine gC (Ym (x:=x) (v:=y)) λ_ _=>?_;refine go ?_;refine H9 tQ (nm x) (λv hv hm=>?_) (λhm=>?_)
  .exact bh
  refine gC (Ym (x:=x) (v:=y)) λ_ _=>?_;refine go ?_;refine tu tQ (nm x) (ay:=ay++eY ((xs.take k).map nm) start) (v:=iV ((start:Int)+(k:Int))) ?_;have hm2:=hm;rw[(qU hx).1]at hm2;rw[EC hm,fq,<- (qU (ay:=ay) hx).2];refine go ?_;refine aY (k+1) p0 ⟨p0,?_⟩;rw[qC,hx,dQ,<- fq,iT];refine⟨hall,qe,λa ha c hc=>?_⟩;have:c=nm x:=tf
  exact fN
 have hkl:k=xs.length:=p0
 subst hkl;rw[eH]at hall;rw[eH];refine go ?_;exact Cs (true,xs.map nm) (hv:=rfl) (hp:=⟨λ_=>⟨rfl,hall⟩,λh=>by cases h⟩)
def akc{xs:ae iR}(hl:xs.length<=4096)(hs:start<=4096)(hnd:(ay.map (·.1)).Nodup):
 rW prog (.func 154) [vs,iV (start:Int),.func (.func 155) #[] #[],.map (some b)] [] [fw eP b ay] [aA eX vs xs] (λy:Bool×ae ByteArray=>if y.1=true then .ok (.map (some b))else .fD (uZ 161))
  (λy=>[fw eP b (ay++eY y.2 start)]) (λ_=>[]) (λy=>(y.1=true->y.2=(xs.map iR.name)/\(ay.map (·.1)++xs.map iR.name).Nodup)/\(y.1=false->¬(ay.map (·.1)++xs.map iR.name).Nodup)):=by
 let nm:iR->ByteArray:=iR.name
 refine AJ _ (uw 154) λB w0=>?_;refine go ?_;rw[show fw eP b ay=fw eP b (ay++eY ((xs.take 0).map nm) start)by simp[eY]];refine dS (λk=>xs.length - k) (λk:Nat=>[(15,iV (k:Int))]) (λk=>[fw eP b (ay++eY ((xs.take k).map nm) start)]) (λ_=>[]) (λk=>k<=xs.length/\(ay.map (·.1)++(xs.take k).map nm).Nodup) 0 ⟨bS _,td⟩ (body:=?_);rintro k ⟨hk,hall⟩;refine aP ?_ ?_<;>intro h1
 .refine gX eX λ_ _ x y hx=>?_;refine go ?_;intro b10;refine gC (Yn (x:=x)) λ_ _=>?_;refine go ?_;refine H9 tQ (nm x) (λv hv hm=>?_) (λhm=>?_)
  .exact bh
  refine gC (Yn (x:=x)) λ_ _=>?_;refine go ?_;refine tu tQ (nm x) (ay:=ay++eY ((xs.take k).map nm) start) (v:=iV ((start:Int)+(k:Int))) ?_;have hm2:=hm;rw[(qU hx).1]at hm2;rw[EC hm,fq,<- (qU (ay:=ay) hx).2];refine go ?_;refine aY (k+1) p0 ⟨p0,?_⟩;rw[qC,hx,dQ,<- fq,iT];refine⟨hall,qe,λa ha c hc=>?_⟩;have:c=nm x:=tf
  exact fN
 have hkl:k=xs.length:=p0
 subst hkl;rw[eH]at hall;rw[eH];refine go ?_;exact Cs (true,xs.map nm) (hv:=rfl) (hp:=⟨λ_=>⟨rfl,hall⟩,λh=>by cases h⟩)
def akd{xs:ae dz}(hl:xs.length<=4096)(hs:start<=4096)(hnd:(ay.map (·.1)).Nodup):
 rW prog (.func 158) [vs,iV (start:Int),.func (.func 159) #[] #[],.map (some b)] [] [fw eP b ay] [aA bQ vs xs] (λy:Bool×ae ByteArray=>if y.1=true then .ok (.map (some b))else .fD (uZ 161))
  (λy=>[fw eP b (ay++eY y.2 start)]) (λ_=>[]) (λy=>(y.1=true->y.2=(xs.map dz.name)/\(ay.map (·.1)++xs.map dz.name).Nodup)/\(y.1=false->¬(ay.map (·.1)++xs.map dz.name).Nodup)):=by
 let nm:dz->ByteArray:=dz.name
 refine AJ _ (uw 158) λB w0=>?_;refine go ?_;rw[show fw eP b ay=fw eP b (ay++eY ((xs.take 0).map nm) start)by simp[eY]];refine dS (λk=>xs.length - k) (λk:Nat=>[(15,iV (k:Int))]) (λk=>[fw eP b (ay++eY ((xs.take k).map nm) start)]) (λ_=>[]) (λk=>k<=xs.length/\(ay.map (·.1)++(xs.take k).map nm).Nodup) 0 ⟨bS _,td⟩ (body:=?_);rintro k ⟨hk,hall⟩;refine aP ?_ ?_<;>intro h1
 .refine gX bQ λ_ _ x y hx=>?_;refine go ?_;intro b10;refine gC (Yo (x:=x) (v1:=y.1) (v2:=y.2)) λ_ _=>?_;refine go ?_;refine H9 tQ (nm x) (λv hv hm=>?_) (λhm=>?_)
  .exact bh
  refine gC (Yo (x:=x) (v1:=y.1) (v2:=y.2)) λ_ _=>?_;refine go ?_;refine tu tQ (nm x) (ay:=ay++eY ((xs.take k).map nm) start) (v:=iV ((start:Int)+(k:Int))) ?_;have hm2:=hm;rw[(qU hx).1]at hm2;rw[EC hm,fq,<- (qU (ay:=ay) hx).2];refine go ?_;refine aY (k+1) p0 ⟨p0,?_⟩;rw[qC,hx,dQ,<- fq,iT];refine⟨hall,qe,λa ha c hc=>?_⟩;have:c=nm x:=tf
  exact fN
 have hkl:k=xs.length:=p0
 subst hkl;rw[eH]at hall;rw[eH];refine go ?_;exact Cs (true,xs.map nm) (hv:=rfl) (hp:=⟨λ_=>⟨rfl,hall⟩,λh=>by cases h⟩)
end Go.Proofs.YtignbinlipkmfaaGreatDoor
namespace Go.Proofs.YtignbinlipkmfaaGreatDoor
open Tryz (prog)
open Go.Ideal Kd
noncomputable def QE:gK:=⟨9,[],(.seq (kO [⟨⟨(some 3),none,.recover⟩,[]⟩,kS 2 (.pq 3)]) (.seq (kO [kM 4 2,kS 5 (.bin .neq 20 4 (.const .nilIface))]) (.cond 5 (kO [⟨⟨(some 6),none,(.build [vE,(iV 0),(iV 0),(iV 0),(iV 0),vS,vS,vS,vS,vS] [])⟩,[]⟩,kM 7 2,kS 8 (.I1 37 (iV 0) false 7),kN (.store 10 0 6),kN (.store 1 1 8)]) .skip)))⟩
def Yq:lu prog 146=some QE:=qk
section
variable {P:Program} {B:ae Nat} {w0:Wd} {kl kl':ae OA} {F:ae aH} {K:KO} {ds:ae Tmp} {rest:ae bJ} {n:Nat} {l:qr} {D:ae Deferred} {pm:aj FrameMode} {ro:aj Nat} {d:Nat} {g:aj (Tmp×Bool)}
variable{α:Type}
def Yr[DecidableEq α]{aW:α->ah}{kt:aB}{zero:ah}{m k:ak}{b:Nat}{ay:ae (α×ah)}(hk:qf P kt aW)(a:α)
 (hit:∀v,bZ a ay=some v->a∈ay.map (·.1)->R (λh=>aK P ds rest (act n ((d,.tuple ⟨[v,.bool true]⟩)::l) D pm ro) h K) B w0 kl F)
 (miss:a∉ay.map (·.1)->R (λh=>aK P ds rest (act n ((d,.tuple ⟨[zero,.bool false]⟩)::l) D pm ro) h K) B w0 kl F)
 (hm:ev l m=.map (some b):=by rfl) (ha:ev l k=aW a:=by conv=>lhs;whnf) (hf:uK aW b ay∈F:=by exact gM) (hn:Nat.blt d n=true:=by rfl) (hg:bK l g=true:=by rfl):
 R (λh=>aK P ds (⟨⟨some d,g,.lookup kt zero m k true⟩,[]⟩::rest) (act n l D pm ro) h K) B w0 kl F:=by
 refine Pp (ok:=true) hk a ?_ hm ha hf hn hg;by_cases h:a∈ay.map (·.1)
 .exact gf
 .exact ij
def QF(E:Enc α){v:ah}{aJ:ae (α×E.Y)}{Q:IH->Prop}(h0:aJ=[]->∀c,v=.slice none 0 c->R Q B w0 kl F)(h1:aJ=[]->∀i o f c,v=.slice (some ⟨i,o,some f⟩) 0 c->R Q B w0 kl F)
 (h2:0<aJ.length->∀i o f c,v=.slice (some ⟨i,o,some f⟩) aJ.length c->R Q B w0 kl F) (hf:tC E v aJ∈F:=by exact gM):R Q B w0 kl F:=λw s=>by
 rcases s.facts _ hf with⟨e,a,c,hv,hg⟩|⟨i,o,f,c,cells,⟨hv,_⟩,_⟩
 .exact ia
 .exact kp
def QG(E:Enc α){Q:IH->Prop}(h:R Q B w0 (ar E (.slice none 0 0) []::kl) F):R Q B w0 kl F:=λw s=>by
 obtain⟨S,h1,h2,h3⟩:=s.own;exact h w ⟨s.agree,s.le,s.eT,⟨S,⟨[],S,.inl ⟨rfl,⟨none,rfl,trivial⟩,rfl⟩,h1,rfl⟩,h2,h3⟩,s.facts⟩
end
def ake:bA prog (.func 152) [] [] [] [] (λv:ah=>v) (λ_=>[]) (λv=>[aA dF v CF]) (λ_=>True):=by
 refine nZ Yk aj8 λB w0=>?_;refine go ?_;intro b;refine go ?_;refine wB (b:=b) (m:=8) (f:=0) dF (aJ:=CF.map λs=>(s,())) rfl (.inl rfl) ?_ (hk:=aC.here);refine KG (E:=dF) ?_ (λw hw p hp f hf=>by cases hf);exact gQ (.slice (some ⟨b,0,some 0⟩) 8 8) trivial (hF:=.cons (dO _ (dP ..)) .nil)
variable{s:ByteArray}
def LK{b:Nat}{ay:ae (ByteArray×ah)}:
 rW prog (.func 157) [.map (some b),.string s] [] [] [uK eP b ay] (λy:aj ah=>match y with|some v=>.ok v|none=>.fD (uZ 160)) (λ_=>[]) (λ_=>[]) (λy=>y=bZ s ay):=by
 refine AJ _ (uw 157) λB w0=>?_;refine go ?_;refine Yr tQ s (λv hv hm=>?_) (λhm=>?_)
 .refine go ?_;exact Cs (some v) (hv:=rfl) (hp:=hv.symm)
 .refine go ?_;refine Eo ?_;refine go ?_;exact Ct none (hv:=rfl) (hp:=(tK hm).symm)
variable{dZ l:ae ByteArray}
def akf{k:Nat}(h:l[k]? =some s):kW dZ (l.take (k+1))=kW dZ (l.take k)|||1<<<jy s dZ:=by
 unfold kW;rw[qC,h,wX];rfl
def Yt{dZ:ae ByteArray}(hs:dZ.length<=16):∀(l:ae ByteArray) (m:Nat),(∀s∈l,s∈dZ)->m<65536->l.foldl (λm s=>m|||1<<<jy s dZ) m<65536
 |[],m,_,hm=>hm
 |s::l,m,h,hm=>by
  rw[p9];refine Yt hs l _ (λx hx=>h x (dO _ hx)) ?_;have h1:=CE (h s (dP ..));have h2:1<<<jy s dZ<2^16:=by
   rw[Nat.shiftLeft_eq,zP];exact li
  exact Nat.or_lt_two_pow (n:=16) hm h2
def Yu{b4 bs:Nat}{vl:ah}(hs:dZ.length<=16)(hl:l.length<2^63):
 rW prog (.func 161) [vl] [ptr' b4] [] [dx b4 0 [.map (some bs)],uK eP bs (eY dZ 0),aA dF vl l] (λy:Bool=>if y=true then .ok (iV (kW dZ l:Int))else .fD (uZ 160)) (λ_=>[]) (λ_=>[])
  (λy=>(y=true->∀s∈l,s∈dZ)/\(y=false->¬∀s∈l,s∈dZ)):=by
 refine AJ _ (uw 161) λB w0=>?_;refine gL (λk=>l.length - k) (λk:Nat=>[(8,iV (k:Int)),(3,iV (kW dZ (l.take k):Int))]) (λk=>k<=l.length/\∀s∈l.take k,s∈dZ) 0 ⟨bS _,qe⟩ ?_;rintro k ⟨hk,hall⟩;refine aP ?_ ?_<;>intro h1
 .refine gX dF λ_ _ x (y:Unit) hx=>?_;refine go ?_;refine wy (LK (b:=bs) (s:=x) (ay:=eY dZ 0)) (λy v hy e=>?_) (λy ch hy e=>?_)
  .have hm:x∈dZ:=by
    by_cases h:x∈dZ
    .exact h
    .exact ga
   rw[y7 hm]at hy;subst hy;injection e with e;subst e;have hp:=CE hm;have h2:1<<<jy x dZ<2^16:=by
    rw[Nat.shiftLeft_eq,zP];exact li
   have h3:=Yt hs (l.take k) 0 hall p0;rw[eB];refine(bV rfl rfl (agY (a:=1) (b:=jy x dZ) rfl rfl p0 p0)).h ?_;refine(bV rfl rfl (agZ (a:=kW dZ (l.take k)) (b:=1<<<jy x dZ) rfl rfl (Nat.lt_trans h3 p0) p0)).h ?_;refine go ?_;refine aY (k+1) p0 ⟨p0,λs hs'=>?_⟩ (hl:=⟨rfl,by rw[akf hx];rfl,y4⟩);rw[qC,hx]at hs';rcases fO.1 hs' with h|h
   .exact hall s h
   .have:s=x:=by simpa using h
    rw[this];exact hm
  .refine go ?_;have hm:x∉dZ:=by
    exact js
   have hch:ch=uZ 160:=by
    rw[tK tR]at hy;subst hy;injection e with e;exact e.symm
   subst hch;exact Ct false (hv:=rfl) (hp:=⟨(λh=>by cases h),λ_ h=>hm (h x (aV hx))⟩)
 have hkl:k=l.length:=p0
 subst hkl;rw[eH]at hall⊢;refine go ?_;exact Cs true (hv:=rfl) (hp:=⟨λ_=>hall,λh=>by cases h⟩)
variable{v:ah}
def akg{aJ:ae (iR×eX.Y)}(hl:aJ.length<=4096):bA prog (.func 156) [v] [] [] [tC eX v aJ] (λv':ah=>v') (λv'=>[ar eX v' aJ]) (λ_=>[]) (λ_=>True):=by
 refine gB 156 λB w0=>?_;refine QF (v:=v) (aJ:=aJ) eX (λe c ev=>?_) (λe i o f c ev=>?_) (λhne i o f c ev=>?_)
 .subst e ev;refine go ?_;refine(bV rfl rfl (G6 (e:=173) qk rfl)).h ?_;refine go ?_;refine QG eX ?_;exact oa
 .subst e ev;refine go ?_;refine(bV rfl rfl (AU (e:=173) qk rfl)).h ?_;refine go ?_;intro b;refine go ?_;refine KH (b:=b) ?_;refine go ?_;refine wB (b:=b) (m:=0) (f:=0) eX (aJ:=[]) rfl (.inl rfl) ?_ (hk:=aC.here);exact i7
 .subst ev;refine go ?_;refine(bV rfl rfl (AU (e:=173) qk rfl)).h ?_;refine go ?_;intro b;refine go ?_;refine KI (b:=b) eX aJ hne p0 (λb'=>?_);refine go ?_;refine wB (b:=b') (m:=aJ.length) (f:=eX.n) eX (aJ:=aJ) rfl (.inr rfl) ?_ (hk:=aC.here);exact gQ (.slice (some ⟨b',0,some eX.n⟩) aJ.length aJ.length) trivial
def akh{aJ:ae (dz×bQ.Y)}(hl:aJ.length<=4096):bA prog (.func 160) [v] [] [] [tC bQ v aJ] (λv':ah=>v') (λv'=>[ar bQ v' aJ]) (λ_=>[]) (λ_=>True):=by
 refine gB 160 λB w0=>?_;refine QF (v:=v) (aJ:=aJ) bQ (λe c ev=>?_) (λe i o f c ev=>?_) (λhne i o f c ev=>?_)
 .subst e ev;refine go ?_;refine(bV rfl rfl (G6 (e:=61) qk rfl)).h ?_;refine go ?_;refine QG bQ ?_;exact oa
 .subst e ev;refine go ?_;refine(bV rfl rfl (AU (e:=61) qk rfl)).h ?_;refine go ?_;intro b;refine go ?_;refine KH (b:=b) ?_;refine go ?_;refine wB (b:=b) (m:=0) (f:=0) bQ (aJ:=[]) rfl (.inl rfl) ?_ (hk:=aC.here);exact i7
 .subst ev;refine go ?_;refine(bV rfl rfl (AU (e:=61) qk rfl)).h ?_;refine go ?_;intro b;refine go ?_;refine KI (b:=b) bQ aJ hne p0 (λb'=>?_);refine go ?_;refine wB (b:=b') (m:=aJ.length) (f:=bQ.n) bQ (aJ:=aJ) rfl (.inr rfl) ?_ (hk:=aC.here);exact gQ (.slice (some ⟨b',0,some bQ.n⟩) aJ.length aJ.length) trivial
end Go.Proofs.YtignbinlipkmfaaGreatDoor
namespace Go.Proofs.YtignbinlipkmfaaGreatDoor
open Tryz (prog)
open Go.Ideal Kd
noncomputable def LM:gK:=⟨128,[(.qE 10 2),(.cell1 3)],(.seq (kO [kS 1 (.box 0 28),⟨⟨(some 2),none,(.new [vE,(iV 0),(iV 0),(iV 0),(iV 0),vS,vS,vS,vS,vS] 28)⟩,[]⟩,kS 3 (.new [(iV 0)] 37)]) (.seq (kO [kS 11 (.Dt (.func 146) [] [2,3]),kN (.dcall 11 [])]) (.seq (.seq (kO [kS 12 (.fM 6 1),kS 13 (.gJ 12),kS 14 (.yz 13),kS 15 (.bin .gtr 3 14 (.const (iV 16)))]) (.cond 15 (.seq (kO [kS 16 (.rA 10 2),kN (.store 10 2 16),kN (.store 1 3 (.const (iV 2)))]) .ret) .skip)) (.seq (kO [kS 17 (.fM 6 1),kS 18 (.gJ 17),⟨⟨(some 19),none,.wZ⟩,[]⟩,kS 20 (kC 147 [18,(.const (iV 0)),(.func 148),19]),kS 4 (.new [(.map none)] 175),kN (.store 1 4 20)]) (.seq (.ops [21,22,23,24,25,26,5] [kS 21 (.fM 7 1),kS 22 (.gJ 21),⟨⟨(some 24),none,.wZ⟩,[]⟩,⟨⟨(some 23),none,(kC 152 [])⟩,[⟨(some 22),none,(.gJ 21)⟩]⟩,⟨⟨(some 25),none,(kC 151 [23,(.const (iV 0)),(.func 153),24])⟩,[⟨(some 22),none,(.gJ 21)⟩]⟩,kS 26 (kC 149 [22,(.const (iV 8)),(.func 150),25]),kS 5 (.pq 26)]) (.seq (kO [kS 27 (.fM 8 1),kS 28 (.gJ 27),⟨⟨(some 29),none,.wZ⟩,[]⟩,kS 30 (kC 154 [28,(.const (iV 0)),(.func 155),29]),kS 6 (.pq 30)]) (.seq (kO [kS 31 (.fM 8 1),kS 32 (.gJ 31),kS 33 (kC 156 [32]),kS 34 (.fM 8 1),kN (.store 1 34 33)]) (.seq (.seq (kO [kS 35 (.fM 8 1),kS 36 (.gJ 35),kS 37 (.yz 36),kS 38 (.mv (.const (iV 0)))]) (.block 0 (.loop (.seq (kO [kS 39 (.bin .lss 3 38 37)]) (.seq (.cond 39 .skip (.exit 0)) (.seq (.block 1 (.seq (kO [kM 40 38,kS 7 (.pq 40)]) (.ops [41,42,43,44,45,46,47,48,49,50,51,52,53] [kS 41 (.fM 8 1),kS 42 (.gJ 41),kM 43 7,kM 44 5,kS 45 (.fM 8 1),kS 46 (.gJ 45),kM 47 7,kS 48 (.oz 6 46 47),kS 49 (.fM 1 48),kS 50 (.gJ 49),⟨⟨(some 51),none,(kC 157 [44,50])⟩,[⟨(some 42),none,(.gJ 41)⟩]⟩,kS 52 (.oz 6 42 43),kS 53 (.fM 2 52),kN (.store 1 53 51)]))) (kO [kS 54 (.bin .add 3 38 (.const (iV 1))),kM 38 54]))))))) (.seq (kO [kS 55 (.fM 9 1),kS 56 (.gJ 55),⟨⟨(some 57),none,.wZ⟩,[]⟩,kS 58 (kC 158 [56,(.const (iV 0)),(.func 159),57])]) (.seq (kO [kS 59 (.fM 9 1),kS 60 (.gJ 59),kS 61 (kC 160 [60]),kS 62 (.fM 9 1),kN (.store 1 62 61)]) (.seq (kO [kS 63 (.Dt (.func 161) [] [4]),kS 8 (.pq 63)]) (.seq (.seq (kO [kS 64 (.fM 9 1),kS 65 (.gJ 64),kS 66 (.yz 65),kS 67 (.mv (.const (iV 0)))]) (.block 2 (.loop (.seq (kO [kS 68 (.bin .lss 3 67 66)]) (.seq (.cond 68 .skip (.exit 2)) (.seq (.block 3 (.seq (kO [kM 69 67,kS 9 (.pq 69)]) (.seq (kO [kS 70 (.fM 9 1),kS 71 (.gJ 70),kM 72 9,kS 73 (.oz 12 71 72),kS 10 (.pq 73)]) (.seq (kO [kM 74 10,kM 75 10,kS 76 (.lW 74),kS 77 (.fM 3 76),kN (.store 1 77 (.const (iV 0))),kS 78 (.lW 75),kS 79 (.fM 11 78),kN (.store 1 79 (.const (iV (-1))))]) (.seq (.seq (kO [kM 80 10,kS 81 (.lW 80),kS 82 (.fM 1 81),kS 83 (.gJ 82),⟨⟨(some 84),none,(.bin .neq 9 83 (.const vE))⟩,[]⟩]) (.cond 84 (kO [kM 85 10,kM 86 5,kM 87 10,kS 88 (.lW 87),kS 89 (.fM 1 88),kS 90 (.gJ 89),kS 91 (kC 157 [86,90]),kS 92 (.lW 85),kS 93 (.fM 3 92),kN (.store 1 93 91)]) .skip)) (.seq (.ops [94,95,96,97,98,99,100,101,102,103,104,105,106,107,108,109,110,111] [kM 94 10,kM 95 10,kM 96 8,kM 97 10,kS 98 (.lW 97),kS 99 (.fM 4 98),kS 100 (.gJ 99),kM 102 8,kM 103 10,kS 104 (.lW 103),kS 105 (.fM 5 104),kS 106 (.gJ 105),⟨⟨(some 101),none,(.call 96 [100])⟩,[⟨(some 106),none,(.gJ 105)⟩]⟩,kS 107 (.call 102 [106]),kS 108 (.lW 94),kS 109 (.fM 6 108),kN (.store 1 109 101),kS 110 (.lW 95),kS 111 (.fM 7 110),kN (.store 1 111 107)]) (.seq (kO [kM 112 10,kS 113 (.lW 112),kS 114 (.fM 10 113),kS 115 (.gJ 114),⟨⟨(some 116),none,(.bin .neq 9 115 (.const vE))⟩,[]⟩]) (.cond 116 (kO [kM 117 10,kM 118 6,kM 119 10,kS 120 (.lW 119),kS 121 (.fM 10 120),kS 122 (.gJ 121),kS 123 (kC 157 [118,122]),kS 124 (.lW 117),kS 125 (.fM 11 124),kN (.store 1 125 123)]) .skip)))))))) (kO [kS 126 (.bin .add 3 67 (.const (iV 1))),kM 67 126]))))))) (.seq (kO [kS 127 (.rA 10 1),kN (.store 10 2 127),kN (.store 1 3 (.const (iV 0)))]) .ret)))))))))))))⟩
def aki:lu prog 94=some LM:=qk
def sD(a b:ByteArray):(a.toList==b.toList)=decide (a=b):=by
 rw[ByteArray.toList_eq,ByteArray.toList_eq];by_cases h:a=b
 .subst h;simp
 .rw[di h];cases hb:a.data.toList==b.data.toList with
  |false=>rfl
  |true=>
   have:=eq_of_beq hb;exact absurd (ByteArray.ext (Array.ext' this)) h
abbrev xO:ae ah:=[.string ⟨⟨[]⟩⟩,iV 0,iV 0,iV 0,iV 0,.slice none 0 0,.slice none 0 0,.slice none 0 0,.slice none 0 0,.slice none 0 0]
variable{b2 b3:Nat}
def akj:KA prog (.func 146) [] [ptr' b2,ptr' b3] .returning [] [] (λ_:Unit=>.ok (.tuple ⟨[]⟩)) (λ_=>.returning) (λ_=>[]) (λ_=>[]) (λ_=>True):=by
 refine VL QE Yq λB w0=>?_;refine go ?_;refine VM (v:=.nilIface) (m':=.returning) rfl ?_;refine go ?_;refine(bV (v:=.bool false) rfl rfl (λh=>by
  show(match ku prog .neq 20 (.tmp 4) (.const .nilIface) .nilIface .nilIface with|some v=>some (v,h)|none=>none)=_;rw[show ku prog .neq 20 (.tmp 4) (.const .nilIface) .nilIface .nilIface=some (.bool false)by kernel_rfl])).h ?_
 refine go ?_;exact VP () (hv:=rfl) (hm:=rfl) (hp:=trivial)
def akk{e:Int}(he:e=160\/e=161):KA prog (.func 146) [] [ptr' b2,ptr' b3] (.panicking (uZ e)) [pt b2 (.cells xO),pt b3 (.cells [iV 0])] [] (λ_:Unit=>.ok (.tuple ⟨[]⟩)) (λ_=>.panicking [{v:=.iface 37 (iV e),recovered:=true}])
 (λ_=>[pt b2 (.cells xO),pt b3 (.cells [iV e])]) (λ_=>[]) (λ_=>True):=by
 refine VL QE Yq λB w0=>?_;refine go ?_;refine VM (v:=.iface 37 (iV e)) (m':=.panicking [{v:=.iface 37 (iV e),recovered:=true}]) rfl ?_;refine go ?_;refine(bV (v:=.bool true) rfl rfl (λh=>by
  show(match ku prog .neq 20 (.tmp 4) (.const .nilIface) (.iface 37 (iV e)) .nilIface with|some v=>some (v,h)|none=>none)=_;rcases he with rfl|rfl
  .rw[show ku prog .neq 20 (.tmp 4) (.const .nilIface) (.iface 37 (iV 160)) .nilIface=some (.bool true)by kernel_rfl]
  .rw[show ku prog .neq 20 (.tmp 4) (.const .nilIface) (.iface 37 (iV 161)) .nilIface=some (.bool true)by kernel_rfl])).h ?_
 refine go ?_;exact VP () (hv:=rfl) (hm:=rfl) (hp:=trivial)
structure Ia where
 ok:Bool
 e:Int
 vc:Value
 vu:Value
abbrev Be(d:dA)(vh vs vr:ah)(y:Ia):ah:=.tuple ⟨[.agg ⟨cond y.ok (mQ (Kd.dJ d) vh vs vr y.vc y.vu) xO⟩,iV y.e]⟩
abbrev u7(d:dA)(y:Ia):ae aH:=cond y.ok [aA eX y.vc (Kd.dJ d).bY,aA bQ y.vu (Kd.dJ d).rules] []
def ER(d:dA)(y:Ia):Prop:=(y.ok=true->y.e=0/\EE d)/\(y.ok=false->y.e≠0/\¬EE d)
structure sF(d:dA):Prop where
 dZ:d.symbols.length<=4096
 regs:d.regions.length<=4096
 mR:d.bY.length<=4096
 pV:d.rules.length<=4096
 zg:∀r∈d.rules,r.names.length<2^63/\r.others.length<2^63
 holes:d.holes.length<2^63
 zh:∀r∈d.regions,r.lists.length<2^63/\∀l∈r.lists,l.length<2^63
section
variable {B:ae Nat} {w0:Wd} {kl bi:ae OA} {F:ae aH} {l:qr} {b2 b3:Nat} {n:Nat}
def zi{d:dA}{vh vs vr:ah}{e:Int}(he:e=160\/e=161)(hno:¬EE d)(h2:lk l 2=ptr' b2)(h3:lk l 3=ptr' b3)(hk:aM [pt b2 (.cells xO),pt b3 (.cells [iV 0])] kl bi):
 R (λh=>tq prog LM (Cr B w0 (λy=>.ok (Be d vh vs vr y)) (λ_=>[]) (u7 d) (ER d)) (.panic (uZ e)) (act n l [{target:=.fn (.func 146) ⟨[ptr' b2,ptr' b3]⟩,args:=⟨[]⟩}] none none) h) B w0 kl F:=by
 refine GY (m:=.panicking (uZ e)) ?_;refine VN (bi:=bi) (dR:=λ_=>[pt b2 (.cells xO),pt b3 (.cells [iV e])]++bi) (F2:=λ_=>F) (akk (b2:=b2) (b3:=b3) he) (λy v _ _=>?_) (λy ch _ hc=>by cases hc) (hk:=hk) (hF:=.nil) (hk2:=λ_=>dI.app) (hF2:=λ_=>dI.nil);show RL _ _ _ _ .returning _ _ _ _ _;refine VQ (bi:=[pt b2 (.cells xO),pt b3 (.cells [iV e])]++bi) (vs:=[.agg ⟨xO⟩,iV e]) ⟨false,e,.nilFunc,.nilFunc⟩ rfl ⟨(λh=>by cases h),λ_=>⟨by rcases he with rfl|rfl<;>simp,hno⟩⟩ (hr:=?_) (hk:=.nil) (hF:=.nil);show RS l _ [.qE 10 2,.cell1 3] _;exact .qE h2 .here rfl (.cell1 h3 (.there .here) rfl .nil)
end
section
variable {B:ae Nat} {w0:Wd} {kl bi:ae OA} {F:ae aH} {l:qr} {b2 b3:Nat} {n:Nat}
def Yv{d:dA}{vh vs vr:ah}{o:Out}{cs:ae ah}{e:Int}(y:Ia)(ho:vK o=some .returning)(hcs:cs=cond y.ok (mQ (Kd.dJ d) vh vs vr y.vc y.vu) xO)(hl:cs.length=10)(hy:y.e=e)(hp:ER d y)(hF:∀w,(∀f∈F,f.p w)->∀f∈u7 d y,f.p w)(h2:lk l 2=ptr' b2)(h3:lk l 3=ptr' b3)(hk:aM [pt b2 (.cells cs),pt b3 (.cells [iV e])] kl bi):
 R (λh=>tq prog LM (Cr B w0 (λy=>.ok (Be d vh vs vr y)) (λ_=>[]) (u7 d) (ER d)) o (act n l [{target:=.fn (.func 146) ⟨[ptr' b2,ptr' b3]⟩,args:=⟨[]⟩}] none none) h) B w0 kl F:=by
 refine GY (m:=.returning) ?_ ho;refine VN (k1:=[]) (bi:=kl) (dR:=λ_=>kl) (F2:=λ_=>F) (akj (b2:=b2) (b3:=b3)) (λ_ v _ _=>?_) (λ_ ch _ hc=>by cases hc) (hk:=.nil) (hF:=.nil) (hk2:=λ_=>dI.nil) (hF2:=λ_=>dI.nil);show RL _ _ _ _ .returning _ _ _ _ _;intro w s;have s':St B w0 ([pt b2 (.cells cs),pt b3 (.cells [iV e])]++bi) (u7 d y) w:=by
  have:=s.kJ hk;exact⟨this.agree,this.le,this.eT,this.own,hF w this.facts⟩
 refine VQ (F:=u7 d y) (bi:=[pt b2 (.cells cs),pt b3 (.cells [iV e])]++bi) (vs:=[.agg ⟨cs⟩,iV e]) y ?_ hp (hr:=?_) (hk:=.nil) (hF:=?_) w s'
 .show iL.ok (Be d vh vs vr y)=_;unfold Be;rw[<- hcs,hy];rfl
 .show RS l _ [.qE 10 2,.cell1 3] _;exact .qE h2 .here (by rw[oH,pE,vI,if_pos p0,<- hl,eH]) (.cell1 h3 (.there .here) rfl .nil)
 .have:∀k:ae aH,Sub k k:=λk=>by
   have:=Sub.refl' k [];simpa using this
  exact this _
end
variable{X:ae (dz×bQ.Y)}{k:Nat}
def ES(hk:k<X.length){q q':dz×bQ.Y}{j:Nat}{v:ah}(h:(bQ.pat q.1 q.2).set j v=bQ.pat q'.1 q'.2)(hj:j<12):(dV bQ (X.set k q)).set (0+k*12+j) v=dV bQ (X.set k q'):=by
 rw[eB];have:=Pv (E:=bQ) (aJ:=X.set k q) (k:=k) (p:=q) (p':=q') y6 h hj;rw[List.set_set]at this;exact this
def CP(hk:k<X.length){q:dz×bQ.Y}{j:Nat}{u:ah}(h:(bQ.pat q.1 q.2)[j]? =some u):(dV bQ (X.set k q))[0+k*12+j]? =some u:=by
 rw[eB];exact AQ (E:=bQ) (aJ:=X.set k q) (k:=k) y6 h
def ET(hk:k<X.length){q:dz×bQ.Y}{j:Nat}(hj:j<12):0+k*12+j<(dV bQ (X.set k q)).length:=by
 rw[Et,jD];show 0+k*12+j<X.length*12;omega
def Yw{d:dA}{vh vs vr vc vu:ah}(hS:sF d):bA prog (.func 94) [.agg ⟨mQ d vh vs vr vc vu⟩] [] [] (rY d vh vs vr vc vu) (Be d vh vs vr) (λ_=>[]) (u7 d) (ER d):=by
 refine rW.toC _ ?_ (λ_ _=>rfl);have hsl:=hS.dZ;have hrl:=hS.regs;have hcl:=hS.mR;have qi:=hS.pV;refine AJ LM aki λB w0=>?_;refine go ?_;intro b1 b2 b3;refine go ?_;refine ag7 ?_;refine aP ?_ ?_<;>intro h1
 .refine go ?_;exact Yv (e:=2) (cs:=xO) ⟨false,2,.nilFunc,.nilFunc⟩ rfl rfl rfl rfl ⟨(λh=>by cases h),λ_=>⟨qe,λh=>by have:=h.dZ;omega⟩⟩ (λw _ f hf=>by cases hf) rfl rfl qn
 have hsy:(iO d).length<=16:=by show(d.symbols.map (·.name)).length<=16;rw[aS];omega
 refine go ?_;refine wz eP (λbs=>?_);refine go ?_;refine wy (aka (b:=bs) (start:=0) (ay:=[]) hsl p0 wW) (λy v hy e=>?_) (λy ch hy e=>?_)
 rotate_left
 .obtain⟨y,ns⟩:=y;cases y with
  |true=>cases e
  |false=>
   injection e with e;subst e;refine go ?_;exact zi (e:=161) (.inr rfl) (λh=>hy.2 rfl (by simpa[iO]using h.aiD)) rfl rfl qn
 obtain⟨y,ns⟩:=y;cases y with
 |false=>cases e
 |true=>
 injection e with e;subst e;have hns:ns=iO d:=(hy.1 rfl).1;have hsn:(iO d).Nodup:=by have:=(hy.1 rfl).2;simpa[iO]using this
 clear hy;subst hns;dsimp only;rw[show([]:ae (ByteArray×ah))++eY _ 0=eY _ 0 from rfl];refine gZ (Cv (b:=bs)) ?_;refine go ?_;intro b4;refine go ?_;refine wz eP (λbf=>?_);refine jY ake (next:=λvg _=>?_);refine wy (aj9 (b:=bf) (xs:=CF) (start:=0) (ay:=[]) qv p0 wW) (λy v hy e=>?_) (λy ch hy e=>?_)
 rotate_left
 .obtain⟨y,ns⟩:=y;cases y with
  |true=>cases e
  |false=>exact absurd qv (hy.2 rfl)
 obtain⟨y,ns⟩:=y;cases y with
 |false=>cases e
 |true=>
 injection e with e;subst e;have hns:ns=CF:=(hy.1 rfl).1;clear hy;subst hns;dsimp only;rw[show([]:ae (ByteArray×ah))++eY _ 0=eY _ 0 from rfl];refine wy (akb (b:=bf) (start:=8) (ay:=eY CF 0) hrl p0 (by rw[uS];decide)) (λy v hy e=>?_) (λy ch hy e=>?_)
 rotate_left
 .obtain⟨y,ns⟩:=y;cases y with
  |true=>cases e
  |false=>
   injection e with e;subst e;refine go ?_;exact zi (e:=161) (.inr rfl) (λh=>hy.2 rfl (by rw[uS];exact h.aiE)) rfl rfl qn
 obtain⟨y,ns⟩:=y;cases y with
 |false=>cases e
 |true=>
 injection e with e;subst e;have hns:ns=d.regions.map pQ.name:=(hy.1 rfl).1;have hfn:(gI d).Nodup:=by have:=(hy.1 rfl).2;rw[uS]at this;exact this
 clear hy;subst hns;dsimp only;have hfe:eY CF 0++eY (d.regions.map pQ.name) 8=eY (gI d) 0:=by
  unfold gI;rw[PZ];rfl
 rw[hfe];clear hfe;refine gZ (Cv (b:=bf)) ?_;refine go ?_;refine wz eP (λbc=>?_);refine go ?_;refine wy (akc (b:=bc) (start:=0) (ay:=[]) hcl p0 wW) (λy v hy e=>?_) (λy ch hy e=>?_)
 rotate_left
 .obtain⟨y,ns⟩:=y;cases y with
  |true=>cases e
  |false=>
   injection e with e;subst e;refine go ?_;exact zi (e:=161) (.inr rfl) (λh=>hy.2 rfl (by simpa[lK]using h.aiF)) rfl rfl qn
 obtain⟨y,ns⟩:=y;cases y with
 |false=>cases e
 |true=>
 injection e with e;subst e;have hns:ns=lK d:=(hy.1 rfl).1;have hcn:(lK d).Nodup:=by have:=(hy.1 rfl).2;simpa[lK]using this
 clear hy;subst hns;dsimp only;rw[show([]:ae (ByteArray×ah))++eY _ 0=eY _ 0 from rfl];refine gZ (Cv (b:=bc)) ?_;refine go ?_;refine KF eX vc (λxc xH=>?_);have hxl:xc.length=d.bY.length:=by rw[<- xH,aS]
 refine jY (akg (aJ:=xc) p0) (next:=λv1 _=>?_);refine Wm (E:=eX) (v:=v1) (aJ:=xc) (λa1 e1=>?_);subst e1;refine go ?_;let f1:iR×eX.Y->iR×eX.Y:=λp=>(ED (gI d) p.1,p.2)
 rw[show ar eX (.slice a1 xc.length xc.length) xc=ar eX (.slice a1 xc.length xc.length) (jI f1 0 xc)from rfl];refine dS (λk=>xc.length - k) (λk:Nat=>[(38,iV (k:Int))]) (λk=>[ar eX (.slice a1 xc.length xc.length) (jI f1 k xc)]) (λ_=>[]) (λk=>k<=xc.length/\∀p∈xc.take k,p.1.on∈gI d) 0 ⟨bS _,qe⟩ (body:=?_);rintro k ⟨hk,hall⟩;refine aP ?_ ?_<;>intro h2
 .refine go ?_;refine Wl (E:=eX) (aJ:=jI f1 k xc) (by rw[AZ];omega) (λbx fx hfx ev=>?_);injection ev with ea _ _;subst ea;refine go ?_;obtain⟨p,hp⟩:∃p,xc[k]? =some p:=⟨xc[k]'(p0),bH _⟩
  have hget:(jI f1 k xc)[k]? =some p:=by rw[Xq _ p0];exact hp
  have lD:p.1∈d.bY:=by rw[<- xH];exact IU (aV hp)
  refine oN (o:=0+k*6+1) (cs:=dV eX (jI f1 k xc)) (.string p.1.on) (by rw[eB];exact AQ (E:=eX) (j:=1) hget rfl) ?_;refine wy (LK (b:=bf) (s:=p.1.on) (ay:=eY (gI d) 0)) (λy v hy e=>?_) (λy ch hy e=>?_)
  rotate_left
  .have hm:p.1.on∉gI d:=by
    exact js
   rw[tK tR]at hy;subst hy;injection e with e;subst e;refine go ?_;exact zi (e:=160) (.inl rfl) (λh=>hm (h.Xo p.1 lD)) rfl rfl qn
  have hm:p.1.on∈gI d:=by
   by_cases h:p.1.on∈gI d
   .exact h
   .exact ga
  rw[y7 hm]at hy;subst hy;injection e with e;subst e;rw[eB];refine go ?_;refine jG (o:=0+k*6+2) (cs:=dV eX (jI f1 k xc)) (cs':=dV eX (jI f1 (k+1) xc)) (v:=iV ((jy p.1.on (gI d):Nat):Int)) (by rw[eB,<- Xr f1 hp];exact Pv (E:=eX) (j:=2) (p':=f1 p) hget rfl qv) (by rw[Et,AZ];show 0+k*6+2<xc.length*6;omega) ?_;refine go ?_;refine wB (b:=bx) (f:=fx) (m:=xc.length) eX (aJ:=jI f1 (k+1) xc) (by rw[AZ]) hfx ?_;refine aY (k+1) p0 ⟨p0,λq hq=>?_⟩;rw[qC,hp]at hq;rcases fO.1 hq with h|h
  .exact hall q h
  .have:q=p:=by simpa using h
   rw[this];exact hm
 have hkl:k=xc.length:=p0
 subst hkl;rw[eH]at hall;have hcon:∀c∈d.bY,c.on∈gI d:=by
  intro c hc;rw[<- xH]at hc;obtain⟨p,hp,rfl⟩:=cZ.1 hc;exact hall p hp
 clear hall hk;rw[Xp];refine go ?_;refine wz eP (λbu=>?_);refine go ?_;refine wy (akd (b:=bu) (start:=0) (ay:=[]) qi p0 wW) (λy v hy e=>?_) (λy ch hy e=>?_)
 rotate_left
 .obtain⟨y,ns⟩:=y;cases y with
  |true=>cases e
  |false=>
   injection e with e;subst e;refine go ?_;exact zi (e:=161) (.inr rfl) (λh=>hy.2 rfl (by simpa[Ld]using h.aiG)) rfl rfl qn
 obtain⟨y,ns⟩:=y;cases y with
 |false=>cases e
 |true=>
 injection e with e;subst e;have hrn:(Ld d).Nodup:=by have:=(hy.1 rfl).2;simpa[Ld]using this
 clear hy;dsimp only;refine gZ (Cv (b:=bu)) ?_;refine go ?_;refine KF bQ vu (λxr nO=>?_);have arB:xr.length=d.rules.length:=by rw[<- nO,aS]
 refine jY (akh (aJ:=xr) p0) (next:=λv2 _=>?_);refine Wm (E:=bQ) (v:=v2) (aJ:=xr) (λa2 e2=>?_);subst e2;refine go ?_;refine gP b4 ?_;refine go ?_;let f2:dz×bQ.Y->dz×bQ.Y:=λp=>(wC (iO d) (gI d) (lK d) p.1,p.2)
 rw[show ar bQ (.slice a2 xr.length xr.length) xr=ar bQ (.slice a2 xr.length xr.length) (jI f2 0 xr)from rfl];refine Wj (E:=bQ) (v:=vu) (aJ:=xr) ?_;refine dS (λk=>xr.length - k) (λk:Nat=>[(67,iV (k:Int))]) (λk=>[ar bQ (.slice a2 xr.length xr.length) (jI f2 k xr)]) (λ_=>[]) (λk=>k<=xr.length/\∀p∈xr.take k,P5 (iO d) (gI d) (lK d) p.1) 0 ⟨bS _,qe⟩ (body:=?_);rintro k ⟨hk,hall⟩;refine aP ?_ ?_<;>intro h2
 .refine go ?_;refine Wl (E:=bQ) (aJ:=jI f2 k xr) (by rw[AZ];omega) (λig fy Yx ev=>?_);injection ev with ea _ _;subst ea;obtain⟨p,hp⟩:∃p,xr[k]? =some p:=⟨xr[k]'(p0),bH _⟩
  have hpm:=aV hp;have hget:(jI f2 k xr)[k]? =some p:=by rw[Xq _ p0];exact hp
  have lD:p.1∈d.rules:=by rw[<- nO];exact IU hpm
  have hfin:=Xr f2 hp;obtain⟨r,v3,v4⟩:=p;have hrs:=hS.zg r lD;have mY:k<(jI f2 k xr).length:=by rw[AZ];omega
  have akl:(jI f2 k xr).length=xr.length:=AZ _ _ _;have e0:jI f2 k xr=(jI f2 k xr).set k (r,v3,v4):=by
   apply iK;intro i;rw[ow];by_cases hi:k=i
   .subst hi;rw[if_pos rfl,if_pos mY,hget]
   .rw[if_neg hi]
  refine iN (aA dF v3 r.names) (λw h=>h (yZ bQ xr) (dP ..) _ hpm _ (dP ..)) ?_;refine iN (aA dF v4 r.others) (λw h=>h (yZ bQ xr) (dO _ (dP ..)) _ hpm _ (dO _ (dP ..))) ?_;rw[e0];rw[<- e0];generalize hX:jI f2 k xr=X at mY akl e0 hfin;rw[e0];refine go ?_;refine jG (o:=0+k*12+3) (cs:=dV bQ (X.set k (r,v3,v4))) (cs':=dV bQ (X.set k ({r with family:=0},v3,v4))) (v:=iV 0) (ES mY rfl p0) (ET mY p0) ?_;refine go ?_;refine jG (o:=0+k*12+11) (cs:=dV bQ (X.set k ({r with family:=0},v3,v4))) (cs':=dV bQ (X.set k ({r with family:=0,bD:= -1},v3,v4))) (v:=iV (-1)) (ES mY rfl p0) (ET mY p0) ?_;refine go ?_;refine oN (o:=0+k*12+1) (cs:=dV bQ (X.set k ({r with family:=0,bD:= -1},v3,v4))) (.string r.on) (CP mY rfl) ?_;refine go ?_;refine VI (bi:=[pt b1 (.cells [.string d.name,iV d.version,iV d.shape,iV d.w,iV d.h,vh,vs,vr,.slice a1 xc.length xc.length,.slice (some ⟨ig,0,some fy⟩) xr.length xr.length]),ar eX (.slice a1 xc.length xc.length) (xc.map f1),pt b3 (.cells [iV 0]),pt b2 (.cells xO)]) [] (λ_:Unit=>[]) (λ_=>[pt ig (.cells (dV bQ (X.set k ({r with family:=if r.on=⟨⟨[]⟩⟩then 0 else(jy r.on (gI d):Int),bD:= -1},v3,v4))))]) (λ_=>[]) (λ_=>r.on=⟨⟨[]⟩⟩\/r.on∈gI d) (hx:=?_) (hy:=?_)
  .refine sZ (p:=r.on=⟨⟨[]⟩⟩) we (λh3=>?_) (λh3=>?_)
   .refine go ?_;refine oN (o:=0+k*12+1) (cs:=dV bQ (X.set k ({r with family:=0,bD:= -1},v3,v4))) (.string r.on) (CP mY rfl) ?_;refine wy (LK (b:=bf) (s:=r.on) (ay:=eY (gI d) 0)) (λy v hy e=>?_) (λy ch hy e=>?_)
    rotate_left
    .have hm:r.on∉gI d:=by
      exact js
     rw[tK tR]at hy;subst hy;injection e with e;subst e;refine go ?_;refine ag5 ?_;refine go ?_;exact zi (e:=160) (.inl rfl) (λh=>(h.qP r lD).on.elim h3 hm) rfl rfl qn
    have hm:r.on∈gI d:=by
     by_cases h:r.on∈gI d
     .exact h
     .exact ga
    rw[y7 hm]at hy;subst hy;injection e with e;subst e;rw[eB];refine go ?_;refine jG (o:=0+k*12+3) (cs:=dV bQ (X.set k ({r with family:=0,bD:= -1},v3,v4))) (cs':=dV bQ (X.set k ({r with family:=if r.on=⟨⟨[]⟩⟩then 0 else(jy r.on (gI d):Int),bD:= -1},v3,v4))) (v:=iV ((jy r.on (gI d):Nat):Int)) (by rw[if_neg h3];exact ES mY rfl p0) (ET mY p0) ?_;refine go ?_;exact Kz () (.inr hm)
   .refine go ?_;rw[show({r with family:=0,bD:= -1}:dz)={r with family:=if r.on=⟨⟨[]⟩⟩then 0 else(jy r.on (gI d):Int),bD:= -1}by rw[if_pos h3]];exact Kz () (.inl h3)
  intro _ hon;generalize hfm:(if r.on=⟨⟨[]⟩⟩then 0 else(jy r.on (gI d):Int))=fm;refine go ?_;refine oN (o:=0+k*12+4) (cs:=dV bQ (X.set k ({r with family:=fm,bD:= -1},v3,v4))) v3 (CP mY rfl) ?_;refine go ?_;refine oN (o:=0+k*12+5) (cs:=dV bQ (X.set k ({r with family:=fm,bD:= -1},v3,v4))) v4 (CP mY rfl) ?_;refine go ?_;refine wy (Yu (b4:=b4) (bs:=bs) (vl:=v3) (dZ:=iO d) (l:=r.names) hsy hrs.1) (λy v hy e=>?_) (λy ch hy e=>?_)
   (hs:=λy v _ _=>Eg (b:=ig) (o:=0+k*12+5) (cs:=dV bQ (X.set k ({r with family:=fm,bD:= -1},v3,v4))) (v:=v4) rfl (by repeat (first|exact aC.here|apply aC.there)) (by rw[rP];exact CP mY rfl) rfl Ef)
  rotate_left
  .cases y with
   |true=>cases e
   |false=>
    injection e with e;subst e;refine go ?_;exact zi (e:=160) (.inl rfl) (λh=>hy.2 rfl (h.qP r lD).names) rfl rfl qn
  cases y with
  |false=>cases e
  |true=>
  injection e with e;subst e;have akm:=hy.1 rfl;clear hy;refine go ?_;refine go ?_;refine wy (Yu (b4:=b4) (bs:=bs) (vl:=v4) (dZ:=iO d) (l:=r.others) hsy hrs.2) (λy v hy e=>?_) (λy ch hy e=>?_)
  rotate_left
  .cases y with
   |true=>cases e
   |false=>
    injection e with e;subst e;refine go ?_;exact zi (e:=160) (.inl rfl) (λh=>hy.2 rfl (h.qP r lD).others) rfl rfl qn
  cases y with
  |false=>cases e
  |true=>
  injection e with e;subst e;have akn:=hy.1 rfl;clear hy;refine go ?_;refine jG (o:=0+k*12+6) (cs:=dV bQ (X.set k ({r with family:=fm,bD:= -1},v3,v4))) (cs':=dV bQ (X.set k ({r with family:=fm,bD:= -1,set:=(kW (iO d) r.names:Int)},v3,v4))) (v:=iV (kW (iO d) r.names:Int)) (ES mY rfl p0) (ET mY p0) ?_;refine go ?_;refine jG (o:=0+k*12+7) (cs:=dV bQ (X.set k ({r with family:=fm,bD:= -1,set:=(kW (iO d) r.names:Int)},v3,v4))) (cs':=dV bQ (X.set k ({r with family:=fm,bD:= -1,set:=(kW (iO d) r.names:Int),other:=(kW (iO d) r.others:Int)},v3,v4))) (v:=iV (kW (iO d) r.others:Int)) (ES mY rfl p0) (ET mY p0) ?_;refine go ?_;refine oN (o:=0+k*12+10) (cs:=dV bQ (X.set k ({r with family:=fm,bD:= -1,set:=(kW (iO d) r.names:Int),other:=(kW (iO d) r.others:Int)},v3,v4))) (.string r.ig) (CP mY rfl) ?_;refine go ?_;have hnext:(r.ig=⟨⟨[]⟩⟩\/r.ig∈lK d)->∀q∈xr.take (k+1),P5 (iO d) (gI d) (lK d) q.1:=by
   intro hby q hq;rw[qC,hp]at hq;rcases fO.1 hq with h|h
   .exact hall q h
   .have:q=(r,v3,v4):=bF.1 (show q∈[(r,v3,v4)]from h);rw[this];exact⟨hon,akm,akn,hby⟩
  refine sZ (p:=r.ig=⟨⟨[]⟩⟩) we (λh3=>?_) (λh3=>?_)
  .refine go ?_;refine oN (o:=0+k*12+10) (cs:=dV bQ (X.set k ({r with family:=fm,bD:= -1,set:=(kW (iO d) r.names:Int),other:=(kW (iO d) r.others:Int)},v3,v4))) (.string r.ig) (CP mY rfl) ?_;refine wy (LK (b:=bc) (s:=r.ig) (ay:=eY (lK d) 0)) (λy v hy e=>?_) (λy ch hy e=>?_)
   rotate_left
   .have hm:r.ig∉lK d:=by
     exact js
    rw[tK tR]at hy;subst hy;injection e with e;subst e;refine go ?_;exact zi (e:=160) (.inl rfl) (λh=>(h.qP r lD).ig.elim h3 hm) rfl rfl qn
   have hm:r.ig∈lK d:=by
    by_cases h:r.ig∈lK d
    .exact h
    .exact ga
   rw[y7 hm]at hy;subst hy;injection e with e;subst e;rw[eB];refine go ?_;refine jG (o:=0+k*12+11) (cs:=dV bQ (X.set k ({r with family:=fm,bD:= -1,set:=(kW (iO d) r.names:Int),other:=(kW (iO d) r.others:Int)},v3,v4))) (cs':=dV bQ (X.set k (f2 (r,v3,v4)))) (v:=iV ((jy r.ig (lK d):Nat):Int)) (ES mY (by show _=tJ (wC (iO d) (gI d) (lK d) r) v3 v4;unfold wC;rw[if_neg h3,hfm];rfl) p0) (ET mY p0) ?_;refine go ?_;rw[hfin];refine wB (b:=ig) (f:=fy) (m:=xr.length) bQ (aJ:=jI f2 (k+1) xr) (by rw[AZ]) Yx ?_;exact aY (k+1) p0 ⟨p0,hnext (.inr hm)⟩
  .refine go ?_;rw[show X.set k (({r with family:=fm,bD:= -1,set:=(kW (iO d) r.names:Int),other:=(kW (iO d) r.others:Int)}:dz),v3,v4)=jI f2 (k+1) xr by
    rw[<- hfin];congr 1;show _=(wC (iO d) (gI d) (lK d) r,v3,v4)
    unfold wC;rw[if_pos h3,hfm];rfl]
   refine wB (b:=ig) (f:=fy) (m:=xr.length) bQ (aJ:=jI f2 (k+1) xr) (by rw[AZ]) Yx ?_;exact aY (k+1) p0 ⟨p0,hnext (.inl h3)⟩
 have hkl:k=xr.length:=p0
 subst hkl;rw[eH]at hall;rw[Xp];refine KG (E:=eX) (v:=.slice a1 xc.length xc.length) (aJ:=xc.map f1) ?_ (λw h p hp f hf=>by cases hf);refine KG (E:=bQ) (v:=.slice a2 xr.length xr.length) (aJ:=xr.map f2) ?_ (λw h p hp f hf=>by
  obtain⟨q,hq,rfl⟩:=cZ.1 hp;exact h (yZ bQ xr) (dO _ (dO _ (dP ..))) q hq f hf)
 refine go ?_;refine Yv (e:=0) ⟨true,0,.slice a1 xc.length xc.length,.slice a2 xr.length xr.length⟩ rfl rL rfl rfl ⟨λ_=>⟨rfl,⟨p0,hsn,hfn,hcn,hcon,hrn,λr hr=>?_⟩⟩,λh=>by cases h⟩ (λw h f hf=>?_) rfl rfl qn
 .rw[<- nO]at hr;obtain⟨p,hp,rfl⟩:=cZ.1 hr;exact hall p hp
 .have ec:(xc.map f1).map (·.1)=(Kd.dJ d).bY:=by
   show _=d.bY.map (ED (gI d));rw[<- xH,qB,qB];rfl
  have er:(xr.map f2).map (·.1)=(Kd.dJ d).rules:=by
   show _=d.rules.map (wC (iO d) (gI d) (lK d));rw[<- nO,qB,qB];rfl
  rw[ec,er]at h;have hf:f∈[aA eX (.slice a1 xc.length xc.length) (Kd.dJ d).bY,aA bQ (.slice a2 xr.length xr.length) (Kd.dJ d).rules]:=hf;rcases bN.1 hf with rfl|hf
  .exact h _ qe
  .rw[bF.1 hf];exact h _ qe
end Go.Proofs.YtignbinlipkmfaaGreatDoor
namespace Go.Proofs.YtignbinlipkmfaaGreatDoor
open Tryz (prog)
open Go.Ideal Kd
variable{va vb:ah}{xs ys:ae (ae Int)}
def Yy(hal:xs.length<2^63)(hl:∀l∈xs,l.length<2^63):eU prog 184 [va,vb,.func (.func 48) #[] #[]] [aA (az ai) va xs,aA (az ai) vb ys] (.bool (decide (xs=ys))):=by
 refine gB 184 λB w0=>?_;refine aP ?_ ?_<;>intro h1
 .exact c7
 have hlen:xs.length=ys.length:=p0
 refine gN xs.length 17 (λk=>k<=xs.length/\∀j,j<k->xs[j]? =ys[j]?) ⟨p0,λj hj=>by omega⟩ ?_;rintro k ⟨hkx,hsame⟩;refine aP ?_ ?_<;>intro h2
 .refine gX (az ai) λ_ _ x (vx:ah) hx=>?_;refine gX (az ai) λ_ _ y (vy:ah) hy=>?_;refine gC (uY (xs:=x) (ys:=y) (hl x (aV hx))) λ_ _=>?_;refine go ?_;refine sZ rfl (λh3=>?_) (λh3=>?_)
  .exact cI
  exact cA
 exact ck
def Yz(hal:xs.length<2^63)(hl:∀l∈xs,l.length<2^63):eU prog 102 [va,vb] [aA (az ai) va xs,aA (az ai) vb ys] (.bool (decide (xs=ys))):=by
 refine gB 102 λB w0=>?_;refine gC (Yy (xs:=xs) (ys:=ys) hal hl) λ_ _=>?_;exact fH
def ako{xs ys:ae (ae (ae Int))}(hal:xs.length<2^63)(hl:∀l∈xs,l.length<2^63/\∀m∈l,m.length<2^63):eU prog 103 [va,vb,.func (.func 102) #[] #[]] [aA (az (az ai)) va xs,aA (az (az ai)) vb ys] (.bool (decide (xs=ys))):=by
 refine gB 103 λB w0=>?_;refine aP ?_ ?_<;>intro h1
 .exact c7
 have hlen:xs.length=ys.length:=p0
 refine gN xs.length 17 (λk=>k<=xs.length/\∀j,j<k->xs[j]? =ys[j]?) ⟨p0,λj hj=>by omega⟩ ?_;rintro k ⟨hkx,hsame⟩;refine aP ?_ ?_<;>intro h2
 .refine gX (az (az ai)) λ_ _ x (vx:ah) hx=>?_;refine gX (az (az ai)) λ_ _ y (vy:ah) hy=>?_;refine gC (Yz (xs:=x) (ys:=y) (hl x (aV hx)).1 (hl x (aV hx)).2) λ_ _=>?_;refine go ?_;refine sZ rfl (λh3=>?_) (λh3=>?_)
  .exact cI
  exact cA
 exact ck
def YA{xs ys:ae ByteArray}(hal:xs.length<2^63):eU prog 186 [va,vb] [aA dF va xs,aA dF vb ys] (.bool (decide (xs=ys))):=by
 refine gB 186 λB w0=>?_;refine aP ?_ ?_<;>intro h1
 .exact c7
 have hlen:xs.length=ys.length:=p0
 refine gN xs.length 13 (λk=>k<=xs.length/\∀j,j<k->xs[j]? =ys[j]?) ⟨p0,λj hj=>by omega⟩ ?_;rintro k ⟨hkx,hsame⟩;refine aP ?_ ?_<;>intro h2
 .refine gX dF λ_ _ x (_:Unit) hx=>?_;refine gX dF λ_ _ y (_:Unit) hy=>?_;refine go ?_;refine sZ (p:=x=y) we (λh3=>?_) (λh3=>?_)
  .exact cI
  exact cA
 exact ck
def akp(x y:mP):cellsE [.string x.name,iV x.value] [.string y.name,iV y.value]=decide (x=y):=by
 obtain⟨a,b⟩:=x;obtain⟨c,e⟩:=y;show(decide (a=c)&&(decide (b=e)&&true))=_;rw[Bool.and_true,<- Bool.decide_and];exact sP.2 ⟨λh=>by rw[h.1,h.2],λh=>by cases h;exact⟨rfl,rfl⟩⟩
abbrev QH(x:iR):ae ah:=[.string x.name,.string x.on,iV x.family,iV x.type,iV x.lo,iV x.hi]
def akq(x y:iR):cellsE (QH x) (QH y)=decide (x=y):=by
 obtain⟨a1,a2,a3,a4,a5,a6⟩:=x;obtain⟨b1,b2,b3,b4,b5,b6⟩:=y;show(decide (a1=b1)&&(decide (a2=b2)&&(decide (a3=b3)&&(decide (a4=b4)&&(decide (a5=b5)&&(decide (a6=b6)&&true))))))=_;rw[Bool.and_true];simp only[<- Bool.decide_and];exact sP.2 ⟨λh=>by rw[h.1,h.2.1,h.2.2.1,h.2.2.2.1,h.2.2.2.2.1,h.2.2.2.2.2],λh=>by cases h;exact⟨rfl,rfl,rfl,rfl,rfl,rfl⟩⟩
def akr:∃fs:Array Field,prog.underlying 158=some (.struct fs)/\Ex prog fs.toList 0 [false,true]=true:=by
 refine⟨prog.fieldsOf 158,qk,qk⟩
def aks:∃fs:Array Field,prog.underlying 173=some (.struct fs)/\Ex prog fs.toList 0 [false,false,true,true,true,true]=true:=by
 refine⟨prog.fieldsOf 173,qk,qk⟩
def akt{xs ys:ae mP}(hal:xs.length<2^63):eU prog 187 [va,vb] [aA jH va xs,aA jH vb ys] (.bool (decide (xs=ys))):=by
 obtain⟨fs,hu,hrow⟩:=akr;refine gB 187 λB w0=>?_;refine aP ?_ ?_<;>intro h1
 .exact c7
 have hlen:xs.length=ys.length:=p0
 refine gN xs.length 13 (λk=>k<=xs.length/\∀j,j<k->xs[j]? =ys[j]?) ⟨p0,λj hj=>by omega⟩ ?_;rintro k ⟨hkx,hsame⟩;refine aP ?_ ?_<;>intro h2
 .refine gX jH λ_ _ x (_:Unit) hx=>?_;refine gX jH λ_ _ y (_:Unit) hy=>?_;refine go ?_;refine(bV (v:=.bool (!decide (x=y))) rfl rfl (by rw[<- akp];exact Wq rfl rfl hu qk qk (row_of hrow rfl rfl (λj=>by rw[eB]) (λj=>by rw[eB])) tS tS)).h ?_;refine go ?_;refine sZ rfl (λh3=>?_) (λh3=>?_)
  .exact cI
  exact cA
 exact ck
def aku{xs ys:ae iR}(hal:xs.length<2^63):eU prog 189 [va,vb] [aA eX va xs,aA eX vb ys] (.bool (decide (xs=ys))):=by
 obtain⟨fs,hu,hrow⟩:=aks;refine gB 189 λB w0=>?_;refine aP ?_ ?_<;>intro h1
 .exact c7
 have hlen:xs.length=ys.length:=p0
 refine gN xs.length 13 (λk=>k<=xs.length/\∀j,j<k->xs[j]? =ys[j]?) ⟨p0,λj hj=>by omega⟩ ?_;rintro k ⟨hkx,hsame⟩;refine aP ?_ ?_<;>intro h2
 .refine gX eX λ_ _ x (_:Unit) hx=>?_;refine gX eX λ_ _ y (_:Unit) hy=>?_;refine go ?_;refine(bV (v:=.bool (!decide (x=y))) rfl rfl (by rw[<- akq];exact Wq rfl rfl hu qk qk (row_of hrow rfl rfl (λj=>by rw[eB]) (λj=>by rw[eB])) tS tS)).h ?_;refine go ?_;refine sZ rfl (λh3=>?_) (λh3=>?_)
  .exact cI
  exact cA
 exact ck
end Go.Proofs.YtignbinlipkmfaaGreatDoor
namespace Go.Proofs.YtignbinlipkmfaaGreatDoor
open Tryz (prog)
open Go.Ideal Kd
def akv{x y:pQ}{vx vy:ah}(hl:x.lists.length<2^63)(hll:∀l∈x.lists,l.length<2^63):eU prog 183 [.agg ⟨[.string x.name,vx]⟩,.agg ⟨[.string y.name,vy]⟩] [aA (az ai) vx x.lists,aA (az ai) vy y.lists] (.bool (decide (x=y))):=by
 obtain⟨n1,l1⟩:=x;obtain⟨n2,l2⟩:=y;dsimp only at hl hll⊢;refine gB 183 λB w0=>?_;refine go ?_;intro b2 b3;refine gH ?_ ?_<;>intro h1
 .rw[sD]at h1;refine bT ?_;rw[di (λe=>vH h1 rp)];rfl
 rw[sD]at h1;have h1:=jT h1;refine gC (Yy (xs:=l1) (ys:=l2) hl hll) λ_ _=>?_;refine bT ?_;rw[show decide (pQ.mk n1 l1=pQ.mk n2 l2)=decide (l1=l2)from sP.2 ⟨λh=>by cases h;rfl,λh=>by rw[h1,h]⟩];rfl
variable{u1 u2:ah}
def akw{x y:dz}{v1 v2:ah}(hl:x.names.length<2^63)(hll:x.others.length<2^63):eU prog 185 [.agg ⟨tJ x v1 v2⟩,.agg ⟨tJ y u1 u2⟩] [aA dF v1 x.names,aA dF v2 x.others,aA dF u1 y.names,aA dF u2 y.others] (.bool (decide (x=y))):=by
 obtain⟨n1,o1,k1,f1,YB,os1,s1,t1,p1,m1,y1,c1⟩:=x;obtain⟨n2,o2,k2,f2,YC,os2,s2,t2,p2,m2,y2,c2⟩:=y;dsimp only[tJ]at hl hll⊢;refine gB 185 λB w0=>?_;refine go ?_;intro b2 b3;refine gC (YA (xs:=YB) (ys:=YC) hl) λ_ _=>?_;refine gH ?_ ?_<;>intro h1
 .refine bT ?_;rw[di (λe=>h1 rp)];rfl
 refine gC (YA (xs:=os1) (ys:=os2) hll) λ_ _=>?_;refine gH ?_ ?_<;>intro h2
 .refine bT ?_;rw[di (λe=>h2 rp)];rfl
 refine gH ?_ ?_<;>intro h3
 .rw[sD]at h3;refine bT ?_;rw[di (λe=>vH h3 rp)];rfl
 rw[sD]at h3;have h3:=jT h3;refine gH ?_ ?_<;>intro h4
 .rw[sD]at h4;refine bT ?_;rw[di (λe=>vH h4 rp)];rfl
 rw[sD]at h4;have h4:=jT h4;refine gH ?_ ?_<;>intro h5
 .rw[sD]at h5;refine bT ?_;rw[di (λe=>vH h5 rp)];rfl
 rw[sD]at h5;have h5:=jT h5;refine go ?_;refine(bV (v:=.bool (decide ([k1,f1,s1,t1,p1,m1,c1]=[k2,f2,s2,t2,p2,m2,c2]))) rfl rfl (aho (n:=7) (e:=3) rfl rfl qk qk qk rfl rfl qk)).h ?_;refine bT ?_;rw[show decide (dz.mk n1 o1 k1 f1 YB os1 s1 t1 p1 m1 y1 c1=dz.mk n2 o2 k2 f2 YC os2 s2 t2 p2 m2 y2 c2)=decide ([k1,f1,s1,t1,p1,m1,c1]=[k2,f2,s2,t2,p2,m2,c2])from sP.2 ⟨λh=>by cases h;rfl,λh=>by cases h;rw[h1,h2,h3,h4,h5]⟩];rfl
variable{va vb:ah}
def akx{xs ys:ae pQ}(hal:xs.length<2^63)(hl:∀r∈xs,r.lists.length<2^63/\∀l∈r.lists,l.length<2^63):eU prog 188 [va,vb,.func (.func 183) #[] #[]] [aA kz va xs,aA kz vb ys] (.bool (decide (xs=ys))):=by
 refine gB 188 λB w0=>?_;refine aP ?_ ?_<;>intro h1
 .exact c7
 have hlen:xs.length=ys.length:=p0
 refine gN xs.length 17 (λk=>k<=xs.length/\∀j,j<k->xs[j]? =ys[j]?) ⟨p0,λj hj=>by omega⟩ ?_;rintro k ⟨hkx,hsame⟩;refine aP ?_ ?_<;>intro h2
 .refine gX kz λ_ _ x (vx:ah) hx=>?_;refine go ?_;intro b8;refine gX kz λ_ _ y (vy:ah) hy=>?_;refine go ?_;intro b9;refine gC (akv (x:=x) (y:=y) (vx:=vx) (vy:=vy) (hl x (aV hx)).1 (hl x (aV hx)).2) λ_ _=>?_;refine go ?_;refine sZ rfl (λh3=>?_) (λh3=>?_)
  .exact cI
  exact cA
 exact ck
def aky{xs ys:ae dz}(hal:xs.length<2^63)(hl:∀r∈xs,r.names.length<2^63/\r.others.length<2^63):eU prog 190 [va,vb,.func (.func 185) #[] #[]] [aA bQ va xs,aA bQ vb ys] (.bool (decide (xs=ys))):=by
 refine gB 190 λB w0=>?_;refine aP ?_ ?_<;>intro h1
 .exact c7
 have hlen:xs.length=ys.length:=p0
 refine gN xs.length 17 (λk=>k<=xs.length/\∀j,j<k->xs[j]? =ys[j]?) ⟨p0,λj hj=>by omega⟩ ?_;rintro k ⟨hkx,hsame⟩;refine aP ?_ ?_<;>intro h2
 .refine gX bQ λ_ _ x (vx:ah×ah) hx=>?_;refine go ?_;intro b8;refine gX bQ λ_ _ y (vy:ah×ah) hy=>?_;refine go ?_;intro b9;refine gC (akw (x:=x) (y:=y) (v1:=vx.1) (v2:=vx.2) (u1:=vy.1) (u2:=vy.2) (hl x (aV hx)).1 (hl x (aV hx)).2) λ_ _=>?_;refine go ?_;refine sZ rfl (λh3=>?_) (λh3=>?_)
  .exact cI
  exact cA
 exact ck
def YD{x y:dA}{h1 s1 r1 c1 h2 s2 r2 c2:ah}(hS:sF x):eU prog 101 [.agg ⟨mQ x h1 s1 r1 c1 u1⟩,.agg ⟨mQ y h2 s2 r2 c2 u2⟩] (rY x h1 s1 r1 c1 u1++rY y h2 s2 r2 c2 u2) (.bool (decide (x=y))):=by
 have e1:=hS.dZ;have e2:=hS.regs;have e3:=hS.mR;have e4:=hS.pV;have e5:=hS.zg;have e6:=hS.holes;have e7:=hS.zh;clear hS;obtain⟨n1,v1,p1,w1,g1,ho1,YE,YF,YG,QI⟩:=x;obtain⟨n2,v2,p2,w2,g2,ho2,YH,YI,YJ,QJ⟩:=y;dsimp only at e1 e2 e3 e4 e5 e6 e7;dsimp only[mQ,rY,List.cons_append,List.nil_append];refine gB 101 λB w0=>?_;refine go ?_;intro b2 b3;refine gH ?_ ?_<;>intro k1
 .rw[sD]at k1;refine bT ?_;rw[di (λe=>vH k1 rp)];rfl
 rw[sD]at k1;have k1:=jT k1;refine gH ?_ ?_<;>intro k2
 .exact pN
 refine gH ?_ ?_<;>intro k3
 .exact pL
 refine gH ?_ ?_<;>intro k4
 .exact pH
 refine gH ?_ ?_<;>intro k5
 .exact pD
 refine gC (uY (xs:=ho1) (ys:=ho2) e6) λ_ _=>?_;refine gH ?_ ?_<;>intro k6
 .exact pC
 refine gC (akt (xs:=YE) (ys:=YH) p0) λ_ _=>?_;refine gH ?_ ?_<;>intro k7
 .exact pB
 refine gC (akx (xs:=YF) (ys:=YI) p0 e7) λ_ _=>?_;refine gH ?_ ?_<;>intro k8
 .refine bT ?_;rw[di (λe=>k8 rp)];rfl
 refine gC (aku (xs:=YG) (ys:=YJ) p0) λ_ _=>?_;refine gH ?_ ?_<;>intro k9
 .refine bT ?_;rw[di (λe=>k9 rp)];rfl
 refine gC (aky (xs:=QI) (ys:=QJ) p0 e5) λ_ _=>?_;refine bT ?_;rw[show decide (dA.mk n1 v1 p1 w1 g1 ho1 YE YF YG QI=dA.mk n2 v2 p2 w2 g2 ho2 YH YI YJ QJ)=decide (QI=QJ)from sP.2 ⟨λh=>by cases h;rfl,λh=>by rw[k1,k2,k3,k4,k5,k6,k7,k8,k9,h]⟩];rfl
