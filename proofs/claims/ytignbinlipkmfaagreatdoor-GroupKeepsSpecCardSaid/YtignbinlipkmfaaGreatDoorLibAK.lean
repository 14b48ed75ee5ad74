/- Part. -/
import Derived.Test.YtignbinlipkmfaaGreatDoorProg
import Derived.Test.YtignbinlipkmfaaGreatDoorPlainAK
import Derived.Laws.Strings
set_option linter.all false
set_option maxRecDepth 10000
set_option maxHeartbeats 4000000
namespace Go.Proofs.YtignbinlipkmfaaGreatDoor
open Tryz (prog)
open Go.Ideal
noncomputable def Xa:=oQ prog 312
def ah4:lD prog 312=some Xa:=tv
noncomputable def Xb:=oQ prog 280
def ah5:lD prog 280=some Xb:=tv
structure Xc(grid:List Int):Prop where
 len:grid.length<=1000000
 xL:∀x∈grid,0<=x/\x<16
structure Xd(grid cells:List Int):Prop where
 len:cells.length<=1000000
 cell:∀c∈cells,0<=c/\c<grid.length
def sy(grid:ae Int)(c:Int):Nat:=(grid.getD c.toNat 0).toNat
def cnt(grid:ae Int)(set:Nat)(cells:ae Int):Nat:=(cells.filter λc=>set.testBit (sy grid c)).length
def take_one{α:Type}{xs:ae α}{k:Nat}{x:α}(h:xs[k]? =some x):xs.take (k+1)=xs.take k++[x]:=by
 rw[oN,h];rfl
structure Xe(values grid:List Int):Prop where
 val:∀v∈values,0<=v/\v<=99
 xL:∀x∈grid,x<values.length
def va(values grid:ae Int)(c:Int):Int:=values.getD (sy grid c) 0
def met(grid cells:ae Int):Nat:=cells.foldl (λm c=>m|||1<<<sy grid c) 0
noncomputable def Xf:=oQ prog 48
def ah6:lD prog 48=some Xf:=tv
def rn(grid:ae Int)(set:Nat):Nat->ae Int->ae Int
 |n,[]=>if 0<n then[(n:Int)]else[]
 |n,c::cs=>if set.testBit (sy grid c)then rn grid set (n+1) cs else if 0<n then(n:Int)::rn grid set 0 cs else rn grid set 0 cs
abbrev ah7{α:Type}(E:Enc α)(b:Nat)(ys:ae α):OA:=JP λv:ah=>[pt b (.cells [v]),ap E v ys]
def uY{va vb:ah}{xs ys:ae Int}(hal:xs.length<2^63):dL prog 48 [va,vb] [aj ai va xs,aj ai vb ys] (.bool (decide (xs=ys))):=by
 refine jH Xf ah6 λB w0=>?_;refine aB ?_ ?_<;>intro h1
 .exact dg
 have hlen:xs.length=ys.length:=tr
 refine gN xs.length 13 (λk=>k<=xs.length/\∀j,j<k->xs[j]? =ys[j]?) ⟨tr,λj hj=>by omega⟩ ?_;rintro k ⟨hkx,hsame⟩;refine aB ?_ ?_<;>intro h2
 .refine go ?_;intro _ _ x hx _ _ y hy;refine jC rfl ?_ ?_<;>intro h3
  .exact cP
  refine go ?_;refine aQ (k+1) tr ⟨tr,λj hj=>?_⟩;by_cases e:j=k
  .subst e;rw[hx,hy,iD.1 h3]
  .exact hsame j tr
 exact cq
variable{va:ah}{xs:ae Int}{z:Int}
def ah8(hl:xs.length<2^63):
 fC prog 268 [va,iV z] [aj ai va xs] (λr:Int=>iV r) (λr=>(0<=r↔z∈xs)):=by
 refine gB 268 λB w0=>?_;refine gN xs.length 8 (λk=>k<=xs.length/\z∉xs.take k) ⟨tr,tt⟩ ?_;rintro k ⟨hk,hno⟩;refine aB ?_ ?_<;>intro h1
 .refine go ?_;intro _ _ x hx;refine jC rfl ?_ ?_<;>intro h2
  .refine go ?_;refine gQ (k:Int) ?_;subst h2;simp[aS hx]
  .refine go ?_;refine aQ (k+1) tr ⟨tr,?_⟩;rw[take_one hx,dY,not_or];exact⟨hno,wj⟩
 refine go ?_;have:k=xs.length:=tr
 subst this;rw[bM]at hno;refine gQ (-1) ?_;simp[hno]
def ah9(hl:xs.length<2^63):dL prog 201 [va,iV z] [aj ai va xs] (.bool (decide (z∈xs))):=by
 refine gB 201 λB w0=>?_;refine gC (ah8 hl) λr hr=>?_;refine aM ?_;rw[<- pJ.2 hr];rfl
structure lF(g:List (List Int)):Prop where
 len:g.length<=256
 ok:∀(i:Nat) l,g[i]? =some l->∀(k:Nat) n,l[k]? =some n->0<=n/\n<g.length/\n≠i/\(∀m,0<k->l[k - 1]? =some m->m<n)/\∀l',g[n.toNat]? =some l'->(i:Int)∈l'
end Go.Proofs.YtignbinlipkmfaaGreatDoor
namespace Go.Proofs.YtignbinlipkmfaaGreatDoor
open Tryz (prog)
open Go.Ideal
open Go.Ideal Gph
def lF.rg{g:ae (ae Int)}(h:lF g):∀l∈g,∀n∈l,Rg g n:=λl hl n hn=>by
 obtain⟨i,hi⟩:=jM hl;obtain⟨k,hk⟩:=jM hn;have:=h.ok i l hi k n hk;exact⟨this.1,this.2.1⟩
structure aoO where
 a:Option Addr
 n:Nat
 e:Int
structure aia(c:Gp):Prop where
 cells:c.cells.length<2^63
 runs:c.runs.length<2^63
def Fin(cells symbols:Int)(grid:ae Int):Prop:=(grid.length:Int)=cells/\∀s∈grid,0<=s/\s<symbols
structure aoP(q:Pf):Prop where
 cells:1<=q.cells/\q.cells<=256
 symbols:1<=q.symbols/\q.symbols<=16
 aoQ:(q.values.length:Int)=q.symbols
 vals:∀v∈q.values,0<=v/\v<=99
 Ap:(q.aK.length:Int)=q.cells
 aoR:lF q.aK
 many:q.cons.length<=4096
 fine:∀c∈q.cons,Pg q.cells q.symbols c
structure aoS(q:Pf):Prop where
 values:q.values.length<2^63
 aK:∀l∈q.aK,l.length<2^63
 cons:q.cons.length<2^63
 con:∀c∈q.cons,aia c
structure aoU(q:Pf)(c:Gp)(grid:List Int):Prop where
 gr:Xc grid
 ce:Xd grid c.cells
 vs:Xe q.values grid
 st:0<=c.set/\c.set<65537
 ot:0<=c.other/\c.other<65537
open Go.Ideal Kd
noncomputable def Xg:iF:=⟨2,[(.tmp 0)],(.seq (kO [kS 0 (.om (.const vS))]) (.seq (kO [⟨⟨(some 1),none,(.yc 9 8 [vE,vE,vE,vE,vE,vE,vE,vE] [⟨0,⟨1,(.const (.string ⟨⟨[99,101,108,108,115]⟩⟩))⟩⟩,⟨1,⟨1,(.const (.string ⟨⟨[114,111,119,115]⟩⟩))⟩⟩,⟨2,⟨1,(.const (.string ⟨⟨[99,111,108,117,109,110,115]⟩⟩))⟩⟩,⟨3,⟨1,(.const (.string ⟨⟨[100,105,97,103,111,110,97,108,115]⟩⟩))⟩⟩,⟨4,⟨1,(.const (.string ⟨⟨[97,114,111,117,110,100]⟩⟩))⟩⟩,⟨5,⟨1,(.const (.string ⟨⟨[110,101,97,114]⟩⟩))⟩⟩,⟨6,⟨1,(.const (.string ⟨⟨[112,97,105,114,115]⟩⟩))⟩⟩,⟨7,⟨1,(.const (.string ⟨⟨[97,108,108]⟩⟩))⟩⟩])⟩,[]⟩,kS 0 (.om 1)]) .ret))⟩
def aib:lD prog 152=some Xg:=tv
abbrev gJ:ByteArray->ah:=λs=>.string s
def wL:tJ prog 9 gJ:=afV tv
abbrev uZ(e:Int):ae PanicEntry:=[{v:=.iface 37 (iV e),recovered:=false}]
def Xh{x:nu}:dL prog 148 [.agg ⟨[.string x.name,iV x.value]⟩] [] (.string x.name):=by
 refine gB 148 λB w0=>?_;refine go ?_;intro b;exact fH
def Xi{x:nR}{v:ah}:dL prog 150 [.agg ⟨[.string x.name,v]⟩] [] (.string x.name):=by
 refine gB 150 λB w0=>?_;refine go ?_;intro b;exact fH
def Xj{x:jo}:dL prog 155 [.agg ⟨[.string x.name,.string x.on,iV x.family,iV x.type,iV x.lo,iV x.hi]⟩] [] (.string x.name):=by
 refine gB 155 λB w0=>?_;refine go ?_;intro b;exact fH
def Xk{x:bE}{v1 v2:ah}:dL prog 159 [.agg ⟨kL x v1 v2⟩] [] (.string x.name):=by
 refine gB 159 λB w0=>?_;refine go ?_;intro b;exact fH
def Xl{s:ByteArray}:dL prog 153 [.string s] [] (.string s):=by
 refine gB 153 λB w0=>?_;exact fH
def GH{P:Program}{B:ae Nat}{w0:Wd}{kl kl':ae OA}{F:ae aP}{K:KO}{ds:ae Tmp}{rest:ae bY}{n:Nat}{l:qr}{D:ae Deferred}{pm:ak FrameMode}{ro:ak Nat}{d:Nat}{g:ak (Tmp×Bool)}
 {α:Type} [DecidableEq α] {bq:α->ah} {kt:aC} {zero:ah} {m k:ay} {b:Nat} {az:ae (α×ah)} (hk:tJ P kt bq) (a:α)
 (hit:∀v,dK a az=some v->a∈az.map (·.1)->R (λh=>aJ P ds rest (act n ((d,.tuple ⟨[v,.bool true]⟩)::l) D pm ro) h K) B w0 kl F)
 (miss:a∉az.map (·.1)->R (λh=>aJ P ds rest (act n ((d,.tuple ⟨[zero,.bool false]⟩)::l) D pm ro) h K) B w0 kl F)
 (hm:ev l m=.map (some b):=by rfl) (ha:ev l k=bq a:=by conv=>lhs;whnf) (hs:aD (iG bq b az) kl kl':=by exact fB) (hn:Nat.blt d n=true:=by rfl) (hg:cO l g=true:=by rfl):
 R (λh=>aJ P ds (⟨⟨some d,g,.lookup kt zero m k true⟩,[]⟩::rest) (act n l D pm ro) h K) B w0 kl F:=by
 refine Ga (ok:=true) hk a ?_ hm ha hs hn hg;by_cases h:a∈az.map (·.1)
 .exact kp
 .exact mj
variable{az:ae (ByteArray×ah)}{start:Nat}
def qO{α:Type}{xs:ae α}{nm:α->ByteArray}{k:Nat}{x:α}(hx:xs[k]? =some x):
 (az++fJ ((xs.take k).map nm) start).map (·.1)=az.map (·.1)++(xs.take k).map nm/\fJ ((xs.take (k+1)).map nm) start=fJ ((xs.take k).map nm) start++[(nm x,iV ((start:Int)+(k:Int)))]:=by
 have hk:=(bC.1 hx).1;refine⟨by rw[fG,uW],?_⟩;rw[oN,hx,fG,Ph];congr 1;rw[bZ,iY,EF tr];simp[fJ]
variable{b:Nat}{vs:ah}
def aic{xs:ae ByteArray}(hl:xs.length<=4096)(hs:start<=4096)(hnd:(az.map (·.1)).Nodup):
 rV prog (.func 151) [vs,iV (start:Int),.func (.func 153) #[] #[],.map (some b)] [] [iG gJ b az] [aj aV vs xs] (λy:Bool×ae ByteArray=>if y.1=true then .ok (.map (some b))else .fU (uZ 161))
  (λy=>[iG gJ b (az++fJ y.2 start)]) (λ_=>[]) (λy=>(y.1=true->y.2=xs/\(az.map (·.1)++xs).Nodup)/\(y.1=false->¬(az.map (·.1)++xs).Nodup)):=by
 let nm:ByteArray->ByteArray:=λs=>s
 have hmap:∀l:ae ByteArray,l.map nm=l:=λl=>List.map_id' l;suffices h:rV prog (.func 151) [vs,iV (start:Int),.func (.func 153) #[] #[],.map (some b)] [] [iG gJ b az] [aj aV vs xs] (λy:Bool×ae ByteArray=>if y.1=true then .ok (.map (some b))else .fU (uZ 161))
  (λy=>[iG gJ b (az++fJ y.2 start)]) (λ_=>[]) (λy=>(y.1=true->y.2=(xs.map nm)/\(az.map (·.1)++xs.map nm).Nodup)/\(y.1=false->¬(az.map (·.1)++xs.map nm).Nodup))by
  rw[hmap]at h;exact h
 refine Aa _ (vR 151) λB w0=>?_;refine go ?_;rw[show iG gJ b az=iG gJ b (az++fJ ((xs.take 0).map nm) start)by simp[fJ]];refine dX (λk=>xs.length - k) (λk:Nat=>[(15,iV (k:Int))]) (λk=>[iG gJ b (az++fJ ((xs.take k).map nm) start)]) (λ_=>[]) (λk=>k<=xs.length/\(az.map (·.1)++(xs.take k).map nm).Nodup) 0 ⟨bP _,xo⟩ (body:=?_);rintro k ⟨hk,hall⟩;refine aB ?_ ?_<;>intro h1
 .refine gX aV λ_ _ x (y:Unit) hx=>?_;refine gC (Xl (s:=x)) λ_ _=>?_;refine go ?_;refine GH wL (nm x) (λv hv hm=>?_) (λhm=>?_)
  .exact be
  refine gC (Xl (s:=x)) λ_ _=>?_;refine go ?_;refine yQ wL (nm x) (az:=az++fJ ((xs.take k).map nm) start) (v:=iV ((start:Int)+(k:Int))) ?_;have hm2:=hm;rw[(qO hx).1]at hm2;rw[DU hm,gz,<- (qO (az:=az) hx).2];refine go ?_;refine aQ (k+1) tr ⟨tr,?_⟩;rw[oN,hx,fG,<- gz,iT];refine⟨hall,tt,λa ha c hc=>?_⟩;have:c=nm x:=xp
  exact jx
 have hkl:k=xs.length:=tr
 subst hkl;rw[bM]at hall;rw[bM];refine go ?_;exact BH (true,xs.map nm) (hv:=rfl) (hp:=⟨λ_=>⟨rfl,hall⟩,λh=>by cases h⟩)
def aid{xs:ae nu}(hl:xs.length<=4096)(hs:start<=4096)(hnd:(az.map (·.1)).Nodup):
 rV prog (.func 147) [vs,iV (start:Int),.func (.func 148) #[] #[],.map (some b)] [] [iG gJ b az] [aj eT vs xs] (λy:Bool×ae ByteArray=>if y.1=true then .ok (.map (some b))else .fU (uZ 161))
  (λy=>[iG gJ b (az++fJ y.2 start)]) (λ_=>[]) (λy=>(y.1=true->y.2=(xs.map nu.name)/\(az.map (·.1)++xs.map nu.name).Nodup)/\(y.1=false->¬(az.map (·.1)++xs.map nu.name).Nodup)):=by
 let nm:nu->ByteArray:=nu.name
 refine Aa _ (vR 147) λB w0=>?_;refine go ?_;rw[show iG gJ b az=iG gJ b (az++fJ ((xs.take 0).map nm) start)by simp[fJ]];refine dX (λk=>xs.length - k) (λk:Nat=>[(15,iV (k:Int))]) (λk=>[iG gJ b (az++fJ ((xs.take k).map nm) start)]) (λ_=>[]) (λk=>k<=xs.length/\(az.map (·.1)++(xs.take k).map nm).Nodup) 0 ⟨bP _,xo⟩ (body:=?_);rintro k ⟨hk,hall⟩;refine aB ?_ ?_<;>intro h1
 .refine gX eT λ_ _ x y hx=>?_;refine go ?_;intro b10;refine gC (Xh (x:=x)) λ_ _=>?_;refine go ?_;refine GH wL (nm x) (λv hv hm=>?_) (λhm=>?_)
  .exact be
  refine gC (Xh (x:=x)) λ_ _=>?_;refine go ?_;refine yQ wL (nm x) (az:=az++fJ ((xs.take k).map nm) start) (v:=iV ((start:Int)+(k:Int))) ?_;have hm2:=hm;rw[(qO hx).1]at hm2;rw[DU hm,gz,<- (qO (az:=az) hx).2];refine go ?_;refine aQ (k+1) tr ⟨tr,?_⟩;rw[oN,hx,fG,<- gz,iT];refine⟨hall,tt,λa ha c hc=>?_⟩;have:c=nm x:=xp
  exact jx
 have hkl:k=xs.length:=tr
 subst hkl;rw[bM]at hall;rw[bM];refine go ?_;exact BH (true,xs.map nm) (hv:=rfl) (hp:=⟨λ_=>⟨rfl,hall⟩,λh=>by cases h⟩)
def aie{xs:ae nR}(hl:xs.length<=4096)(hs:start<=4096)(hnd:(az.map (·.1)).Nodup):
 rV prog (.func 149) [vs,iV (start:Int),.func (.func 150) #[] #[],.map (some b)] [] [iG gJ b az] [aj fw vs xs] (λy:Bool×ae ByteArray=>if y.1=true then .ok (.map (some b))else .fU (uZ 161))
  (λy=>[iG gJ b (az++fJ y.2 start)]) (λ_=>[]) (λy=>(y.1=true->y.2=(xs.map nR.name)/\(az.map (·.1)++xs.map nR.name).Nodup)/\(y.1=false->¬(az.map (·.1)++xs.map nR.name).Nodup)):=by
 let nm:nR->ByteArray:=nR.name
 refine Aa _ (vR 149) λB w0=>?_;refine go ?_;rw[show iG gJ b az=iG gJ b (az++fJ ((xs.take 0).map nm) start)by simp[fJ]];refine dX (λk=>xs.length - k) (λk:Nat=>[(15,iV (k:Int))]) (λk=>[iG gJ b (az++fJ ((xs.take k).map nm) start)]) (λ_=>[]) (λk=>k<=xs.length/\(az.map (·.1)++(xs.take k).map nm).Nodup) 0 ⟨bP _,xo⟩ (body:=?_);rintro k ⟨hk,hall⟩;refine aB ?_ ?_<;>intro h1
 .refine gX fw λ_ _ x y hx=>?_;refine go ?_;intro b10;refine gC (Xi (x:=x) (v:=y)) λ_ _=>?_;refine go ?_;refine GH wL (nm x) (λv hv hm=>?_) (λhm=>?_)
  .exact be
  refine gC (Xi (x:=x) (v:=y)) λ_ _=>?_;refine go ?_;refine yQ wL (nm x) (az:=az++fJ ((xs.take k).map nm) start) (v:=iV ((start:Int)+(k:Int))) ?_;have hm2:=hm;rw[(qO hx).1]at hm2;rw[DU hm,gz,<- (qO (az:=az) hx).2];refine go ?_;refine aQ (k+1) tr ⟨tr,?_⟩;rw[oN,hx,fG,<- gz,iT];refine⟨hall,tt,λa ha c hc=>?_⟩;have:c=nm x:=xp
  exact jx
 have hkl:k=xs.length:=tr
 subst hkl;rw[bM]at hall;rw[bM];refine go ?_;exact BH (true,xs.map nm) (hv:=rfl) (hp:=⟨λ_=>⟨rfl,hall⟩,λh=>by cases h⟩)
def aif{xs:ae jo}(hl:xs.length<=4096)(hs:start<=4096)(hnd:(az.map (·.1)).Nodup):
 rV prog (.func 154) [vs,iV (start:Int),.func (.func 155) #[] #[],.map (some b)] [] [iG gJ b az] [aj bV vs xs] (λy:Bool×ae ByteArray=>if y.1=true then .ok (.map (some b))else .fU (uZ 161))
  (λy=>[iG gJ b (az++fJ y.2 start)]) (λ_=>[]) (λy=>(y.1=true->y.2=(xs.map jo.name)/\(az.map (·.1)++xs.map jo.name).Nodup)/\(y.1=false->¬(az.map (·.1)++xs.map jo.name).Nodup)):=by
 let nm:jo->ByteArray:=jo.name
 refine Aa _ (vR 154) λB w0=>?_;refine go ?_;rw[show iG gJ b az=iG gJ b (az++fJ ((xs.take 0).map nm) start)by simp[fJ]];refine dX (λk=>xs.length - k) (λk:Nat=>[(15,iV (k:Int))]) (λk=>[iG gJ b (az++fJ ((xs.take k).map nm) start)]) (λ_=>[]) (λk=>k<=xs.length/\(az.map (·.1)++(xs.take k).map nm).Nodup) 0 ⟨bP _,xo⟩ (body:=?_);rintro k ⟨hk,hall⟩;refine aB ?_ ?_<;>intro h1
 .refine gX bV λ_ _ x y hx=>?_;refine go ?_;intro b10;refine gC (Xj (x:=x)) λ_ _=>?_;refine go ?_;refine GH wL (nm x) (λv hv hm=>?_) (λhm=>?_)
  .exact be
  refine gC (Xj (x:=x)) λ_ _=>?_;refine go ?_;refine yQ wL (nm x) (az:=az++fJ ((xs.take k).map nm) start) (v:=iV ((start:Int)+(k:Int))) ?_;have hm2:=hm;rw[(qO hx).1]at hm2;rw[DU hm,gz,<- (qO (az:=az) hx).2];refine go ?_;refine aQ (k+1) tr ⟨tr,?_⟩;rw[oN,hx,fG,<- gz,iT];refine⟨hall,tt,λa ha c hc=>?_⟩;have:c=nm x:=xp
  exact jx
 have hkl:k=xs.length:=tr
 subst hkl;rw[bM]at hall;rw[bM];refine go ?_;exact BH (true,xs.map nm) (hv:=rfl) (hp:=⟨λ_=>⟨rfl,hall⟩,λh=>by cases h⟩)
def aih{xs:ae bE}(hl:xs.length<=4096)(hs:start<=4096)(hnd:(az.map (·.1)).Nodup):
 rV prog (.func 158) [vs,iV (start:Int),.func (.func 159) #[] #[],.map (some b)] [] [iG gJ b az] [aj bz vs xs] (λy:Bool×ae ByteArray=>if y.1=true then .ok (.map (some b))else .fU (uZ 161))
  (λy=>[iG gJ b (az++fJ y.2 start)]) (λ_=>[]) (λy=>(y.1=true->y.2=(xs.map bE.name)/\(az.map (·.1)++xs.map bE.name).Nodup)/\(y.1=false->¬(az.map (·.1)++xs.map bE.name).Nodup)):=by
 let nm:bE->ByteArray:=bE.name
 refine Aa _ (vR 158) λB w0=>?_;refine go ?_;rw[show iG gJ b az=iG gJ b (az++fJ ((xs.take 0).map nm) start)by simp[fJ]];refine dX (λk=>xs.length - k) (λk:Nat=>[(15,iV (k:Int))]) (λk=>[iG gJ b (az++fJ ((xs.take k).map nm) start)]) (λ_=>[]) (λk=>k<=xs.length/\(az.map (·.1)++(xs.take k).map nm).Nodup) 0 ⟨bP _,xo⟩ (body:=?_);rintro k ⟨hk,hall⟩;refine aB ?_ ?_<;>intro h1
 .refine gX bz λ_ _ x y hx=>?_;refine go ?_;intro b10;refine gC (Xk (x:=x) (v1:=y.1) (v2:=y.2)) λ_ _=>?_;refine go ?_;refine GH wL (nm x) (λv hv hm=>?_) (λhm=>?_)
  .exact be
  refine gC (Xk (x:=x) (v1:=y.1) (v2:=y.2)) λ_ _=>?_;refine go ?_;refine yQ wL (nm x) (az:=az++fJ ((xs.take k).map nm) start) (v:=iV ((start:Int)+(k:Int))) ?_;have hm2:=hm;rw[(qO hx).1]at hm2;rw[DU hm,gz,<- (qO (az:=az) hx).2];refine go ?_;refine aQ (k+1) tr ⟨tr,?_⟩;rw[oN,hx,fG,<- gz,iT];refine⟨hall,tt,λa ha c hc=>?_⟩;have:c=nm x:=xp
  exact jx
 have hkl:k=xs.length:=tr
 subst hkl;rw[bM]at hall;rw[bM];refine go ?_;exact BH (true,xs.map nm) (hv:=rfl) (hp:=⟨λ_=>⟨rfl,hall⟩,λh=>by cases h⟩)
end Go.Proofs.YtignbinlipkmfaaGreatDoor
namespace Go.Proofs.YtignbinlipkmfaaGreatDoor
open Tryz (prog)
open Go.Ideal Kd
noncomputable def PX:iF:=⟨9,[],(.seq (kO [⟨⟨(some 3),none,.recover⟩,[]⟩,kS 2 (.om 3)]) (.seq (kO [kM 4 2,kS 5 (.bin .neq 20 4 (.const .nilIface))]) (.cond 5 (kO [⟨⟨(some 6),none,(.build [vE,(iV 0),(iV 0),(iV 0),(iV 0),vS,vS,vS,vS,vS] [])⟩,[]⟩,kM 7 2,kS 8 (.Ie 37 (iV 0) false 7),kN (.store 10 0 6),kN (.store 1 1 8)]) .skip)))⟩
def Xm:lD prog 146=some PX:=tv
section
variable {P:Program} {B:ae Nat} {w0:Wd} {kl kl':ae OA} {F:ae aP} {K:KO} {ds:ae Tmp} {rest:ae bY} {n:Nat} {l:qr} {D:ae Deferred} {pm:ak FrameMode} {ro:ak Nat} {d:Nat} {g:ak (Tmp×Bool)}
variable{α:Type}
def Xn[DecidableEq α]{bq:α->ah}{kt:aC}{zero:ah}{m k:ay}{b:Nat}{az:ae (α×ah)}(hk:tJ P kt bq)(a:α)
 (hit:∀v,dK a az=some v->a∈az.map (·.1)->R (λh=>aJ P ds rest (act n ((d,.tuple ⟨[v,.bool true]⟩)::l) D pm ro) h K) B w0 kl F)
 (miss:a∉az.map (·.1)->R (λh=>aJ P ds rest (act n ((d,.tuple ⟨[zero,.bool false]⟩)::l) D pm ro) h K) B w0 kl F)
 (hm:ev l m=.map (some b):=by rfl) (ha:ev l k=bq a:=by conv=>lhs;whnf) (hf:uP bq b az∈F:=by exact iP) (hn:Nat.blt d n=true:=by rfl) (hg:cO l g=true:=by rfl):
 R (λh=>aJ P ds (⟨⟨some d,g,.lookup kt zero m k true⟩,[]⟩::rest) (act n l D pm ro) h K) B w0 kl F:=by
 refine Va (ok:=true) hk a ?_ hm ha hf hn hg;by_cases h:a∈az.map (·.1)
 .exact kp
 .exact mj
def PY(E:Enc α){v:ah}{aN:ae (α×E.Y)}{Q:IH->Prop}(h0:aN=[]->∀c,v=.slice none 0 c->R Q B w0 kl F)(h1:aN=[]->∀i o f c,v=.slice (some ⟨i,o,some f⟩) 0 c->R Q B w0 kl F)
 (h2:0<aN.length->∀i o f c,v=.slice (some ⟨i,o,some f⟩) aN.length c->R Q B w0 kl F) (hf:tK E v aN∈F:=by exact iP):R Q B w0 kl F:=λw s=>by
 rcases s.facts _ hf with⟨e,a,c,hv,hg⟩|⟨i,o,f,c,cells,⟨hv,_⟩,_⟩
 .exact mc
 .exact ov
def PZ(E:Enc α){Q:IH->Prop}(h:R Q B w0 (ar E (.slice none 0 0) []::kl) F):R Q B w0 kl F:=λw s=>by
 obtain⟨S,h1,h2,h3⟩:=s.own;exact h w ⟨s.agree,s.le,s.ig,⟨S,⟨[],S,.inl ⟨rfl,⟨none,rfl,trivial⟩,rfl⟩,h1,rfl⟩,h2,h3⟩,s.facts⟩
end
def aii:cK prog (.func 152) [] [] [] [] (λv:ah=>v) (λ_=>[]) (λv=>[aj aV v jk]) (λ_=>True):=by
 refine jH Xg aib λB w0=>?_;refine go ?_;intro b;refine go ?_;refine uR (b:=b) (m:=8) (f:=0) aV (aN:=jk.map λs=>(s,())) rfl (.inl rfl) ?_ (hk:=aD.here);refine J4 (E:=aV) ?_ (λw hw p hp f hf=>by cases hf);exact gQ (.slice (some ⟨b,0,some 0⟩) 8 8) trivial (hF:=.cons (fO _ (fT ..)) .nil)
variable{s:ByteArray}
def KZ{b:Nat}{az:ae (ByteArray×ah)}:
 rV prog (.func 157) [.map (some b),.string s] [] [] [uP gJ b az] (λy:ak ah=>match y with|some v=>.ok v|none=>.fU (uZ 160)) (λ_=>[]) (λ_=>[]) (λy=>y=dK s az):=by
 refine Aa _ (vR 157) λB w0=>?_;refine go ?_;refine Xn wL s (λv hv hm=>?_) (λhm=>?_)
 .refine go ?_;exact BH (some v) (hv:=rfl) (hp:=hv.symm)
 .refine go ?_;refine DF ?_;refine go ?_;exact BI none (hv:=rfl) (hp:=(tN hm).symm)
variable{dG l:ae ByteArray}
def Xo{k:Nat}(h:l[k]? =some s):gq dG (l.take (k+1))=gq dG (l.take k)|||1<<<dV s dG:=by
 unfold gq;rw[oN,h,EE];rfl
def P5{dG:ae ByteArray}(hs:dG.length<=16):∀(l:ae ByteArray) (m:Nat),(∀s∈l,s∈dG)->m<65536->l.foldl (λm s=>m|||1<<<dV s dG) m<65536
 |[],m,_,hm=>hm
 |s::l,m,h,hm=>by
  rw[vD];refine P5 hs l _ (λx hx=>h x (fO _ hx)) ?_;have h1:=yS (h s (fT ..));have h2:1<<<dV s dG<2^16:=by
   rw[Mt,zy];exact kB
  exact Mv (n:=16) hm h2
def Xp{b4 bs:Nat}{vl:ah}(hs:dG.length<=16)(hl:l.length<2^63):
 rV prog (.func 161) [vl] [ptr' b4] [] [eZ b4 0 [.map (some bs)],uP gJ bs (fJ dG 0),aj aV vl l] (λy:Bool=>if y=true then .ok (iV (gq dG l:Int))else .fU (uZ 160)) (λ_=>[]) (λ_=>[])
  (λy=>(y=true->∀s∈l,s∈dG)/\(y=false->¬∀s∈l,s∈dG)):=by
 refine Aa _ (vR 161) λB w0=>?_;refine gL (λk=>l.length - k) (λk:Nat=>[(8,iV (k:Int)),(3,iV (gq dG (l.take k):Int))]) (λk=>k<=l.length/\∀s∈l.take k,s∈dG) 0 ⟨bP _,tt⟩ ?_;rintro k ⟨hk,hall⟩;refine aB ?_ ?_<;>intro h1
 .refine gX aV λ_ _ x (y:Unit) hx=>?_;refine go ?_;refine wD (KZ (b:=bs) (s:=x) (az:=fJ dG 0)) (λy v hy e=>?_) (λy ch hy e=>?_)
  .have hm:x∈dG:=by
    by_cases h:x∈dG
    .exact h
    .exact j7
   rw[yU hm]at hy;subst hy;injection e with e;subst e;have hp:=yS hm;have h2:1<<<dV x dG<2^16:=by
    rw[Mt,zy];exact kB
   have h3:=P5 hs (l.take k) 0 hall tr;rw[fq];refine(fo rfl rfl (OJ (a:=1) (b:=dV x dG) rfl rfl tr tr)).h ?_;refine(fo rfl rfl (OL (a:=gq dG (l.take k)) (b:=1<<<dV x dG) rfl rfl (Nat.lt_trans h3 tr) tr)).h ?_;exact dj
  .refine go ?_;have hm:x∉dG:=by
    exact nc
   have hch:ch=uZ 160:=by
    rw[tN z7]at hy;subst hy;injection e with e;exact e.symm
   subst hch;exact BI false (hv:=rfl) (hp:=⟨(λh=>by cases h),λ_ h=>hm (h x (aS hx))⟩)
 have hkl:k=l.length:=tr
 subst hkl;rw[bM]at hall⊢;refine go ?_;exact BH true (hv:=rfl) (hp:=⟨λ_=>hall,λh=>by cases h⟩)
variable{v:ah}
def aij{aN:ae (jo×bV.Y)}(hl:aN.length<=4096):cK prog (.func 156) [v] [] [] [tK bV v aN] (λv':ah=>v') (λv'=>[ar bV v' aN]) (λ_=>[]) (λ_=>True):=by
 refine gB 156 λB w0=>?_;refine PY (v:=v) (aN:=aN) bV (λe c ev=>?_) (λe i o f c ev=>?_) (λhne i o f c ev=>?_)
 .subst e ev;refine go ?_;refine(fo rfl rfl (Gg (e:=173) tv rfl)).h ?_;refine go ?_;refine PZ bV ?_;exact ri
 .subst e ev;refine go ?_;refine(fo rfl rfl (Ae (e:=173) tv rfl)).h ?_;refine go ?_;intro b;refine go ?_;refine J5 (b:=b) ?_;refine go ?_;refine uR (b:=b) (m:=0) (f:=0) bV (aN:=[]) rfl (.inl rfl) ?_ (hk:=aD.here);exact mC
 .subst ev;refine go ?_;refine(fo rfl rfl (Ae (e:=173) tv rfl)).h ?_;refine go ?_;intro b;refine go ?_;refine J6 (b:=b) bV aN hne tr (λb'=>?_);refine go ?_;refine uR (b:=b') (m:=aN.length) (f:=bV.n) bV (aN:=aN) rfl (.inr rfl) ?_ (hk:=aD.here);exact gQ (.slice (some ⟨b',0,some bV.n⟩) aN.length aN.length) trivial
def aik{aN:ae (bE×bz.Y)}(hl:aN.length<=4096):cK prog (.func 160) [v] [] [] [tK bz v aN] (λv':ah=>v') (λv'=>[ar bz v' aN]) (λ_=>[]) (λ_=>True):=by
 refine gB 160 λB w0=>?_;refine PY (v:=v) (aN:=aN) bz (λe c ev=>?_) (λe i o f c ev=>?_) (λhne i o f c ev=>?_)
 .subst e ev;refine go ?_;refine(fo rfl rfl (Gg (e:=61) tv rfl)).h ?_;refine go ?_;refine PZ bz ?_;exact ri
 .subst e ev;refine go ?_;refine(fo rfl rfl (Ae (e:=61) tv rfl)).h ?_;refine go ?_;intro b;refine go ?_;refine J5 (b:=b) ?_;refine go ?_;refine uR (b:=b) (m:=0) (f:=0) bz (aN:=[]) rfl (.inl rfl) ?_ (hk:=aD.here);exact mC
 .subst ev;refine go ?_;refine(fo rfl rfl (Ae (e:=61) tv rfl)).h ?_;refine go ?_;intro b;refine go ?_;refine J6 (b:=b) bz aN hne tr (λb'=>?_);refine go ?_;refine uR (b:=b') (m:=aN.length) (f:=bz.n) bz (aN:=aN) rfl (.inr rfl) ?_ (hk:=aD.here);exact gQ (.slice (some ⟨b',0,some bz.n⟩) aN.length aN.length) trivial
end Go.Proofs.YtignbinlipkmfaaGreatDoor
namespace Go.Proofs.YtignbinlipkmfaaGreatDoor
open Tryz (prog)
open Go.Ideal Kd
noncomputable def K3:iF:=⟨128,[(.rD 10 2),(.cell1 3)],(.seq (kO [kS 1 (.box 0 28),⟨⟨(some 2),none,(.new [vE,(iV 0),(iV 0),(iV 0),(iV 0),vS,vS,vS,vS,vS] 28)⟩,[]⟩,kS 3 (.new [(iV 0)] 37)]) (.seq (kO [kS 11 (.CO (.func 146) [] [2,3]),kN (.dcall 11 [])]) (.seq (.seq (kO [kS 12 (.gD 6 1),kS 13 (.iE 12),kS 14 (.yj 13),kS 15 (.bin .gtr 3 14 (.const (iV 16)))]) (.cond 15 (.seq (kO [kS 16 (.rz 10 2),kN (.store 10 2 16),kN (.store 1 3 (.const (iV 2)))]) .ret) .skip)) (.seq (kO [kS 17 (.gD 6 1),kS 18 (.iE 17),⟨⟨(some 19),none,.xe⟩,[]⟩,kS 20 (kC 147 [18,(.const (iV 0)),(.func 148),19]),kS 4 (.new [(.map none)] 175),kN (.store 1 4 20)]) (.seq (.ops [21,22,23,24,25,26,5] [kS 21 (.gD 7 1),kS 22 (.iE 21),⟨⟨(some 24),none,.xe⟩,[]⟩,⟨⟨(some 23),none,(kC 152 [])⟩,[⟨(some 22),none,(.iE 21)⟩]⟩,⟨⟨(some 25),none,(kC 151 [23,(.const (iV 0)),(.func 153),24])⟩,[⟨(some 22),none,(.iE 21)⟩]⟩,kS 26 (kC 149 [22,(.const (iV 8)),(.func 150),25]),kS 5 (.om 26)]) (.seq (kO [kS 27 (.gD 8 1),kS 28 (.iE 27),⟨⟨(some 29),none,.xe⟩,[]⟩,kS 30 (kC 154 [28,(.const (iV 0)),(.func 155),29]),kS 6 (.om 30)]) (.seq (kO [kS 31 (.gD 8 1),kS 32 (.iE 31),kS 33 (kC 156 [32]),kS 34 (.gD 8 1),kN (.store 1 34 33)]) (.seq (.seq (kO [kS 35 (.gD 8 1),kS 36 (.iE 35),kS 37 (.yj 36),kS 38 (.mv (.const (iV 0)))]) (.block 0 (.loop (.seq (kO [kS 39 (.bin .lss 3 38 37)]) (.seq (.cond 39 .skip (.exit 0)) (.seq (.block 1 (.seq (kO [kM 40 38,kS 7 (.om 40)]) (.ops [41,42,43,44,45,46,47,48,49,50,51,52,53] [kS 41 (.gD 8 1),kS 42 (.iE 41),kM 43 7,kM 44 5,kS 45 (.gD 8 1),kS 46 (.iE 45),kM 47 7,kS 48 (.oq 6 46 47),kS 49 (.gD 1 48),kS 50 (.iE 49),⟨⟨(some 51),none,(kC 157 [44,50])⟩,[⟨(some 42),none,(.iE 41)⟩]⟩,kS 52 (.oq 6 42 43),kS 53 (.gD 2 52),kN (.store 1 53 51)]))) (kO [kS 54 (.bin .add 3 38 (.const (iV 1))),kM 38 54]))))))) (.seq (kO [kS 55 (.gD 9 1),kS 56 (.iE 55),⟨⟨(some 57),none,.xe⟩,[]⟩,kS 58 (kC 158 [56,(.const (iV 0)),(.func 159),57])]) (.seq (kO [kS 59 (.gD 9 1),kS 60 (.iE 59),kS 61 (kC 160 [60]),kS 62 (.gD 9 1),kN (.store 1 62 61)]) (.seq (kO [kS 63 (.CO (.func 161) [] [4]),kS 8 (.om 63)]) (.seq (.seq (kO [kS 64 (.gD 9 1),kS 65 (.iE 64),kS 66 (.yj 65),kS 67 (.mv (.const (iV 0)))]) (.block 2 (.loop (.seq (kO [kS 68 (.bin .lss 3 67 66)]) (.seq (.cond 68 .skip (.exit 2)) (.seq (.block 3 (.seq (kO [kM 69 67,kS 9 (.om 69)]) (.seq (kO [kS 70 (.gD 9 1),kS 71 (.iE 70),kM 72 9,kS 73 (.oq 12 71 72),kS 10 (.om 73)]) (.seq (kO [kM 74 10,kM 75 10,kS 76 (.l9 74),kS 77 (.gD 3 76),kN (.store 1 77 (.const (iV 0))),kS 78 (.l9 75),kS 79 (.gD 11 78),kN (.store 1 79 (.const (iV (-1))))]) (.seq (.seq (kO [kM 80 10,kS 81 (.l9 80),kS 82 (.gD 1 81),kS 83 (.iE 82),⟨⟨(some 84),none,(.bin .neq 9 83 (.const vE))⟩,[]⟩]) (.cond 84 (kO [kM 85 10,kM 86 5,kM 87 10,kS 88 (.l9 87),kS 89 (.gD 1 88),kS 90 (.iE 89),kS 91 (kC 157 [86,90]),kS 92 (.l9 85),kS 93 (.gD 3 92),kN (.store 1 93 91)]) .skip)) (.seq (.ops [94,95,96,97,98,99,100,101,102,103,104,105,106,107,108,109,110,111] [kM 94 10,kM 95 10,kM 96 8,kM 97 10,kS 98 (.l9 97),kS 99 (.gD 4 98),kS 100 (.iE 99),kM 102 8,kM 103 10,kS 104 (.l9 103),kS 105 (.gD 5 104),kS 106 (.iE 105),⟨⟨(some 101),none,(.call 96 [100])⟩,[⟨(some 106),none,(.iE 105)⟩]⟩,kS 107 (.call 102 [106]),kS 108 (.l9 94),kS 109 (.gD 6 108),kN (.store 1 109 101),kS 110 (.l9 95),kS 111 (.gD 7 110),kN (.store 1 111 107)]) (.seq (kO [kM 112 10,kS 113 (.l9 112),kS 114 (.gD 10 113),kS 115 (.iE 114),⟨⟨(some 116),none,(.bin .neq 9 115 (.const vE))⟩,[]⟩]) (.cond 116 (kO [kM 117 10,kM 118 6,kM 119 10,kS 120 (.l9 119),kS 121 (.gD 10 120),kS 122 (.iE 121),kS 123 (kC 157 [118,122]),kS 124 (.l9 117),kS 125 (.gD 11 124),kN (.store 1 125 123)]) .skip)))))))) (kO [kS 126 (.bin .add 3 67 (.const (iV 1))),kM 67 126]))))))) (.seq (kO [kS 127 (.rz 10 1),kN (.store 10 2 127),kN (.store 1 3 (.const (iV 0)))]) .ret)))))))))))))⟩
def ail:lD prog 94=some K3:=tv
def ed(a b:ByteArray):(a.toList==b.toList)=decide (a=b):=by
 rw[ByteArray.toList_eq,ByteArray.toList_eq];by_cases h:a=b
 .subst h;simp
 .rw[aY h];cases hb:a.data.toList==b.data.toList with
  |false=>rfl
  |true=>
   have:=eq_of_beq hb;exact absurd (ByteArray.ext (Array.ext' this)) h
abbrev xN:ae ah:=[.string ⟨⟨[]⟩⟩,iV 0,iV 0,iV 0,iV 0,.slice none 0 0,.slice none 0 0,.slice none 0 0,.slice none 0 0,.slice none 0 0]
variable{b2 b3:Nat}
def aim:JW prog (.func 146) [] [ptr' b2,ptr' b3] .returning [] [] (λ_:Unit=>.ok (.tuple ⟨[]⟩)) (λ_=>.returning) (λ_=>[]) (λ_=>[]) (λ_=>True):=by
 refine UO PX Xm λB w0=>?_;refine go ?_;refine UQ (v:=.nilIface) (m':=.returning) rfl ?_;refine go ?_;refine(fo (v:=.bool false) rfl rfl (λh=>by
  show(match mZ prog .neq 20 (.tmp 4) (.const .nilIface) .nilIface .nilIface with|some v=>some (v,h)|none=>none)=_;rw[show mZ prog .neq 20 (.tmp 4) (.const .nilIface) .nilIface .nilIface=some (.bool false)by kernel_rfl])).h ?_
 refine go ?_;exact UU () (hv:=rfl) (hm:=rfl) (hp:=trivial)
def ain{e:Int}(he:e=160\/e=161):JW prog (.func 146) [] [ptr' b2,ptr' b3] (.panicking (uZ e)) [pt b2 (.cells xN),pt b3 (.cells [iV 0])] [] (λ_:Unit=>.ok (.tuple ⟨[]⟩)) (λ_=>.panicking [{v:=.iface 37 (iV e),recovered:=true}])
 (λ_=>[pt b2 (.cells xN),pt b3 (.cells [iV e])]) (λ_=>[]) (λ_=>True):=by
 refine UO PX Xm λB w0=>?_;refine go ?_;refine UQ (v:=.iface 37 (iV e)) (m':=.panicking [{v:=.iface 37 (iV e),recovered:=true}]) rfl ?_;refine go ?_;refine(fo (v:=.bool true) rfl rfl (λh=>by
  show(match mZ prog .neq 20 (.tmp 4) (.const .nilIface) (.iface 37 (iV e)) .nilIface with|some v=>some (v,h)|none=>none)=_;rcases he with rfl|rfl
  .rw[show mZ prog .neq 20 (.tmp 4) (.const .nilIface) (.iface 37 (iV 160)) .nilIface=some (.bool true)by kernel_rfl]
  .rw[show mZ prog .neq 20 (.tmp 4) (.const .nilIface) (.iface 37 (iV 161)) .nilIface=some (.bool true)by kernel_rfl])).h ?_
 refine go ?_;exact UU () (hv:=rfl) (hm:=rfl) (hp:=trivial)
structure GI where
 ok:Bool
 e:Int
 vc:Value
 vu:Value
abbrev tQ(d:bG)(vh vs vr:ah)(y:GI):ah:=.tuple ⟨[.agg ⟨cond y.ok (gW (Kd.bH d) vh vs vr y.vc y.vu) xN⟩,iV y.e]⟩
abbrev qf(d:bG)(y:GI):ae aP:=cond y.ok [aj bV y.vc (Kd.bH d).aR,aj bz y.vu (Kd.bH d).rules] []
def Ca(d:bG)(y:GI):Prop:=(y.ok=true->y.e=0/\DV d)/\(y.ok=false->y.e≠0/\¬DV d)
structure nW(d:bG):Prop where
 dG:d.symbols.length<=4096
 regs:d.regions.length<=4096
 kD:d.aR.length<=4096
 l7:d.rules.length<=4096
 tT:∀r∈d.rules,r.names.length<2^63/\r.others.length<2^63
 holes:d.holes.length<2^63
 tV:∀r∈d.regions,r.lists.length<2^63/\∀l∈r.lists,l.length<2^63
section
variable {B:ae Nat} {w0:Wd} {kl bD:ae OA} {F:ae aP} {l:qr} {b2 b3:Nat} {n:Nat}
def y9{d:bG}{vh vs vr:ah}{e:Int}(he:e=160\/e=161)(hno:¬DV d)(h2:lk l 2=ptr' b2)(h3:lk l 3=ptr' b3)(hk:aO [pt b2 (.cells xN),pt b3 (.cells [iV 0])] kl bD):
 R (λh=>tC prog K3 (BG B w0 (λy=>.ok (tQ d vh vs vr y)) (λ_=>[]) (qf d) (Ca d)) (.panic (uZ e)) (act n l [{target:=.fn (.func 146) ⟨[ptr' b2,ptr' b3]⟩,args:=⟨[]⟩}] none none) h) B w0 kl F:=by
 refine F8 (m:=.panicking (uZ e)) ?_;refine UR (bD:=bD) (eH:=λ_=>[pt b2 (.cells xN),pt b3 (.cells [iV e])]++bD) (F2:=λ_=>F) (ain (b2:=b2) (b3:=b3) he) (λy v _ _=>?_) (λy ch _ hc=>by cases hc) (hk:=hk) (hF:=.nil) (hk2:=λ_=>dO.app) (hF2:=λ_=>dO.nil);show RL _ _ _ _ .returning _ _ _ _ _;refine UW (bD:=[pt b2 (.cells xN),pt b3 (.cells [iV e])]++bD) (vs:=[.agg ⟨xN⟩,iV e]) ⟨false,e,.nilFunc,.nilFunc⟩ rfl ⟨(λh=>by cases h),λ_=>⟨by rcases he with rfl|rfl<;>simp,hno⟩⟩ (hr:=?_) (hk:=.nil) (hF:=.nil);show RS l _ [.rD 10 2,.cell1 3] _;exact .rD h2 .here rfl (.cell1 h3 (.there .here) rfl .nil)
end
section
variable {B:ae Nat} {w0:Wd} {kl bD:ae OA} {F:ae aP} {l:qr} {b2 b3:Nat} {n:Nat}
def Xq{d:bG}{vh vs vr:ah}{o:Out}{cs:ae ah}{e:Int}(y:GI)(ho:vP o=some .returning)(hcs:cs=cond y.ok (gW (Kd.bH d) vh vs vr y.vc y.vu) xN)(hl:cs.length=10)(hy:y.e=e)(hp:Ca d y)(hF:∀w,(∀f∈F,f.p w)->∀f∈qf d y,f.p w)(h2:lk l 2=ptr' b2)(h3:lk l 3=ptr' b3)(hk:aO [pt b2 (.cells cs),pt b3 (.cells [iV e])] kl bD):
 R (λh=>tC prog K3 (BG B w0 (λy=>.ok (tQ d vh vs vr y)) (λ_=>[]) (qf d) (Ca d)) o (act n l [{target:=.fn (.func 146) ⟨[ptr' b2,ptr' b3]⟩,args:=⟨[]⟩}] none none) h) B w0 kl F:=by
 refine F8 (m:=.returning) ?_ ho;refine UR (k1:=[]) (bD:=kl) (eH:=λ_=>kl) (F2:=λ_=>F) (aim (b2:=b2) (b3:=b3)) (λ_ v _ _=>?_) (λ_ ch _ hc=>by cases hc) (hk:=.nil) (hF:=.nil) (hk2:=λ_=>dO.nil) (hF2:=λ_=>dO.nil);show RL _ _ _ _ .returning _ _ _ _ _;intro w s;have s':St B w0 ([pt b2 (.cells cs),pt b3 (.cells [iV e])]++bD) (qf d y) w:=by
  have:=s.kV hk;exact⟨this.agree,this.le,this.ig,this.own,hF w this.facts⟩
 refine UW (F:=qf d y) (bD:=[pt b2 (.cells cs),pt b3 (.cells [iV e])]++bD) (vs:=[.agg ⟨cs⟩,iV e]) y ?_ hp (hr:=?_) (hk:=.nil) (hF:=?_) w s'
 .show ji.ok (tQ d vh vs vr y)=_;unfold tQ;rw[<- hcs,hy];rfl
 .show RS l _ [.rD 10 2,.cell1 3] _;exact .rD h2 .here (by rw[qw,qD,AY,if_pos tr,<- hl,bM]) (.cell1 h3 (.there .here) rfl .nil)
 .have:∀k:ae aP,Sub k k:=λk=>by
   have:=Sub.refl' k [];simpa using this
  exact this _
end
variable{X:ae (bE×bz.Y)}{k:Nat}
def Ee(hk:k<X.length){q q':bE×bz.Y}{j:Nat}{v:ah}(h:(bz.pat q.1 q.2).set j v=bz.pat q'.1 q'.2)(hj:j<12):(gV bz (X.set k q)).set (0+k*12+j) v=gV bz (X.set k q'):=by
 rw[fq];have:=OZ (E:=bz) (aN:=X.set k q) (k:=k) (p:=q) (p':=q') B6 h hj;rw[List.set_set]at this;exact this
def Cb(hk:k<X.length){q:bE×bz.Y}{j:Nat}{u:ah}(h:(bz.pat q.1 q.2)[j]? =some u):(gV bz (X.set k q))[0+k*12+j]? =some u:=by
 rw[fq];exact BK (E:=bz) (aN:=X.set k q) (k:=k) B6 h
def Ef(hk:k<X.length){q:bE×bz.Y}{j:Nat}(hj:j<12):0+k*12+j<(gV bz (X.set k q)).length:=by
 rw[Gf,ry];show 0+k*12+j<X.length*12;omega
def Xr{d:bG}{vh vs vr vc vu:ah}(hS:nW d):cK prog (.func 94) [.agg ⟨gW d vh vs vr vc vu⟩] [] [] (mH d vh vs vr vc vu) (tQ d vh vs vr) (λ_=>[]) (qf d) (Ca d):=by
 refine rV.toC _ ?_ (λ_ _=>rfl);have hsl:=hS.dG;have hrl:=hS.regs;have hcl:=hS.kD;have xO:=hS.l7;refine Aa K3 ail λB w0=>?_;refine go ?_;intro b1 b2 b3;refine go ?_;refine afS ?_;refine aB ?_ ?_<;>intro h1
 .refine go ?_;exact Xq (e:=2) (cs:=xN) ⟨false,2,.nilFunc,.nilFunc⟩ rfl rfl rfl rfl ⟨(λh=>by cases h),λ_=>⟨tt,λh=>by have:=h.dG;omega⟩⟩ (λw _ f hf=>by cases hf) rfl rfl tx
 have hsy:(bS d).length<=16:=by show(d.symbols.map (·.name)).length<=16;rw[bZ];omega
 refine go ?_;refine Ac gJ (λbs=>?_);refine go ?_;refine wD (aid (b:=bs) (start:=0) (az:=[]) hsl tr w9) (λy v hy e=>?_) (λy ch hy e=>?_)
 rotate_left
 .obtain⟨y,ns⟩:=y;cases y with
  |true=>cases e
  |false=>
   injection e with e;subst e;refine go ?_;exact y9 (e:=161) (.inr rfl) (λh=>hy.2 rfl (by simpa[bS]using h.VV)) rfl rfl tx
 obtain⟨y,ns⟩:=y;cases y with
 |false=>cases e
 |true=>
 injection e with e;subst e;have hns:ns=bS d:=(hy.1 rfl).1;have hsn:(bS d).Nodup:=by have:=(hy.1 rfl).2;simpa[bS]using this
 clear hy;subst hns;dsimp only;rw[show([]:ae (ByteArray×ah))++fJ _ 0=fJ _ 0 from rfl];refine gZ (DI (b:=bs)) ?_;refine go ?_;intro b4;refine go ?_;refine Ac gJ (λbf=>?_);refine eO aii (next:=λvg _=>?_);refine wD (aic (b:=bf) (xs:=jk) (start:=0) (az:=[]) tA tr w9) (λy v hy e=>?_) (λy ch hy e=>?_)
 rotate_left
 .obtain⟨y,ns⟩:=y;cases y with
  |true=>cases e
  |false=>exact absurd tA (hy.2 rfl)
 obtain⟨y,ns⟩:=y;cases y with
 |false=>cases e
 |true=>
 injection e with e;subst e;have hns:ns=jk:=(hy.1 rfl).1;clear hy;subst hns;dsimp only;rw[show([]:ae (ByteArray×ah))++fJ _ 0=fJ _ 0 from rfl];refine wD (aie (b:=bf) (start:=8) (az:=fJ jk 0) hrl tr (by rw[uW];decide)) (λy v hy e=>?_) (λy ch hy e=>?_)
 rotate_left
 .obtain⟨y,ns⟩:=y;cases y with
  |true=>cases e
  |false=>
   injection e with e;subst e;refine go ?_;exact y9 (e:=161) (.inr rfl) (λh=>hy.2 rfl (by rw[uW];exact h.VW)) rfl rfl tx
 obtain⟨y,ns⟩:=y;cases y with
 |false=>cases e
 |true=>
 injection e with e;subst e;have hns:ns=d.regions.map nR.name:=(hy.1 rfl).1;have hfn:(cZ d).Nodup:=by have:=(hy.1 rfl).2;rw[uW]at this;exact this
 clear hy;subst hns;dsimp only;have hfe:fJ jk 0++fJ (d.regions.map nR.name) 8=fJ (cZ d) 0:=by
  unfold cZ;rw[Ph];rfl
 rw[hfe];clear hfe;refine gZ (DI (b:=bf)) ?_;refine go ?_;refine Ac gJ (λbc=>?_);refine go ?_;refine wD (aif (b:=bc) (start:=0) (az:=[]) hcl tr w9) (λy v hy e=>?_) (λy ch hy e=>?_)
 rotate_left
 .obtain⟨y,ns⟩:=y;cases y with
  |true=>cases e
  |false=>
   injection e with e;subst e;refine go ?_;exact y9 (e:=161) (.inr rfl) (λh=>hy.2 rfl (by simpa[dM]using h.VX)) rfl rfl tx
 obtain⟨y,ns⟩:=y;cases y with
 |false=>cases e
 |true=>
 injection e with e;subst e;have hns:ns=dM d:=(hy.1 rfl).1;have hcn:(dM d).Nodup:=by have:=(hy.1 rfl).2;simpa[dM]using this
 clear hy;subst hns;dsimp only;rw[show([]:ae (ByteArray×ah))++fJ _ 0=fJ _ 0 from rfl];refine gZ (DI (b:=bc)) ?_;refine go ?_;refine J3 bV vc (λxc Eg=>?_);have hxl:xc.length=d.aR.length:=by rw[<- Eg,bZ]
 refine eO (aij (aN:=xc) tr) (next:=λv1 _=>?_);refine Vm (E:=bV) (v:=v1) (aN:=xc) (λa1 e1=>?_);subst e1;refine go ?_;let f1:jo×bV.Y->jo×bV.Y:=λp=>(mR (cZ d) p.1,p.2)
 rw[show ar bV (.slice a1 xc.length xc.length) xc=ar bV (.slice a1 xc.length xc.length) (j4 f1 0 xc)from rfl];refine dX (λk=>xc.length - k) (λk:Nat=>[(38,iV (k:Int))]) (λk=>[ar bV (.slice a1 xc.length xc.length) (j4 f1 k xc)]) (λ_=>[]) (λk=>k<=xc.length/\∀p∈xc.take k,p.1.on∈cZ d) 0 ⟨bP _,tt⟩ (body:=?_);rintro k ⟨hk,hall⟩;refine aB ?_ ?_<;>intro h2
 .refine go ?_;refine Vl (E:=bV) (aN:=j4 f1 k xc) (by rw[Ah];omega) (λbx fx hfx ev=>?_);injection ev with ea _ _;subst ea;refine go ?_;obtain⟨p,hp⟩:∃p,xc[k]? =some p:=⟨xc[k]'(tr),bX _⟩
  have hget:(j4 f1 k xc)[k]? =some p:=by rw[V3 _ tr];exact hp
  have lV:p.1∈d.aR:=by rw[<- Eg];exact Mw (aS hp)
  refine tH (o:=0+k*6+1) (cs:=gV bV (j4 f1 k xc)) (.string p.1.on) (by rw[fq];exact BK (E:=bV) (j:=1) hget rfl) ?_;refine wD (KZ (b:=bf) (s:=p.1.on) (az:=fJ (cZ d) 0)) (λy v hy e=>?_) (λy ch hy e=>?_)
  rotate_left
  .have hm:p.1.on∉cZ d:=by
    exact nc
   rw[tN z7]at hy;subst hy;injection e with e;subst e;refine go ?_;exact y9 (e:=160) (.inl rfl) (λh=>hm (h.Pj p.1 lV)) rfl rfl tx
  have hm:p.1.on∈cZ d:=by
   by_cases h:p.1.on∈cZ d
   .exact h
   .exact j7
  rw[yU hm]at hy;subst hy;injection e with e;subst e;rw[fq];refine go ?_;refine qJ (o:=0+k*6+2) (cs:=gV bV (j4 f1 k xc)) (cs':=gV bV (j4 f1 (k+1) xc)) (v:=iV ((dV p.1.on (cZ d):Nat):Int)) (by rw[fq,<- V4 f1 hp];exact OZ (E:=bV) (j:=2) (p':=f1 p) hget rfl tA) (by rw[Gf,Ah];show 0+k*6+2<xc.length*6;omega) ?_;refine go ?_;refine uR (b:=bx) (f:=fx) (m:=xc.length) bV (aN:=j4 f1 (k+1) xc) (by rw[Ah]) hfx ?_;refine aQ (k+1) tr ⟨tr,λq hq=>?_⟩;rw[oN,hp]at hq;rcases dY.1 hq with h|h
  .exact hall q h
  .have:q=p:=by simpa using h
   rw[this];exact hm
 have hkl:k=xc.length:=tr
 subst hkl;rw[bM]at hall;have hcon:∀c∈d.aR,c.on∈cZ d:=by
  intro c hc;rw[<- Eg]at hc;obtain⟨p,hp,rfl⟩:=eF.1 hc;exact hall p hp
 clear hall hk;rw[VZ];refine go ?_;refine Ac gJ (λbu=>?_);refine go ?_;refine wD (aih (b:=bu) (start:=0) (az:=[]) xO tr w9) (λy v hy e=>?_) (λy ch hy e=>?_)
 rotate_left
 .obtain⟨y,ns⟩:=y;cases y with
  |true=>cases e
  |false=>
   injection e with e;subst e;refine go ?_;exact y9 (e:=161) (.inr rfl) (λh=>hy.2 rfl (by simpa[oG]using h.VY)) rfl rfl tx
 obtain⟨y,ns⟩:=y;cases y with
 |false=>cases e
 |true=>
 injection e with e;subst e;have hrn:(oG d).Nodup:=by have:=(hy.1 rfl).2;simpa[oG]using this
 clear hy;dsimp only;refine gZ (DI (b:=bu)) ?_;refine go ?_;refine J3 bz vu (λxr mX=>?_);have aoV:xr.length=d.rules.length:=by rw[<- mX,bZ]
 refine eO (aik (aN:=xr) tr) (next:=λv2 _=>?_);refine Vm (E:=bz) (v:=v2) (aN:=xr) (λa2 e2=>?_);subst e2;refine go ?_;refine gP b4 ?_;refine go ?_;let f2:bE×bz.Y->bE×bz.Y:=λp=>(nS (bS d) (cZ d) (dM d) p.1,p.2)
 rw[show ar bz (.slice a2 xr.length xr.length) xr=ar bz (.slice a2 xr.length xr.length) (j4 f2 0 xr)from rfl];refine Vk (E:=bz) (v:=vu) (aN:=xr) ?_;refine dX (λk=>xr.length - k) (λk:Nat=>[(67,iV (k:Int))]) (λk=>[ar bz (.slice a2 xr.length xr.length) (j4 f2 k xr)]) (λ_=>[]) (λk=>k<=xr.length/\∀p∈xr.take k,BN (bS d) (cZ d) (dM d) p.1) 0 ⟨bP _,tt⟩ (body:=?_);rintro k ⟨hk,hall⟩;refine aB ?_ ?_<;>intro h2
 .refine go ?_;refine Vl (E:=bz) (aN:=j4 f2 k xr) (by rw[Ah];omega) (λdB fy Xt ev=>?_);injection ev with ea _ _;subst ea;obtain⟨p,hp⟩:∃p,xr[k]? =some p:=⟨xr[k]'(tr),bX _⟩
  have hpm:=aS hp;have hget:(j4 f2 k xr)[k]? =some p:=by rw[V3 _ tr];exact hp
  have lV:p.1∈d.rules:=by rw[<- mX];exact Mw hpm
  have hfin:=V4 f2 hp;obtain⟨r,v3,v4⟩:=p;have hrs:=hS.tT r lV;have nA:k<(j4 f2 k xr).length:=by rw[Ah];omega
  have aio:(j4 f2 k xr).length=xr.length:=Ah _ _ _;have e0:j4 f2 k xr=(j4 f2 k xr).set k (r,v3,v4):=by
   apply jW;intro i;rw[nI];by_cases hi:k=i
   .subst hi;rw[if_pos rfl,if_pos nA,hget]
   .rw[if_neg hi]
  refine fM (aj aV v3 r.names) (λw h=>h (yR bz xr) (fT ..) _ hpm _ (fT ..)) ?_;refine fM (aj aV v4 r.others) (λw h=>h (yR bz xr) (fO _ (fT ..)) _ hpm _ (fO _ (fT ..))) ?_;rw[e0];rw[<- e0];generalize hX:j4 f2 k xr=X at nA aio e0 hfin;rw[e0];refine go ?_;refine qJ (o:=0+k*12+3) (cs:=gV bz (X.set k (r,v3,v4))) (cs':=gV bz (X.set k ({r with family:=0},v3,v4))) (v:=iV 0) (Ee nA rfl tr) (Ef nA tr) ?_;refine go ?_;refine qJ (o:=0+k*12+11) (cs:=gV bz (X.set k ({r with family:=0},v3,v4))) (cs':=gV bz (X.set k ({r with family:=0,aX:= -1},v3,v4))) (v:=iV (-1)) (Ee nA rfl tr) (Ef nA tr) ?_;refine go ?_;refine tH (o:=0+k*12+1) (cs:=gV bz (X.set k ({r with family:=0,aX:= -1},v3,v4))) (.string r.on) (Cb nA rfl) ?_;refine go ?_;refine UM (bD:=[pt b1 (.cells [.string d.name,iV d.version,iV d.shape,iV d.w,iV d.h,vh,vs,vr,.slice a1 xc.length xc.length,.slice (some ⟨dB,0,some fy⟩) xr.length xr.length]),ar bV (.slice a1 xc.length xc.length) (xc.map f1),pt b3 (.cells [iV 0]),pt b2 (.cells xN)]) [] (λ_:Unit=>[]) (λ_=>[pt dB (.cells (gV bz (X.set k ({r with family:=if r.on=⟨⟨[]⟩⟩then 0 else(dV r.on (cZ d):Int),aX:= -1},v3,v4))))]) (λ_=>[]) (λ_=>r.on=⟨⟨[]⟩⟩\/r.on∈cZ d) (hx:=?_) (hy:=?_)
  .refine fu (p:=r.on=⟨⟨[]⟩⟩) wq (λh3=>?_) (λh3=>?_)
   .refine go ?_;refine tH (o:=0+k*12+1) (cs:=gV bz (X.set k ({r with family:=0,aX:= -1},v3,v4))) (.string r.on) (Cb nA rfl) ?_;refine wD (KZ (b:=bf) (s:=r.on) (az:=fJ (cZ d) 0)) (λy v hy e=>?_) (λy ch hy e=>?_)
    rotate_left
    .have hm:r.on∉cZ d:=by
      exact nc
     rw[tN z7]at hy;subst hy;injection e with e;subst e;refine go ?_;refine afQ ?_;refine go ?_;exact y9 (e:=160) (.inl rfl) (λh=>(h.oH r lV).on.elim h3 hm) rfl rfl tx
    have hm:r.on∈cZ d:=by
     by_cases h:r.on∈cZ d
     .exact h
     .exact j7
    rw[yU hm]at hy;subst hy;injection e with e;subst e;rw[fq];refine go ?_;refine qJ (o:=0+k*12+3) (cs:=gV bz (X.set k ({r with family:=0,aX:= -1},v3,v4))) (cs':=gV bz (X.set k ({r with family:=if r.on=⟨⟨[]⟩⟩then 0 else(dV r.on (cZ d):Int),aX:= -1},v3,v4))) (v:=iV ((dV r.on (cZ d):Nat):Int)) (by rw[if_neg h3];exact Ee nA rfl tr) (Ef nA tr) ?_;refine go ?_;exact JV () (.inr hm)
   .refine go ?_;rw[show({r with family:=0,aX:= -1}:bE)={r with family:=if r.on=⟨⟨[]⟩⟩then 0 else(dV r.on (cZ d):Int),aX:= -1}by rw[if_pos h3]];exact JV () (.inl h3)
  intro _ hon;generalize hfm:(if r.on=⟨⟨[]⟩⟩then 0 else(dV r.on (cZ d):Int))=fm;refine go ?_;refine tH (o:=0+k*12+4) (cs:=gV bz (X.set k ({r with family:=fm,aX:= -1},v3,v4))) v3 (Cb nA rfl) ?_;refine go ?_;refine tH (o:=0+k*12+5) (cs:=gV bz (X.set k ({r with family:=fm,aX:= -1},v3,v4))) v4 (Cb nA rfl) ?_;refine go ?_;refine wD (Xp (b4:=b4) (bs:=bs) (vl:=v3) (dG:=bS d) (l:=r.names) hsy hrs.1) (λy v hy e=>?_) (λy ch hy e=>?_)
   (hs:=λy v _ _=>Dv (b:=dB) (o:=0+k*12+5) (cs:=gV bz (X.set k ({r with family:=fm,aX:= -1},v3,v4))) (v:=v4) rfl (by repeat (first|exact aD.here|apply aD.there)) (by rw[rJ];exact Cb nA rfl) rfl Du)
  rotate_left
  .cases y with
   |true=>cases e
   |false=>
    injection e with e;subst e;refine go ?_;exact y9 (e:=160) (.inl rfl) (λh=>hy.2 rfl (h.oH r lV).names) rfl rfl tx
  cases y with
  |false=>cases e
  |true=>
  injection e with e;subst e;have aip:=hy.1 rfl;clear hy;refine go ?_;refine go ?_;refine wD (Xp (b4:=b4) (bs:=bs) (vl:=v4) (dG:=bS d) (l:=r.others) hsy hrs.2) (λy v hy e=>?_) (λy ch hy e=>?_)
  rotate_left
  .cases y with
   |true=>cases e
   |false=>
    injection e with e;subst e;refine go ?_;exact y9 (e:=160) (.inl rfl) (λh=>hy.2 rfl (h.oH r lV).others) rfl rfl tx
  cases y with
  |false=>cases e
  |true=>
  injection e with e;subst e;have aiq:=hy.1 rfl;clear hy;refine go ?_;refine qJ (o:=0+k*12+6) (cs:=gV bz (X.set k ({r with family:=fm,aX:= -1},v3,v4))) (cs':=gV bz (X.set k ({r with family:=fm,aX:= -1,set:=(gq (bS d) r.names:Int)},v3,v4))) (v:=iV (gq (bS d) r.names:Int)) (Ee nA rfl tr) (Ef nA tr) ?_;refine go ?_;refine qJ (o:=0+k*12+7) (cs:=gV bz (X.set k ({r with family:=fm,aX:= -1,set:=(gq (bS d) r.names:Int)},v3,v4))) (cs':=gV bz (X.set k ({r with family:=fm,aX:= -1,set:=(gq (bS d) r.names:Int),other:=(gq (bS d) r.others:Int)},v3,v4))) (v:=iV (gq (bS d) r.others:Int)) (Ee nA rfl tr) (Ef nA tr) ?_;refine go ?_;refine tH (o:=0+k*12+10) (cs:=gV bz (X.set k ({r with family:=fm,aX:= -1,set:=(gq (bS d) r.names:Int),other:=(gq (bS d) r.others:Int)},v3,v4))) (.string r.dB) (Cb nA rfl) ?_;refine go ?_;have hnext:(r.dB=⟨⟨[]⟩⟩\/r.dB∈dM d)->∀q∈xr.take (k+1),BN (bS d) (cZ d) (dM d) q.1:=by
   intro hby q hq;rw[oN,hp]at hq;rcases dY.1 hq with h|h
   .exact hall q h
   .have:q=(r,v3,v4):=bK.1 (show q∈[(r,v3,v4)]from h);rw[this];exact⟨hon,aip,aiq,hby⟩
  refine fu (p:=r.dB=⟨⟨[]⟩⟩) wq (λh3=>?_) (λh3=>?_)
  .refine go ?_;refine tH (o:=0+k*12+10) (cs:=gV bz (X.set k ({r with family:=fm,aX:= -1,set:=(gq (bS d) r.names:Int),other:=(gq (bS d) r.others:Int)},v3,v4))) (.string r.dB) (Cb nA rfl) ?_;refine wD (KZ (b:=bc) (s:=r.dB) (az:=fJ (dM d) 0)) (λy v hy e=>?_) (λy ch hy e=>?_)
   rotate_left
   .have hm:r.dB∉dM d:=by
     exact nc
    rw[tN z7]at hy;subst hy;injection e with e;subst e;refine go ?_;exact y9 (e:=160) (.inl rfl) (λh=>(h.oH r lV).dB.elim h3 hm) rfl rfl tx
   have hm:r.dB∈dM d:=by
    by_cases h:r.dB∈dM d
    .exact h
    .exact j7
   rw[yU hm]at hy;subst hy;injection e with e;subst e;rw[fq];refine go ?_;refine qJ (o:=0+k*12+11) (cs:=gV bz (X.set k ({r with family:=fm,aX:= -1,set:=(gq (bS d) r.names:Int),other:=(gq (bS d) r.others:Int)},v3,v4))) (cs':=gV bz (X.set k (f2 (r,v3,v4)))) (v:=iV ((dV r.dB (dM d):Nat):Int)) (Ee nA (by show _=kL (nS (bS d) (cZ d) (dM d) r) v3 v4;unfold nS;rw[if_neg h3,hfm];rfl) tr) (Ef nA tr) ?_;refine go ?_;rw[hfin];refine uR (b:=dB) (f:=fy) (m:=xr.length) bz (aN:=j4 f2 (k+1) xr) (by rw[Ah]) Xt ?_;exact aQ (k+1) tr ⟨tr,hnext (.inr hm)⟩
  .refine go ?_;rw[show X.set k (({r with family:=fm,aX:= -1,set:=(gq (bS d) r.names:Int),other:=(gq (bS d) r.others:Int)}:bE),v3,v4)=j4 f2 (k+1) xr by
    rw[<- hfin];congr 1;show _=(nS (bS d) (cZ d) (dM d) r,v3,v4)
    unfold nS;rw[if_pos h3,hfm];rfl]
   refine uR (b:=dB) (f:=fy) (m:=xr.length) bz (aN:=j4 f2 (k+1) xr) (by rw[Ah]) Xt ?_;exact aQ (k+1) tr ⟨tr,hnext (.inl h3)⟩
 have hkl:k=xr.length:=tr
 subst hkl;rw[bM]at hall;rw[VZ];refine J4 (E:=bV) (v:=.slice a1 xc.length xc.length) (aN:=xc.map f1) ?_ (λw h p hp f hf=>by cases hf);refine J4 (E:=bz) (v:=.slice a2 xr.length xr.length) (aN:=xr.map f2) ?_ (λw h p hp f hf=>by
  obtain⟨q,hq,rfl⟩:=eF.1 hp;exact h (yR bz xr) (fO _ (fO _ (fT ..))) q hq f hf)
 refine go ?_;refine Xq (e:=0) ⟨true,0,.slice a1 xc.length xc.length,.slice a2 xr.length xr.length⟩ rfl tw rfl rfl ⟨λ_=>⟨rfl,⟨tr,hsn,hfn,hcn,hcon,hrn,λr hr=>?_⟩⟩,λh=>by cases h⟩ (λw h f hf=>?_) rfl rfl tx
 .rw[<- mX]at hr;obtain⟨p,hp,rfl⟩:=eF.1 hr;exact hall p hp
 .have ec:(xc.map f1).map (·.1)=(Kd.bH d).aR:=by
   show _=d.aR.map (mR (cZ d));rw[<- Eg,uy,uy];rfl
  have er:(xr.map f2).map (·.1)=(Kd.bH d).rules:=by
   show _=d.rules.map (nS (bS d) (cZ d) (dM d));rw[<- mX,uy,uy];rfl
  rw[ec,er]at h;have hf:f∈[aj bV (.slice a1 xc.length xc.length) (Kd.bH d).aR,aj bz (.slice a2 xr.length xr.length) (Kd.bH d).rules]:=hf;rcases bT.1 hf with rfl|hf
  .exact h _ tt
  .rw[bK.1 hf];exact h _ tt
end Go.Proofs.YtignbinlipkmfaaGreatDoor
namespace Go.Proofs.YtignbinlipkmfaaGreatDoor
open Tryz (prog)
open Go.Ideal Kd
variable{va vb:ah}{xs ys:ae (ae Int)}
def Xu(hal:xs.length<2^63)(hl:∀l∈xs,l.length<2^63):dL prog 184 [va,vb,.func (.func 48) #[] #[]] [aj (aA ai) va xs,aj (aA ai) vb ys] (.bool (decide (xs=ys))):=by
 refine gB 184 λB w0=>?_;refine aB ?_ ?_<;>intro h1
 .exact dg
 have hlen:xs.length=ys.length:=tr
 refine gN xs.length 17 (λk=>k<=xs.length/\∀j,j<k->xs[j]? =ys[j]?) ⟨tr,λj hj=>by omega⟩ ?_;rintro k ⟨hkx,hsame⟩;refine aB ?_ ?_<;>intro h2
 .refine gX (aA ai) λ_ _ x (vx:ah) hx=>?_;refine gX (aA ai) λ_ _ y (vy:ah) hy=>?_;refine gC (uY (xs:=x) (ys:=y) (hl x (aS hx))) λ_ _=>?_;refine go ?_;refine fu rfl (λh3=>?_) (λh3=>?_)
  .exact cP
  exact cA
 exact cq
def Xv(hal:xs.length<2^63)(hl:∀l∈xs,l.length<2^63):dL prog 102 [va,vb] [aj (aA ai) va xs,aj (aA ai) vb ys] (.bool (decide (xs=ys))):=by
 refine gB 102 λB w0=>?_;refine gC (Xu (xs:=xs) (ys:=ys) hal hl) λ_ _=>?_;exact fH
def air{xs ys:ae (ae (ae Int))}(hal:xs.length<2^63)(hl:∀l∈xs,l.length<2^63/\∀m∈l,m.length<2^63):dL prog 103 [va,vb,.func (.func 102) #[] #[]] [aj (aA (aA ai)) va xs,aj (aA (aA ai)) vb ys] (.bool (decide (xs=ys))):=by
 refine gB 103 λB w0=>?_;refine aB ?_ ?_<;>intro h1
 .exact dg
 have hlen:xs.length=ys.length:=tr
 refine gN xs.length 17 (λk=>k<=xs.length/\∀j,j<k->xs[j]? =ys[j]?) ⟨tr,λj hj=>by omega⟩ ?_;rintro k ⟨hkx,hsame⟩;refine aB ?_ ?_<;>intro h2
 .refine gX (aA (aA ai)) λ_ _ x (vx:ah) hx=>?_;refine gX (aA (aA ai)) λ_ _ y (vy:ah) hy=>?_;refine gC (Xv (xs:=x) (ys:=y) (hl x (aS hx)).1 (hl x (aS hx)).2) λ_ _=>?_;refine go ?_;refine fu rfl (λh3=>?_) (λh3=>?_)
  .exact cP
  exact cA
 exact cq
def Xw{xs ys:ae ByteArray}(hal:xs.length<2^63):dL prog 186 [va,vb] [aj aV va xs,aj aV vb ys] (.bool (decide (xs=ys))):=by
 refine gB 186 λB w0=>?_;refine aB ?_ ?_<;>intro h1
 .exact dg
 have hlen:xs.length=ys.length:=tr
 refine gN xs.length 13 (λk=>k<=xs.length/\∀j,j<k->xs[j]? =ys[j]?) ⟨tr,λj hj=>by omega⟩ ?_;rintro k ⟨hkx,hsame⟩;refine aB ?_ ?_<;>intro h2
 .refine gX aV λ_ _ x (_:Unit) hx=>?_;refine gX aV λ_ _ y (_:Unit) hy=>?_;refine go ?_;refine fu (p:=x=y) wq (λh3=>?_) (λh3=>?_)
  .exact cP
  exact cA
 exact cq
def P6(x y:nu):cellsE [.string x.name,iV x.value] [.string y.name,iV y.value]=decide (x=y):=by
 obtain⟨a,b⟩:=x;obtain⟨c,e⟩:=y;show(decide (a=c)&&(decide (b=e)&&true))=_;rw[Bool.and_true,<- Bool.decide_and];exact pJ.2 ⟨λh=>by rw[h.1,h.2],λh=>by cases h;exact⟨rfl,rfl⟩⟩
abbrev K4(x:jo):ae ah:=[.string x.name,.string x.on,iV x.family,iV x.type,iV x.lo,iV x.hi]
def P7(x y:jo):cellsE (K4 x) (K4 y)=decide (x=y):=by
 obtain⟨a1,a2,a3,a4,a5,a6⟩:=x;obtain⟨b1,b2,b3,b4,b5,b6⟩:=y;show(decide (a1=b1)&&(decide (a2=b2)&&(decide (a3=b3)&&(decide (a4=b4)&&(decide (a5=b5)&&(decide (a6=b6)&&true))))))=_;rw[Bool.and_true];simp only[<- Bool.decide_and];exact pJ.2 ⟨λh=>by rw[h.1,h.2.1,h.2.2.1,h.2.2.2.1,h.2.2.2.2.1,h.2.2.2.2.2],λh=>by cases h;exact⟨rfl,rfl,rfl,rfl,rfl,rfl⟩⟩
def P8:∃fs:Array Field,prog.underlying 158=some (.struct fs)/\Gh prog fs.toList 0 [false,true]=true:=by
 refine⟨prog.fieldsOf 158,tv,tv⟩
def P9:∃fs:Array Field,prog.underlying 173=some (.struct fs)/\Gh prog fs.toList 0 [false,false,true,true,true,true]=true:=by
 refine⟨prog.fieldsOf 173,tv,tv⟩
def ais{xs ys:ae nu}(hal:xs.length<2^63):dL prog 187 [va,vb] [aj eT va xs,aj eT vb ys] (.bool (decide (xs=ys))):=by
 obtain⟨fs,hu,hrow⟩:=P8;refine gB 187 λB w0=>?_;refine aB ?_ ?_<;>intro h1
 .exact dg
 have hlen:xs.length=ys.length:=tr
 refine gN xs.length 13 (λk=>k<=xs.length/\∀j,j<k->xs[j]? =ys[j]?) ⟨tr,λj hj=>by omega⟩ ?_;rintro k ⟨hkx,hsame⟩;refine aB ?_ ?_<;>intro h2
 .refine gX eT λ_ _ x (_:Unit) hx=>?_;refine gX eT λ_ _ y (_:Unit) hy=>?_;refine go ?_;refine(fo (v:=.bool (!decide (x=y))) rfl rfl (by rw[<- P6];exact DN rfl rfl hu tv tv (row_of hrow rfl rfl (λj=>by rw[fq]) (λj=>by rw[fq])) An An)).h ?_;refine go ?_;refine fu rfl (λh3=>?_) (λh3=>?_)
  .exact cP
  exact cA
 exact cq
def ait{xs ys:ae jo}(hal:xs.length<2^63):dL prog 189 [va,vb] [aj bV va xs,aj bV vb ys] (.bool (decide (xs=ys))):=by
 obtain⟨fs,hu,hrow⟩:=P9;refine gB 189 λB w0=>?_;refine aB ?_ ?_<;>intro h1
 .exact dg
 have hlen:xs.length=ys.length:=tr
 refine gN xs.length 13 (λk=>k<=xs.length/\∀j,j<k->xs[j]? =ys[j]?) ⟨tr,λj hj=>by omega⟩ ?_;rintro k ⟨hkx,hsame⟩;refine aB ?_ ?_<;>intro h2
 .refine gX bV λ_ _ x (_:Unit) hx=>?_;refine gX bV λ_ _ y (_:Unit) hy=>?_;refine go ?_;refine(fo (v:=.bool (!decide (x=y))) rfl rfl (by rw[<- P7];exact DN rfl rfl hu tv tv (row_of hrow rfl rfl (λj=>by rw[fq]) (λj=>by rw[fq])) An An)).h ?_;refine go ?_;refine fu rfl (λh3=>?_) (λh3=>?_)
  .exact cP
  exact cA
 exact cq
end Go.Proofs.YtignbinlipkmfaaGreatDoor
namespace Go.Proofs.YtignbinlipkmfaaGreatDoor
open Tryz (prog)
open Go.Ideal Kd
def aiu{x y:nR}{vx vy:ah}(hl:x.lists.length<2^63)(hll:∀l∈x.lists,l.length<2^63):dL prog 183 [.agg ⟨[.string x.name,vx]⟩,.agg ⟨[.string y.name,vy]⟩] [aj (aA ai) vx x.lists,aj (aA ai) vy y.lists] (.bool (decide (x=y))):=by
 obtain⟨n1,l1⟩:=x;obtain⟨n2,l2⟩:=y;dsimp only at hl hll⊢;refine gB 183 λB w0=>?_;refine go ?_;intro b2 b3;refine gH ?_ ?_<;>intro h1
 .rw[ed]at h1;refine aM ?_;rw[aY (λe=>ol h1 xF)];rfl
 rw[ed]at h1;have h1:=gT h1;refine gC (Xu (xs:=l1) (ys:=l2) hl hll) λ_ _=>?_;refine aM ?_;rw[show decide (nR.mk n1 l1=nR.mk n2 l2)=decide (l1=l2)from pJ.2 ⟨λh=>by cases h;rfl,λh=>by rw[h1,h]⟩];rfl
variable{u1 u2:ah}
def aiv{x y:bE}{v1 v2:ah}(hl:x.names.length<2^63)(hll:x.others.length<2^63):dL prog 185 [.agg ⟨kL x v1 v2⟩,.agg ⟨kL y u1 u2⟩] [aj aV v1 x.names,aj aV v2 x.others,aj aV u1 y.names,aj aV u2 y.others] (.bool (decide (x=y))):=by
 obtain⟨n1,o1,k1,f1,xP,os1,s1,t1,p1,m1,y1,c1⟩:=x;obtain⟨n2,o2,k2,f2,Eh,os2,s2,t2,p2,m2,y2,c2⟩:=y;dsimp only[kL]at hl hll⊢;refine gB 185 λB w0=>?_;refine go ?_;intro b2 b3;refine gC (Xw (xs:=xP) (ys:=Eh) hl) λ_ _=>?_;refine gH ?_ ?_<;>intro h1
 .exact od
 refine gC (Xw (xs:=os1) (ys:=os2) hll) λ_ _=>?_;refine gH ?_ ?_<;>intro h2
 .exact oc
 refine gH ?_ ?_<;>intro h3
 .rw[ed]at h3;refine aM ?_;rw[aY (λe=>ol h3 xF)];rfl
 rw[ed]at h3;have h3:=gT h3;refine gH ?_ ?_<;>intro h4
 .rw[ed]at h4;refine aM ?_;rw[aY (λe=>ol h4 xF)];rfl
 rw[ed]at h4;have h4:=gT h4;refine gH ?_ ?_<;>intro h5
 .rw[ed]at h5;refine aM ?_;rw[aY (λe=>ol h5 xF)];rfl
 rw[ed]at h5;have h5:=gT h5;refine go ?_;refine(fo (v:=.bool (decide ([k1,f1,s1,t1,p1,m1,c1]=[k2,f2,s2,t2,p2,m2,c2]))) rfl rfl (agd (n:=7) (e:=3) rfl rfl tv tv tv rfl rfl tv)).h ?_;refine aM ?_;rw[show decide (bE.mk n1 o1 k1 f1 xP os1 s1 t1 p1 m1 y1 c1=bE.mk n2 o2 k2 f2 Eh os2 s2 t2 p2 m2 y2 c2)=decide ([k1,f1,s1,t1,p1,m1,c1]=[k2,f2,s2,t2,p2,m2,c2])from pJ.2 ⟨λh=>by cases h;rfl,λh=>by cases h;rw[h1,h2,h3,h4,h5]⟩];rfl
variable{va vb:ah}
def aiw{xs ys:ae nR}(hal:xs.length<2^63)(hl:∀r∈xs,r.lists.length<2^63/\∀l∈r.lists,l.length<2^63):dL prog 188 [va,vb,.func (.func 183) #[] #[]] [aj fw va xs,aj fw vb ys] (.bool (decide (xs=ys))):=by
 refine gB 188 λB w0=>?_;refine aB ?_ ?_<;>intro h1
 .exact dg
 have hlen:xs.length=ys.length:=tr
 refine gN xs.length 17 (λk=>k<=xs.length/\∀j,j<k->xs[j]? =ys[j]?) ⟨tr,λj hj=>by omega⟩ ?_;rintro k ⟨hkx,hsame⟩;refine aB ?_ ?_<;>intro h2
 .refine gX fw λ_ _ x (vx:ah) hx=>?_;refine go ?_;intro b8;refine gX fw λ_ _ y (vy:ah) hy=>?_;refine go ?_;intro b9;refine gC (aiu (x:=x) (y:=y) (vx:=vx) (vy:=vy) (hl x (aS hx)).1 (hl x (aS hx)).2) λ_ _=>?_;refine go ?_;refine fu rfl (λh3=>?_) (λh3=>?_)
  .exact cP
  exact cA
 exact cq
def aix{xs ys:ae bE}(hal:xs.length<2^63)(hl:∀r∈xs,r.names.length<2^63/\r.others.length<2^63):dL prog 190 [va,vb,.func (.func 185) #[] #[]] [aj bz va xs,aj bz vb ys] (.bool (decide (xs=ys))):=by
 refine gB 190 λB w0=>?_;refine aB ?_ ?_<;>intro h1
 .exact dg
 have hlen:xs.length=ys.length:=tr
 refine gN xs.length 17 (λk=>k<=xs.length/\∀j,j<k->xs[j]? =ys[j]?) ⟨tr,λj hj=>by omega⟩ ?_;rintro k ⟨hkx,hsame⟩;refine aB ?_ ?_<;>intro h2
 .refine gX bz λ_ _ x (vx:ah×ah) hx=>?_;refine go ?_;intro b8;refine gX bz λ_ _ y (vy:ah×ah) hy=>?_;refine go ?_;intro b9;refine gC (aiv (x:=x) (y:=y) (v1:=vx.1) (v2:=vx.2) (u1:=vy.1) (u2:=vy.2) (hl x (aS hx)).1 (hl x (aS hx)).2) λ_ _=>?_;refine go ?_;refine fu rfl (λh3=>?_) (λh3=>?_)
  .exact cP
  exact cA
 exact cq
def Xx{x y:bG}{h1 s1 r1 c1 h2 s2 r2 c2:ah}(hS:nW x):dL prog 101 [.agg ⟨gW x h1 s1 r1 c1 u1⟩,.agg ⟨gW y h2 s2 r2 c2 u2⟩] (mH x h1 s1 r1 c1 u1++mH y h2 s2 r2 c2 u2) (.bool (decide (x=y))):=by
 have e1:=hS.dG;have e2:=hS.regs;have e3:=hS.kD;have e4:=hS.l7;have e5:=hS.tT;have e6:=hS.holes;have e7:=hS.tV;clear hS;obtain⟨n1,v1,p1,w1,g1,ho1,nX,nC,nY,nD⟩:=x;obtain⟨n2,v2,p2,w2,g2,ho2,rZ,qP,r9,qQ⟩:=y;dsimp only at e1 e2 e3 e4 e5 e6 e7;dsimp only[gW,mH,List.cons_append,List.nil_append];refine gB 101 λB w0=>?_;refine go ?_;intro b2 b3;refine gH ?_ ?_<;>intro k1
 .rw[ed]at k1;refine aM ?_;rw[aY (λe=>ol k1 xF)];rfl
 rw[ed]at k1;have k1:=gT k1;refine gH ?_ ?_<;>intro k2
 .exact ga
 refine gH ?_ ?_<;>intro k3
 .exact fW
 refine gH ?_ ?_<;>intro k4
 .exact fS
 refine gH ?_ ?_<;>intro k5
 .exact jp
 refine gC (uY (xs:=ho1) (ys:=ho2) e6) λ_ _=>?_;refine gH ?_ ?_<;>intro k6
 .exact fR
 refine gC (ais (xs:=nX) (ys:=rZ) tr) λ_ _=>?_;refine gH ?_ ?_<;>intro k7
 .exact fN
 refine gC (aiw (xs:=nC) (ys:=qP) tr e7) λ_ _=>?_;refine gH ?_ ?_<;>intro k8
 .exact oa
 refine gC (ait (xs:=nY) (ys:=r9) tr) λ_ _=>?_;refine gH ?_ ?_<;>intro k9
 .exact n9
 refine gC (aix (xs:=nD) (ys:=qQ) tr e5) λ_ _=>?_;refine aM ?_;rw[show decide (bG.mk n1 v1 p1 w1 g1 ho1 nX nC nY nD=bG.mk n2 v2 p2 w2 g2 ho2 rZ qP r9 qQ)=decide (nD=qQ)from pJ.2 ⟨λh=>by cases h;rfl,λh=>by rw[k1,k2,k3,k4,k5,k6,k7,k8,k9,h]⟩];rfl
