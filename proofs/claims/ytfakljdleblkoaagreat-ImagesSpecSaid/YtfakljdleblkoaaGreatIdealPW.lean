/-
  Part IdealPW.
-/
import Derived.Test.YtfakljdleblkoaaGreatIdealOW
import Derived.Lib.Bytealg
import Derived.Lib.Atoi
import Derived.Lib.ConvBytes
import Derived.Shelf.SlSortCmp.WholeK
import Derived.Shelf.SlSortCmp.Whole1
set_option linter.all false
namespace Go.Ideal
structure Beyond(w w':World):Prop where
 heap:∀b,b<w.heap.size->w'.heap[b]? =w.heap[b]?
 size:w.heap.size<=w'.heap.size
 os:w'.os=w.os
 tape:w'.tape=w.tape
 output:w'.output=w.output
 drawn:w.drawn<=w'.drawn
theorem WR.beyond{P:Program}{β:aC}{h:IH}{w w':World}(hW:WR P β h w)(hb:Beyond w w'):WR P β h w'/\Eff β h w β h w':=
 ⟨⟨hW.dom,hW.live,λi g o h1 h2=>(hW.obj i g o h1 h2).congr (hb.heap _ (hW.obj i g o h1 h2).lt),hW.inj⟩,
  ⟨λ_ _=>rfl,bV _,λ_ _ h=>h,λ_ _ _=>rfl,bV _,λ_ _ _=>rfl,hb.os,hb.tape,hb.output,hb.size,λb hb' _=>hb.heap b hb',λi g hg hi=>absurd (hW.dom _ _ hg) vj,λi g _ _ _ _ hb'=>hb.heap _ hb',hb.drawn⟩⟩
end Go.Ideal
namespace Go.Ideal
open Go.Sort Go.Proofs Go.RowKit Go.Lib Go.Shelf
variable {P:Program}
variable{w w':World}
theorem Beyond.grown(h:Beyond w w'):∃q os,w'=Go.Sort.grow (w.drewN q) os:=by
 refine⟨w'.drawn - w.drawn,w'.heap.extract w.heap.size w'.heap.size,?_⟩;obtain⟨heap,tape,drawn,os,output⟩:=w;obtain⟨heap',tape',drawn',os',output'⟩:=w';obtain⟨h1,h2,h3,h4,h5,h6⟩:=h;dsimp only at h1 h2 h3 h4 h5 h6;subst h3 h4 h5;have e1:heap'=heap++heap'.extract heap.size heap'.size:=by
  apply Array.ext_getElem?;intro i;rw[Array.getElem?_append];split
  ·rename_i hi;exact h1 i hi
  ·rename_i hi;rw[Array.getElem?_extract];by_cases hl:i<heap'.size
   ·rw[if_pos vj,show heap.size+(i - heap.size)=i by omega]
   ·rw[if_neg vj,tL vj]
 have e2:drawn'=drawn+(drawn' - drawn):=vj
 show World.mk heap' tape' drawn' os' output'=World.mk (heap++heap'.extract heap.size heap'.size) tape' (drawn+(drawn' - drawn)) os' output';rw[<- e1,<- e2]
variable{β:aC}
theorem Eff.beyond{β':aC}{h h':IH}(hW:WR P β h w)(he:Eff β h w β' h' w')(hl:h'.low=h.next):Beyond w w':=by
 refine⟨λk hk=>?_,he.size,he.os,he.tape,he.output,he.drawn⟩;by_cases hx:∀i g,β i=some g->h.get i≠none->g.b≠k
 ·exact he.keep k hk hx
 ·have hx:∃i g,β i=some g/\h.get i≠none/\g.b=k:=by
   exact r5
  obtain⟨i,g,hi,hg,rfl⟩:=hx;have hin:=hW.dom i g hi;exact he.sF i g (by rw[hl];exact hin) hin hi hg hk
variable{f:FuncId}
theorem akl{fn:Func}(hfn:P.funcs[f]? =some fn){body:Code}(hb:fn.body=some body)(hname:fn.name≠ "runtime.NumGoroutine")(xs:Array Value)(w:World):(callFunc f xs).run P w=.ok (.enter f xs) w:=by
 exact mj
theorem ak1(zN:P.follows .mixedOrders=true){g:FuncId}{fn:Func}(hfn:P.funcs[g]? =some fn){body:Code}(hb:fn.body=some body)(hname:fn.name≠ "runtime.NumGoroutine"){args args' cap cap':List Value}{F:List aK}{n:Int}
 (hC:aU P (.func g) args cap [] F (λ_:Unit=>.int .i64 n) (λ_=>[]) (λ_=>[]) (λ_=>True)) {β:aC} {w:World} {d:Wd} (hlow:d.h.low=d.h.next) (hF:∀f∈F,f.p d) (hG:kz P β) (hW:WR P β d.h w) (ha:aZ β args args') (hc:aZ β cap cap'):
 Calls P g ((⟨args'⟩:Array Value)++(⟨cap'⟩:Array Value)) w λe w'=>e=.returned (.int .i64 n)/\∃q os,w'=Go.Sort.grow (w.drewN q) os:=by
 have hst:St [] d [] F d:=⟨⟨bV _,λ_ _ _=>rfl,λ_ _=>rfl⟩,Wd.Le.refl d,λi hi hz=>.inl hz,⟨[],rfl,wy,vm⟩,hF⟩
 have hM:=Z9 zN (hC [] d hst);obtain⟨nx,F0,n1,n2,n3⟩:=hM β w (.func g) args' cap' hG hW (.func g) ha hc;have hnx:nx=.enter g ((⟨args'⟩:Array Value)++(⟨cap'⟩:Array Value)):=by
  have n1:(invoke (.fn (.func g) ⟨cap'⟩) ⟨args'⟩).run P w=.ok nx w:=n1;simp only[invoke]at n1;rw[akl hfn hb hname]at n1;cases n1;rfl
 subst hnx;have zU:F0=Frame.enter P g ((⟨args'⟩:Array Value)++(⟨cap'⟩:Array Value)) .normal:=by
  have:entry P .normal (.enter g ((⟨args'⟩:Array Value)++(⟨cap'⟩:Array Value)))=some (Frame.enter P g ((⟨args'⟩:Array Value)++(⟨cap'⟩:Array Value)) .normal):=rfl;have n2:entry P .normal (.enter g ((⟨args'⟩:Array Value)++(⟨cap'⟩:Array Value)))=some F0:=n2;rw[this]at n2;exact(Option.some.inj n2).symm
 subst zU;intro cs;obtain⟨r,pm',h',β',w',r',cs1,q1,q2,q3,q4,q5,q6⟩:=n3 cs (by intro m hm;cases hm);obtain⟨hp,d2,_,rfl,hs2,rfl,_⟩:=q1;have ak2:=hs2.agree.low (by rw[hlow];exact bV _) vm;cases q5;cases q4 with
 | @ok v v' qW=>
   have:=qW.mF;subst this;rcases q6 with⟨f1,a1,F1,e1,e2,e3,e4,e5⟩|⟨⟨_,l,e1⟩,_⟩
   ·cases e1;refine⟨.returned _,w',F1,⟨rfl,(q3.beyond hW (ak2.trans hlow)).grown⟩,e2,e3,?_⟩;obtain⟨t1,t2,fn,t3,t4⟩:=e5;exact⟨t1,t2,e4,fn,t3,t4⟩
   ·cases e1
def aju(P:Program)(f:FuncId)(k:Nat):Prop:=∀(α:Type) [Inhabited α] (enc:α->List Value) (cf:α->α->Int) (g:FuncId) (cb:Array Value) (blk off cap:Nat) (d:Array α) (w:World),
 (∀x,(enc x).length=k)->(∀x,∀v∈enc x,v.oneCell'=true)->SWO (ltOf cf)->(∀args w,(callFunc g args).run P w=.ok (.enter g args) w)->CmpLays P g cb enc k cf blk off d.size w->HoldsK enc k w blk off d->blk<w.heap.size->d.size<4611686018427387904->
 Calls P f #[.slice (some ⟨blk,off,none⟩) d.size cap,.func (.func g) #[] cb] w λe w'=>e=.returned (.tuple #[])/\∃d' n os,PermIn 0 d.size d d'/\SortedIn (ltOf cf) 0 d.size d'/\w'=sortWorldK enc k w blk off n d' os
def ajL(P:Program)(f:FuncId)(k:Nat)(wr:List Value->Value):Prop:=∀(α:Type) [Inhabited α] (enc:α->List Value) (cf:α->α->Int) (g:FuncId) (cb:Array Value) (blk off cap:Nat) (d:Array α) (w:World),
 (∀x,(enc x).length=k)->(∀x,∀v∈enc x,v.oneCell'=true)->SWO (ltOf cf)->(∀args w,(callFunc g args).run P w=.ok (.enter g args) w)->
 (∀(m:Nat) (os:Array Obj) (dk:Array α),dk.size=d.size->∀x y:α,Calls P g (#[wr (enc x),wr (enc y)]++cb) (sortWorldK enc k w blk off m dk os) λe w'=>e=.returned (.int .i64 (cf x y))/\∃q os',w'=Go.Sort.grow ((sortWorldK enc k w blk off m dk os).drewN q) os')->
 HoldsK enc k w blk off d->blk<w.heap.size->d.size<4611686018427387904->
 Calls P f #[.slice (some ⟨blk,off,none⟩) d.size cap,.func (.func g) #[] cb] w λe w'=>e=.returned (.tuple #[])/\∃d' n os,PermIn 0 d.size d d'/\SortedIn (ltOf cf) 0 d.size d'/\w'=sortWorldK enc k w blk off n d' os
def akm(l:List Value):Value:=.agg ⟨l⟩
theorem aju.toW{k:Nat}(h:aju P f k):ajL P f k akm:=h
structure El{X:Type}(β:aC)(E:Enc X)(xs:List X)(d:Wd) where
 x:X
 y:E.Y
 v:List Value
 mem:x∈xs
 rel:aZ β (E.pat x y) v
 cell:(E.pat x y).all cellV=true
 fs:∀f∈E.fs x y,f.p d
theorem aZ.oneCell{vs vs':List Value}(hv:aZ β vs vs')(hall:vs.all cellV=true):∀v∈vs',v.oneCell'=true:=λv hv'=>by
 obtain⟨j,hj⟩:=jT hv';have hjl:j<vs.length:=by
  have:=(bC.1 hj).1;rw[hv.length]at this;exact this
 exact jt
noncomputable def Wd.but(d:Wd)(b:Nat):Wd:=⟨⟨(d.h.kill b).t,d.h.next,d.h.next⟩,d.z,d.ni⟩
theorem Wd.ahz(d:Wd)(b i:Nat):(d.but b).h.get i=if i=b then none else d.h.get i:=by
 show(d.h.kill b).get i=_;exact IH.uf _ _ _
theorem Wd.ak3{d:Wd}{b:Nat}(hz:¬d.z b):d.Le (d.but b):=⟨bV _,λ_ h=>h,λi hi=>by rw[Wd.ahz,if_neg (λe:i=b=>hz (e▸hi))]⟩
variable{α:Type}
theorem ak4[Inhabited α](enc:α->List Value)(k:Nat)(w:World)(blk off m:Nat)(dk:Array α)(os:Array Obj){b:Nat}(hb:b<w.heap.size)(hne:b≠blk):(sortWorldK enc k w blk off m dk os).heap[b]? =w.heap[b]?:=by
 show((w.heap.modify blk _)++os)[b]? =_;rw[akS (by rw[Array.size_modify];exact hb),Array.getElem?_modify,if_neg (λe=>hne e.symm)]
theorem WR.ak5[Inhabited α]{β:aC}{d:Wd}{w:World}(hW:WR P β d.h w){b:Nat}{g:iD}{cs:List Value}(hi:β b=some g)(hg:d.h.get b=some (.cells cs))(enc:α->List Value)(k off m:Nat)(dk:Array α)(os:Array Obj):
 WR P β (d.but b).h (sortWorldK enc k w g.b off m dk os):=by
 refine⟨hW.dom,λi o h=>?_,λi g' o h1 h2=>?_,λi j g1 g2 h1 h2 h3 h4 h5 h6=>?_⟩
 ·rw[Wd.ahz]at h;split at h
  ·cases h
  ·exact hW.live i o h
 ·rw[Wd.ahz]at h2;split at h2
  ·cases h2
  ·rename_i hib;have hO:=hW.obj i g' o h1 h2;refine hO.congr (ak4 enc k w g.b off m dk os hO.lt λe=>hib ?_);exact hW.inj i b g' g h1 hi (by rw[h2];simp) (by rw[hg];simp) (.inr λcs2=>by rw[hg];simp) e
 ·rw[Wd.ahz]at h3 h4;rw[Wd.ahz,Wd.ahz]at h5;split at h3
  ·exact absurd rfl h3
  split at h4
  ·exact absurd rfl h4
  rename_i n1 n2;rw[if_neg n1,if_neg n2]at h5;exact hW.inj i j g1 g2 h1 h2 h3 h4 h5 h6
theorem List.ak6{R:α->α->Prop}{l:List α}(h:∀(i j:Nat) x y,i<j->l[i]? =some x->l[j]? =some y->R x y):l.Pairwise R:=
 zm.2 λi j hi hj hij=>h i j _ _ hij (bW hi) (bW hj)
theorem ak7(zN:P.follows .mixedOrders=true){f g:FuncId}{k:Nat}{wr:List Value->Value}(hwr:∀{β:aC} {vs vs':List Value},vs.length=k->vs.all cellV=true->aZ β vs vs'->VR β (wr vs) (wr vs'))(hS:ajL P f k wr){fn:Func}(hfn:P.funcs[f]? =some fn){body:Code}(hb:fn.body=some body)(hname:fn.name≠ "runtime.NumGoroutine"){gn:Func}(hgn:P.funcs[g]? =some gn){ahF:Code}(hgb:gn.body=some ahF)(ahA:gn.name≠ "runtime.NumGoroutine")
 {X:Type} {E:Enc X} (hE:E.n=k) (hk0:0<k) {xs:List X} {cf:X->X->Int} (hO:SWO (ltOf cf)) {cap:List Value} {F:List aK}
 (hC:∀x∈xs,∀y∈xs,∀a b,aU P (.func g) [wr (E.pat x a),wr (E.pat y b)] cap [] (E.fs x a++(E.fs y b++F)) (λ_:Unit=>.int .i64 (cf x y)) (λ_=>[]) (λ_=>[]) (λ_=>True))
 {d:Wd} {b o c:Nat} {fl:Option Nat} {cs:List Value} (hg:d.h.get b=some (.cells cs)) (hz:¬d.z b) (hF:∀f∈F,f.p d)
 (hel:∀(j:Nat) x,xs[j]? =some x->∃y,(∀(t:Nat) u,(E.pat x y)[t]? =some u->cs[o+j*E.n+t]? =some u)/\∀f∈E.fs x y,f.p d) (hcs:cs.length=o+xs.length*E.n) (hne:0<xs.length) (hlen:xs.length<4611686018427387904):
 mG P ⟨.func f,[.slice (some ⟨b,o,fl⟩) xs.length c,.func (.func g) ⟨[]⟩ ⟨cap⟩],[],none⟩ d.h (λr pm h2=>pm=none/\r=.ok (.tuple ⟨[]⟩)/\∃(zs:List (X×E.Y)) (cs2:List Value),(zs.map (·.1)).Perm xs/\(zs.map (·.1)).Pairwise (λx y=>¬cf y x<0)/\cs2.length=cs.length/\
  (∀(j:Nat) p,zs[j]? =some p->(∀(t:Nat) u,(E.pat p.1 p.2)[t]? =some u->cs2[o+j*E.n+t]? =some u)/\∀f∈E.fs p.1 p.2,f.p d)/\h2=d.h.set b (.cells cs2)):=by
 subst hE;intro β w fn' args' cap' hG hW hf ha hcap;obtain⟨jN,t1,t2⟩:=Qv (P:=P) (q:=⟨.func f,[.slice (some ⟨b,o,fl⟩) xs.length c,.func (.func g) ⟨[]⟩ ⟨cap⟩],[],none⟩) (f:=f) (args:=[.slice (some ⟨b,o,fl⟩) xs.length c,.func (.func g) ⟨[]⟩ ⟨cap⟩]) B5 hf ha hcap hfn hb hname w;cases t2 with|cons hv tl=>
 cases tl with|cons hv2 tl=>
 cases tl;obtain⟨gi,a,c',hi,rfl,hab,_,hn,hcc,hao,_⟩:=hv.nI;obtain⟨fn2,f2,cb,hfr2,hf2,hcb,rfl⟩:=hv2.zI;cases hfr2;cases hf2;have hao:a.off=gi.off+o/\a.spot=none:=by
  rcases hao with e|e
  ·omega
  ·exact e
 obtain⟨⟨c0,t0,fz0,hh⟩,q2,q3,q4,q5,q6⟩:=hW.obj b gi _ hi hg;have ea:a=⟨gi.b,gi.off+o,none⟩:=by
  obtain⟨ab,ao,asp⟩:=a;simp only at hab hao;rw[hab,hao.1,hao.2]
 subst ea;have hlt:gi.b<w.heap.size:=(WG.1 hh).1;have ak8:∀j t,j<xs.length->t<E.n->o+j*E.n+t<cs.length:=λj t hj ht=>by
  have:=akd E.n (show j+1<=xs.length from hj);rw[rW,A7]at this;omega
 let cellOf:Nat->Value:=λt=>(w.cell? ⟨gi.b,gi.off+o+t,none⟩).getD .nilFunc
 have hcell:∀t,t<xs.length*E.n->w.cell? ⟨gi.b,gi.off+o+t,none⟩=some (cellOf t)/\w.frozen? ⟨gi.b,gi.off+o+t,none⟩=false:=λt ht=>by
  obtain⟨r1,r2⟩:=q4 (gi.off+o+t) vj;refine⟨?_,r2⟩;obtain⟨v,hv⟩:=akR.1 r1;show _=some ((w.cell? ⟨gi.b,gi.off+o+t,none⟩).getD .nilFunc);rw[hv];rfl
 have hex:∀j,j<xs.length->∃e:El β E xs d,xs[j]? =some e.x/\e.v=(List.range E.n).map λt=>cellOf (j*E.n+t):=λj hj=>by
  have hx:xs[j]? =some xs[j]:=bW hj;obtain⟨y,h1,h2⟩:=hel j _ hx;refine⟨⟨xs[j],y,(List.range E.n).map λt=>cellOf (j*E.n+t),xP hj,?_,?_,h2⟩,hx,rfl⟩
  ·refine aZ.WX (by rw[cz,o8,E.len]) λt v ht=>?_;have htn:t<E.n:=by have:=(bC.1 ht).1;rw[E.len]at this;exact this
   obtain⟨v',r1,r2⟩:=q6 _ v (h1 t v ht);refine⟨v',?_,r2⟩;rw[dK,qN htn,jU];show some ((w.cell? ⟨gi.b,gi.off+o+(j*E.n+t),none⟩).getD .nilFunc)=_;rw[show gi.off+o+(j*E.n+t)=gi.off+(o+j*E.n+t)by omega,r1];rfl
  ·rw[kR]at q5⊢;intro v hv;obtain⟨t,ht⟩:=jT hv;exact q5 v (aP (h1 t v ht))
 have e0:El β E xs d:=Classical.choice (by obtain⟨e,_⟩:=hex 0 hne;exact⟨e⟩)
 haveI:Inhabited (El β E xs d):=⟨e0⟩
 obtain⟨el,aci⟩:∃el:Nat->El β E xs d,∀j,j<xs.length->xs[j]? =some (el j).x/\(el j).v=(List.range E.n).map λt=>cellOf (j*E.n+t):=
  ⟨λj=>if h:j<xs.length then Classical.choose (hex j h)else e0,λj hj=>by dsimp only;rw[dif_pos hj];exact Classical.choose_spec (hex j hj)⟩
 let D:Array (El β E xs d):=((List.range xs.length).map el).toArray
 have hDs:D.size=xs.length:=by simp[D]
 have hDg:∀j,j<xs.length->D[j]! =el j:=λj hj=>by
  rw[getElem!_pos D j (by rw[hDs];exact hj)];simp[D]
 have hDx:D.toList.map (·.x)=xs:=by
  apply jv;intro j;by_cases hj:j<xs.length
  ·rw[(aci j hj).1];simp[D,hj]
  ·rw[gJ (l:=xs) vj,gJ (by simp[D];omega)]
 have hlv:∀e:El β E xs d,e.v.length=E.n:=λe=>by rw[e.rel.length,E.len]
 have hH:HoldsK (λe:El β E xs d=>e.v) E.n w gi.b (gi.off+o) D:=λt ht=>by
  have ht:t<xs.length*E.n:=by rw[size_flatK,hDs]at ht;exact ht
  rw[get_flatK _ _ _ _ (by rw[hDs];exact ht)];have hq:t/E.n<xs.length:=(ake hk0).2 ht;have hr:t%E.n<E.n:=aht _ hk0;rw[hDg _ hq,(aci _ hq).2];have:((List.range E.n).map λt'=>cellOf (t/E.n*E.n+t'))[t%E.n]! =cellOf t:=by
   rw[getElem!_pos _ _ (by simpa using hr)];simp only[List.getElem_map,List.getElem_range];rw[ahy,Nat.div_add_mod]
  rw[this];exact hcell t ht
 have hO2:SWO (ltOf λa b:El β E xs d=>cf a.x b.x):=⟨λa=>hO.irrefl a.x,λa b c=>hO.trans a.x b.x c.x,λa b c=>hO.ntrans a.x b.x c.x⟩
 have hcmp:∀(m:Nat) (os:Array Obj) (dk:Array (El β E xs d)),dk.size=D.size->∀x y:El β E xs d,Calls P g (#[wr x.v,wr y.v]++⟨cb⟩) (sortWorldK (λe:El β E xs d=>e.v) E.n w gi.b (gi.off+o) m dk os) λe w'=>e=.returned (.int .i64 (cf x.x y.x))/\∃q os',w'=Go.Sort.grow ((sortWorldK (λe:El β E xs d=>e.v) E.n w gi.b (gi.off+o) m dk os).drewN q) os':=λm os dk _ x y=>by
  have hle:=Wd.ak3 hz;exact ak1 zN hgn hgb ahA (hC x.x x.mem y.x y.mem x.y y.y) (d:=d.but b) rfl (λfa hfa=>by
   rcases dW.1 hfa with h|h
   ·exact fa.mono hle (x.fs fa h)
   ·rcases dW.1 h with h|h
    ·exact fa.mono hle (y.fs fa h)
    ·exact fa.mono hle (hF fa h)) hG (hW.ak5 hi hg _ _ _ m dk os) (.cons (hwr (E.len _ _) x.cell x.rel) (.cons (hwr (E.len _ _) y.cell y.rel) .nil)) hcb
 have hK:=hS (El β E xs d) (λe=>e.v) (λa b=>cf a.x b.x) g ⟨cb⟩ gi.b (gi.off+o) c' D w hlv (λe=>aZ.oneCell e.rel e.cell) hO2 (λxs w=>akl hgn hgb ahA xs w) hcmp hH hlt (by rw[hDs];exact hlen);refine⟨_,Frame.enter P f ⟨_⟩ .normal,t1,rfl,λcs0 zO=>?_⟩;rw[hDs]at hK;obtain⟨e,w',fr,⟨he,d2,n2,os,hpm,hsd,hw'⟩,hcomes,hfr,hlv2⟩:=hK cs0;subst he;have hd2:d2.size=xs.length:=hpm.1.trans hDs;have hdg:∀(j:Nat) e,d2.toList[j]? =some e->j<xs.length/\d2[j]! =e:=λj e h=>by
  rw[zg]at h;obtain⟨hj,he⟩:=WG.1 h;exact⟨vj,by rw[getElem!_pos d2 j hj];exact he⟩
 let zs:List (X×E.Y):=d2.toList.map λe=>(e.x,e.y)
 let L:List Value:=(List.range (xs.length*E.n)).map λt=>(E.pat (d2[t/E.n]!).x (d2[t/E.n]!).y).getD (t%E.n) .nilFunc
 let L':List Value:=(flatK (λe:El β E xs d=>e.v) E.n d2).toList
 have hLl:L.length=xs.length*E.n:=by simp[L]
 have hLg:∀t,t<xs.length*E.n->L[t]? =some ((E.pat (d2[t/E.n]!).x (d2[t/E.n]!).y).getD (t%E.n) .nilFunc):=λt ht=>by
  show((List.range (xs.length*E.n)).map _)[t]? =_;rw[dK,qN ht];rfl
 have alb:L'.length=xs.length*E.n:=by simp[L',hd2]
 have ajO:∀(e:El β E xs d) t,t<E.n->(E.pat e.x e.y)[t]? =some ((E.pat e.x e.y).getD t .nilFunc):=λe t ht=>by
  rw[List.getD_eq_getElem?_getD,bW (by rw[E.len];exact ht)];rfl
 have akn:∀(t:Nat) v,L[t]? =some v->t<xs.length*E.n:=λt v ht=>by
  have:=(bC.1 ht).1
  rwa [hLl]at this
 have hrel:aZ β L L':=aZ.WX (by rw[alb,hLl]) λt v ht=>by
  have htn:=akn t v ht;rw[hLg t htn]at ht;cases ht;have hr:=aht t hk0;obtain⟨v',r1,r2⟩:=(d2[t/E.n]!).rel.get (ajO _ _ hr);refine⟨v',?_,r2⟩;have h1:L'[t]? =some (flatK (λe:El β E xs d=>e.v) E.n d2)[t]!:=by
   show(flatK (λe:El β E xs d=>e.v) E.n d2).toList[t]? =_;rw[zg,WJ (by rw[size_flatK,hd2];exact htn),getElem!_pos _ _ (by rw[size_flatK,hd2];exact htn)]
  rw[h1,get_flatK _ _ _ _ (by rw[hd2];exact htn)];show some ((d2[t/E.n]!).v)[t%E.n]! =_;rw[getElem!_pos _ _ (by rw[hlv];exact hr),<- bW];exact r1
 have hall:L.all cellV=true:=by
  rw[kR];intro v hv;obtain⟨t,ht⟩:=jT hv;have htn:=akn t v ht;rw[hLg t htn]at ht;cases ht;exact kR.1 (d2[t/E.n]!).cell _ (aP (ajO _ _ (aht t hk0)))
 obtain⟨cs2,hl⟩:=Ms cs o L (by rw[hLl];omega);obtain⟨l1,l2,l3⟩:=Ki hl;have hs:d.h.storeAt b o L=some (d.h.set b (.cells cs2)):=by unfold IH.storeAt;simp only[hg,hl]
 obtain⟨_,w1,w2⟩:=Kl hW hi hs hrel hall;have hw1:sortWorldK (λe:El β E xs d=>e.v) E.n w gi.b (gi.off+o) n2 d2 os=Go.Sort.grow (Sort.ahead (w.setCells gi.b (gi.off+o) L') n2) os:=by
  have:=Go.Ideal.setCells_putRow (id:Value->Value) w gi.b (gi.off+o) (flatK (λe:El β E xs d=>e.v) E.n d2);rw[List.map_id]at this;rw[show w.setCells gi.b (gi.off+o) L'=_ from this];rfl
 rw[hw1]at hw';have w3:WR P β (d.h.set b (.cells cs2)) (Sort.ahead (w.setCells gi.b (gi.off+o) L') n2):=w1.uh rfl;have w4:=w2.trans (Eff.uh (w':=Sort.ahead (w.setCells gi.b (gi.off+o) L') n2) w1.dom rfl rfl rfl rfl (Nat.le_add_right _ _));obtain⟨w5,w6⟩:=w3.grow os;rw[<- hw']at w5 w6;refine⟨.ok (.tuple ⟨[]⟩),none,_,β,w',.returned (.tuple #[]),cs0,⟨rfl,rfl,zs,cs2,?_,?_,l2,?_,rfl⟩,w5,w4.trans w6,.ok (.dO _),.none cs0,.inl ⟨f,_,fr,rfl,hcomes,hfr,hlv2.2.2.1,hlv2.1,hlv2.2.1,hlv2.2.2.2⟩⟩
 ·have hp:=hpm.2.2;rw[show d2.extract 0 xs.length=d2 by rw[<- hd2];simp,show D.extract 0 xs.length=D by rw[<- hDs];simp]at hp;have h1:=hp.map (·.x);rw[hDx]at h1;show((d2.toList.map λe=>(e.x,e.y)).map (·.1)).Perm xs;rw[xS];exact h1
 ·show((d2.toList.map λe=>(e.x,e.y)).map (·.1)).Pairwise _;rw[xS];refine List.ak6 λi j x y hij hx hy=>?_;rw[dK,jV]at hx hy;obtain⟨e1,hx,rfl⟩:=hx;obtain⟨e2,hy,rfl⟩:=hy;have h1:=hdg i e1 hx;have h2:=hdg j e2 hy;have:=hsd i j (bQ _) hij h2.1;rw[h1.2,h2.2]at this;exact mV this
 ·intro j p hj;have hj:(d2.toList.map λe=>(e.x,e.y))[j]? =some p:=hj;rw[dK,jV]at hj;obtain⟨e,he0,rfl⟩:=hj;obtain⟨hjn,he⟩:=hdg j e he0;refine⟨λt u ht=>?_,e.fs⟩;have htn:t<E.n:=by have:=(bC.1 ht).1;rw[E.len]at this;exact this
  have hb2:=ak8 j t hjn htn;rw[l3,if_pos ⟨vj,by rw[hLl];omega⟩,show o+j*E.n+t - o=j*E.n+t by omega,hLg _ vj];have d1:(j*E.n+t)/E.n=j:=by rw[ahy,Nat.mul_add_div hk0,Nat.div_eq_of_lt htn,AV]
  have d3:(j*E.n+t)%E.n=t:=by rw[ahy,Nat.mul_add_mod,Nat.mod_eq_of_lt htn]
  rw[d1,d3,he,<- ajO e t htn];exact ht
def ajv(P:Program)(f:FuncId):Prop:=∀(p:Option Addr) (cap:Nat) (fv:Value) (w:World),Calls P f #[.slice p 0 cap,fv] w λe w'=>e=.returned (.tuple #[])/\w'=w
theorem VR.alc{a:Option Addr}{n c:Nat}{v:Value}(h:VR β (.slice a n c) v):∃p c',v=.slice p n c':=by
 cases h<;>exact⟨_,_,rfl⟩
theorem ald(hS:ajv P f){fn:Func}(hfn:P.funcs[f]? =some fn){body:Code}(hb:fn.body=some body)(hname:fn.name≠ "runtime.NumGoroutine"){a:Option Addr}{c:Nat}{fv:Value}{h:IH}:
 mG P ⟨.func f,[.slice a 0 c,fv],[],none⟩ h (λr pm h2=>pm=none/\r=.ok (.tuple ⟨[]⟩)/\h2=h):=by
 intro β w fn' args' cap' hG hW hf ha' hcap;obtain⟨jN,t1,t2⟩:=Qv (P:=P) (q:=⟨.func f,[.slice a 0 c,fv],[],none⟩) (f:=f) (args:=[.slice a 0 c,fv]) B5 hf ha' hcap hfn hb hname w;cases t2 with|cons hv tl=>
 cases tl with|cons hv2 tl=>
 cases tl;obtain⟨p,c',rfl⟩:=hv.alc;refine⟨_,Frame.enter P f ⟨_⟩ .normal,t1,rfl,λcs0 zO=>?_⟩;obtain⟨e,w',fr,⟨he,hw'⟩,hcomes,hfr,hlv⟩:=hS p c' _ w cs0;subst he hw';exact⟨.ok (.tuple ⟨[]⟩),none,h,β,_,.returned (.tuple #[]),cs0,⟨rfl,rfl,rfl⟩,hW,Eff.refl _ _ _ hW.dom,.ok (.dO _),.none cs0,.inl ⟨f,_,fr,rfl,hcomes,hfr,hlv.2.2.1,hlv.1,hlv.2.1,hlv.2.2.2⟩⟩
theorem ale(zN:P.follows .mixedOrders=true){f g:FuncId}{k:Nat}{wr:List Value->Value}(hwr:∀{β:aC} {vs vs':List Value},vs.length=k->vs.all cellV=true->aZ β vs vs'->VR β (wr vs) (wr vs'))(hS:ajL P f k wr)(hN:ajv P f){fn:Func}(hfn:P.funcs[f]? =some fn){body:Code}(hb:fn.body=some body)(hname:fn.name≠ "runtime.NumGoroutine"){gn:Func}(hgn:P.funcs[g]? =some gn){ahF:Code}(hgb:gn.body=some ahF)(ahA:gn.name≠ "runtime.NumGoroutine")
 {X:Type} {E:Enc X} (hE:E.n=k) (hk0:0<k) {xs:List X} {cf:X->X->Int} (hO:SWO (ltOf cf)) {cap:List Value} {F:List aK} {a:Option Addr}
 (hC:∀x∈xs,∀y∈xs,∀a b,aU P (.func g) [wr (E.pat x a),wr (E.pat y b)] cap [] (E.fs x a++(E.fs y b++F)) (λ_:Unit=>.int .i64 (cf x y)) (λ_=>[]) (λ_=>[]) (λ_=>True))
 (hlen:xs.length<4611686018427387904):
 aU P (.func f) [.slice a xs.length xs.length,.func (.func g) ⟨[]⟩ ⟨cap⟩] [] [ap E (.slice a xs.length xs.length) xs] F (λ_:List X=>.tuple ⟨[]⟩) (λys=>[ap E (.slice a xs.length xs.length) ys]) (λ_=>[]) (λys=>ys.Perm xs/\ys.Pairwise λx y=>¬cf y x<0):=by
 intro B w s;by_cases hx:xs=[]
 ·subst hx;refine .real (Qt _ (ald hN hfn hb hname) ?_);rintro r pm h' ⟨rfl,rfl,rfl⟩;exact⟨rfl,w,[],rfl,⟨s.agree,s.le,s.gF,s.own,λf hf=>by cases hf⟩,rfl,.refl _,.nil⟩
 have hne:0<xs.length:=AX.2 hx;obtain⟨S,⟨S1,S2,q1,q2,e⟩,h2,h3⟩:=s.own;rcases q1 with⟨h,_⟩|⟨b,o,fl,cells,e1,hf,e2,hb',hcl,hel⟩
 ·exact absurd h hx
 injection e1 with e1 e1';subst e1 e2 e;have hzb:¬w.z b:=(h3 b vm).2.2;refine .real (Qt _ (ak7 zN hwr hS hfn hb hname hgn hgb ahA hE hk0 hO hC hb' hzb s.facts hel hcl hne hlen) ?_);rintro r pm h' ⟨rfl,rfl,zs,cs2,hp,hpw,hl2,alf,rfl⟩;have s1:St B w [pt b (.cells cells)] [] w:=⟨s.agree,s.le,s.gF,⟨[b]++S2,⟨[b],S2,⟨rfl,hb'⟩,q2,rfl⟩,h2,h3⟩,λf hf=>by cases hf⟩
 have s2:=s1.write (o':=.cells cs2);have hle:w.Le ⟨w.h.set b (.cells cs2),w.z,λi hi=>w.ni i hi⟩:=s2.le;have hzl:zs.length=xs.length:=by have:=hp.length_eq;rwa [cz]at this
 refine⟨rfl,⟨w.h.set b (.cells cs2),w.z,λi hi=>w.ni i hi⟩,zs.map (·.1),rfl,?_,rfl,hp,hpw⟩;refine s2.BI (A':=ap E (.slice (some ⟨b,o,some fl⟩) xs.length xs.length) (zs.map (·.1))) λS' hp'=>?_;refine .inr ⟨b,o,fl,cs2,by rw[cz,hzl],hf,hp'.1,hp'.2,by rw[hl2,hcl,cz,hzl],λj x hj=>?_⟩;rw[dK,jV]at hj;obtain⟨p,hj,rfl⟩:=hj;obtain⟨r1,r2⟩:=alf j p hj;exact⟨p.2,r1,λf hf=>f.mono hle (r2 f hf)⟩
theorem alg(zN:P.follows .mixedOrders=true){f g:FuncId}{k:Nat}(hS:aju P f k)(hN:ajv P f){fn:Func}(hfn:P.funcs[f]? =some fn){body:Code}(hb:fn.body=some body)(hname:fn.name≠ "runtime.NumGoroutine"){gn:Func}(hgn:P.funcs[g]? =some gn){ahF:Code}(hgb:gn.body=some ahF)(ahA:gn.name≠ "runtime.NumGoroutine")
 {X:Type} {E:Enc X} (hE:E.n=k) (hk0:0<k) {xs:List X} {cf:X->X->Int} (hO:SWO (ltOf cf)) {cap:List Value} {F:List aK} {a:Option Addr}
 (hC:∀x∈xs,∀y∈xs,∀a b,aU P (.func g) [.agg ⟨E.pat x a⟩,.agg ⟨E.pat y b⟩] cap [] (E.fs x a++(E.fs y b++F)) (λ_:Unit=>.int .i64 (cf x y)) (λ_=>[]) (λ_=>[]) (λ_=>True))
 (hlen:xs.length<4611686018427387904):
 aU P (.func f) [.slice a xs.length xs.length,.func (.func g) ⟨[]⟩ ⟨cap⟩] [] [ap E (.slice a xs.length xs.length) xs] F (λ_:List X=>.tuple ⟨[]⟩) (λys=>[ap E (.slice a xs.length xs.length) ys]) (λ_=>[]) (λys=>ys.Perm xs/\ys.Pairwise λx y=>¬cf y x<0):=
 ale zN (wr:=akm) (λ_ h1 h2=>.agg h1 h2) hS.toW hN hfn hb hname hgn hgb ahA hE hk0 hO hC hlen
end Go.Ideal
namespace Go.Ideal
variable {P:Program} {B:List Nat} {w0:Wd} {kl kl' bG:List OA} {F:List aK} {K:KO} {ds:List Tmp} {rest:List bT} {n:Nat} {l:List (Nat×Value)} {D:List Deferred} {pm:Option FrameMode} {ro:Option Nat} {d:Nat} {g:Option (Tmp×Bool)}
variable{α:Type}{k:Nat}
theorem alh{E:Enc α}{aF:List (α×E.Y)}{p:α×E.Y}(hp:aF[k]? =some p):jd (jE (fZ E aF) (k*E.n)) E.n=some (E.pat p.1 p.2):=by
 have hk:=(bC.1 hp).1;have hl:=Ew aF;have hm:(k+1)*E.n<=aF.length*E.n:=akd _ hk;rw[rW,A7]at hm;rw[qV,sD,if_pos xp];congr 1;apply jv;intro j;rw[tO];by_cases hj:j<E.n
 ·have hu:(E.pat p.1 p.2)[j]? =some ((E.pat p.1 p.2)[j]'(by rw[E.len];exact hj)):=bW _;rw[if_pos hj,qK,hu];exact Ac hp hu
 ·rw[if_neg hj,gJ (by rw[E.len];omega)]
theorem ajP{E:Enc α}(a b:List (α×E.Y)):fZ E (a++b)=fZ E a++fZ E b:=by unfold fZ;rw[List.flatMap_append]
theorem ali{E:Enc α}{aF:List (α×E.Y)}{p:α×E.Y}(hk:k<aF.length):jK (fZ E aF) (k*E.n) (E.pat p.1 p.2)=some (fZ E (aF.set k p)):=by
 have h1:aF=aF.take k++aF.drop k:=(uU k aF).symm;have hd:aF.drop k=aF[k]::aF.drop (k+1):=wz hk;have h2:fZ E aF=fZ E (aF.take k)++(E.pat aF[k].1 aF[k].2++fZ E (aF.drop (k+1))):=by
  conv=>lhs;rw[h1,hd,ajP]
  rfl
 have h3:k*E.n=(fZ E (aF.take k)).length:=by rw[Ew,ig,ahv vj]
 rw[h2,h3,akk (by rw[E.len,iE,E.len];omega),E.len,List.drop_append_of_le_length (by rw[E.len];exact bV _),List.drop_of_length_le (by rw[E.len];exact bV _),dX];congr 1;have h4:aF.set k p=aF.take k++p::aF.drop (k+1):=by
  conv=>lhs;rw[h1]
  rw[JU _ _ (by rw[ig];omega),ig,ahv vj,ww,hd];rfl
 rw[h4,ajP];rfl
theorem aia(E:Enc α){aF:List (α×E.Y)}{k o b m:Nat}{p:α×E.Y}{x:Operand}(hp:aF[k]? =some p)(ho:o=k*E.n)
 (next:R (λh=>aG P ds rest (act n ((d,.agg ⟨E.pat p.1 p.2⟩)::l) D pm ro) h K) B w0 kl F)
 (hx:ev l x=.pointer (some ⟨b,o,none⟩):=by rfl) (hk:ay (pt b (.cells (fZ E aF))) kl kl':=by exact iw) (hz:E.n=m:=by rfl) (hn:Nat.blt d n=true:=by rfl) (hg:bZ l g=true:=by rfl):
 R (λh=>aG P ds (⟨⟨some d,g,.qc m x⟩,[]⟩::rest) (act n l D pm ro) h K) B w0 kl F:=by
 subst ho hz;exact(abj hn hg hx hk (alh hp)).h next
theorem alj(E:Enc α){aF:List (α×E.Y)}{k o b m:Nat}(p:α×E.Y){x y:Operand}(hlt:k<aF.length)(ho:o=k*E.n)
 (next:R (λh=>aG P ds rest (act n l D pm ro) h K) B w0 (pt b (.cells (fZ E (aF.set k p)))::kl') F)
 (hx:ev l x=.pointer (some ⟨b,o,none⟩):=by rfl) (hy:ev l y=.agg ⟨E.pat p.1 p.2⟩:=by rfl) (hk:ay (pt b (.cells (fZ E aF))) kl kl':=by exact iw) (hz:E.n=m:=by rfl) (hg:bZ l g=true:=by rfl):
 R (λh=>aG P ds (⟨⟨none,g,.store m x y⟩,[]⟩::rest) (act n l D pm ro) h K) B w0 kl F:=by
 subst ho hz;exact(abm (vs:=E.pat p.1 p.2) hg hx (by rw[hy];rfl) (by rw[wJ,E.len];exact ahD _) hk (ali hlt)).h next
variable{b o f m c:Nat}{x:Operand}
theorem ajQ{ρ:Operand->Value}{olo ohi:Option Operand}{lo hi:Nat}{size:Nat}(hx:ρ x=.slice (some ⟨b,o,some f⟩) m c)(hf:f=0\/f=size)(hs:0<size)(hlo:olo=none/\lo=0\/∃t,olo=some t/\ρ t=.int .i64 (lo:Int))(hhi:ohi=none/\hi=m\/∃t,ohi=some t/\ρ t=.int .i64 (hi:Int))(h1:lo<=hi)(h2:hi<=c):
 Pu P ρ (.O1 size x olo ohi none) (.slice (some ⟨b,o+lo*size,some f⟩) (hi - lo) (c - lo)):=λh=>by
 have e3:upTo c (.int .i64 (hi:Int))=some hi:=akj h2;have e4:upTo hi (.int .i64 (lo:Int))=some lo:=akj h1;have hbd:bounds? m c (jf ρ olo) (jf ρ ohi) none=some (lo,hi,c):=by
  rcases hlo with⟨rfl,rfl⟩|⟨t,rfl,ht⟩<;>rcases hhi with⟨rfl,hm⟩|⟨t',rfl,ht'⟩
  ·rw[hm];rfl
  ·show bounds? m c none (some (ρ t')) none=_;rw[ht'];show(match upTo c (.int .i64 (hi:Int))with|none=>none|some h=>match some 0 with|none=>none|some l=>some (l,h,c))=_;rw[e3]
  ·rw[hm]at e4⊢;show bounds? m c (some (ρ t)) none none=_;rw[ht];show(match upTo m (.int .i64 (lo:Int))with|none=>none|some l=>some (l,m,c))=_;rw[e4]
  ·show bounds? m c (some (ρ t)) (some (ρ t')) none=_;rw[ht,ht'];show(match upTo c (.int .i64 (hi:Int))with|none=>none|some h=>match upTo h (.int .i64 (lo:Int))with|none=>none|some l=>some (l,h,c))=_;rw[e3];show(match upTo hi (.int .i64 (lo:Int))with|none=>none|some l=>some (l,hi,c))=_;rw[e4]
 have h3:jf ρ none=none:=rfl;simp only[aB.run,hx,h3,hbd];match f,hf with
 |0,_=>rfl
 |k+1,hf=>
  have hk:k+1=size:=by
   rcases hf with h|h
   ·cases h
   ·exact h
  show cond (Nat.beq (Nat.succ k) size) (some (Value.slice (some ⟨b,Nat.add o (Nat.mul lo size),some (Nat.succ k)⟩) (hi - lo) (c - lo),h)) none=_;rw[show Nat.beq (Nat.succ k) size=true by rw[show Nat.succ k=size from hk];exact ahD _];rfl
theorem alm{zero:List Value}{cs cs':List Value}(hv:jK cs o (zeros zero m)=some cs')(h0:0<m)
 (next:R (λh=>aG P ds rest (act n l D pm ro) h K) B w0 (pt b (.cells cs')::kl') F)
 (hx:ev l x=.slice (some ⟨b,o,some f⟩) m c:=by rfl) (hk:ay (pt b (.cells cs)) kl kl':=by exact iw) (hg:bZ l g=true:=by rfl):
 R (λh=>aG P ds (⟨⟨none,g,.clear zero x⟩,[]⟩::rest) (act n l D pm ro) h K) B w0 kl F:=λw s=>by
 obtain⟨k,rfl⟩:∃k,m=k+1:=⟨m - 1,vj⟩
 exact LD hg (v:=.tuple #[]) (h':=w.h.set b (.cells cs')) (by simp only[aB.run,hx];simp only[IH.storeAt,(s.at_ hk).2,hv]) (next _ ((s.gK hk).write))
theorem aln(E:Enc α){xs:List α}{b f m:Nat}{Q:IH->Prop}(h:∀aF:List (α×E.Y),aF.map (·.1)=xs->m=xs.length->(f=0\/f=E.n)->R Q B w0 (pt b (.cells (fZ E aF))::kl') (wZ E aF::F))
 (hk:ay (ap E (.slice (some ⟨b,0,some f⟩) m m) xs) kl kl':=by exact iw):R Q B w0 kl F:=λw s=>by
 have s1:=s.gK hk;obtain⟨S,⟨S1,S2,q1,q2,e⟩,h2,h3⟩:=s1.own;rcases q1 with⟨_,h0,_⟩|⟨b',o',f',cells,h4,h5,h6,h7,h8,h9⟩
 ·cases h0
 injection h4 with e1 e2 e3;injection e1 with e1;injection e1 with e1 e4 e5;injection e5 with e5;subst e1 e4 e5 e2;rw[fC]at h8;obtain⟨l,hl,hp⟩:=Ma (p:=λk (p:α×E.Y)=>xs[k]? =some p.1/\(∀(j:Nat) u,(E.pat p.1 p.2)[j]? =some u->cells[0+k*E.n+j]? =some u)/\∀f∈E.fs p.1 p.2,f.p w) xs.length (λk hk=>by
  obtain⟨y,q1,q2⟩:=h9 k xs[k] (bW hk);exact⟨(xs[k],y),bW hk,q1,q2⟩)
 have hm:l.map (·.1)=xs:=by
  exact me
 have hfl:=Ew (E:=E) l;have hcells:cells=fZ E l:=by
  apply jv;intro j;by_cases hj:j<l.length*E.n
  ·have hn0:0<E.n:=by
    rcases JL E.n with h0|h0
    ·rw[h0]at hj;omega
    ·exact h0
   have hd:j/E.n<l.length:=by rw[ake hn0];exact hj
   have hmod:=aht j hn0;have hpk:=bW hd;have hu:(E.pat (l[j/E.n]).1 (l[j/E.n]).2)[j%E.n]? =some ((E.pat (l[j/E.n]).1 (l[j/E.n]).2)[j%E.n]'(by rw[E.len];exact hmod)):=bW _;have u1:=(hp _ _ hpk).2.1 (j%E.n) _ hu;have u2:=Ac hpk hu;have D5:j/E.n*E.n+j%E.n=j:=by rw[ahy];exact Nat.div_add_mod j E.n
   rw[fC,D5]at u1;rw[D5]at u2;rw[u1,u2]
  ·rw[gJ (by rw[h8,<- hl];omega),gJ vj]
 refine h l hm rfl h5 w ⟨s1.agree,s1.le,s1.gF,⟨S,⟨S1,S2,⟨h6,by rw[<- hcells];exact h7⟩,q2,e⟩,h2,h3⟩,λg hg=>?_⟩;rcases dH.1 hg with rfl|hg
 ·intro p hp' g hg;obtain⟨k,hk⟩:=uW.1 hp';exact(hp k p hk).2.2 g hg
 ·exact s1.facts g hg
theorem ajR(E:Enc α){aF:List (α×E.Y)}{rest':List Value}{b f c:Nat}{Q:IH->Prop}(hf:f=0\/f=E.n)(hc:aF.length<=c)(h:R Q B w0 kl' (ai E (.slice (some ⟨b,0,some f⟩) aF.length c) (aF.map (·.1))::F))
 (ha:∀w,(∀f∈F,f.p w)->(wZ E aF).p w) (hk:ay (pt b (.cells (fZ E aF++rest'))) kl kl':=by exact iw):R Q B w0 kl F:=λw s=>by
 have hall:=ha w s.facts;obtain⟨w',hw,s'⟩:=(s.gK hk).freeze (fs:=[⟨λw=>Fz w b (fZ E aF++rest'),λa h=>h.mono a⟩]) (λw w' S hp hle hh hz g hg=>by
  rw[bK.1 hg];exact⟨hz b (by rw[hp.1];exact bK.2 rfl),.inl (by rw[hh];exact hp.2)⟩)
 have hfz:Fz w' b (fZ E aF++rest'):=s'.facts _ (cZ ..);have Qc:=ha w' λf hf=>s'.facts f (oF _ hf);rw[<- hw];refine h w' ⟨s'.agree,s'.le,s'.gF,s'.own,λg hg=>?_⟩;rcases dH.1 hg with rfl|hg
 ·refine .inr ⟨b,0,f,c,_,⟨by rw[cz],by rw[cz];exact hc,hf⟩,hfz,λk x hk=>?_⟩;rw[dK]at hk;cases hp:aF[k]? with
  |none=>rw[hp]at hk;cases hk
  |some p=>
   rw[hp]at hk;cases hk;refine⟨p.2,λj u hj=>?_,Qc p (aP hp)⟩;have:=Ac hp hj;rw[fC,qL (bC.1 this).1];exact this
 ·exact s'.facts g (oF _ hg)
theorem acM(E:Enc α){v:Value}{aF:List (α×E.Y)}{Q:IH->Prop}(h0:aF=[]->∀c,v=.slice none 0 c->R Q B w0 kl F)(h1:aF=[]->∀i o f c,v=.slice (some ⟨i,o,some f⟩) 0 c->R Q B w0 kl F)
 (h2:0<aF.length->∀i o f c,v=.slice (some ⟨i,o,some f⟩) aF.length c->R Q B w0 kl F) (hf:rD E v aF∈F:=by exact vF):R Q B w0 kl F:=λw s=>by
 rcases s.facts _ hf with⟨e,a,c,hv,hg⟩|⟨i,o,f,c,cells,⟨hv,_⟩,_⟩
 ·exact ph
 ·exact ri
theorem alo{E:Enc α}{v:Value}{xs:List α}{Q:IH->Prop}(h:∀a,v=.slice a xs.length xs.length->(xs=[]->a=none\/∃b o,a=some ⟨b,o,some 0⟩\/a=some ⟨b,o,some E.n⟩)->R Q B w0 kl F)(hk:ay (ap E v xs) kl kl':=by exact iw):R Q B w0 kl F:=λw s=>by
 obtain⟨S,⟨S1,S2,q1,q2,e⟩,h2,h3⟩:=(s.gK hk).own;rcases q1 with⟨rfl,h1,_⟩|⟨b,o,f,cells,h4,h5,_⟩
 ·exact h none h1 (λ_=>.inl rfl) w s
 ·refine h _ h4 (λ_=>.inr ⟨b,o,?_⟩) w s;rcases h5 with h5|h5
  ·subst h5;exact .inl rfl
  ·subst h5;exact .inr rfl
theorem alp(E:Enc α){x i:Operand}{v:Value}{xs:List α}(k:Nat)(z:α){kk:IntKind}{d2 m:Nat}{g2:Option (Tmp×Bool)}(hz:xs[k]? =some z)
 (next:∀b o (y:E.Y),R (λh=>aG P ds rest (act n ((d2,.agg ⟨E.pat z y⟩)::(d,.pointer (some ⟨b,o,none⟩))::l) D pm ro) h K) B w0 kl (E.fs z y++F))
 (hn:Nat.blt d n=true:=by rfl) (hg:bZ l g=true:=by rfl) (hn2:Nat.blt d2 n=true:=by rfl) (hg2:∀u,bZ ((d,u)::l) g2=true:=by intro _;rfl) (hx:ev l x=v:=by conv=>lhs;whnf) (hi:ev l i=.int kk (k:Int):=by rfl)
 (hk:ay (ap E v xs) kl kl':=by exact iw) (hm:E.n=m:=by rfl):
 R (λh=>aG P ds (⟨⟨some d,g,.nG m x i⟩,[]⟩::⟨⟨some d2,g2,.qc m (.tmp d)⟩,[]⟩::rest) (act n l D pm ro) h K) B w0 kl F:=by
 subst hm;intro w s;have s1:=s.gK hk;obtain⟨S,⟨S1,S2,p,p2,e⟩,h2,h3⟩:=s1.own;have hlt:=(bC.1 hz).1;rcases p with⟨h,_⟩|⟨b,o,f,cells,e1,hf,e2,hb,hcl,hel⟩
 ·rw[h]at hz;cases hz
 ·subst e1;obtain⟨y,u1,u2⟩:=hel k z hz;have hm:(k+1)*E.n<=xs.length*E.n:=akd _ hlt;rw[rW,A7]at hm;have hc:jd (jE cells (o+(k:Int).toNat*E.n)) E.n=some (E.pat z y):=by
   rw[gy,qV,sD,if_pos xp];congr 1;apply jv;intro j;rw[tO];by_cases hj:j<E.n
   ·have hu:(E.pat z y)[j]? =some ((E.pat z y)[j]'(by rw[E.len];exact hj)):=bW _;rw[if_pos hj,qK,hu];exact u1 j _ hu
   ·rw[if_neg hj,gJ (by rw[E.len];omega)]
  refine LG hn hg hx hi vj vj ?_;have hbS:b∈S:=Bk
  refine aaq hn2 (hg2 _) Bm ⟨(h3 b hbS).2.1,hb⟩ hc (next _ _ y w ⟨s.agree,s.le,s.gF,s.own,λf hf=>?_⟩);rcases dW.1 hf with hf|hf
  ·exact u2 f hf
  ·exact s.facts f hf
end Go.Ideal
namespace Go.Ideal
variable {P:Program}
def ahB{α:Type}(P:Program)(vals:α->List Value)(fn:Fn)(first cap:List Value)(O:List OA)(F:List aK)(X:List α->Prop):Prop:=
 ∀(S:Type) (inv:S->List OA) (ok:List α->S->Prop) (step:S->α->S×Bool) (s0:S) (Eu:Fn) (y1 y2:List Value) (F':List aK),ok [] s0->
  (∀vs s x rest,ok vs s->X (vs++x::rest)->(step s x).2=true->ok (vs++[x]) (step s x).1)->
  (∀vs s x rest,ok vs s->X (vs++x::rest)->aU P Eu (y1++vals x) y2 (inv s) F' (λ_:Unit=>.bool (step s x).2) (λ_=>inv (step s x).1) (λ_=>[]) (λ_=>True))->
  aU P fn (first++[.func Eu ⟨y1⟩ ⟨y2⟩]) cap (inv s0++O) (F++F') (λ_:List α=>.tuple ⟨[]⟩) (λxs=>inv (lX step s0 xs)++O) (λ_=>[]) X
section
variable {B:List Nat} {w0:Wd} {kl kl' bG:List OA} {F:List aK} {K:KO} {n:Nat} {l:List (Nat×Value)} {D:List Deferred} {pm:Option FrameMode} {ro:Option Nat}
variable{S α Z:Type}{ps:List Tmp}{assign body:dB}{fn:Fn}{first captured:List Value}{O:List OA}{F1:List aK}
theorem alq{f:Operand}{vals:α->List Value}{X:List α->Prop}(step:S->α->S×Out)(inv:S->List OA)(ok:List α->S->Prop)(s0:S)(h0:ok [] s0)
 (hok:∀vs s x rest,ok vs s->X (vs++x::rest)->(step s x).2=.normal->ok (vs++[x]) (step s x).1) (hit:ahB P vals fn first captured O F1 X)
 (hf:ev l f=.func fn ⟨first⟩ ⟨captured⟩) (hps:ps.all (λp=>Nat.blt p n)=true) (hlen:∀x,ps.length=(vals x).length) (hk:aI (inv s0++O) kl bG) (hF:Sub F1 F) (jH:∀s x,Ei (step s x).2)
 (l3:α->Z->List (Nat×Value)) (k3:α->Z->List OA)
 (ha:∀(s:S) (x:α) (lo:Nat) (o:dQ) B w0,R (λh=>EV P assign (act n ((ps.zip (vals x)).reverse++l) [] none (some lo)) h (Ib B w0 n (l3 x) lo o (λz=>k3 x z++inv s) F)) B w0 (pt lo o::inv s) F)
 (hb:∀(vs:List α) (s:S) (x:α) (rest:List α) (z:Z) (lo:Nat) (L:oG) B w0,ok vs s->X (vs++x::rest)->R (λh=>EV P body (act n (l3 x z) [] none (some lo)) h (Ej B w0 lo L (λ_:Unit=>(step s x).2) (λ_=>inv (step s x).1) (λ_=>[]) (λ_=>True))) B w0 (pt lo (.loop (yD L))::(k3 x z++inv s)) F)
 (next:∀r xs,X xs->R (λh=>K (oL step s0 xs).2 (act n l ({target:=.collected r,args:= #[]}::D) pm none) h) B w0 ((inv (oL step s0 xs).1++O)++(pt r (.iY true)::bG)) F):
 R (λh=>EV P (.rangeFunc f ps assign body) (act n l D pm none) h K) B w0 kl F:=by
 refine abS (Y:=List α) (k1:=inv s0++O) (F1:=F1++F) (Mc:=λ_=>.tuple ⟨[]⟩) (out:=λxs=>(oL step s0 xs).2) (k1':=λxs=>inv (oL step s0 xs).1++O) (fs:=λ_=>[]) (pr:=X) hf ?_ hk (hF.app (Sub.refl' F [])) (λr y hy=>next r y hy);intro lo r;have:=hit (S×Out) (λso=>pt lo (.loop (ol ⟨.ready,none,iQ l,n,ps,assign,body,r⟩ so.2))::inv so.1) (λvs so=>so.2=.normal/\ok vs so.1) (λso x=>(step so.1 x,qp (step so.1 x).2)) (s0,.normal) (.yield lo) [] [] F ⟨rfl,h0⟩
  (λvs so x rest ho hx h=>by
    exact eA)
  (λvs so x rest ho hx=>by
    exact cS)
 have e:(λxs:List α=>(pt lo (.loop (ol ⟨.ready,none,iQ l,n,ps,assign,body,r⟩ (lX (λ(so:S×Out) x=>(step so.1 x,qp (step so.1 x).2)) (s0,.normal) xs).2))::inv (lX (λ(so:S×Out) x=>(step so.1 x,qp (step so.1 x).2)) (s0,.normal) xs).1)++O)=λxs=>pt lo (.loop (ol ⟨.ready,none,iQ l,n,ps,assign,body,r⟩ (oL step s0 xs).2))::(inv (oL step s0 xs).1++O):=by
  funext xs
  rw[Rv];rfl
 have h2:aU P fn (first++[.func (.yield lo) ⟨[]⟩ ⟨[]⟩]) captured (pt lo (.loop ⟨.ready,none,iQ l,n,ps,assign,body,r⟩)::(inv s0++O)) (F1++F) (λ_:List α=>.tuple ⟨[]⟩) (λxs=>(pt lo (.loop (ol ⟨.ready,none,iQ l,n,ps,assign,body,r⟩ (lX (λ(so:S×Out) x=>(step so.1 x,qp (step so.1 x).2)) (s0,.normal) xs).2))::inv (lX (λ(so:S×Out) x=>(step so.1 x,qp (step so.1 x).2)) (s0,.normal) xs).1)++O) (λ_=>[]) X:=this;rw[e]at h2;exact h2
theorem alr{f:Operand}{vals:α->List Value}{X:List α->Prop}(step:S->α->S×Out)(inv:S->List OA)(ok:List α->S->Prop)(s0:S)(l3:α->Z->List (Nat×Value))(k3:α->Z->List OA)(h0:ok [] s0)
 (hok:∀vs s x rest,ok vs s->X (vs++x::rest)->(step s x).2=.normal->ok (vs++[x]) (step s x).1) (hit:ahB P vals fn first captured O F1 X)
 (ha:∀(s:S) (x:α) (lo:Nat) (o:dQ) B w0,R (λh=>EV P assign (act n ((ps.zip (vals x)).reverse++l) [] none (some lo)) h (Ib B w0 n (l3 x) lo o (λz=>k3 x z++inv s) F)) B w0 (pt lo o::inv s) F)
 (hb:∀(vs:List α) (s:S) (x:α) (rest:List α) (z:Z) (lo:Nat) (L:oG) B w0,ok vs s->X (vs++x::rest)->R (λh=>EV P body (act n (l3 x z) [] none (some lo)) h (Ej B w0 lo L (λ_:Unit=>(step s x).2) (λ_=>inv (step s x).1) (λ_=>[]) (λ_=>True))) B w0 (pt lo (.loop (yD L))::(k3 x z++inv s)) F)
 (next:∀r xs,X xs->R (λh=>K (oL step s0 xs).2 (act n l ({target:=.collected r,args:= #[]}::D) pm none) h) B w0 ((inv (oL step s0 xs).1++O)++(pt r (.iY true)::bG)) F)
 (jH:∀s x,Ei (step s x).2)
 (hf:ev l f=.func fn ⟨first⟩ ⟨captured⟩:=by rfl) (hps:ps.all (λp=>Nat.blt p n)=true:=by rfl) (hlen:∀x,ps.length=(vals x).length:=by intro _;rfl)
 (hk:aI (inv s0++O) kl bG:=by exact oK) (hF:Sub F1 F:=by exact oJ):
 R (λh=>EV P (.rangeFunc f ps assign body) (act n l D pm none) h K) B w0 kl F:=
 alq step inv ok s0 h0 hok hit hf hps hlen hk hF jH l3 k3 ha hb next
variable{xs:List Int}{v:Value}{Q:IH->Prop}
theorem als(hne:0<xs.length)(h:∀b f pre,(f=0\/f=1)->v=.slice (some ⟨b,pre.length,some f⟩) xs.length xs.length->R Q B w0 (pt b (.cells (pre++xs.map (.int .i64)))::kl') F)(hk:ay (ap ae v xs) kl kl':=by exact iw):R Q B w0 kl F:=λw s=>by
 have s1:=s.gK hk;obtain⟨S,⟨S1,S2,q1,q2,e⟩,h2,h3⟩:=s1.own;rcases q1 with⟨h0,_⟩|⟨b,o,f,cells,h4,h5,h6,h7,h8,h9⟩
 ·rw[h0]at hne;simp at hne
 ·have h8:cells.length=o+xs.length*1:=h8;have hpl:(cells.take o).length=o:=by rw[ig];omega
  have hc:cells=cells.take o++xs.map (.int .i64):=by
   exact ff
  refine h b f (cells.take o) h5 (by rw[hpl];exact h4) w ⟨s1.agree,s1.le,s1.gF,⟨S,⟨S1,S2,⟨h6,by rw[<- hc];exact h7⟩,q2,e⟩,h2,h3⟩,s1.facts⟩
theorem alu{b f m:Nat}{pre:List Value}(hm:m=xs.length)(hf:f=0\/f=1)(h:R Q B w0 (ap ae (.slice (some ⟨b,pre.length,some f⟩) m m) xs::kl') F)(hk:ay (pt b (.cells (pre++xs.map (.int .i64)))) kl kl':=by exact iw):R Q B w0 kl F:=λw s=>by
 subst hm;refine h w ((s.gK hk).zW (A:=pt b (.cells (pre++xs.map (.int .i64)))) λw S hp=>.inr ⟨b,pre.length,f,_,rfl,hf,hp.1,hp.2,by rw[iE,cz];show _=pre.length+xs.length*1;omega,λk x hx=>⟨(),λj u hj=>?_,λf hf=>by cases hf⟩⟩);exact eW
theorem ako{ds:List Tmp}{rest:List bT}{d d2:Nat}{g g2:Option (Tmp×Bool)}{x i:Operand}(k:Nat)(z:Int){kk:IntKind}(hz:xs[k]? =some z)
 (next:∀b o,R (λh=>aG P ds rest (act n ((d2,.int .i64 z)::(d,.pointer (some ⟨b,o,none⟩))::l) D pm ro) h K) B w0 kl F)
 (hn:Nat.blt d n=true:=by rfl) (hg:bZ l g=true:=by rfl) (hn2:Nat.blt d2 n=true:=by rfl) (hg2:∀u,bZ ((d,u)::l) g2=true:=by intro _;rfl) (hx:ev l x=v:=by conv=>lhs;whnf) (hi:ev l i=.int kk (k:Int):=by rfl)
 (hk:ay (ap ae v xs) kl kl':=by exact iw):
 R (λh=>aG P ds (⟨⟨some d,g,.nG 1 x i⟩,[]⟩::⟨⟨some d2,g2,.gB (.tmp d)⟩,[]⟩::rest) (act n l D pm ro) h K) B w0 kl F:=by
 intro w s;have s1:=s.gK hk;obtain⟨S,⟨S1,S2,p,p2,e⟩,h2,h3⟩:=s1.own;have hlt:=(bC.1 hz).1;rcases p with⟨h,_⟩|⟨b,o,f,cells,e1,hf,e2,hb,hcl,hel⟩
 ·rw[h]at hz;cases hz
 ·subst e1;obtain⟨y,u1,_⟩:=hel k z hz;have hc:cells[o+(k:Int).toNat*1]? =some (.int .i64 z):=by
   exact rS
  refine LG hn hg hx hi vj vj ?_;have hbS:b∈S:=Bk
  exact Gv hn2 (hg2 _) Bm ⟨(h3 b hbS).2.1,hb⟩ hc (next _ _ w s)
end
variable{xs:List Int}{F:List aK}{kl:List OA}
theorem St.opI{B:List Nat}{w0 w:Wd}{v:Value}(hne:0<xs.length)(s1:St B w0 (ap ae v xs::kl) F w):∃b f pre,(f=0\/f=1)/\v=.slice (some ⟨b,pre.length,some f⟩) xs.length xs.length/\St B w0 (pt b (.cells (pre++xs.map (.int .i64)))::kl) F w:=by
 obtain⟨S,⟨S1,S2,q1,q2,e⟩,h2,h3⟩:=s1.own;rcases q1 with⟨h0,_⟩|⟨b,o,f,cells,h4,h5,h6,h7,h8,h9⟩
 ·rw[h0]at hne;simp at hne
 ·have h8:cells.length=o+xs.length*1:=h8;have hpl:(cells.take o).length=o:=by rw[ig];omega
  have hc:cells=cells.take o++xs.map (.int .i64):=by
   exact ff
  exact⟨b,f,cells.take o,h5,by rw[hpl];exact h4,s1.agree,s1.le,s1.gF,⟨S,⟨S1,S2,⟨h6,by rw[<- hc];exact h7⟩,q2,e⟩,h2,h3⟩,s1.facts⟩
variable{pre:List Value}
theorem acO{b f m:Nat}(hm:m=xs.length)(hf:f=0\/f=1)(w:Wd)(S:List Nat)(hp:(pt b (.cells (pre++xs.map (.int .i64)))).p w S):(ap ae (.slice (some ⟨b,pre.length,some f⟩) m m) xs).p w S:=by
 subst hm;refine .inr ⟨b,pre.length,f,_,rfl,hf,hp.1,hp.2,by rw[iE,cz];show _=pre.length+xs.length*1;omega,λk x hx=>⟨(),λj u hj=>?_,λf hf=>by cases hf⟩⟩;exact eW
variable{cap:List Value}{Y:Type}{fn:Fn}
theorem aU.acP{args:Option Addr->List Value}{a:Option Addr}{zs:Y->List Int}{val:Y->Value}{fs:Y->List aK}{pr:Y->Prop}(hne:0<xs.length)(hl:∀y,(zs y).length=xs.length)
 (h:∀b f pre,(f=0\/f=1)->aU P fn (args (some ⟨b,pre.length,some f⟩)) cap [pt b (.cells (pre++xs.map (.int .i64)))] F val (λy=>[pt b (.cells (pre++(zs y).map (.int .i64)))]) fs pr):
 aU P fn (args a) cap [ap ae (.slice a xs.length xs.length) xs] F val (λy=>[ap ae (.slice a xs.length xs.length) (zs y)]) fs pr:=λB w s=>by
 obtain⟨b,f,pre,hf,ev,s'⟩:=s.opI hne;obtain rfl:a=some ⟨b,pre.length,some f⟩:=by injection ev
 refine .qY _ (h b f pre hf B w s') ?_;rintro r pm h' ⟨h1,w',y,e1,st,e2,e3⟩;exact⟨h1,w',y,e1,st.zW λw S hp=>acO (hl y).symm hf w S hp,e2,e3⟩
theorem aU.weak{args:List Value}{val:Y->Value}{kl':Y->List OA}{fs:Y->List aK}{pr SN:Y->Prop}(h:aU P fn args cap kl F val kl' fs pr)(hp:∀y,pr y->SN y):aU P fn args cap kl F val kl' fs SN:=λB w s=>by
 refine .qY _ (h B w s) ?_;rintro r pm h' ⟨h1,w',y,e1,st,e2,e3⟩;exact⟨h1,w',y,e1,st,e2,hp y e3⟩
variable{k:Nat}{x:Int}
theorem SQ(h:xs[k]? =some x):(pre++xs.map (Value.int .i64))[pre.length+k*1]? =some (.int .i64 x):=by
 rw[qa vj,show pre.length+k*1 - pre.length=k by omega,dK,h];rfl
theorem SS:(pre++xs.map (Value.int .i64)).set (pre.length+k*1) (.int .i64 x)=pre++(xs.set k x).map (.int .i64):=by
 rw[JU _ _ vj,show pre.length+k*1 - pre.length=k by omega,List.map_set]
