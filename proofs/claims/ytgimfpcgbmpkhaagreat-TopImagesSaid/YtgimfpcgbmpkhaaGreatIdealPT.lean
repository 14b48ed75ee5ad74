/- Part. -/
import Derived.Test.YtgimfpcgbmpkhaaGreatIdealNT
import Derived.Lib.Bytealg
import Derived.Lib.Atoi
import Derived.Lib.ConvBytes
import Derived.Shelf.SlSortCmp.WholeK
import Derived.Shelf.SlSortCmp.Whole1
import Derived.Sort.EncStr
set_option linter.all false
namespace Go.Ideal
structure Beyond(w w':World):Prop where
 heap:∀b,b<w.heap.size->w'.heap[b]? =w.heap[b]?
 size:w.heap.size<=w'.heap.size
 os:w'.os=w.os
 tape:w'.tape=w.tape
 output:w'.output=w.output
 drawn:w.drawn<=w'.drawn
def WR.beyond{P:Program}{β:aQ}{h:IH}{w w':World}(hW:WR P β h w)(hb:Beyond w w'):WR P β h w'/\Eff β h w β h w':=
 ⟨⟨hW.dom,hW.live,λi g o h1 h2=>(hW.obj i g o h1 h2).congr (hb.heap _ (hW.obj i g o h1 h2).lt),hW.inj⟩,
  ⟨λ_ _=>rfl,bG _,λ_ _ h=>h,λ_ _ _=>rfl,bG _,λ_ _ _=>rfl,hb.os,hb.tape,hb.output,hb.size,λb hb' _=>hb.heap b hb',λi g hg hi=>absurd (hW.dom _ _ hg) s6,λi g _ _ _ _ hb'=>hb.heap _ hb',hb.drawn⟩⟩
open Go.Sort Go.Proofs Go.RowKit Go.Lib Go.Shelf
variable {P:Program}
variable{w w':World}
def Beyond.grown(h:Beyond w w'):∃q os,w'=Go.Sort.grow (w.drewN q) os:=by
 refine⟨w'.drawn - w.drawn,w'.heap.extract w.heap.size w'.heap.size,?_⟩;obtain⟨heap,tape,drawn,os,output⟩:=w;obtain⟨heap',tape',drawn',os',output'⟩:=w';obtain⟨h1,h2,h3,h4,h5,h6⟩:=h;dsimp only at h1 h2 h3 h4 h5 h6;subst h3 h4 h5;have e1:heap'=heap++heap'.extract heap.size heap'.size:=by
  grind
 have e2:drawn'=drawn+(drawn' - drawn):=s6
 show World.mk heap' tape' drawn' os' output'=World.mk (heap++heap'.extract heap.size heap'.size) tape' (drawn+(drawn' - drawn)) os' output';rw[<- e1,<- e2]
variable{β:aQ}
def Eff.beyond{β':aQ}{h h':IH}(hW:WR P β h w)(he:Eff β h w β' h' w')(hl:h'.low=h.next):Beyond w w':=by
 refine⟨λk hk=>?_,he.size,he.os,he.tape,he.output,he.drawn⟩;by_cases hx:∀i g,β i=some g->h.get i≠none->g.b≠k
 .exact he.keep k hk hx
 .have hx:∃i g,β i=some g/\h.get i≠none/\g.b=k:=by
   grind
  obtain⟨i,g,hi,hg,rfl⟩:=hx;have hin:=hW.dom i g hi;exact he.vO i g (by rw[hl];exact hin) hin hi hg hk
variable{f:gy}
def aaf{fn:Func}(hfn:P.funcs[f]? =some fn){body:Code}(hb:fn.body=some body)(hname:fn.name≠ "runtime.NumGoroutine")(xs:Array ah)(w:World):(callFunc f xs).run P w=.ok (.enter f xs) w:=by
 exact ii
def akd(sW:P.follows .mixedOrders=true){g:gy}{fn:Func}(hfn:P.funcs[g]? =some fn){body:Code}(hb:fn.body=some body)(hname:fn.name≠ "runtime.NumGoroutine"){args args' cap cap':ae ah}{F:ae aI}{n:Int}
 (hC:aY P (.func g) args cap [] F (λ_:Unit=>.int .i64 n) (λ_=>[]) (λ_=>[]) (λ_=>True)) {β:aQ} {w:World} {d:Wd} (hlow:d.h.low=d.h.next) (hF:∀f∈F,f.p d) (hG:jW P β) (hW:WR P β d.h w) (ha:bB β args args') (hc:bB β cap cap'):
 Calls P g ((⟨args'⟩:Array ah)++(⟨cap'⟩:Array ah)) w λe w'=>e=.returned (.int .i64 n)/\∃q os,w'=Go.Sort.grow (w.drewN q) os:=by
 have hst:St [] d [] F d:=⟨⟨bG _,λ_ _ _=>rfl,λ_ _=>rfl⟩,Wd.Le.refl d,λi hi hz=>.inl hz,⟨[],rfl,Ad,s7⟩,hF⟩
 have hM:=Yz sW (hC [] d hst);obtain⟨nx,F0,n1,n2,n3⟩:=hM β w (.func g) args' cap' hG hW (.func g) ha hc;have hnx:nx=.enter g ((⟨args'⟩)++(⟨cap'⟩)):=by
  simp only[invoke]at n1;rw[aaf hfn hb hname]at n1;cases n1;rfl
 subst hnx;have yx:F0=Frame.enter P g ((⟨args'⟩)++(⟨cap'⟩)) .normal:=by
  have:entry P .normal (.enter g ((⟨args'⟩)++(⟨cap'⟩)))=some (Frame.enter P g ((⟨args'⟩)++(⟨cap'⟩)) .normal):=rfl;have n2:entry P .normal (.enter g ((⟨args'⟩)++(⟨cap'⟩)))=some F0:=n2
  grind
 subst yx;intro cs;obtain⟨r,pm',h',β',w',r',cs1,q1,q2,q3,q4,q5,q6⟩:=n3 cs (by intro m hm;cases hm);obtain⟨hp,d2,_,rfl,hs2,rfl,_⟩:=q1;have ake:=hs2.agree.low (by grind) s7;cases q5;cases q4 with
 | @ok v v' oL=>
   have:=oL.oh;subst this;rcases q6 with⟨f1,a1,F1,e1,e2,e3,e4,e5⟩|⟨⟨_,l,e1⟩,_⟩
   .cases e1;refine⟨.returned _,w',F1,⟨rfl,(q3.beyond hW (ake.trans hlow)).grown⟩,e2,e3,?_⟩;exact qu
   .cases e1
def OG(P:Program)(f:gy)(k:Nat):Prop:=∀(α:Type) [Inhabited α] (enc:α->ae ah) (cf:α->α->Int) (g:gy) (cb:Array ah) (blk off cap:Nat) (d:Array α) (w:World),
 (∀x,(enc x).length=k)->(∀x,∀v∈enc x,v.oneCell'=true)->SWO (ltOf cf)->(∀args w,(callFunc g args).run P w=.ok (.enter g args) w)->CmpLays P g cb enc k cf blk off d.size w->HoldsK enc k w blk off d->blk<w.heap.size->d.size<4611686018427387904->
 Calls P f #[.slice (some ⟨blk,off,none⟩) d.size cap,.func (.func g) #[] cb] w λe w'=>e=.returned (.tuple #[])/\∃d' n os,PermIn 0 d.size d d'/\SortedIn (ltOf cf) 0 d.size d'/\w'=sortWorldK enc k w blk off n d' os
def Kj(P:Program)(f:gy)(k:Nat)(wr:ae ah->ah):Prop:=∀(α:Type) [Inhabited α] (enc:α->ae ah) (cf:α->α->Int) (g:gy) (cb:Array ah) (blk off cap:Nat) (d:Array α) (w:World),
 (∀x,(enc x).length=k)->(∀x,∀v∈enc x,v.oneCell'=true)->SWO (ltOf cf)->(∀args w,(callFunc g args).run P w=.ok (.enter g args) w)->
 (∀(m:Nat) (os:Array Obj) (dk:Array α),dk.size=d.size->∀x y:α,Calls P g (#[wr (enc x),wr (enc y)]++cb) (sortWorldK enc k w blk off m dk os) λe w'=>e=.returned (.int .i64 (cf x y))/\∃q os',w'=Go.Sort.grow ((sortWorldK enc k w blk off m dk os).drewN q) os')->
 HoldsK enc k w blk off d->blk<w.heap.size->d.size<4611686018427387904->
 Calls P f #[.slice (some ⟨blk,off,none⟩) d.size cap,.func (.func g) #[] cb] w λe w'=>e=.returned (.tuple #[])/\∃d' n os,PermIn 0 d.size d d'/\SortedIn (ltOf cf) 0 d.size d'/\w'=sortWorldK enc k w blk off n d' os
def akf(l:ae ah):ah:=.agg ⟨l⟩
def zN(l:ae ah):ah:=l.headD .nilFunc
def OG.toW{k:Nat}(h:OG P f k):Kj P f k akf:=h
structure El{X:Type}(β:aQ)(E:Enc X)(xs:List X)(d:Wd) where
 x:X
 y:E.Y
 v:List Value
 mem:x∈xs
 rel:bB β (E.pat x y) v
 cell:(E.pat x y).all cellV=true
 fs:∀f∈E.fs x y,f.p d
variable{vs vs':ae ah}
def bB.oneCell(hv:bB β vs vs')(hall:vs.all cellV=true):∀v∈vs',v.oneCell'=true:=λv hv'=>by
 obtain⟨j,hj⟩:=gT hv';have hjl:j<vs.length:=by
  have:=(bz.1 hj).1;rw[hv.length]at this;exact this
 exact gg
noncomputable def Wd.but(d:Wd)(b:Nat):Wd:=⟨⟨(d.h.kill b).t,d.h.next,d.h.next⟩,d.z,d.oq⟩
def Wd.GR(d:Wd)(b i:Nat):(d.but b).h.get i=if i=b then none else d.h.get i:=by
 exact IH.uD _ _ _
def Wd.akg{d:Wd}{b:Nat}(hz:¬d.z b):d.Le (d.but b):=⟨bG _,λ_ h=>h,λi hi=>by rw[Wd.GR,if_neg (by grind)]⟩
variable{α:Type}
def akh[Inhabited α](enc:α->ae ah)(k:Nat)(w:World)(blk off m:Nat)(dk:Array α)(os:Array Obj){b:Nat}(hb:b<w.heap.size)(hne:b≠blk):(sortWorldK enc k w blk off m dk os).heap[b]? =w.heap[b]?:=by
 show((w.heap.modify blk _)++os)[b]? =_
 grind
def WR.aki[Inhabited α]{β:aQ}{d:Wd}{w:World}(hW:WR P β d.h w){b:Nat}{g:jk}{cs:ae ah}(hi:β b=some g)(hg:d.h.get b=some (.cells cs))(enc:α->ae ah)(k off m:Nat)(dk:Array α)(os:Array Obj):
 WR P β (d.but b).h (sortWorldK enc k w g.b off m dk os):=by
 refine⟨hW.dom,λi o h=>?_,λi g' o h1 h2=>?_,λi j g1 g2 h1 h2 h3 h4 h5 h6=>?_⟩
 .rw[Wd.GR]at h;split at h
  .cases h
  .exact hW.live i o h
 .rw[Wd.GR]at h2;split at h2
  .cases h2
  .rename_i hib;have hO:=hW.obj i g' o h1 h2;refine hO.congr (akh enc k w g.b off m dk os hO.lt λe=>hib ?_);exact hW.inj i b g' g h1 hi x6 (by rw[hg];simp) (by grind) e
 .rw[Wd.GR]at h3 h4;rw[Wd.GR,Wd.GR]at h5;split at h3
  .exact absurd rfl h3
  split at h4
  .exact absurd rfl h4
  rename_i n1 n2;rw[if_neg n1,if_neg n2]at h5;exact hW.inj i j g1 g2 h1 h2 h3 h4 h5 h6
def List.akj{R:α->α->Prop}{l:ae α}(h:∀(i j:Nat) x y,i<j->l[i]? =some x->l[j]? =some y->R x y):l.Pairwise R:=
 zf.2 λi j hi hj hij=>h i j _ _ hij (by grind) (by grind)
def akk(sW:P.follows .mixedOrders=true){f g:gy}{k:Nat}{wr:ae ah->ah}(hwr:∀{β:aQ} {vs vs':ae ah},vs.length=k->vs.all cellV=true->bB β vs vs'->VR β (wr vs) (wr vs'))(hS:Kj P f k wr){fn:Func}(hfn:P.funcs[f]? =some fn){body:Code}(hb:fn.body=some body)(hname:fn.name≠ "runtime.NumGoroutine"){gn:Func}(hgn:P.funcs[g]? =some gn){GU:Code}(hgb:gn.body=some GU)(GV:gn.name≠ "runtime.NumGoroutine")
 {X:Type} {E:Enc X} (hE:E.n=k) (hk0:0<k) {xs:ae X} {cf:X->X->Int} (hO:SWO (ltOf cf)) {cap:ae ah} {F:ae aI}
 (hC:∀x∈xs,∀y∈xs,∀a b,aY P (.func g) [wr (E.pat x a),wr (E.pat y b)] cap [] (E.fs x a++(E.fs y b++F)) (λ_:Unit=>.int .i64 (cf x y)) (λ_=>[]) (λ_=>[]) (λ_=>True))
 {d:Wd} {b o c:Nat} {fl:az Nat} {cs:ae ah} (hg:d.h.get b=some (.cells cs)) (hz:¬d.z b) (hF:∀f∈F,f.p d)
 (hel:∀(j:Nat) x,xs[j]? =some x->∃y,(∀(t:Nat) u,(E.pat x y)[t]? =some u->cs[o+j*E.n+t]? =some u)/\∀f∈E.fs x y,f.p d) (hcs:cs.length=o+xs.length*E.n) (hne:0<xs.length) (hlen:xs.length<4611686018427387904):
 ol P ⟨.func f,[.slice (some ⟨b,o,fl⟩) xs.length c,.func (.func g) ⟨[]⟩ ⟨cap⟩],[],none⟩ d.h (λr pm h2=>pm=none/\r=.ok (.tuple ⟨[]⟩)/\∃(zs:ae (X×E.Y)) (cs2:ae ah),(zs.map (·.1)).Perm xs/\(zs.map (·.1)).Pairwise (λx y=>¬cf y x<0)/\cs2.length=cs.length/\
  (∀(j:Nat) p,zs[j]? =some p->(∀(t:Nat) u,(E.pat p.1 p.2)[t]? =some u->cs2[o+j*E.n+t]? =some u)/\∀f∈E.fs p.1 p.2,f.p d)/\h2=d.h.set b (.cells cs2)):=by
 subst hE;intro β w fn' args' cap' hG hW hf ha hcap;obtain⟨kU,t1,t2⟩:=JH (P:=P) (q:=⟨.func f,[.slice (some ⟨b,o,fl⟩) xs.length c,.func (.func g) ⟨[]⟩ ⟨cap⟩],[],none⟩) (f:=f) (args:=[.slice (some ⟨b,o,fl⟩) xs.length c,.func (.func g) ⟨[]⟩ ⟨cap⟩]) x7 hf ha hcap hfn hb hname w;cases t2 with|cons hv tl=>
 cases tl with|cons hv2 tl=>
 cases tl;obtain⟨gi,a,c',hi,rfl,hab,_,hn,hcc,hao,_⟩:=hv.oK;obtain⟨fn2,f2,cb,hfr2,hf2,hcb,rfl⟩:=hv2.Cn;cases hfr2;cases hf2;have hao:a.off=gi.off+o/\a.spot=none:=by
  rcases hao with e|e
  .omega
  .exact e
 obtain⟨⟨c0,t0,Tp,hh,_⟩,q2,q3,q4,q5,q6⟩:=hW.obj b gi _ hi hg;have ea:a=⟨gi.b,gi.off+o,none⟩:=by
  obtain⟨ab,ao,asp⟩:=a;simp only at hab hao;rw[hab,hao.1,hao.2]
 subst ea;have hlt:gi.b<w.heap.size:=(QF.1 hh).1;have akl:∀j t,j<xs.length->t<E.n->o+j*E.n+t<cs.length:=λj t hj ht=>by
  have:=Nat.mul_le_mul_right E.n (show j+1<=xs.length from hj);rw[wO,BS]at this;omega
 let cellOf:Nat->ah:=λt=>(w.cell? ⟨gi.b,gi.off+o+t,none⟩).getD .nilFunc
 have hcell:∀t,t<xs.length*E.n->w.cell? ⟨gi.b,gi.off+o+t,none⟩=some (cellOf t)/\w.frozen? ⟨gi.b,gi.off+o+t,none⟩=false:=λt ht=>by
  obtain⟨r1,r2⟩:=q4 (gi.off+o+t) s6;refine⟨?_,r2⟩;obtain⟨v,hv⟩:=Mc.1 r1;show _=some ((w.cell? ⟨gi.b,gi.off+o+t,none⟩).getD .nilFunc);rw[hv];rfl
 have hex:∀j,j<xs.length->∃e:El β E xs d,xs[j]? =some e.x/\e.v=(List.range E.n).map λt=>cellOf (j*E.n+t):=λj hj=>by
  have hx:xs[j]? =some xs[j]:=bN hj;obtain⟨y,h1,h2⟩:=hel j _ hx;refine⟨⟨xs[j],y,(List.range E.n).map λt=>cellOf (j*E.n+t),rG hj,?_,?_,h2⟩,hx,rfl⟩
  .refine bB.MH (by rw[bi,o8,E.len]) λt v ht=>?_;have htn:t<E.n:=by have:=(bz.1 ht).1;rw[E.len]at this;exact this
   obtain⟨v',r1,r2⟩:=q6 _ v (h1 t v ht);refine⟨v',?_,r2⟩;rw[eF,uk htn,oJ];show some ((w.cell? ⟨gi.b,gi.off+o+(j*E.n+t),none⟩).getD .nilFunc)=_;rw[show gi.off+o+(j*E.n+t)=gi.off+(o+j*E.n+t)by omega,r1];rfl
  .rw[jU]at q5⊢;intro v hv;obtain⟨t,ht⟩:=gT hv;exact q5 v (aV (h1 t v ht))
 have e0:El β E xs d:=Classical.choice (by obtain⟨e,_⟩:=hex 0 hne;exact⟨e⟩)
 haveI:Inhabited (El β E xs d):=⟨e0⟩
 obtain⟨el,Ow⟩:∃el:Nat->El β E xs d,∀j,j<xs.length->xs[j]? =some (el j).x/\(el j).v=(List.range E.n).map λt=>cellOf (j*E.n+t):=
  ⟨λj=>if h:j<xs.length then Classical.choose (hex j h)else e0,λj hj=>by dsimp only;rw[dif_pos hj];exact Classical.choose_spec (hex j hj)⟩
 let D:Array (El β E xs d):=((List.range xs.length).map el).toArray
 have hDs:D.size=xs.length:=by simp[D]
 have hDg:∀j,j<xs.length->D[j]! =el j:=λj hj=>by
  rw[getElem!_pos D j (by rw[hDs];exact hj)];simp[D]
 have hDx:D.toList.map (·.x)=xs:=by
  apply iQ;intro j;by_cases hj:j<xs.length
  .rw[(Ow j hj).1];simp[D,hj]
  .rw[fT (l:=xs) s6,fT (by simp[D];omega)]
 have hlv:∀e:El β E xs d,e.v.length=E.n:=λe=>by rw[e.rel.length,E.len]
 have hH:HoldsK (λe:El β E xs d=>e.v) E.n w gi.b (gi.off+o) D:=λt ht=>by
  have ht:t<xs.length*E.n:=by rw[size_flatK,hDs]at ht;exact ht
  rw[get_flatK _ _ _ _ (by rw[hDs];exact ht)];have hq:t/E.n<xs.length:=(WY hk0).2 ht;have hr:t%E.n<E.n:=BN _ hk0;rw[hDg _ hq,(Ow _ hq).2];have:((List.range E.n).map λt'=>cellOf (t/E.n*E.n+t'))[t%E.n]! =cellOf t:=by
   rw[getElem!_pos _ _ (by simpa using hr)];simp only[List.getElem_map,List.getElem_range];rw[IX,Nat.div_add_mod]
  rw[this];exact hcell t ht
 have hO2:SWO (ltOf λa b:El β E xs d=>cf a.x b.x):=⟨λa=>hO.irrefl a.x,λa b c=>hO.trans a.x b.x c.x,λa b c=>hO.ntrans a.x b.x c.x⟩
 have hcmp:∀(m:Nat) (os:Array Obj) (dk:Array (El β E xs d)),dk.size=D.size->∀x y:El β E xs d,Calls P g (#[wr x.v,wr y.v]++⟨cb⟩) (sortWorldK (λe:El β E xs d=>e.v) E.n w gi.b (gi.off+o) m dk os) λe w'=>e=.returned (.int .i64 (cf x.x y.x))/\∃q os',w'=Go.Sort.grow ((sortWorldK (λe:El β E xs d=>e.v) E.n w gi.b (gi.off+o) m dk os).drewN q) os':=λm os dk _ x y=>by
  have hle:=Wd.akg hz;exact akd sW hgn hgb GV (hC x.x x.mem y.x y.mem x.y y.y) (d:=d.but b) rfl (λfa hfa=>by
   rcases fU.1 hfa with h|h
   .exact fa.mono hle (x.fs fa h)
   .rcases fU.1 h with h|h
    .exact fa.mono hle (y.fs fa h)
    .exact fa.mono hle (hF fa h)) hG (hW.aki hi hg _ _ _ m dk os) (.cons (hwr (E.len _ _) x.cell x.rel) (.cons (hwr (E.len _ _) y.cell y.rel) .nil)) hcb
 have hK:=hS (El β E xs d) (λe=>e.v) (λa b=>cf a.x b.x) g ⟨cb⟩ gi.b (gi.off+o) c' D w hlv (λe=>bB.oneCell e.rel e.cell) hO2 (λxs w=>aaf hgn hgb GV xs w) hcmp hH hlt (by rw[hDs];exact hlen);refine⟨_,Frame.enter P f ⟨_⟩ .normal,t1,rfl,λcs0 AB=>?_⟩;rw[hDs]at hK;obtain⟨e,w',fr,⟨he,d2,n2,os,hpm,hsd,hw'⟩,hcomes,hfr,hlv2⟩:=hK cs0;subst he;have hd2:d2.size=xs.length:=hpm.1.trans hDs;have hdg:∀(j:Nat) e,d2.toList[j]? =some e->j<xs.length/\d2[j]! =e:=λj e h=>by
  rw[Array.getElem?_toList]at h;obtain⟨hj,he⟩:=QF.1 h;exact⟨s6,by rw[getElem!_pos d2 j hj];exact he⟩
 let zs:ae (X×E.Y):=d2.toList.map λe=>(e.x,e.y)
 let L:ae ah:=(List.range (xs.length*E.n)).map λt=>(E.pat (d2[t/E.n]!).x (d2[t/E.n]!).y).getD (t%E.n) .nilFunc
 let L':ae ah:=(flatK (λe:El β E xs d=>e.v) E.n d2).toList
 have yD:L.length=xs.length*E.n:=by simp[L]
 have Tz:∀t,t<xs.length*E.n->L[t]? =some ((E.pat (d2[t/E.n]!).x (d2[t/E.n]!).y).getD (t%E.n) .nilFunc):=λt ht=>by
  show((List.range (xs.length*E.n)).map _)[t]? =_;rw[eF,uk ht];rfl
 have ako:L'.length=xs.length*E.n:=by simp[L',hd2]
 have TA:∀(e:El β E xs d) t,t<E.n->(E.pat e.x e.y)[t]? =some ((E.pat e.x e.y).getD t .nilFunc):=λe t ht=>by
  rw[DV,bN (by rw[E.len];exact ht)];rfl
 have aag:∀(t:Nat) v,L[t]? =some v->t<xs.length*E.n:=λt v ht=>by
  have:=(bz.1 ht).1
  rwa [yD]at this
 have hrel:bB β L L':=bB.MH (by rw[ako,yD]) λt v ht=>by
  have htn:=aag t v ht;rw[Tz t htn]at ht;cases ht;have hr:=BN t hk0;obtain⟨v',r1,r2⟩:=(d2[t/E.n]!).rel.get (TA _ _ hr);refine⟨v',?_,r2⟩;have h1:L'[t]? =some (flatK (λe:El β E xs d=>e.v) E.n d2)[t]!:=by
   show(flatK (λe:El β E xs d=>e.v) E.n d2).toList[t]? =_;rw[Array.getElem?_toList,Array.getElem?_eq_getElem C2,getElem!_pos _ _ C2]
  rw[h1,get_flatK _ _ _ _ (by rw[hd2];exact htn)];show some ((d2[t/E.n]!).v)[t%E.n]! =_;rw[getElem!_pos _ _ (by rw[hlv];exact hr),<- bN];exact r1
 have hall:L.all cellV=true:=by
  rw[jU];intro v hv;obtain⟨t,ht⟩:=gT hv;have htn:=aag t v ht;rw[Tz t htn]at ht;cases ht;exact jU.1 (d2[t/E.n]!).cell _ (aV (TA _ _ (BN t hk0)))
 obtain⟨cs2,hl⟩:=EJ cs o L (by rw[yD];omega);obtain⟨l1,l2,l3⟩:=Ee hl;have hs:d.h.storeAt b o L=some (d.h.set b (.cells cs2)):=by unfold IH.storeAt;simp only[hg,hl]
 obtain⟨_,w1,w2⟩:=Gc hW hi hs hrel hall;have hw1:sortWorldK (λe:El β E xs d=>e.v) E.n w gi.b (gi.off+o) n2 d2 os=Go.Sort.grow (Sort.ahead (w.setCells gi.b (gi.off+o) L') n2) os:=by
  have:=Go.Ideal.setCells_putRow (id:ah->ah) w gi.b (gi.off+o) (flatK (λe:El β E xs d=>e.v) E.n d2);rw[BV]at this;rw[show w.setCells gi.b (gi.off+o) L'=_ from this];rfl
 rw[hw1]at hw';have w3:WR P β (d.h.set b (.cells cs2)) (Sort.ahead (w.setCells gi.b (gi.off+o) L') n2):=w1.qO rfl;have w4:=w2.trans (Eff.qO (w':=Sort.ahead (w.setCells gi.b (gi.off+o) L') n2) w1.dom rfl rfl rfl rfl (Nat.le_add_right _ _));obtain⟨w5,w6⟩:=w3.grow os;rw[<- hw']at w5 w6;refine⟨.ok (.tuple ⟨[]⟩),none,_,β,w',.returned (.tuple #[]),cs0,⟨rfl,rfl,zs,cs2,?_,?_,l2,?_,rfl⟩,w5,w4.trans w6,.ok (.eY _),.none cs0,.inl ⟨f,_,fr,rfl,hcomes,hfr,hlv2.2.2.1,hlv2.1,hlv2.2.1,hlv2.2.2.2⟩⟩
 .have hp:=hpm.2.2;rw[show d2.extract 0 xs.length=d2 by rw[<- hd2];simp,show D.extract 0 xs.length=D by rw[<- hDs];simp]at hp;have h1:=hp.map (·.x);rw[hDx]at h1;show((d2.toList.map λe=>(e.x,e.y)).map (·.1)).Perm xs;rw[rO];exact h1
 .show((d2.toList.map λe=>(e.x,e.y)).map (·.1)).Pairwise _;rw[rO];refine List.akj λi j x y hij hx hy=>?_;rw[eF,lT]at hx hy;obtain⟨e1,hx,rfl⟩:=hx;obtain⟨e2,hy,rfl⟩:=hy;have h1:=hdg i e1 hx;have h2:=hdg j e2 hy;have:=hsd i j (bI _) hij h2.1;rw[h1.2,h2.2]at this;exact wS this
 .intro j p hj;have hj:(d2.toList.map λe=>(e.x,e.y))[j]? =some p:=hj;rw[eF,lT]at hj;obtain⟨e,he0,rfl⟩:=hj;obtain⟨hjn,he⟩:=hdg j e he0;refine⟨λt u ht=>?_,e.fs⟩;have htn:t<E.n:=by have:=(bz.1 ht).1;rw[E.len]at this;exact this
  have hb2:=akl j t hjn htn;rw[l3,if_pos ⟨s6,by rw[yD];omega⟩,show o+j*E.n+t - o=j*E.n+t by omega,Tz _ s6];have d1:(j*E.n+t)/E.n=j:=by rw[IX,Nat.mul_add_div hk0,Nat.div_eq_of_lt htn,FD]
  have d3:(j*E.n+t)%E.n=t:=by rw[IX,Nat.mul_add_mod,Nat.mod_eq_of_lt htn]
  rw[d1,d3,he,<- TA e t htn];exact ht
def Kk(P:Program)(f:gy):Prop:=∀(p:az Addr) (cap:Nat) (fv:ah) (w:World),Calls P f #[.slice p 0 cap,fv] w λe w'=>e=.returned (.tuple #[])/\w'=w
def VR.akp{a:az Addr}{n c:Nat}{v:ah}(h:VR β (.slice a n c) v):∃p c',v=.slice p n c':=by
 cases h<;>exact⟨_,_,rfl⟩
def akq(hS:Kk P f){fn:Func}(hfn:P.funcs[f]? =some fn){body:Code}(hb:fn.body=some body)(hname:fn.name≠ "runtime.NumGoroutine"){a:az Addr}{c:Nat}{fv:ah}{h:IH}:
 ol P ⟨.func f,[.slice a 0 c,fv],[],none⟩ h (λr pm h2=>pm=none/\r=.ok (.tuple ⟨[]⟩)/\h2=h):=by
 intro β w fn' args' cap' hG hW hf ha' hcap;obtain⟨kU,t1,t2⟩:=JH (args:=[.slice a 0 c,fv]) x7 hf ha' hcap hfn hb hname w;cases t2 with|cons hv tl=>
 cases tl with|cons hv2 tl=>
 cases tl;obtain⟨p,c',rfl⟩:=hv.akp;refine⟨_,Frame.enter P f ⟨_⟩ .normal,t1,rfl,λcs0 AB=>?_⟩;obtain⟨e,w',fr,⟨he,hw'⟩,hcomes,hfr,hlv⟩:=hS p c' _ w cs0;subst he hw';exact⟨.ok (.tuple ⟨[]⟩),none,h,β,_,.returned (.tuple #[]),cs0,⟨rfl,rfl,rfl⟩,hW,Eff.refl _ _ _ hW.dom,.ok (.eY _),.none cs0,.inl ⟨f,_,fr,rfl,hcomes,hfr,hlv.2.2.1,hlv.1,hlv.2.1,hlv.2.2.2⟩⟩
def aah(sW:P.follows .mixedOrders=true){f g:gy}{k:Nat}{wr:ae ah->ah}(hwr:∀{β:aQ} {vs vs':ae ah},vs.length=k->vs.all cellV=true->bB β vs vs'->VR β (wr vs) (wr vs'))(hS:Kj P f k wr)(hN:Kk P f){fn:Func}(hfn:P.funcs[f]? =some fn){body:Code}(hb:fn.body=some body)(hname:fn.name≠ "runtime.NumGoroutine"){gn:Func}(hgn:P.funcs[g]? =some gn){GU:Code}(hgb:gn.body=some GU)(GV:gn.name≠ "runtime.NumGoroutine")
 {X:Type} {E:Enc X} (hE:E.n=k) (hk0:0<k) {xs:ae X} {cf:X->X->Int} (hO:SWO (ltOf cf)) {cap:ae ah} {F:ae aI} {a:az Addr}
 (hC:∀x∈xs,∀y∈xs,∀a b,aY P (.func g) [wr (E.pat x a),wr (E.pat y b)] cap [] (E.fs x a++(E.fs y b++F)) (λ_:Unit=>.int .i64 (cf x y)) (λ_=>[]) (λ_=>[]) (λ_=>True))
 (hlen:xs.length<4611686018427387904):
 aY P (.func f) [.slice a xs.length xs.length,.func (.func g) ⟨[]⟩ ⟨cap⟩] [] [ap E (.slice a xs.length xs.length) xs] F (λ_:ae X=>.tuple ⟨[]⟩) (λys=>[ap E (.slice a xs.length xs.length) ys]) (λ_=>[]) (λys=>ys.Perm xs/\ys.Pairwise λx y=>¬cf y x<0):=by
 intro B w s;by_cases hx:xs=[]
 .subst hx;refine .real (JG _ (akq hN hfn hb hname) ?_);rintro r pm h' ⟨rfl,rfl,rfl⟩;exact⟨rfl,w,[],rfl,⟨s.agree,s.le,s.fF,s.own,λf hf=>by cases hf⟩,rfl,.refl _,.nil⟩
 have hne:=WZ.2 hx;obtain⟨S,⟨S1,S2,q1,q2,e⟩,h2,h3⟩:=s.own;rcases q1 with⟨h,_⟩|⟨b,o,fl,cells,e1,hf,e2,hb',hcl,hel⟩
 .exact absurd h hx
 injection e1 with e1 ZH;subst e1 e2 e;have hzb:=(h3 b s7).2.2;refine .real (JG _ (akk sW hwr hS hfn hb hname hgn hgb GV hE hk0 hO hC hb' hzb s.facts hel hcl hne hlen) ?_);rintro r pm h' ⟨rfl,rfl,zs,cs2,hp,hpw,hl2,akr,rfl⟩;have s1:St B w [pt b (.cells cells)] [] w:=⟨s.agree,s.le,s.fF,⟨[b]++S2,⟨[b],S2,⟨rfl,hb'⟩,q2,rfl⟩,h2,h3⟩,λf hf=>by cases hf⟩
 have s2:=s1.write (o':=.cells cs2);have hle:=s2.le;have hzl:zs.length=xs.length:=by have:=hp.length_eq;rwa [bi]at this
 refine⟨rfl,⟨w.h.set b (.cells cs2),w.z,λi hi=>w.oq i hi⟩,zs.map (·.1),rfl,?_,rfl,hp,hpw⟩;refine s2.yz λS' hp'=>?_;refine .inr ⟨b,o,fl,cs2,by rw[bi,hzl],hf,hp'.1,hp'.2,by rw[hl2,hcl,bi,hzl],λj x hj=>?_⟩;rw[eF,lT]at hj;obtain⟨p,hj,rfl⟩:=hj;obtain⟨r1,r2⟩:=akr j p hj;exact⟨p.2,r1,λf hf=>f.mono hle (r2 f hf)⟩
def aks(sW:P.follows .mixedOrders=true){f g:gy}{k:Nat}(hS:OG P f k)(hN:Kk P f){fn:Func}(hfn:P.funcs[f]? =some fn){body:Code}(hb:fn.body=some body)(hname:fn.name≠ "runtime.NumGoroutine"){gn:Func}(hgn:P.funcs[g]? =some gn){GU:Code}(hgb:gn.body=some GU)(GV:gn.name≠ "runtime.NumGoroutine")
 {X:Type} {E:Enc X} (hE:E.n=k) (hk0:0<k) {xs:ae X} {cf:X->X->Int} (hO:SWO (ltOf cf)) {cap:ae ah} {F:ae aI} {a:az Addr}
 (hC:∀x∈xs,∀y∈xs,∀a b,aY P (.func g) [.agg ⟨E.pat x a⟩,.agg ⟨E.pat y b⟩] cap [] (E.fs x a++(E.fs y b++F)) (λ_:Unit=>.int .i64 (cf x y)) (λ_=>[]) (λ_=>[]) (λ_=>True))
 (hlen:xs.length<4611686018427387904):
 aY P (.func f) [.slice a xs.length xs.length,.func (.func g) ⟨[]⟩ ⟨cap⟩] [] [ap E (.slice a xs.length xs.length) xs] F (λ_:ae X=>.tuple ⟨[]⟩) (λys=>[ap E (.slice a xs.length xs.length) ys]) (λ_=>[]) (λys=>ys.Perm xs/\ys.Pairwise λx y=>¬cf y x<0):=
 aah sW (λ_ h1 h2=>.agg h1 h2) hS.toW hN hfn hb hname hgn hgb GV hE hk0 hO hC hlen
def akt(h:∀(α:Type) [Inhabited α] (enc:α->ah) (cf:α->α->Int) (g:gy) (cb:Array ah) (blk off cap:Nat) (d:Array α) (w:World),OneCell enc->SWO (ltOf cf)->(∀args w,(callFunc g args).run P w=.ok (.enter g args) w)->CmpLays1 P g cb enc cf blk off d.size w->Holds enc w blk off d->blk<w.heap.size->d.size<4611686018427387904->
 Calls P f #[.slice (some ⟨blk,off,none⟩) d.size cap,.func (.func g) #[] cb] w λe w'=>e=.returned (.tuple #[])/\∃d' n os,PermIn 0 d.size d d'/\SortedIn (ltOf cf) 0 d.size d'/\w'=sortWorld enc w blk off n d' os):Kj P f 1 zN:=by
 intro α _ enc cf g cb blk off cap d w hk h1 hO eg hcmp hH hblk hsz;have he:∀x,enc x=[zN (enc x)]:=λx=>by
  have:=hk x;match h2:enc x,this with
  |[v],_=>rfl
 have hfl:∀dk:Array α,flatK enc 1 dk=dk.map λx=>zN (enc x):=λdk=>by
  refine ext_get! s7 λt ht=>?_;rw[size_flatK,lU]at ht;rw[get_flatK _ _ _ _ s6,Nat.div_one,Nat.mod_one,he]
  grind
 have hpc:∀(dk:Array α) (c:Array ah),putCells id off (dk.map λx=>zN (enc x)) c=putCells (λx=>zN (enc x)) off dk c:=λdk c=>by
  unfold putCells
  grind
 have hsw:∀(m:Nat) (dk:Array α) (os:Array Obj),sortWorldK enc 1 w blk off m dk os=sortWorld (λx=>zN (enc x)) w blk off m dk os:=λm dk os=>by
  unfold sortWorldK sortWorld putRowK putRow;rw[hfl,funext (hpc dk)]
 have:=h α (λx=>zN (enc x)) cf g cb blk off cap d w (λx=>(by grind)) hO eg (λm os dk hs x y=>by
  grind) (λj hj=>by
  have:=hH j (by rw[size_flatK];omega)
  grind) hblk hsz
 grind
def aku(h1:vs.length=1)(h2:vs.all cellV=true)(h:bB β vs vs'):VR β (zN vs) (zN vs'):=by
 match vs,h1 with
 |[v],_=>
  cases h with|cons a b=>
  exact a
end Go.Ideal
namespace Go.Ideal
open Go.Proofs Go.RowKit Go.Lib Go.Shelf
variable {P:Program}
structure TB(P:Program)(f:FuncId)(z:Value)(e:TypeId)(fV:Nat):Prop where
 room:∀(b off n c i vb vo:Nat) (cs:List Value) (v:Value) (w:World),i<n->n+1<=c->(n+1)*fV<=140737488355328->vb≠b->cs.length=n->(∀j u,cs[j]? =some u->w.cell? ⟨b,off+j,none⟩=some u)->(∀j,j<n+1->(w.cell? ⟨b,off+j,none⟩).isSome=true)->
  (∀j,j<n+1->w.frozen? ⟨b,off+j,none⟩=false)->w.cell? ⟨vb,vo,none⟩=some v->(∀u∈cs,u.oneCell'=true)->v.oneCell'=true->∀(tA tB:TypeId) (kA kB:Nat),w.shape? vb=some (tA,kA)->w.shape? b=some (tB,kB)->kB≠0->w.frozen? ⟨vb,vo,none⟩=false->w.frozen? ⟨vb,kA,none⟩=false->
  Calls P f #[.slice (some ⟨b,off,none⟩) n c,.int .i64 i,.slice (some ⟨vb,vo,none⟩) 1 1] w λe w'=>e=.returned (.slice (some ⟨b,off,none⟩) (n+1) c)/\w'=(w.drew.setCells b (off+(i+1)) (cs.drop i)).setCells b (off+i) [v]
 grow:∀(b off n c i vb vo:Nat) (cs:List Value) (v:Value) (w:World),i<n->n<=c->c<n+1->(n+1)*fV<=140737488355328->cs.length=n->(∀j u,cs[j]? =some u->w.cell? ⟨b,off+j,none⟩=some u)->w.cell? ⟨vb,vo,none⟩=some v->(∀u∈cs,u.oneCell'=true)->v.oneCell'=true->
  Calls P f #[.slice (some ⟨b,off,none⟩) n c,.int .i64 i,.slice (some ⟨vb,vo,none⟩) 1 1] w λr w'=>∃k,n+1<=k/\r=.returned (.slice (some ⟨w.heap.size,0,none⟩) (n+1) k)/\
   w'=(((w.alloc (.cells ⟨cs.take i++List.replicate (n+1 - i) z++List.replicate (k - (n+1)) z⟩ e)).drew.setCells w.heap.size i [v]).drew).setCells w.heap.size (i+1) (cs.drop i)
def lI{α:Type}(l:ae α)(i:Nat)(x:α):ae α:=l.take i++x::l.drop i
variable{α:Type}{i:Nat}
def EK{l:ae α}{x:α}(h:i<=l.length):(lI l i x).length=l.length+1:=by
 unfold lI;grind
def GX{l:ae α}{x:α}(h:i<=l.length)(t:Nat):(lI l i x)[t]? =if t<i then l[t]? else if t=i then some x else l[t - 1]?:=by
 unfold lI
 grind
def akv{β:aQ}{x v:ah}(h:VR β x v)(hc:cellV x=true):v.oneCell'=true:=
 bB.oneCell (.cons h .nil) (by simp[hc]) v (by grind)
def akw{f:gy}{z:ah}{e:aM}{fV:Nat}(hz:VR (λ_=>none) z z)(hzc:cellV z=true)(hI:TB P f z e fV){fn:Func}(hfn:P.funcs[f]? =some fn){body:Code}(hb:fn.body=some body)(hname:fn.name≠ "runtime.NumGoroutine")
 {h:IH} {j o fl n i vb:Nat} {cs0:ae ah} {x:ah} (hj:h.get j=some (.cells cs0)) (hv:h.get vb=some (.cells [x])) (hne:vb≠j) (hcl:cs0.length=o+n) (hfl:fl=0\/fl=1) (hi:i<n) (hn:(n+1)*fV<=140737488355328):
 ol P ⟨.func f,[.slice (some ⟨j,o,some fl⟩) n n,.int .i64 (i:Int),.slice (some ⟨vb,0,some 0⟩) 1 1],[],none⟩ h (λr pm h'=>pm=none/\r=.ok (.slice (some ⟨h.next,0,some 1⟩) (n+1) (n+1))/\Cv h h' j (.cells (lI (cs0.drop o) i x))):=by
 intro β w fn' args' cap' hG hW hf ha hcap;obtain⟨kU,t1,t2⟩:=JH (P:=P) (q:=⟨.func f,[.slice (some ⟨j,o,some fl⟩) n n,.int .i64 (i:Int),.slice (some ⟨vb,0,some 0⟩) 1 1],[],none⟩) (f:=f) (args:=[.slice (some ⟨j,o,some fl⟩) n n,.int .i64 (i:Int),.slice (some ⟨vb,0,some 0⟩) 1 1]) x7 hf ha hcap hfn hb hname w;cases t2 with|cons hv1 tl=>
 cases tl with|cons hv2 tl=>
 cases tl with|cons hv3 tl=>
 cases tl;obtain rfl:=hv2.oh;obtain⟨gi,a,c',hgi,rfl,hab,_,_,hcc,hao,hkind⟩:=hv1.oK;obtain⟨gv,av,cv,hgv,rfl,aai,_,_,auX,aaj,akx⟩:=hv3.oK;have hcv:cv=1:=by
  rcases akx with⟨_,e⟩|⟨e,h0,_⟩
  .exact e
  .injection e with e;omega
 subst hcv;have ea:a=⟨gi.b,gi.off+o,none⟩:=by
  obtain⟨ab,ao,asp⟩:=a;simp only at hab hao;rcases hao with hao|hao
  .omega
  .rw[hab,hao.1,hao.2]
 subst ea;have ev:av=⟨gv.b,gv.off,none⟩:=by
  obtain⟨ab,ao,asp⟩:=av;simp only at aai aaj;rcases aaj with hao|hao
  .omega
  .rw[aai,hao.1,hao.2];rfl
 subst ev;obtain⟨⟨c0,t0,Tp,hh,aky⟩,q2,q3,q4,q5,q6⟩:=hW.obj j gi _ hgi hj;obtain⟨⟨c1,t1',fz1,hh1,akz⟩,p2,p3,p4,p5,p6⟩:=hW.obj vb gv _ hgv hv;have hbb:gv.b≠gi.b:=λe=>hne (hW.inj vb j gv gi hgv hgi (by rw[hv];simp) (by rw[hj];simp) (.inl λcs e=>by rw[hv]at e;cases e) e);have hjn:j<h.next:=hW.live j _ hj
 obtain⟨v,Jl,oL⟩:=p6 0 x rfl;rw[FD]at Jl;have zO:cellV x=true:=by simpa using p5
 have aal:v.oneCell'=true:=akv oL zO;have p2:1=gv.len:=p2;have akA:w.frozen? ⟨gv.b,gv.off,none⟩=false:=(p4 gv.off s6).2;let old:ae ah:=cs0.drop o
 have hol:old.length=n:=by show(cs0.drop o).length=n;rw[uo];omega
 let l8:ae ah:=(List.range n).map λt=>(w.cell? ⟨gi.b,gi.off+o+t,none⟩).getD .nilFunc
 have hRl:l8.length=n:=by simp[l8]
 have OH:∀t,t<n->l8[t]? =w.cell? ⟨gi.b,gi.off+o+t,none⟩:=λt ht=>by
  obtain⟨u,hu⟩:=Mc.1 (q4 (gi.off+o+t) s6).1;show((List.range n).map _)[t]? =_;rw[eF,uk ht,hu];show some ((w.cell? ⟨gi.b,gi.off+o+t,none⟩).getD .nilFunc)=_;rw[hu];rfl
 have TC:∀t u,l8[t]? =some u->w.cell? ⟨gi.b,gi.off+o+t,none⟩=some u:=λt u ht=>by
  have htn:t<n:=by have:=(bz.1 ht).1;omega
  rw[<- OH t htn];exact ht
 have hrel:bB β old l8:=bB.MH (by rw[hRl,hol]) λt u ht=>by
  have htn:t<n:=by have:=(bz.1 ht).1;omega
  have ht':cs0[o+t]? =some u:=by rw[<- rH];exact ht
  obtain⟨u',r1,r2⟩:=q6 (o+t) u ht';exact⟨u',by rw[OH t htn,pR];exact r1,r2⟩
 have CQ:old.all cellV=true:=by
  rw[jU]at q5⊢;exact λu hu=>q5 u (IZ hu)
 have hR1:∀u∈l8,u.oneCell'=true:=bB.oneCell hrel CQ;have hnew:(lI old i x).all cellV=true:=by
  rw[jU]at CQ⊢;intro u hu;rcases fU.1 hu with hu|hu
  .exact CQ u (FL hu)
  .rcases dm.1 hu with rfl|hu
   .exact zO
   .exact CQ u (IZ hu)
 refine⟨_,Frame.enter P f ⟨_⟩ .normal,t1,rfl,λcs hcs=>?_⟩;by_cases hroom:n+1<=c'
 .
  obtain⟨k0,k1,k2,k3⟩:fl=1/\gi.sz=1/\o+n=gi.len/\gi.off+o+c'=gi.top:=by
   rcases hkind with⟨_,e⟩|⟨e,h0,e2,e3,_⟩
   .omega
   .injection e with e;have:gi.sz=1:=by omega
    rw[this]at e2 e3;exact⟨s6,this,s6,s6⟩
  obtain⟨r,w',fr,⟨he,hw'⟩,hcomes,hfr,hlv⟩:=hI.room gi.b (gi.off+o) n c' i gv.b gv.off l8 v w hi hroom hn hbb hRl TC (λt ht=>(q4 _ s6).1) (λt ht=>(q4 _ s6).2) Jl hR1 aal t1' t0 c1.size c0.size (by simp only[World.shape?,hh1]) (by simp only[World.shape?,hh])
   (λe=>by
     have:=(q4 (gi.off+o) s6).1;simp only[World.cell?,hh]at this;rw[Array.getElem?_eq_none s6]at this;cases this) akA (by simp only[World.frozen?,hh1];simpa using akz) cs
  subst he;obtain⟨A1,A2,A3,A4,A5,A6⟩:=Rs (w:=w.drew) gi.b (gi.off+o+(i+1)) (l8.drop i);obtain⟨B1,B2,B3,B4,B5,B6⟩:=Rs (w:=w.drew.setCells gi.b (gi.off+o+(i+1)) (l8.drop i)) gi.b (gi.off+o+i) [v];rw[<- hw']at B1 B2 B3 B4 B5 B6;have hdl:(l8.drop i).length=n - i:=by rw[uo,hRl]
  have hs0:∀t,t<gi.top->(w.drew.cell? ⟨gi.b,t,none⟩).isSome=true:=λt ht=>(q4 t ht).1;have hs1:∀t,t<gi.top->((w.drew.setCells gi.b (gi.off+o+(i+1)) (l8.drop i)).cell? ⟨gi.b,t,none⟩).isSome=true:=λt ht=>by
   by_cases hr:gi.off+o+(i+1)<=t/\t<gi.off+o+(i+1)+(l8.drop i).length
   .have:=FC gi.b (l8.drop i) (gi.off+o+(i+1)) w.drew (λk hk=>hs0 _ s6) (t - (gi.off+o+(i+1))) s6;rw[show gi.off+o+(i+1)+(t - (gi.off+o+(i+1)))=t by omega]at this;rw[this];simp
   .rw[BM gi.b (l8.drop i) (gi.off+o+(i+1)) w.drew ⟨gi.b,t,none⟩ (λ_ _=>by simp;omega)];exact hs0 t ht
  have hcell:∀t u,(lI l8 i v)[t]? =some u->w'.cell? ⟨gi.b,gi.off+o+t,none⟩=some u:=λt u ht=>by
   have htl:t<n+1:=by
    have:=(bz.1 ht).1
    rwa [EK s6,hRl]at this
   rw[GX s6]at ht;rw[hw'];by_cases h1:t=i
   .rw[if_neg s6,if_pos h1]at ht;have:=FC gi.b [v] (gi.off+o+i) (w.drew.setCells gi.b (gi.off+o+(i+1)) (l8.drop i)) (λk hk=>by have hk:k<1:=hk;exact hs1 _ s6) 0 s7;rw[h1];exact this.trans ht
   .rw[BM gi.b [v] (gi.off+o+i) _ ⟨gi.b,gi.off+o+t,none⟩ (λ_ _=>by simp;omega)];by_cases h2:t<i
    .rw[if_pos h2]at ht;rw[BM gi.b (l8.drop i) (gi.off+o+(i+1)) w.drew ⟨gi.b,gi.off+o+t,none⟩ (λ_ _=>by simp;omega)];exact TC t u ht
    .rw[if_neg h2,if_neg h1]at ht;have:=FC gi.b (l8.drop i) (gi.off+o+(i+1)) w.drew (λk hk=>hs0 _ s6) (t - (i+1)) s6;rw[show gi.off+o+(i+1)+(t - (i+1))=gi.off+o+t by omega]at this;rw[this,<- ht];rw[<- bN,rH,show i+(t - (i+1))=t - 1 by omega]
  have hins:bB β (lI old i x) (lI l8 i v):=(hrel.take i).append (.cons oL (hrel.drop i));have hle:=aQ.xZ (β:=β) (i:=h.next) ⟨gi.b,gi.off+o,n+1,gi.top,1⟩ hW.zo;obtain⟨R1,R2⟩:=hW.Xv hgi (by rw[hj];simp) (by rw[hj];intro cs e;cases e) (.cells (lI old i x)) ⟨gi.b,gi.off+o,n+1,gi.top,1⟩ rfl (w1:=w') (B1.trans A1) (λb hb=>(B2 b hb).trans (A2 b hb)) (B5.trans A5) (B4.trans A4) (B6.trans A6)
   (by rw[hw',Jj,Jj];exact FB _)
   ⟨B3 (A3 ⟨c0,t0,Tp,hh,aky⟩),by rw[EK s6,hol],by show gi.off+o+(n+1)<=gi.top;omega,λt ht=>⟨by
    by_cases hr:gi.off+o+i<=t/\t<gi.off+o+i+[v].length
    .have:=FC gi.b [v] (gi.off+o+i) (w.drew.setCells gi.b (gi.off+o+(i+1)) (l8.drop i)) (λk hk=>by have hk:k<1:=hk;exact hs1 _ s6) (t - (gi.off+o+i)) s6;rw[show gi.off+o+i+(t - (gi.off+o+i))=t by omega]at this;rw[hw',this];simp
    .rw[hw',BM gi.b [v] (gi.off+o+i) _ ⟨gi.b,t,none⟩ (λ_ _=>by simp at hr⊢;omega)];exact hs1 t ht,by rw[hw',Ma,Ma];exact(q4 t ht).2⟩,hnew,λt u ht=>by
    obtain⟨u',r1,r2⟩:=hins.get ht;exact⟨u',hcell t u' r1,r2.mono hle⟩⟩
  have hlow:h.low<=j->((h.kill j).new (.cells (lI old i x))).low=h.low:=λhl=>by rw[IH.Jg,IH.Ap];omega
  refine⟨.ok (.slice (some ⟨h.next,0,some 1⟩) (n+1) (n+1)),none,(h.kill j).new (.cells (lI old i x)),_,w',.returned _,cs,⟨rfl,rfl,⟨rfl,λt ht hne=>by rw[IH.jD,IH.uD,if_neg (by rw[IH.Jf];omega),if_neg hne],⟨by rw[IH.MG,IH.Jf];omega,by rw[IH.jD,if_pos (IH.Jf h j).symm]⟩,hlow⟩⟩,R1,R2,.ok ?_,.none cs,.inl ⟨f,_,fr,rfl,hcomes,hfr,hlv.2.2.1,hlv.1,hlv.2.1,hlv.2.2.2⟩⟩;exact VR.qN (g:=⟨gi.b,gi.off+o,n+1,gi.top,1⟩) (aQ.mE _ _ _) rfl rfl (bG _) Nat.one_pos s7 th hroom (.inr rfl)
 .
  have hcn:n<=c':=by rcases hkind with⟨_,e⟩|⟨e,h0,e2,e3,_⟩<;>omega
  obtain⟨r,w',fr,⟨k,hk,hr',hw'⟩,hcomes,hfr,hlv⟩:=hI.grow gi.b (gi.off+o) n c' i gv.b gv.off l8 v w hi hcn s6 hn hRl TC Jl hR1 aal cs;subst hr';obtain⟨D1,D2⟩:=hW.drop hgi;have hzz:VR β z z:=hz.mono (λ_ _ hh=>by cases hh);have hrep:∀m,bB β (List.replicate m z) (List.replicate m z):=λm=>by
   induction m with
   |zero=>exact .nil
   |succ m ih=>exact .cons hzz ih
  have akB:∀m,(List.replicate m z).all cellV=true:=λm=>by
   rw[jU];intro u hu;rw[(List.mem_replicate.1 hu).2];exact hzc
  have akC:(old.take i).all cellV=true:=by
   rw[jU]at CQ⊢;exact λu hu=>CQ u (FL hu)
  let g1:jk:=⟨w.heap.size,0,n+1,k,1⟩
  let c1':ae ah:=old.take i++List.replicate (n+1 - i) z
  have aan:c1'.length=n+1:=by
   show(old.take i++List.replicate (n+1 - i) z).length=n+1;rw[fu,gW,zg,hol];omega
  have hle:=aQ.xZ (β:=β) (i:=(h.kill j).next) g1 D1.zo;have hcells:=OR.Jk (P:=P) (β:=β.add (h.kill j).next g1) (w:=w) (cs:=c1') (cs':=l8.take i++List.replicate (n+1 - i) z) e
   (((hrel.take i).append (hrep _)).mono hle) (by rw[List.all_append,akC,akB];rfl) (List.replicate (k - (n+1)) z) 1
  have hcells:OR P (β.add (h.kill j).next g1) g1 (w.alloc (.cells ⟨l8.take i++List.replicate (n+1 - i) z++List.replicate (k - (n+1)) z⟩ e)) (.cells c1'):=by
   rw[aan,zg,show n+1+(k - (n+1))=k by omega]at hcells;exact hcells
  obtain⟨b1,b2⟩:=D1.alloc (.cells c1') (.cells ⟨l8.take i++List.replicate (n+1 - i) z++List.replicate (k - (n+1)) z⟩ e) g1 rfl rfl hcells;let wa:=w.alloc (.cells ⟨l8.take i++List.replicate (n+1 - i) z++List.replicate (k - (n+1)) z⟩ e)
  let ha:=(h.kill j).new (.cells c1')
  have b3:WR P (β.add (h.kill j).next g1) ha wa.drew:=b1.qO rfl;have b4:Eff (β.add (h.kill j).next g1) ha wa (β.add (h.kill j).next g1) ha wa.drew:=Eff.qO b1.dom rfl rfl rfl rfl;have hga:ha.get h.next=some (.cells c1'):=by show((h.kill j).new (.cells c1')).get h.next=_;rw[IH.jD,if_pos (IH.Jf h j).symm]
  obtain⟨c2,hl2⟩:=EJ c1' i [x] th;obtain⟨l1,l2,l3⟩:=Ee hl2;have akD:ha.storeAt h.next i [x]=some (ha.set h.next (.cells c2)):=by unfold IH.storeAt;simp only[hga,hl2]
  obtain⟨_,m1,m2⟩:=Gc b3 (g:=g1) (aQ.mE _ _ _) akD (vs':=[v]) (.cons (oL.mono hle) .nil) (by simp[zO]);let hb':=ha.set h.next (.cells c2)
  let wb:=wa.drew.setCells w.heap.size i [v]
  have e0:g1.off+i=i:=gq _;rw[e0]at m1 m2;have b5:WR P (β.add (h.kill j).next g1) hb' wb.drew:=m1.qO rfl;have b6:Eff (β.add (h.kill j).next g1) hb' wb (β.add (h.kill j).next g1) hb' wb.drew:=Eff.qO m1.dom rfl rfl rfl rfl;have hgb:hb'.get h.next=some (.cells c2):=by show(ha.set h.next (.cells c2)).get h.next=_;rw[IH.og,if_pos rfl]
  have hdl:(old.drop i).length=n - i:=by rw[uo,hol]
  obtain⟨c3,hl3⟩:=EJ c2 (i+1) (old.drop i) (by rw[l2,aan,hdl];omega);obtain⟨n1,n2,n3⟩:=Ee hl3;have akE:hb'.storeAt h.next (i+1) (old.drop i)=some (hb'.set h.next (.cells c3)):=by unfold IH.storeAt;simp only[hgb,hl3]
  obtain⟨_,OI,TD⟩:=Gc b5 (g:=g1) (aQ.mE _ _ _) akE (vs':=l8.drop i) ((hrel.drop i).mono hle) (by
   rw[jU]at CQ⊢;exact λu hu=>CQ u (IZ hu))
  have e1:g1.off+(i+1)=i+1:=gq _;rw[e1]at OI TD;have hc3:c3=lI old i x:=iQ λt=>by
   rw[n3,hdl,l3,GX s6];by_cases h1:t<i
   .rw[if_neg s6,if_neg th,if_pos h1];show(old.take i++List.replicate (n+1 - i) z)[t]? =_;rw[ql tR,wP,if_pos h1]
   .rw[if_neg h1];by_cases h2:t=i
    .rw[if_neg s6,if_pos th,if_pos h2,h2,um];rfl
    .rw[if_neg h2];by_cases h3:t<n+1
     .rw[if_pos s6,rH,show i+(t - (i+1))=t - 1 by omega]
     .rw[if_neg s6,if_neg th,fT s6,fT s6]
  rw[hc3]at OI TD;have hE:=((((D2.trans b2).trans b4).trans m2).trans b6).trans TD;rw[<- hw']at OI hE;refine⟨.ok (.slice (some ⟨h.next,0,some 1⟩) (n+1) (n+1)),none,hb'.set h.next (.cells (lI old i x)),_,w',.returned _,cs,⟨rfl,rfl,⟨rfl,λt ht hne=>?_,⟨?_,by rw[IH.og,if_pos rfl]⟩,λhl=>?_⟩⟩,OI,hE,.ok ?_,.none cs,.inl ⟨f,_,fr,rfl,hcomes,hfr,hlv.2.2.1,hlv.1,hlv.2.1,hlv.2.2.2⟩⟩
  .rw[IH.og,if_neg s6];show(ha.set h.next (.cells c2)).get t=_;rw[IH.og,if_neg s6];show((h.kill j).new (.cells c1')).get t=_;rw[IH.jD,if_neg (by rw[IH.Jf];omega),IH.uD,if_neg hne]
  .show h.next<h.next+1;omega
  .have:h.low<=h.next:=by omega
   rw[IH.F5];show min (ha.set h.next (.cells c2)).low _=_;rw[IH.F5];show min (min ((h.kill j).new (.cells c1')).low _) _=_;rw[IH.Jg,IH.Ap];omega
  .exact VR.qN (g:=g1) (aQ.mE _ _ _) rfl rfl (bG _) Nat.one_pos (by simp[g1]) (by simp[g1]) hk (.inr rfl)
def akF{E:Enc α}(hE:E.n=1){f:gy}{z:ah}{e:aM}{fV:Nat}(hz:VR (λ_=>none) z z)(hzc:cellV z=true)(hI:TB P f z e fV){fn:Func}(hfn:P.funcs[f]? =some fn){body:Code}(hb:fn.body=some body)(hname:fn.name≠ "runtime.NumGoroutine")
 {ad:az Addr} {xs:ae α} {a:α} {y:E.Y} {x:ah} (hx:E.pat a y=[x]) {vb i:Nat} (hi:i<xs.length) (hn:(xs.length+1)*fV<=140737488355328):
 aY P (.func f) [.slice ad xs.length xs.length,.int .i64 (i:Int),.slice (some ⟨vb,0,some 0⟩) 1 1] [] [ap E (.slice ad xs.length xs.length) xs,pt vb (.cells (E.pat a y))] (E.fs a y)
  (λc:Nat=>.slice (some ⟨c,0,some 1⟩) (xs.length+1) (xs.length+1)) (λc=>[ap E (.slice (some ⟨c,0,some 1⟩) (xs.length+1) (xs.length+1)) (lI xs i a)]) (λ_=>[]) (λ_=>True):=by
 intro B w s;have hv:At w.h vb (.cells (E.pat a y)):=s.at_ (.there .here);have s2:=St.drop (k:=[ap E (.slice ad xs.length xs.length) xs]) s;have hfs:∀f∈E.fs a y,f.p w:=λf hf=>s.facts f hf;obtain⟨S,⟨S1,S2,q1,q2,ee⟩,h2,h3⟩:=s.own;obtain⟨S1',S3,⟨ev,hvb⟩,⟨⟩,ee'⟩:=q2;subst ee' ev;rcases q1 with⟨h,_⟩|⟨b,o,fl,cells,e1,hf,e2,hb',hcl,hel⟩
 .rw[h]at hi;simp at hi
 injection e1 with e1 ZH;subst e1 e2 ee;have hne:vb≠b:=λe=>by subst e;simp at h2
 rw[hE,lU]at hcl;rw[hE]at hf;have zA:St B w [pt b (.cells cells)] (E.fs a y) w:=⟨s2.agree,s2.le,s2.fF,⟨[b],⟨[b],[],⟨rfl,hb'⟩,rfl,rfl⟩,s7,λi hi=>h3 i (ul _ hi)⟩,s2.facts⟩
 refine .real (JG _ (akw hz hzc hI hfn hb hname hb' (x:=x) (by rw[<- hx];exact hv.2) hne hcl hf hi hn) ?_);rintro r pm h' ⟨rfl,rfl,mv⟩;obtain⟨w',rfl,kF,AO⟩:=zA.move mv;refine⟨rfl,w',w.h.next,rfl,(kF.sub (F':=[]) Sub.nil).yz λS hp=>?_,rfl,trivial⟩;have hdl:(cells.drop o).length=xs.length:=wl
 refine .inr ⟨_,0,1,_,by rw[EK s6],.inr hE.symm,hp.1,hp.2,by rw[EK s6,EK s6,hdl,hE];omega,λk u hk=>?_⟩;rw[GX s6]at hk;have side:∀t,xs[t]? =some u->(∀j v,j<1->cells[o+t]? =some v->(lI (cells.drop o) i x)[0+k*E.n+j]? =some v)->∃y,(∀(j:Nat) u',(E.pat u y)[j]? =some u'->(lI (cells.drop o) i x)[0+k*E.n+j]? =some u')/\∀f∈E.fs u y,f.p w':=λt ht hh=>by
  obtain⟨y',u1,u2⟩:=hel t u ht;refine⟨y',λj u' hj=>?_,λf hf=>f.mono AO (u2 f hf)⟩;have hj1:j<1:=by
   have:=(bz.1 hj).1;rw[E.len,hE]at this;exact this
  have:=u1 j u' hj;rw[hE,lU,show o+t+j=o+t by omega]at this;exact hh j u' hj1 this
 by_cases h1:k<i
 .rw[if_pos h1]at hk;refine side k hk λj v hj hv=>?_;rw[hE,GX s6,show 0+k*1+j=k by omega,if_pos h1,rH];exact hv
 .rw[if_neg h1]at hk;by_cases h2:k=i
  .rw[if_pos h2]at hk;cases hk;refine⟨y,λj u' hj=>?_,λf hf=>f.mono AO (hfs f hf)⟩;rw[hx]at hj;match j,hj with
   |0,hj=>rw[hE,GX s6,show 0+k*1+0=k by omega,if_neg h1,if_pos h2];exact hj
   |j+1,hj=>simp at hj
  .rw[if_neg h2]at hk;refine side (k - 1) hk λj v hj hv=>?_;rw[hE,GX s6,show 0+k*1+j=k by omega,if_neg h1,if_neg h2,rH];exact hv
end Go.Ideal
namespace Go.Ideal
open Go.Sort Go.RowKit Go.Proofs
variable {P:Program}
end Go.Ideal
namespace Go.Ideal
variable {P:Program}
section
variable {B:ae Nat} {w0:Wd} {kl kl':ae OA} {F:ae aI} {K:KO} {ds:ae Tmp} {rest:ae bV} {n:Nat} {l:qr} {D:ae Deferred} {pm:az FrameMode} {ro:az Nat} {d:Nat} {g:az (Tmp×Bool)}
variable{α:Type}
def akH{E:Enc α}{e:aM}{size bytes b':Nat}{s x:aB}{v:ah}{xs:ae α}{a:α}{y:E.Y}{cs:ae ah}{k1 k2:ae OA}(hn:Nat.blt d n=true)(hg:bJ l g=true)
 (hs:ev l s=v) (hx:ev l x=.slice (some ⟨b',0,some 0⟩) 1 1) (hk:aD (ap E v xs) kl k1) (hc:aD (pt b' (.cells cs)) k1 k2) (hp:cs=E.pat a y) (hF:Sub (E.fs a y) F) (hz:E.n=size)
 (hm:(xs.length+1)*bytes<=1073741824/\(xs.length+1)*size<=1073741824/\xs.length+1<=1073741824):
 dI (R (λh=>aO P ds (⟨⟨some d,g,.append e size bytes s x⟩,[]⟩::rest) (act n l D pm ro) h K) B w0 kl F)
  (∀c,R (λh=>aO P ds rest (act n ((d,.slice (some ⟨c,0,some E.n⟩) (xs.length+1) (xs.length+1))::l) D pm ro) h K) B w0 (ap E (.slice (some ⟨c,0,some E.n⟩) (xs.length+1) (xs.length+1)) (xs++[a])::k2) F):=by
 refine⟨λr w st=>?_⟩;subst hp hz;have hlen:=E.len a y;have st2:St B w0 (ap E v xs::pt b' (.cells (E.pat a y))::k2) F w:=st.ku (.cons hk (.cons hc .nil));have hat:At w.h b' (.cells (E.pat a y)):=st2.at_ (.there .here);have pu:St B w0 (ap E v xs::k2) F w:=(st2.fB (.there .here)).tail;have hfs:∀f∈E.fs a y,f.p w:=λf hf=>st.facts f (hF.mem f hf);have hread:w.h.je b' 0 (1*E.n)=some (E.pat a y):=by
  exact mA
 have hx1:qp (ev l x)=some (0+1):=by rw[hx];rfl
 have hx2:pg E.n (0+1) (ev l x) w.h=some (E.pat a y):=AI
 have put:∀(w':Wd) (c:Nat) (f:Nat) (cells:ae ah),cells.length=xs.length*E.n->(∀(k:Nat) z,xs[k]? =some z->∃y,(∀(j:Nat) u,(E.pat z y)[j]? =some u->cells[k*E.n+j]? =some u)/\∀f∈E.fs z y,f.p w')->(∀f∈E.fs a y,f.p w')->
  (f=0\/f=E.n)->∀S,(pt c (.cells (cells++E.pat a y))).p w' S->(ap E (.slice (some ⟨c,0,some f⟩) (xs.length+1) (xs.length+1)) (xs++[a])).p w' S:=by
  intro w' c f cells h1 h2 h3 h4 S hp;refine .inr ⟨c,0,f,_,by grind,h4,hp.1,hp.2,by grind,λk z hk=>?_⟩;by_cases hlt:k<xs.length
  .exact gR
  .exact fg
 obtain⟨S,⟨S1,S2,q,q2,e1⟩,hnd,hown⟩:=pu.own;rcases q with⟨rfl,rfl,rfl⟩|⟨b,o,f,cells,rfl,hf,rfl,hb,hcl,hel⟩
 .exact eE
 .exact cU
def TE(E:Enc α){e:aM}{size bytes b':Nat}{s x:aB}{v:ah}{xs:ae α}(a:α)(y:E.Y){cs:ae ah}{k1 k2:ae OA}
 (hm:(xs.length+1)*bytes<=1073741824/\(xs.length+1)*size<=1073741824/\xs.length+1<=1073741824)
 (next:∀c,R (λh=>aO P ds rest (act n ((d,.slice (some ⟨c,0,some E.n⟩) (xs.length+1) (xs.length+1))::l) D pm ro) h K) B w0 (ap E (.slice (some ⟨c,0,some E.n⟩) (xs.length+1) (xs.length+1)) (xs++[a])::k2) F)
 (hn:Nat.blt d n=true:=by rfl) (hg:bJ l g=true:=by rfl)
 (hs:ev l s=v:=by conv=>lhs;whnf) (hx:ev l x=.slice (some ⟨b',0,some 0⟩) 1 1:=by rfl) (hk:aD (ap E v xs) kl k1:=by exact dG) (hc:aD (pt b' (.cells cs)) k1 k2:=by exact dG) (hp:cs=E.pat a y:=by rfl) (hF:Sub (E.fs a y) F:=by exact kV) (hz:E.n=size:=by rfl):
 R (λh=>aO P ds (⟨⟨some d,g,.append e size bytes s x⟩,[]⟩::rest) (act n l D pm ro) h K) B w0 kl F:=
 (akH hn hg hs hx hk hc hp hF hz hm).h next
def gv(f:Nat):az Nat->Nat->ah
 |none,_=>.slice none 0 0
 |some c,n=>.slice (some ⟨c,0,some f⟩) n n
def akI{E:Enc α}{c:az Nat}{xs:ae α}{w:Wd}{S:ae Nat}(h:(ap E (gv E.n c xs.length) xs).p w S)(h0:0<xs.length):∃b cells,gv E.n c xs.length=.slice (some ⟨b,0,some E.n⟩) xs.length xs.length/\S=[b]/\w.h.get b=some (.cells cells)/\cells.length=xs.length*E.n/\
 ∀(k:Nat) x,xs[k]? =some x->∃y,(∀(j:Nat) u,(E.pat x y)[j]? =some u->cells[k*E.n+j]? =some u)/\∀f∈E.fs x y,f.p w:=by
 rcases h with⟨h,_⟩|⟨b,o,f,cells,h1,h2,h3,h4,h5,h6⟩
 .grind
 .cases c with
  |none=>simp[gv]at h1
  |some c=>
   simp only[gv,Value.slice.injEq,bC,Addr.mk.injEq]at h1;obtain⟨⟨rfl,rfl,h1⟩,_⟩:=h1;refine⟨c,cells,rfl,h3,h4,by rw[h5,gq],λk x hk=>?_⟩;obtain⟨y,q1,q2⟩:=h6 k x hk;exact⟨y,(by grind),q2⟩
def akJ{E:Enc α}{xs:ae α}{Q:IH->Prop}(h0:0<xs.length)(hk:aD (ap E (.slice none 0 0) xs) kl kl':=by exact dG):R Q B w0 kl F:=λw s=>by
 obtain⟨S,⟨S1,S2,q1,q2,e⟩,h2,h3⟩:=(s.fB hk).own;obtain⟨b,cells,h,_⟩:=akI (c:=none) q1 h0;simp[gv]at h
end
end Go.Ideal
namespace Go.Ideal
variable {P:Program} {B:ae Nat} {w0:Wd} {kl kl' bA:ae OA} {F:ae aI} {K:KO} {ds:ae Tmp} {rest:ae bV} {n:Nat} {l:qr} {D:ae Deferred} {pm:az FrameMode} {ro:az Nat} {d:Nat} {g:az (Tmp×Bool)}
variable{α:Type}{k:Nat}
def akK{E:Enc α}{aF:ae (α×E.Y)}{p:α×E.Y}(hp:aF[k]? =some p):jR (kD (dP E aF) (k*E.n)) E.n=some (E.pat p.1 p.2):=by
 have hk:=(bz.1 hp).1;have hl:=zJ aF;have hm:(k+1)*E.n<=aF.length*E.n:=Nat.mul_le_mul_right _ hk;rw[wO]at hm;rw[qw,qM,if_pos wl];congr 1;apply iQ;intro j;rw[wP];by_cases hj:j<E.n
 .have hu:(E.pat p.1 p.2)[j]? =some ((E.pat p.1 p.2)[j]'(by rw[E.len];exact hj)):=bN _;rw[if_pos hj,rH,hu];exact yC hp hu
 .rw[if_neg hj,fT (by rw[E.len];omega)]
def TF{E:Enc α}(a b:ae (α×E.Y)):dP E (a++b)=dP E a++dP E b:=by unfold dP;grind
def akL{E:Enc α}{aF:ae (α×E.Y)}{p:α×E.Y}(hk:k<aF.length):jV (dP E aF) (k*E.n) (E.pat p.1 p.2)=some (dP E (aF.set k p)):=by
 have h1:=(l5 k aF).symm;have hd:=mX hk;have h2:dP E aF=dP E (aF.take k)++(E.pat aF[k].1 aF[k].2++dP E (aF.drop (k+1))):=by
  conv=>lhs;rw[h1,hd,TF]
  rfl
 have h3:k*E.n=(dP E (aF.take k)).length:=by rw[zJ,gW,Ae s6]
 rw[h2,h3,OE (by rw[E.len,fu,E.len];omega),E.len,List.drop_append_of_le_length (by rw[E.len];exact bG _),List.drop_of_length_le (by rw[E.len];exact bG _)];congr 1;have h4:aF.set k p=aF.take k++p::aF.drop (k+1):=by
  grind
 rw[h4,TF];rfl
def Kl(E:Enc α){aF:ae (α×E.Y)}{k o b m:Nat}{p:α×E.Y}{x:aB}(hp:aF[k]? =some p)(ho:o=k*E.n)
 (next:R (λh=>aO P ds rest (act n ((d,.agg ⟨E.pat p.1 p.2⟩)::l) D pm ro) h K) B w0 kl F)
 (hx:ev l x=.pointer (some ⟨b,o,none⟩):=by rfl) (hk:aD (pt b (.cells (dP E aF))) kl kl':=by exact dG) (hz:E.n=m:=by rfl) (hn:Nat.blt d n=true:=by rfl) (hg:bJ l g=true:=by rfl):
 R (λh=>aO P ds (⟨⟨some d,g,.sO m x⟩,[]⟩::rest) (act n l D pm ro) h K) B w0 kl F:=by
 subst ho hz;exact(SE hn hg hx hk (akK hp)).h next
def aao(E:Enc α){aF:ae (α×E.Y)}{k o b m:Nat}(p:α×E.Y){x y:aB}(hlt:k<aF.length)(ho:o=k*E.n)
 (next:R (λh=>aO P ds rest (act n l D pm ro) h K) B w0 (pt b (.cells (dP E (aF.set k p)))::kl') F)
 (hx:ev l x=.pointer (some ⟨b,o,none⟩):=by rfl) (hy:ev l y=.agg ⟨E.pat p.1 p.2⟩:=by rfl) (hk:aD (pt b (.cells (dP E aF))) kl kl':=by exact dG) (hz:E.n=m:=by rfl) (hg:bJ l g=true:=by rfl):
 R (λh=>aO P ds (⟨⟨none,g,.store m x y⟩,[]⟩::rest) (act n l D pm ro) h K) B w0 kl F:=by
 subst ho hz;exact(SG hg hx (by rw[hy];rfl) (by rw[xX,E.len];exact FI _) hk (akL hlt)).h next
variable{x:aB}{b o f m c:Nat}{ρ:aB->ah}
def GY{OJ OL:az aB}{lo hi:Nat}{size:Nat}(hx:ρ x=.slice (some ⟨b,o,some f⟩) m c)(hf:f=0\/f=size)(hs:0<size)(hlo:OJ=none/\lo=0\/∃t,OJ=some t/\ρ t=.int .i64 (lo:Int))(hhi:OL=none/\hi=m\/∃t,OL=some t/\ρ t=.int .i64 (hi:Int))(h1:lo<=hi)(h2:hi<=c):
 Pu P ρ (.FT size x OJ OL none) (.slice (some ⟨b,o+lo*size,some f⟩) (hi - lo) (c - lo)):=λh=>by
 have e3:=Zo h2;have e4:=Zo h1;have hbd:bounds? m c (jK ρ OJ) (jK ρ OL) none=some (lo,hi,c):=by
  rcases hlo with⟨rfl,rfl⟩|⟨t,rfl,ht⟩<;>rcases hhi with⟨rfl,hm⟩|⟨t',rfl,ht'⟩
  .rw[hm];rfl
  .show bounds? m c none (some (ρ t')) none=_;rw[ht'];show(match upTo c (.int .i64 hi)with|none=>none|some h=>match some 0 with|none=>none|some l=>some (l,h,c))=_;rw[e3]
  .rw[hm]at e4⊢;show bounds? m c (some (ρ t)) none none=_;rw[ht];show(match upTo m (.int .i64 lo)with|none=>none|some l=>some (l,m,c))=_;rw[e4]
  .show bounds? m c (some (ρ t)) (some (ρ t')) none=_;rw[ht,ht'];show(match upTo c (.int .i64 hi)with|none=>none|some h=>match upTo h (.int .i64 lo)with|none=>none|some l=>some (l,h,c))=_
   grind
 have h3:jK ρ none=none:=rfl;simp only[aR.run,hx,h3,hbd];match f,hf with
 |0,_=>rfl
 |k+1,hf=>
  have hk:k+1=size:=by
   grind
  show cond (Nat.beq (Nat.succ k) size) (some (Value.slice (some ⟨b,Nat.add o (Nat.mul lo size),some (Nat.succ k)⟩) (hi - lo) (c - lo),h)) none=_;rw[show Nat.beq (Nat.succ k) size=true by rw[show Nat.succ k=size from hk];exact FI _];rfl
def aap{zero:ae ah}{cs cs':ae ah}(hv:jV cs o (zeros zero m)=some cs')(h0:0<m)
 (next:R (λh=>aO P ds rest (act n l D pm ro) h K) B w0 (pt b (.cells cs')::kl') F)
 (hx:ev l x=.slice (some ⟨b,o,some f⟩) m c:=by rfl) (hk:aD (pt b (.cells cs)) kl kl':=by exact dG) (hg:bJ l g=true:=by rfl):
 R (λh=>aO P ds (⟨⟨none,g,.clear zero x⟩,[]⟩::rest) (act n l D pm ro) h K) B w0 kl F:=λw s=>by
 obtain⟨k,rfl⟩:∃k,m=k+1:=⟨m - 1,s6⟩
 exact Nf hg (v:=.tuple #[]) (by simp only[aR.run,hx];simp only[IH.storeAt,(s.at_ hk).2,hv]) (next _ ((s.fB hk).write))
def akM(E:Enc α){xs:ae α}{b f m:Nat}{Q:IH->Prop}(h:∀aF:ae (α×E.Y),aF.map (·.1)=xs->m=xs.length->(f=0\/f=E.n)->R Q B w0 (pt b (.cells (dP E aF))::kl') (vZ E aF::F))
 (hk:aD (ap E (.slice (some ⟨b,0,some f⟩) m m) xs) kl kl':=by exact dG):R Q B w0 kl F:=λw s=>by
 have s1:=s.fB hk;obtain⟨S,⟨S1,S2,q1,q2,e⟩,h2,h3⟩:=s1.own;rcases q1 with⟨_,h0,_⟩|⟨b',o',f',cells,h4,h5,h6,h7,h8,h9⟩
 .cases h0
 injection h4 with e1 e2 e3;injection e1 with e1;injection e1 with e1 e4 e5;injection e5 with e5;subst e1 e4 e5 e2;obtain⟨l,hl,hp⟩:=Oa (p:=λk (p:α×E.Y)=>xs[k]? =some p.1/\(∀(j:Nat) u,(E.pat p.1 p.2)[j]? =some u->cells[0+k*E.n+j]? =some u)/\∀f∈E.fs p.1 p.2,f.p w) xs.length (λk hk=>by
  obtain⟨y,q1,q2⟩:=h9 k xs[k] (bN hk);exact⟨(xs[k],y),bN hk,q1,q2⟩)
 have hm:l.map (·.1)=xs:=by
  apply iQ;intro k;rw[eF];by_cases hk:k<xs.length
  .have hk':k<l.length:=by omega
   rw[bN hk',oJ,(hp k l[k] (bN hk')).1]
  .rw[fT s6,fT s6];rfl
 have hfl:=zJ (E:=E) l;have hcells:cells=dP E l:=by
  apply iQ;intro j;by_cases hj:j<l.length*E.n
  .have hn0:0<E.n:=by
    exact sk
   have hd:j/E.n<l.length:=by rw[WY hn0];exact hj
   have hmod:=BN j hn0;have hpk:=bN hd;have hu:(E.pat (l[j/E.n]).1 (l[j/E.n]).2)[j%E.n]? =some ((E.pat (l[j/E.n]).1 (l[j/E.n]).2)[j%E.n]'(by rw[E.len];exact hmod)):=bN _;have u1:=(hp _ _ hpk).2.1 (j%E.n) _ hu;have u2:=yC hpk hu;have Cy:j/E.n*E.n+j%E.n=j:=C1
   rw[gq,Cy]at u1;rw[Cy]at u2;rw[u1,u2]
  .rw[fT (by rw[h8,<- hl];omega),fT s6]
 refine h l hm rfl h5 w ⟨s1.agree,s1.le,s1.fF,⟨S,⟨S1,S2,⟨h6,by rw[<- hcells];exact h7⟩,q2,e⟩,h2,h3⟩,λg hg=>?_⟩;rcases dm.1 hg with rfl|hg
 .intro p hp' g hg;obtain⟨k,hk⟩:=zb.1 hp';exact(hp k p hk).2.2 g hg
 .exact s1.facts g hg
def TG(E:Enc α){aF:ae (α×E.Y)}{rest':ae ah}{b f c:Nat}{Q:IH->Prop}(hf:f=0\/f=E.n)(hc:aF.length<=c)(h:R Q B w0 kl' (ay E (.slice (some ⟨b,0,some f⟩) aF.length c) (aF.map (·.1))::F))
 (ha:∀w,(∀f∈F,f.p w)->(vZ E aF).p w) (hk:aD (pt b (.cells (dP E aF++rest'))) kl kl':=by exact dG):R Q B w0 kl F:=λw s=>by
 obtain⟨w',hw,s'⟩:=(s.fB hk).freeze (fs:=[⟨λw=>Fz w b (dP E aF++rest'),λa h=>h.mono a⟩]) (λw w' S hp hle hh hz g hg=>by
  rw[bR.1 hg];exact⟨hz b (by rw[hp.1];grind),.inl (by rw[hh];exact hp.2)⟩)
 have hfz:=s'.facts _ (eX ..);have akN:=ha w' λf hf=>s'.facts f (by grind);rw[<- hw];refine h w' ⟨s'.agree,s'.le,s'.fF,s'.own,λg hg=>?_⟩;rcases dm.1 hg with rfl|hg
 .refine .inr ⟨b,0,f,c,_,(by grind),hfz,λk x hk=>?_⟩;rw[eF]at hk;cases hp:aF[k]? with
  |none=>rw[hp]at hk;cases hk
  |some p=>
   rw[hp]at hk;cases hk;refine⟨p.2,λj u hj=>?_,akN p (by grind)⟩;have:=yC hp hj
   grind
 .exact s'.facts g (by grind)
def aaq(E:Enc α){v:ah}{aF:ae (α×E.Y)}{Q:IH->Prop}(h0:aF=[]->∀c,v=.slice none 0 c->R Q B w0 kl F)(h1:aF=[]->∀i o f c,v=.slice (some ⟨i,o,some f⟩) 0 c->R Q B w0 kl F)
 (h2:0<aF.length->∀i o f c,v=.slice (some ⟨i,o,some f⟩) aF.length c->R Q B w0 kl F) (hf:vY E v aF∈F:=by exact iN):R Q B w0 kl F:=λw s=>by
 rcases s.facts _ hf with⟨e,a,c,hv,hg⟩|⟨i,o,f,c,cells,⟨hv,_⟩,_⟩
 .exact mj
 .by_cases hx:aF=[]
  .subst hx;exact h1 rfl i o f c hv w s
  .exact h2 (by grind) i o f c hv w s
def OM{E:Enc α}{v:ah}{xs:ae α}{Q:IH->Prop}(h:∀a,v=.slice a xs.length xs.length->(xs=[]->a=none\/∃b o,a=some ⟨b,o,some 0⟩\/a=some ⟨b,o,some E.n⟩)->R Q B w0 kl F)(hk:aD (ap E v xs) kl kl':=by exact dG):R Q B w0 kl F:=λw s=>by
 obtain⟨S,⟨S1,S2,q1,q2,e⟩,h2,h3⟩:=(s.fB hk).own;rcases q1 with⟨rfl,h1,_⟩|⟨b,o,f,cells,h4,h5,_⟩
 .exact h none h1 (λ_=>.inl rfl) w s
 .refine h _ h4 (λ_=>.inr ⟨b,o,?_⟩) w s;rcases h5 with h5|h5
  .subst h5;exact .inl rfl
  .subst h5;exact .inr rfl
def akO{y:aB}{t:aM}{a:Nat}(hx:ρ x=.int .u64 (a:Int))(hy:ρ y=.int .u64 (b:Int))(hb:0<b):Pu P ρ (.bin .rem t x y) (.int .u64 ((a%b:Nat):Int)):=λh=>by
 have hv:dX P (binOp .rem t (.int .u64 a) (.int .u64 b))=some (.int .u64 ((a%b:Nat))):=by
  show dX P (Op.intDiv .rem .u64 a b)=_;unfold Op.intDiv;rw[if_neg s6];show some (Value.int .u64 ((a:Int).tmod b))=_
  grind
 have h1:lC P (do eqGuard .rem t x y (.int .u64 a) (.int .u64 b);binOp .rem t (.int .u64 a) (.int .u64 b))=some (.int .u64 ((a%b:Nat))):=by
  unfold lC;rw[gu];simp only[hv];rfl
 have h2:mD P .rem t x y (.int .u64 a) (.int .u64 b)=some (.int .u64 ((a%b:Nat))):=by
  exact h1
 simp only[aR.run,hx,hy,h2]
end Go.Ideal
namespace Go.Ideal
variable {P:Program}
def GZ{α:Type}(P:Program)(vals:α->ae ah)(fn:Fn)(first cap:ae ah)(O:ae OA)(F:ae aI)(X:ae α->Prop):Prop:=
 ∀(S:Type) (inv:S->ae OA) (ok:ae α->S->Prop) (step:S->α->S×Bool) (s0:S) (oM:Fn) (y1 y2:ae ah) (F':ae aI),ok [] s0->
  (∀vs s x rest,ok vs s->X (vs++x::rest)->(step s x).2=true->ok (vs++[x]) (step s x).1)->
  (∀vs s x rest,ok vs s->X (vs++x::rest)->aY P oM (y1++vals x) y2 (inv s) F' (λ_:Unit=>.bool (step s x).2) (λ_=>inv (step s x).1) (λ_=>[]) (λ_=>True))->
  aY P fn (first++[.func oM ⟨y1⟩ ⟨y2⟩]) cap (inv s0++O) (F++F') (λ_:ae α=>.tuple ⟨[]⟩) (λxs=>inv (cz step s0 xs)++O) (λ_=>[]) X
section
variable {B:ae Nat} {w0:Wd} {kl kl' bA:ae OA} {F:ae aI} {K:KO} {n:Nat} {l:qr} {D:ae Deferred} {pm:az FrameMode} {ro:az Nat}
variable{S α Z:Type}{ps:ae Tmp}{assign body:dD}{fn:Fn}{first captured:ae ah}{O:ae OA}{F1:ae aI}
def akP{f:aB}{vals:α->ae ah}{X:ae α->Prop}(step:S->α->S×Out)(inv:S->ae OA)(ok:ae α->S->Prop)(s0:S)(h0:ok [] s0)
 (hok:∀vs s x rest,ok vs s->X (vs++x::rest)->(step s x).2=.normal->ok (vs++[x]) (step s x).1) (hit:GZ P vals fn first captured O F1 X)
 (hf:ev l f=.func fn ⟨first⟩ ⟨captured⟩) (hps:ps.all (λp=>Nat.blt p n)=true) (hlen:∀x,ps.length=(vals x).length) (hk:aJ (inv s0++O) kl bA) (hF:Sub F1 F) (jM:∀s x,xq (step s x).2)
 (l3:α->Z->qr) (k3:α->Z->ae OA)
 (ha:∀(s:S) (x:α) (lo:Nat) (o:fw) B w0,R (λh=>EV P assign (act n ((ps.zip (vals x)).reverse++l) [] none (some lo)) h (CP B w0 n (l3 x) lo o (λz=>k3 x z++inv s) F)) B w0 (pt lo o::inv s) F)
 (hb:∀(vs:ae α) (s:S) (x:α) (rest:ae α) (z:Z) (lo:Nat) (L:nJ) B w0,ok vs s->X (vs++x::rest)->R (λh=>EV P body (act n (l3 x z) [] none (some lo)) h (xu B w0 lo L (λ_:Unit=>(step s x).2) (λ_=>inv (step s x).1) (λ_=>[]) (λ_=>True))) B w0 (pt lo (.loop (tq L))::(k3 x z++inv s)) F)
 (next:∀r xs,X xs->R (λh=>K (gM step s0 xs).2 (act n l ({target:=.collected r,args:= #[]}::D) pm none) h) B w0 ((inv (gM step s0 xs).1++O)++(pt r (.jJ true)::bA)) F):
 R (λh=>EV P (.rangeFunc f ps assign body) (act n l D pm none) h K) B w0 kl F:=by
 refine Od (GD:=λ_=>.tuple ⟨[]⟩) (out:=λxs=>(gM step s0 xs).2) (k1':=λxs=>inv (gM step s0 xs).1++O) (fs:=λ_=>[]) (pr:=X) hf ?_ hk (hF.app (Sub.refl' F [])) (by grind);intro lo r;have:=hit (S×Out) (λso=>pt lo (.loop (mJ ⟨.ready,none,iZ l,n,ps,assign,body,r⟩ so.2))::inv so.1) (λvs so=>so.2=.normal/\ok vs so.1) (λso x=>(step so.1 x,ow (step so.1 x).2)) (s0,.normal) (.yield lo) [] [] F ⟨rfl,h0⟩
  (λvs so x rest ho hx h=>by
    exact eo)
  (λvs so x rest ho hx=>by
    exact fW)
 have e:(λxs:ae α=>(pt lo (.loop (mJ ⟨.ready,none,iZ l,n,ps,assign,body,r⟩ (cz (λso x=>(step so.1 x,ow (step so.1 x).2)) (s0,.normal) xs).2))::inv (cz (λso x=>(step so.1 x,ow (step so.1 x).2)) (s0,.normal) xs).1)++O)=λxs=>pt lo (.loop (mJ ⟨.ready,none,iZ l,n,ps,assign,body,r⟩ (gM step s0 xs).2))::(inv (gM step s0 xs).1++O):=by
  funext xs
  rw[JZ];rfl
 have h2:=this;rw[e]at h2;exact h2
def akQ{f:aB}{vals:α->ae ah}{X:ae α->Prop}(step:S->α->S×Out)(inv:S->ae OA)(ok:ae α->S->Prop)(s0:S)(l3:α->Z->qr)(k3:α->Z->ae OA)(h0:ok [] s0)
 (hok:∀vs s x rest,ok vs s->X (vs++x::rest)->(step s x).2=.normal->ok (vs++[x]) (step s x).1) (hit:GZ P vals fn first captured O F1 X)
 (ha:∀(s:S) (x:α) (lo:Nat) (o:fw) B w0,R (λh=>EV P assign (act n ((ps.zip (vals x)).reverse++l) [] none (some lo)) h (CP B w0 n (l3 x) lo o (λz=>k3 x z++inv s) F)) B w0 (pt lo o::inv s) F)
 (hb:∀(vs:ae α) (s:S) (x:α) (rest:ae α) (z:Z) (lo:Nat) (L:nJ) B w0,ok vs s->X (vs++x::rest)->R (λh=>EV P body (act n (l3 x z) [] none (some lo)) h (xu B w0 lo L (λ_:Unit=>(step s x).2) (λ_=>inv (step s x).1) (λ_=>[]) (λ_=>True))) B w0 (pt lo (.loop (tq L))::(k3 x z++inv s)) F)
 (next:∀r xs,X xs->R (λh=>K (gM step s0 xs).2 (act n l ({target:=.collected r,args:= #[]}::D) pm none) h) B w0 ((inv (gM step s0 xs).1++O)++(pt r (.jJ true)::bA)) F)
 (jM:∀s x,xq (step s x).2)
 (hf:ev l f=.func fn ⟨first⟩ ⟨captured⟩:=by rfl) (hps:ps.all (λp=>Nat.blt p n)=true:=by rfl) (hlen:∀x,ps.length=(vals x).length:=by intro _;rfl)
 (hk:aJ (inv s0++O) kl bA:=by exact lH) (hF:Sub F1 F:=by exact kV):
 R (λh=>EV P (.rangeFunc f ps assign body) (act n l D pm none) h K) B w0 kl F:=
 akP step inv ok s0 h0 hok hit hf hps hlen hk hF jM l3 k3 ha hb next
variable{xs:ae Int}{v:ah}{Q:IH->Prop}
def akR(hne:0<xs.length)(h:∀b f pre,(f=0\/f=1)->v=.slice (some ⟨b,pre.length,some f⟩) xs.length xs.length->R Q B w0 (pt b (.cells (pre++xs.map (.int .i64)))::kl') F)(hk:aD (ap aj v xs) kl kl':=by exact dG):R Q B w0 kl F:=λw s=>by
 have s1:=s.fB hk;obtain⟨S,⟨S1,S2,q1,q2,e⟩,h2,h3⟩:=s1.own;rcases q1 with⟨h0,_⟩|⟨b,o,f,cells,h4,h5,h6,h7,h8,h9⟩
 .grind
 .have h8:cells.length=o+xs.length*1:=h8;have hpl:(cells.take o).length=o:=by grind
  have hc:cells=cells.take o++xs.map (.int .i64):=by
   exact fL
  refine h b f (cells.take o) h5 (by rw[hpl];exact h4) w ⟨s1.agree,s1.le,s1.fF,⟨S,⟨S1,S2,⟨h6,by rw[<- hc];exact h7⟩,q2,e⟩,h2,h3⟩,s1.facts⟩
def akS{b f m:Nat}{pre:ae ah}(hm:m=xs.length)(hf:f=0\/f=1)(h:R Q B w0 (ap aj (.slice (some ⟨b,pre.length,some f⟩) m m) xs::kl') F)(hk:aD (pt b (.cells (pre++xs.map (.int .i64)))) kl kl':=by exact dG):R Q B w0 kl F:=λw s=>by
 subst hm;refine h w ((s.fB hk).CB (A:=pt b (.cells (pre++xs.map (.int .i64)))) λw S hp=>.inr ⟨b,pre.length,f,_,rfl,hf,hp.1,hp.2,by rw[fu,bi];show _=pre.length+xs.length*1;omega,λk x hx=>⟨(),λj u hj=>?_,λf hf=>by cases hf⟩⟩);exact eW
def aar{ds:ae Tmp}{rest:ae bV}{d d2:Nat}{g g2:az (Tmp×Bool)}{x i:aB}(k:Nat)(z:Int){kk:IntKind}(hz:xs[k]? =some z)
 (next:∀b o,R (λh=>aO P ds rest (act n ((d2,.int .i64 z)::(d,.pointer (some ⟨b,o,none⟩))::l) D pm ro) h K) B w0 kl F)
 (hn:Nat.blt d n=true:=by rfl) (hg:bJ l g=true:=by rfl) (hn2:Nat.blt d2 n=true:=by rfl) (hg2:∀u,bJ ((d,u)::l) g2=true:=by intro _;rfl) (hx:ev l x=v:=by conv=>lhs;whnf) (hi:ev l i=.int kk (k:Int):=by rfl)
 (hk:aD (ap aj v xs) kl kl':=by exact dG):
 R (λh=>aO P ds (⟨⟨some d,g,.jw 1 x i⟩,[]⟩::⟨⟨some d2,g2,.fG (.tmp d)⟩,[]⟩::rest) (act n l D pm ro) h K) B w0 kl F:=by
 intro w s;have s1:=s.fB hk;obtain⟨S,⟨S1,S2,p,p2,e⟩,h2,h3⟩:=s1.own;have hlt:=(bz.1 hz).1;rcases p with⟨h,_⟩|⟨b,o,f,cells,e1,hf,e2,hb,hcl,hel⟩
 .rw[h]at hz;cases hz
 .subst e1;obtain⟨y,u1,_⟩:=hel k z hz;have hc:cells[o+(k:Int).toNat*1]? =some (.int .i64 z):=by
   exact n9
  refine JM hn hg hx hi s6 s6 ?_;have hbS:b∈S:=by rw[e,e2];simp
  exact Gq hn2 (hg2 _) (by show lk _ d=_;simp[lk]) ⟨(h3 b hbS).2.1,hb⟩ hc (next _ _ w s)
end
variable{xs:ae Int}{F:ae aI}{kl:ae OA}
def St.opI{B:ae Nat}{w0 w:Wd}{v:ah}(hne:0<xs.length)(s1:St B w0 (ap aj v xs::kl) F w):∃b f pre,(f=0\/f=1)/\v=.slice (some ⟨b,pre.length,some f⟩) xs.length xs.length/\St B w0 (pt b (.cells (pre++xs.map (.int .i64)))::kl) F w:=by
 obtain⟨S,⟨S1,S2,q1,q2,e⟩,h2,h3⟩:=s1.own;rcases q1 with⟨h0,_⟩|⟨b,o,f,cells,h4,h5,h6,h7,h8,h9⟩
 .grind
 .have h8:cells.length=o+xs.length*1:=h8;have hpl:(cells.take o).length=o:=by grind
  have hc:cells=cells.take o++xs.map (.int .i64):=by
   exact fL
  exact⟨b,f,cells.take o,h5,by rw[hpl];exact h4,s1.agree,s1.le,s1.fF,⟨S,⟨S1,S2,⟨h6,by rw[<- hc];exact h7⟩,q2,e⟩,h2,h3⟩,s1.facts⟩
variable{pre:ae ah}
def akU{b f m:Nat}(hm:m=xs.length)(hf:f=0\/f=1)(w:Wd)(S:ae Nat)(hp:(pt b (.cells (pre++xs.map (.int .i64)))).p w S):(ap aj (.slice (some ⟨b,pre.length,some f⟩) m m) xs).p w S:=by
 subst hm;refine .inr ⟨b,pre.length,f,_,rfl,hf,hp.1,hp.2,by rw[fu,bi];show _=pre.length+xs.length*1;omega,λk x hx=>⟨(),λj u hj=>?_,λf hf=>by cases hf⟩⟩;exact eW
variable{cap:ae ah}{Y:Type}{fn:Fn}
def aY.akV{args:az Addr->ae ah}{a:az Addr}{zs:Y->ae Int}{val:Y->ah}{fs:Y->ae aI}{pr:Y->Prop}(hne:0<xs.length)(hl:∀y,(zs y).length=xs.length)
 (h:∀b f pre,(f=0\/f=1)->aY P fn (args (some ⟨b,pre.length,some f⟩)) cap [pt b (.cells (pre++xs.map (.int .i64)))] F val (λy=>[pt b (.cells (pre++(zs y).map (.int .i64)))]) fs pr):
 aY P fn (args a) cap [ap aj (.slice a xs.length xs.length) xs] F val (λy=>[ap aj (.slice a xs.length xs.length) (zs y)]) fs pr:=λB w s=>by
 obtain⟨b,f,pre,hf,ev,s'⟩:=s.opI hne;obtain rfl:a=some ⟨b,pre.length,some f⟩:=by injection ev
 refine .vQ _ (h b f pre hf B w s') ?_;rintro r pm h' ⟨h1,w',y,e1,st,e2,e3⟩;exact⟨h1,w',y,e1,st.CB λw S hp=>akU (hl y).symm hf w S hp,e2,e3⟩
def aY.weak{args:ae ah}{val:Y->ah}{kl':Y->ae OA}{fs:Y->ae aI}{pr Km:Y->Prop}(h:aY P fn args cap kl F val kl' fs pr)(hp:∀y,pr y->Km y):aY P fn args cap kl F val kl' fs Km:=λB w s=>by
 refine .vQ _ (h B w s) ?_;rintro r pm h' ⟨h1,w',y,e1,st,e2,e3⟩;exact⟨h1,w',y,e1,st,e2,hp y e3⟩
variable{k:Nat}{x:Int}
def TH(h:xs[k]? =some x):(pre++xs.map (Value.int .i64))[pre.length+k*1]? =some (.int .i64 x):=by
 grind
def TI:(pre++xs.map (Value.int .i64)).set (pre.length+k*1) (.int .i64 x)=pre++(xs.set k x).map (.int .i64):=by
 rw[DU _ _ s6,show pre.length+k*1 - pre.length=k by omega,qo]
