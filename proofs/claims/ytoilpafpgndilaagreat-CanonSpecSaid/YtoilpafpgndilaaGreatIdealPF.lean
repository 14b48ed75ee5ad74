/- Part. -/
import Derived.Test.YtoilpafpgndilaaGreatIdealNF
import Derived.Lib.Bytealg
import Derived.Lib.Atoi
import Derived.Lib.ConvBytes
import Derived.Shelf.SlSortCmp.WholeK
import Derived.Shelf.SlSortCmp.Whole1
set_option linter.all false
namespace Go.Ideal
structure Beyond(w w':World):Prop where
 heap:∀b,b<w.heap.size->w'.heap[b]? =w.heap[b]?
 size:w.heap.size<=w'.heap.size
 os:w'.os=w.os
 tape:w'.tape=w.tape
 output:w'.output=w.output
 drawn:w.drawn<=w'.drawn
def WR.beyond{P:Program}{β:aG}{h:IH}{w w':World}(hW:WR P β h w)(hb:Beyond w w'):WR P β h w'/\Eff β h w β h w':=
 ⟨⟨hW.dom,hW.live,λi g o h1 h2=>(hW.obj i g o h1 h2).congr (hb.heap _ (hW.obj i g o h1 h2).lt),hW.inj⟩,
  ⟨λ_ _=>rfl,bT _,λ_ _ h=>h,λ_ _ _=>rfl,bT _,λ_ _ _=>rfl,hb.os,hb.tape,hb.output,hb.size,λb hb' _=>hb.heap b hb',λi g hg hi=>absurd (hW.dom _ _ hg) z7,λi g _ _ _ _ hb'=>hb.heap _ hb',hb.drawn⟩⟩
open Go.Sort Go.Proofs Go.RowKit Go.Lib Go.Shelf
variable {P:Program}
variable{w w':World}
def Beyond.grown(h:Beyond w w'):∃q os,w'=Go.Sort.grow (w.drewN q) os:=by
 refine⟨w'.drawn - w.drawn,w'.heap.extract w.heap.size w'.heap.size,?_⟩;obtain⟨heap,tape,drawn,os,output⟩:=w;obtain⟨heap',tape',drawn',os',output'⟩:=w';obtain⟨h1,h2,h3,h4,h5,h6⟩:=h;dsimp only at h1 h2 h3 h4 h5 h6;subst h3 h4 h5;have e1:heap'=heap++heap'.extract heap.size heap'.size:=by
  apply Array.ext_getElem?;intro i;rw[Array.getElem?_append];split
  .rename_i hi;exact h1 i hi
  .rename_i hi;rw[Array.getElem?_extract];by_cases hl:i<heap'.size
   .rw[if_pos z7,show heap.size+(i - heap.size)=i by omega]
   .rw[if_neg z7,uo z7]
 have e2:drawn'=drawn+(drawn' - drawn):=z7
 show World.mk heap' tape' drawn' os' output'=World.mk (heap++heap'.extract heap.size heap'.size) tape' (drawn+(drawn' - drawn)) os' output';rw[<- e1,<- e2]
variable{β:aG}
def Eff.beyond{β':aG}{h h':IH}(hW:WR P β h w)(he:Eff β h w β' h' w')(hl:h'.low=h.next):Beyond w w':=by
 refine⟨λk hk=>?_,he.size,he.os,he.tape,he.output,he.drawn⟩;by_cases hx:∀i g,β i=some g->h.get i≠none->g.b≠k
 .exact he.keep k hk hx
 .have hx:∃i g,β i=some g/\h.get i≠none/\g.b=k:=by
   exact sx
  obtain⟨i,g,hi,hg,rfl⟩:=hx;have hin:=hW.dom i g hi;exact he.tq i g (by rw[hl];exact hin) hin hi hg hk
variable{f:agR}
def anS{fn:Func}(hfn:P.funcs[f]? =some fn){body:Code}(hb:fn.body=some body)(hname:fn.name≠ "runtime.NumGoroutine")(xs:Array vI)(w:World):(callFunc f xs).run P w=.ok (.enter f xs) w:=by
 exact lE
def ao8(Aq:P.follows .mixedOrders=true){g:agR}{fn:Func}(hfn:P.funcs[g]? =some fn){body:Code}(hb:fn.body=some body)(hname:fn.name≠ "runtime.NumGoroutine"){args args' cap cap':kI vI}{F:kI aO}{n:Int}
 (hC:bA P (.func g) args cap [] F (λ_:Unit=>.int .i64 n) (λ_=>[]) (λ_=>[]) (λ_=>True)) {β:aG} {w:World} {d:Wd} (hlow:d.h.low=d.h.next) (hF:∀f∈F,f.p d) (hG:kL P β) (hW:WR P β d.h w) (ha:aW β args args') (hc:aW β cap cap'):
 Calls P g ((⟨args'⟩:Array vI)++(⟨cap'⟩:Array vI)) w λe w'=>e=.returned (.int .i64 n)/\∃q os,w'=Go.Sort.grow (w.drewN q) os:=by
 have hst:St [] d [] F d:=⟨⟨bT _,λ_ _ _=>rfl,λ_ _=>rfl⟩,Wd.Le.refl d,λi hi hz=>.inl hz,⟨[],rfl,yE,An⟩,hF⟩
 have hM:=aaU Aq (hC [] d hst);obtain⟨nx,F0,n1,n2,n3⟩:=hM β w (.func g) args' cap' hG hW (.func g) ha hc;have hnx:nx=.enter g ((⟨args'⟩:Array vI)++(⟨cap'⟩:Array vI)):=by
  have n1:(invoke (.fn (.func g) ⟨cap'⟩) ⟨args'⟩).run P w=.ok nx w:=n1;simp only[invoke]at n1;rw[anS hfn hb hname]at n1;cases n1;rfl
 subst hnx;have Az:F0=Frame.enter P g ((⟨args'⟩:Array vI)++(⟨cap'⟩:Array vI)) .normal:=by
  have:entry P .normal (.enter g ((⟨args'⟩:Array vI)++(⟨cap'⟩:Array vI)))=some (Frame.enter P g ((⟨args'⟩:Array vI)++(⟨cap'⟩:Array vI)) .normal):=rfl;have n2:entry P .normal (.enter g ((⟨args'⟩:Array vI)++(⟨cap'⟩:Array vI)))=some F0:=n2;rw[this]at n2;exact(Option.some.inj n2).symm
 subst Az;intro cs;obtain⟨r,pm',h',β',w',r',cs1,q1,q2,q3,q4,q5,q6⟩:=n3 cs (by intro m hm;cases hm);obtain⟨hp,d2,_,rfl,hs2,rfl,_⟩:=q1;have ao9:=hs2.agree.low (by rw[hlow];exact bT _) An;cases q5;cases q4 with
 | @ok v v' rF=>
   have:=rF.mo;subst this;rcases q6 with⟨f1,a1,F1,e1,e2,e3,e4,e5⟩|⟨⟨_,l,e1⟩,_⟩
   .cases e1;refine⟨.returned _,w',F1,⟨rfl,(q3.beyond hW (ao9.trans hlow)).grown⟩,e2,e3,?_⟩;exact uc
   .cases e1
def amn(P:Program)(f:agR)(k:Nat):Prop:=∀(α:Type) [Inhabited α] (enc:α->kI vI) (cf:α->α->Int) (g:agR) (cb:Array vI) (blk off cap:Nat) (d:Array α) (w:World),
 (∀x,(enc x).length=k)->(∀x,∀v∈enc x,v.oneCell'=true)->SWO (ltOf cf)->(∀args w,(callFunc g args).run P w=.ok (.enter g args) w)->CmpLays P g cb enc k cf blk off d.size w->HoldsK enc k w blk off d->blk<w.heap.size->d.size<4611686018427387904->
 Calls P f #[.slice (some ⟨blk,off,none⟩) d.size cap,.func (.func g) #[] cb] w λe w'=>e=.returned (.tuple #[])/\∃d' n os,PermIn 0 d.size d d'/\SortedIn (ltOf cf) 0 d.size d'/\w'=sortWorldK enc k w blk off n d' os
def amR(P:Program)(f:agR)(k:Nat)(wr:kI vI->vI):Prop:=∀(α:Type) [Inhabited α] (enc:α->kI vI) (cf:α->α->Int) (g:agR) (cb:Array vI) (blk off cap:Nat) (d:Array α) (w:World),
 (∀x,(enc x).length=k)->(∀x,∀v∈enc x,v.oneCell'=true)->SWO (ltOf cf)->(∀args w,(callFunc g args).run P w=.ok (.enter g args) w)->
 (∀(m:Nat) (os:Array Obj) (dk:Array α),dk.size=d.size->∀x y:α,Calls P g (#[wr (enc x),wr (enc y)]++cb) (sortWorldK enc k w blk off m dk os) λe w'=>e=.returned (.int .i64 (cf x y))/\∃q os',w'=Go.Sort.grow ((sortWorldK enc k w blk off m dk os).drewN q) os')->
 HoldsK enc k w blk off d->blk<w.heap.size->d.size<4611686018427387904->
 Calls P f #[.slice (some ⟨blk,off,none⟩) d.size cap,.func (.func g) #[] cb] w λe w'=>e=.returned (.tuple #[])/\∃d' n os,PermIn 0 d.size d d'/\SortedIn (ltOf cf) 0 d.size d'/\w'=sortWorldK enc k w blk off n d' os
def anT(l:kI vI):vI:=.agg ⟨l⟩
def amn.toW{k:Nat}(h:amn P f k):amR P f k anT:=h
structure El{X:Type}(β:aG)(E:Enc X)(xs:List X)(d:Wd) where
 x:X
 y:E.Y
 v:List Value
 mem:x∈xs
 rel:aW β (E.pat x y) v
 cell:(E.pat x y).all cellV=true
 fs:∀f∈E.fs x y,f.p d
def aW.oneCell{vs vs':kI vI}(hv:aW β vs vs')(hall:vs.all cellV=true):∀v∈vs',v.oneCell'=true:=λv hv'=>by
 obtain⟨j,hj⟩:=jS hv';have hjl:j<vs.length:=by
  have:=(bq.1 hj).1;rw[hv.length]at this;exact this
 exact ii
noncomputable def Wd.but(d:Wd)(b:Nat):Wd:=⟨⟨(d.h.kill b).t,d.h.next,d.h.next⟩,d.z,d.nJ⟩
def Wd.alI(d:Wd)(b i:Nat):(d.but b).h.get i=if i=b then none else d.h.get i:=by
 show(d.h.kill b).get i=_;exact IH.uF _ _ _
def Wd.apa{d:Wd}{b:Nat}(hz:¬d.z b):d.Le (d.but b):=⟨bT _,λ_ h=>h,λi hi=>by rw[Wd.alI,if_neg (λe:i=b=>hz (e▸hi))]⟩
variable{α:Type}
def apb[Inhabited α](enc:α->kI vI)(k:Nat)(w:World)(blk off m:Nat)(dk:Array α)(os:Array Obj){b:Nat}(hb:b<w.heap.size)(hne:b≠blk):(sortWorldK enc k w blk off m dk os).heap[b]? =w.heap[b]?:=by
 show((w.heap.modify blk _)++os)[b]? =_;rw[aoU (by rw[Array.size_modify];exact hb),Array.getElem?_modify,if_neg (λe=>hne e.symm)]
def WR.apc[Inhabited α]{β:aG}{d:Wd}{w:World}(hW:WR P β d.h w){b:Nat}{g:iJ}{cs:kI vI}(hi:β b=some g)(hg:d.h.get b=some (.cells cs))(enc:α->kI vI)(k off m:Nat)(dk:Array α)(os:Array Obj):
 WR P β (d.but b).h (sortWorldK enc k w g.b off m dk os):=by
 refine⟨hW.dom,λi o h=>?_,λi g' o h1 h2=>?_,λi j g1 g2 h1 h2 h3 h4 h5 h6=>?_⟩
 .rw[Wd.alI]at h;split at h
  .cases h
  .exact hW.live i o h
 .rw[Wd.alI]at h2;split at h2
  .cases h2
  .rename_i hib;have hO:=hW.obj i g' o h1 h2;refine hO.congr (apb enc k w g.b off m dk os hO.lt λe=>hib ?_);exact hW.inj i b g' g h1 hi (by rw[h2];simp) (by rw[hg];simp) (.inr λcs2=>by rw[hg];simp) e
 .rw[Wd.alI]at h3 h4;rw[Wd.alI,Wd.alI]at h5;split at h3
  .exact absurd rfl h3
  split at h4
  .exact absurd rfl h4
  rename_i n1 n2;rw[if_neg n1,if_neg n2]at h5;exact hW.inj i j g1 g2 h1 h2 h3 h4 h5 h6
def List.apd{R:α->α->Prop}{l:kI α}(h:∀(i j:Nat) x y,i<j->l[i]? =some x->l[j]? =some y->R x y):l.Pairwise R:=
 wT.2 λi j hi hj hij=>h i j _ _ hij (bP hi) (bP hj)
def ape(Aq:P.follows .mixedOrders=true){f g:agR}{k:Nat}{wr:kI vI->vI}(hwr:∀{β:aG} {vs vs':kI vI},vs.length=k->vs.all cellV=true->aW β vs vs'->VR β (wr vs) (wr vs'))(hS:amR P f k wr){fn:Func}(hfn:P.funcs[f]? =some fn){body:Code}(hb:fn.body=some body)(hname:fn.name≠ "runtime.NumGoroutine"){gn:Func}(hgn:P.funcs[g]? =some gn){al2:Code}(hgb:gn.body=some al2)(alJ:gn.name≠ "runtime.NumGoroutine")
 {X:Type} {E:Enc X} (hE:E.n=k) (hk0:0<k) {xs:kI X} {cf:X->X->Int} (hO:SWO (ltOf cf)) {cap:kI vI} {F:kI aO}
 (hC:∀x∈xs,∀y∈xs,∀a b,bA P (.func g) [wr (E.pat x a),wr (E.pat y b)] cap [] (E.fs x a++(E.fs y b++F)) (λ_:Unit=>.int .i64 (cf x y)) (λ_=>[]) (λ_=>[]) (λ_=>True))
 {d:Wd} {b o c:Nat} {fl:x8 Nat} {cs:kI vI} (hg:d.h.get b=some (.cells cs)) (hz:¬d.z b) (hF:∀f∈F,f.p d)
 (hel:∀(j:Nat) x,xs[j]? =some x->∃y,(∀(t:Nat) u,(E.pat x y)[t]? =some u->cs[o+j*E.n+t]? =some u)/\∀f∈E.fs x y,f.p d) (hcs:cs.length=o+xs.length*E.n) (hne:0<xs.length) (hlen:xs.length<4611686018427387904):
 mQ P ⟨.func f,[.slice (some ⟨b,o,fl⟩) xs.length c,.func (.func g) ⟨[]⟩ ⟨cap⟩],[],none⟩ d.h (λr pm h2=>pm=none/\r=.ok (.tuple ⟨[]⟩)/\∃(zs:kI (X×E.Y)) (cs2:kI vI),(zs.map (·.1)).Perm xs/\(zs.map (·.1)).Pairwise (λx y=>¬cf y x<0)/\cs2.length=cs.length/\
  (∀(j:Nat) p,zs[j]? =some p->(∀(t:Nat) u,(E.pat p.1 p.2)[t]? =some u->cs2[o+j*E.n+t]? =some u)/\∀f∈E.fs p.1 p.2,f.p d)/\h2=d.h.set b (.cells cs2)):=by
 subst hE;intro β w fn' args' cap' hG hW hf ha hcap;obtain⟨jX,t1,t2⟩:=Rl (P:=P) (q:=⟨.func f,[.slice (some ⟨b,o,fl⟩) xs.length c,.func (.func g) ⟨[]⟩ ⟨cap⟩],[],none⟩) (f:=f) (args:=[.slice (some ⟨b,o,fl⟩) xs.length c,.func (.func g) ⟨[]⟩ ⟨cap⟩]) Gk hf ha hcap hfn hb hname w;cases t2 with|cons hv tl=>
 cases tl with|cons hv2 tl=>
 cases tl;obtain⟨gi,a,c',hi,rfl,hab,_,hn,hcc,hao,_⟩:=hv.nT;obtain⟨fn2,f2,cb,hfr2,hf2,hcb,rfl⟩:=hv2.Ak;cases hfr2;cases hf2;have hao:a.off=gi.off+o/\a.spot=none:=by
  rcases hao with e|e
  .omega
  .exact e
 obtain⟨⟨c0,t0,fz0,hh⟩,q2,q3,q4,q5,q6⟩:=hW.obj b gi _ hi hg;have ea:a=⟨gi.b,gi.off+o,none⟩:=by
  obtain⟨ab,ao,asp⟩:=a;simp only at hab hao;rw[hab,hao.1,hao.2]
 subst ea;have hlt:gi.b<w.heap.size:=(XH.1 hh).1;have apf:∀j t,j<xs.length->t<E.n->o+j*E.n+t<cs.length:=λj t hj ht=>by
  have:=anD E.n (show j+1<=xs.length from hj);rw[ru,BL]at this;omega
 let cellOf:Nat->vI:=λt=>(w.cell? ⟨gi.b,gi.off+o+t,none⟩).getD .nilFunc
 have hcell:∀t,t<xs.length*E.n->w.cell? ⟨gi.b,gi.off+o+t,none⟩=some (cellOf t)/\w.frozen? ⟨gi.b,gi.off+o+t,none⟩=false:=λt ht=>by
  obtain⟨r1,r2⟩:=q4 (gi.off+o+t) z7;refine⟨?_,r2⟩;obtain⟨v,hv⟩:=aoT.1 r1;show _=some ((w.cell? ⟨gi.b,gi.off+o+t,none⟩).getD .nilFunc);rw[hv];rfl
 have hex:∀j,j<xs.length->∃e:El β E xs d,xs[j]? =some e.x/\e.v=(List.range E.n).map λt=>cellOf (j*E.n+t):=λj hj=>by
  have hx:xs[j]? =some xs[j]:=bP hj;obtain⟨y,h1,h2⟩:=hel j _ hx;refine⟨⟨xs[j],y,(List.range E.n).map λt=>cellOf (j*E.n+t),vF hj,?_,?_,h2⟩,hx,rfl⟩
  .refine aW.XV (by rw[bY,uu,E.len]) λt v ht=>?_;have htn:t<E.n:=by have:=(bq.1 ht).1;rw[E.len]at this;exact this
   obtain⟨v',r1,r2⟩:=q6 _ v (h1 t v ht);refine⟨v',?_,r2⟩;rw[dm,pU htn,jT];show some ((w.cell? ⟨gi.b,gi.off+o+(j*E.n+t),none⟩).getD .nilFunc)=_;rw[show gi.off+o+(j*E.n+t)=gi.off+(o+j*E.n+t)by omega,r1];rfl
  .rw[lK]at q5⊢;intro v hv;obtain⟨t,ht⟩:=jS hv;exact q5 v (aZ (h1 t v ht))
 have e0:El β E xs d:=Classical.choice (by obtain⟨e,_⟩:=hex 0 hne;exact⟨e⟩)
 haveI:Inhabited (El β E xs d):=⟨e0⟩
 obtain⟨el,ac7⟩:∃el:Nat->El β E xs d,∀j,j<xs.length->xs[j]? =some (el j).x/\(el j).v=(List.range E.n).map λt=>cellOf (j*E.n+t):=
  ⟨λj=>if h:j<xs.length then Classical.choose (hex j h)else e0,λj hj=>by dsimp only;rw[dif_pos hj];exact amO (hex j hj)⟩
 let D:Array (El β E xs d):=((List.range xs.length).map el).toArray
 have hDs:D.size=xs.length:=by simp[D]
 have hDg:∀j,j<xs.length->D[j]! =el j:=λj hj=>by
  rw[getElem!_pos D j (by rw[hDs];exact hj)];simp[D]
 have hDx:D.toList.map (·.x)=xs:=by
  apply iY;intro j;by_cases hj:j<xs.length
  .rw[(ac7 j hj).1];simp[D,hj]
  .rw[fO (l:=xs) z7,fO (by simp[D];omega)]
 have hlv:∀e:El β E xs d,e.v.length=E.n:=λe=>by rw[e.rel.length,E.len]
 have hH:HoldsK (λe:El β E xs d=>e.v) E.n w gi.b (gi.off+o) D:=λt ht=>by
  have ht:t<xs.length*E.n:=by rw[size_flatK,hDs]at ht;exact ht
  rw[get_flatK _ _ _ _ (by rw[hDs];exact ht)];have hq:t/E.n<xs.length:=(anE hk0).2 ht;have hr:t%E.n<E.n:=zO _ hk0;rw[hDg _ hq,(ac7 _ hq).2];have:((List.range E.n).map λt'=>cellOf (t/E.n*E.n+t'))[t%E.n]! =cellOf t:=by
   rw[getElem!_pos _ _ (by simpa using hr)];simp only[List.getElem_map,List.getElem_range];rw[alG,Nat.div_add_mod]
  rw[this];exact hcell t ht
 have hO2:SWO (ltOf λa b:El β E xs d=>cf a.x b.x):=⟨λa=>hO.irrefl a.x,λa b c=>hO.trans a.x b.x c.x,λa b c=>hO.ntrans a.x b.x c.x⟩
 have hcmp:∀(m:Nat) (os:Array Obj) (dk:Array (El β E xs d)),dk.size=D.size->∀x y:El β E xs d,Calls P g (#[wr x.v,wr y.v]++⟨cb⟩) (sortWorldK (λe:El β E xs d=>e.v) E.n w gi.b (gi.off+o) m dk os) λe w'=>e=.returned (.int .i64 (cf x.x y.x))/\∃q os',w'=Go.Sort.grow ((sortWorldK (λe:El β E xs d=>e.v) E.n w gi.b (gi.off+o) m dk os).drewN q) os':=λm os dk _ x y=>by
  have hle:=Wd.apa hz;exact ao8 Aq hgn hgb alJ (hC x.x x.mem y.x y.mem x.y y.y) (d:=d.but b) rfl (λfa hfa=>by
   rcases dX.1 hfa with h|h
   .exact fa.mono hle (x.fs fa h)
   .rcases dX.1 h with h|h
    .exact fa.mono hle (y.fs fa h)
    .exact fa.mono hle (hF fa h)) hG (hW.apc hi hg _ _ _ m dk os) (.cons (hwr (E.len _ _) x.cell x.rel) (.cons (hwr (E.len _ _) y.cell y.rel) .nil)) hcb
 have hK:=hS (El β E xs d) (λe=>e.v) (λa b=>cf a.x b.x) g ⟨cb⟩ gi.b (gi.off+o) c' D w hlv (λe=>aW.oneCell e.rel e.cell) hO2 (λxs w=>anS hgn hgb alJ xs w) hcmp hH hlt (by rw[hDs];exact hlen);refine⟨_,Frame.enter P f ⟨_⟩ .normal,t1,rfl,λcs0 Ar=>?_⟩;rw[hDs]at hK;obtain⟨e,w',fr,⟨he,d2,n2,os,hpm,hsd,hw'⟩,hcomes,hfr,hlv2⟩:=hK cs0;subst he;have hd2:d2.size=xs.length:=hpm.1.trans hDs;have hdg:∀(j:Nat) e,d2.toList[j]? =some e->j<xs.length/\d2[j]! =e:=λj e h=>by
  rw[zN]at h;obtain⟨hj,he⟩:=XH.1 h;exact⟨z7,by rw[getElem!_pos d2 j hj];exact he⟩
 let zs:kI (X×E.Y):=d2.toList.map λe=>(e.x,e.y)
 let L:kI vI:=(List.range (xs.length*E.n)).map λt=>(E.pat (d2[t/E.n]!).x (d2[t/E.n]!).y).getD (t%E.n) .nilFunc
 let L':kI vI:=(flatK (λe:El β E xs d=>e.v) E.n d2).toList
 have hLl:L.length=xs.length*E.n:=by simp[L]
 have hLg:∀t,t<xs.length*E.n->L[t]? =some ((E.pat (d2[t/E.n]!).x (d2[t/E.n]!).y).getD (t%E.n) .nilFunc):=λt ht=>by
  show((List.range (xs.length*E.n)).map _)[t]? =_;rw[dm,pU ht];rfl
 have api:L'.length=xs.length*E.n:=by simp[L',hd2]
 have amT:∀(e:El β E xs d) t,t<E.n->(E.pat e.x e.y)[t]? =some ((E.pat e.x e.y).getD t .nilFunc):=λe t ht=>by
  rw[alv,bP (by rw[E.len];exact ht)];rfl
 have anU:∀(t:Nat) v,L[t]? =some v->t<xs.length*E.n:=λt v ht=>by
  have:=(bq.1 ht).1
  rwa [hLl]at this
 have hrel:aW β L L':=aW.XV (by rw[api,hLl]) λt v ht=>by
  have htn:=anU t v ht;rw[hLg t htn]at ht;cases ht;have hr:=zO t hk0;obtain⟨v',r1,r2⟩:=(d2[t/E.n]!).rel.get (amT _ _ hr);refine⟨v',?_,r2⟩;have h1:L'[t]? =some (flatK (λe:El β E xs d=>e.v) E.n d2)[t]!:=by
   show(flatK (λe:El β E xs d=>e.v) E.n d2).toList[t]? =_;rw[zN,XK HS,getElem!_pos _ _ HS]
  rw[h1,get_flatK _ _ _ _ (by rw[hd2];exact htn)];show some ((d2[t/E.n]!).v)[t%E.n]! =_;rw[getElem!_pos _ _ (by rw[hlv];exact hr),<- bP];exact r1
 have hall:L.all cellV=true:=by
  rw[lK];intro v hv;obtain⟨t,ht⟩:=jS hv;have htn:=anU t v ht;rw[hLg t htn]at ht;cases ht;exact lK.1 (d2[t/E.n]!).cell _ (aZ (amT _ _ (zO t hk0)))
 obtain⟨cs2,hl⟩:=MX cs o L (by rw[hLl];omega);obtain⟨l1,l2,l3⟩:=KJ hl;have hs:d.h.storeAt b o L=some (d.h.set b (.cells cs2)):=by unfold IH.storeAt;simp only[hg,hl]
 obtain⟨_,w1,w2⟩:=KP hW hi hs hrel hall;have hw1:sortWorldK (λe:El β E xs d=>e.v) E.n w gi.b (gi.off+o) n2 d2 os=Go.Sort.grow (Sort.ahead (w.setCells gi.b (gi.off+o) L') n2) os:=by
  have:=Go.Ideal.setCells_putRow (id:vI->vI) w gi.b (gi.off+o) (flatK (λe:El β E xs d=>e.v) E.n d2);rw[alU]at this;rw[show w.setCells gi.b (gi.off+o) L'=_ from this];rfl
 rw[hw1]at hw';have w3:WR P β (d.h.set b (.cells cs2)) (Sort.ahead (w.setCells gi.b (gi.off+o) L') n2):=w1.uH rfl;have w4:=w2.trans (Eff.uH (w':=Sort.ahead (w.setCells gi.b (gi.off+o) L') n2) w1.dom rfl rfl rfl rfl (Nat.le_add_right _ _));obtain⟨w5,w6⟩:=w3.grow os;rw[<- hw']at w5 w6;refine⟨.ok (.tuple ⟨[]⟩),none,_,β,w',.returned (.tuple #[]),cs0,⟨rfl,rfl,zs,cs2,?_,?_,l2,?_,rfl⟩,w5,w4.trans w6,.ok (.dU _),.none cs0,.inl ⟨f,_,fr,rfl,hcomes,hfr,hlv2.2.2.1,hlv2.1,hlv2.2.1,hlv2.2.2.2⟩⟩
 .have hp:=hpm.2.2;rw[show d2.extract 0 xs.length=d2 by rw[<- hd2];simp,show D.extract 0 xs.length=D by rw[<- hDs];simp]at hp;have h1:=hp.map (·.x);rw[hDx]at h1;show((d2.toList.map λe=>(e.x,e.y)).map (·.1)).Perm xs;rw[wR];exact h1
 .show((d2.toList.map λe=>(e.x,e.y)).map (·.1)).Pairwise _;rw[wR];refine List.apd λi j x y hij hx hy=>?_;rw[dm,kg]at hx hy;obtain⟨e1,hx,rfl⟩:=hx;obtain⟨e2,hy,rfl⟩:=hy;have h1:=hdg i e1 hx;have h2:=hdg j e2 hy;have:=hsd i j (bR _) hij h2.1;rw[h1.2,h2.2]at this;exact nC this
 .intro j p hj;have hj:(d2.toList.map λe=>(e.x,e.y))[j]? =some p:=hj;rw[dm,kg]at hj;obtain⟨e,he0,rfl⟩:=hj;obtain⟨hjn,he⟩:=hdg j e he0;refine⟨λt u ht=>?_,e.fs⟩;have htn:t<E.n:=by have:=(bq.1 ht).1;rw[E.len]at this;exact this
  have hb2:=apf j t hjn htn;rw[l3,if_pos ⟨z7,by rw[hLl];omega⟩,show o+j*E.n+t - o=j*E.n+t by omega,hLg _ z7];have d1:(j*E.n+t)/E.n=j:=by rw[alG,Nat.mul_add_div hk0,Nat.div_eq_of_lt htn,zM]
  have d3:(j*E.n+t)%E.n=t:=by rw[alG,Nat.mul_add_mod,Nat.mod_eq_of_lt htn]
  rw[d1,d3,he,<- amT e t htn];exact ht
def amo(P:Program)(f:agR):Prop:=∀(p:x8 Addr) (cap:Nat) (fv:vI) (w:World),Calls P f #[.slice p 0 cap,fv] w λe w'=>e=.returned (.tuple #[])/\w'=w
def VR.apj{a:x8 Addr}{n c:Nat}{v:vI}(h:VR β (.slice a n c) v):∃p c',v=.slice p n c':=by
 cases h<;>exact⟨_,_,rfl⟩
def apk(hS:amo P f){fn:Func}(hfn:P.funcs[f]? =some fn){body:Code}(hb:fn.body=some body)(hname:fn.name≠ "runtime.NumGoroutine"){a:x8 Addr}{c:Nat}{fv:vI}{h:IH}:
 mQ P ⟨.func f,[.slice a 0 c,fv],[],none⟩ h (λr pm h2=>pm=none/\r=.ok (.tuple ⟨[]⟩)/\h2=h):=by
 intro β w fn' args' cap' hG hW hf ha' hcap;obtain⟨jX,t1,t2⟩:=Rl (P:=P) (q:=⟨.func f,[.slice a 0 c,fv],[],none⟩) (f:=f) (args:=[.slice a 0 c,fv]) Gk hf ha' hcap hfn hb hname w;cases t2 with|cons hv tl=>
 cases tl with|cons hv2 tl=>
 cases tl;obtain⟨p,c',rfl⟩:=hv.apj;refine⟨_,Frame.enter P f ⟨_⟩ .normal,t1,rfl,λcs0 Ar=>?_⟩;obtain⟨e,w',fr,⟨he,hw'⟩,hcomes,hfr,hlv⟩:=hS p c' _ w cs0;subst he hw';exact⟨.ok (.tuple ⟨[]⟩),none,h,β,_,.returned (.tuple #[]),cs0,⟨rfl,rfl,rfl⟩,hW,Eff.refl _ _ _ hW.dom,.ok (.dU _),.none cs0,.inl ⟨f,_,fr,rfl,hcomes,hfr,hlv.2.2.1,hlv.1,hlv.2.1,hlv.2.2.2⟩⟩
def apl(Aq:P.follows .mixedOrders=true){f g:agR}{k:Nat}{wr:kI vI->vI}(hwr:∀{β:aG} {vs vs':kI vI},vs.length=k->vs.all cellV=true->aW β vs vs'->VR β (wr vs) (wr vs'))(hS:amR P f k wr)(hN:amo P f){fn:Func}(hfn:P.funcs[f]? =some fn){body:Code}(hb:fn.body=some body)(hname:fn.name≠ "runtime.NumGoroutine"){gn:Func}(hgn:P.funcs[g]? =some gn){al2:Code}(hgb:gn.body=some al2)(alJ:gn.name≠ "runtime.NumGoroutine")
 {X:Type} {E:Enc X} (hE:E.n=k) (hk0:0<k) {xs:kI X} {cf:X->X->Int} (hO:SWO (ltOf cf)) {cap:kI vI} {F:kI aO} {a:x8 Addr}
 (hC:∀x∈xs,∀y∈xs,∀a b,bA P (.func g) [wr (E.pat x a),wr (E.pat y b)] cap [] (E.fs x a++(E.fs y b++F)) (λ_:Unit=>.int .i64 (cf x y)) (λ_=>[]) (λ_=>[]) (λ_=>True))
 (hlen:xs.length<4611686018427387904):
 bA P (.func f) [.slice a xs.length xs.length,.func (.func g) ⟨[]⟩ ⟨cap⟩] [] [ap E (.slice a xs.length xs.length) xs] F (λ_:kI X=>.tuple ⟨[]⟩) (λys=>[ap E (.slice a xs.length xs.length) ys]) (λ_=>[]) (λys=>ys.Perm xs/\ys.Pairwise λx y=>¬cf y x<0):=by
 intro B w s;by_cases hx:xs=[]
 .subst hx;refine .real (Rj _ (apk hN hfn hb hname) ?_);rintro r pm h' ⟨rfl,rfl,rfl⟩;exact⟨rfl,w,[],rfl,⟨s.agree,s.le,s.af9,s.own,λf hf=>by cases hf⟩,rfl,.refl _,.nil⟩
 have hne:0<xs.length:=BK.2 hx;obtain⟨S,⟨S1,S2,q1,q2,e⟩,h2,h3⟩:=s.own;rcases q1 with⟨h,_⟩|⟨b,o,fl,cells,e1,hf,e2,hb',hcl,hel⟩
 .exact absurd h hx
 injection e1 with e1 e1';subst e1 e2 e;have hzb:¬w.z b:=(h3 b An).2.2;refine .real (Rj _ (ape Aq hwr hS hfn hb hname hgn hgb alJ hE hk0 hO hC hb' hzb s.facts hel hcl hne hlen) ?_);rintro r pm h' ⟨rfl,rfl,zs,cs2,hp,hpw,hl2,apm,rfl⟩;have s1:St B w [pt b (.cells cells)] [] w:=⟨s.agree,s.le,s.af9,⟨[b]++S2,⟨[b],S2,⟨rfl,hb'⟩,q2,rfl⟩,h2,h3⟩,λf hf=>by cases hf⟩
 have s2:=s1.write (o':=.cells cs2);have hle:w.Le ⟨w.h.set b (.cells cs2),w.z,λi hi=>w.nJ i hi⟩:=s2.le;have hzl:zs.length=xs.length:=by have:=hp.length_eq;rwa [bY]at this
 refine⟨rfl,⟨w.h.set b (.cells cs2),w.z,λi hi=>w.nJ i hi⟩,zs.map (·.1),rfl,?_,rfl,hp,hpw⟩;refine s2.Cv (A':=ap E (.slice (some ⟨b,o,some fl⟩) xs.length xs.length) (zs.map (·.1))) λS' hp'=>?_;refine .inr ⟨b,o,fl,cs2,by rw[bY,hzl],hf,hp'.1,hp'.2,by rw[hl2,hcl,bY,hzl],λj x hj=>?_⟩;rw[dm,kg]at hj;obtain⟨p,hj,rfl⟩:=hj;obtain⟨r1,r2⟩:=apm j p hj;exact⟨p.2,r1,λf hf=>f.mono hle (r2 f hf)⟩
def apn(Aq:P.follows .mixedOrders=true){f g:agR}{k:Nat}(hS:amn P f k)(hN:amo P f){fn:Func}(hfn:P.funcs[f]? =some fn){body:Code}(hb:fn.body=some body)(hname:fn.name≠ "runtime.NumGoroutine"){gn:Func}(hgn:P.funcs[g]? =some gn){al2:Code}(hgb:gn.body=some al2)(alJ:gn.name≠ "runtime.NumGoroutine")
 {X:Type} {E:Enc X} (hE:E.n=k) (hk0:0<k) {xs:kI X} {cf:X->X->Int} (hO:SWO (ltOf cf)) {cap:kI vI} {F:kI aO} {a:x8 Addr}
 (hC:∀x∈xs,∀y∈xs,∀a b,bA P (.func g) [.agg ⟨E.pat x a⟩,.agg ⟨E.pat y b⟩] cap [] (E.fs x a++(E.fs y b++F)) (λ_:Unit=>.int .i64 (cf x y)) (λ_=>[]) (λ_=>[]) (λ_=>True))
 (hlen:xs.length<4611686018427387904):
 bA P (.func f) [.slice a xs.length xs.length,.func (.func g) ⟨[]⟩ ⟨cap⟩] [] [ap E (.slice a xs.length xs.length) xs] F (λ_:kI X=>.tuple ⟨[]⟩) (λys=>[ap E (.slice a xs.length xs.length) ys]) (λ_=>[]) (λys=>ys.Perm xs/\ys.Pairwise λx y=>¬cf y x<0):=
 apl Aq (wr:=anT) (λ_ h1 h2=>.agg h1 h2) hS.toW hN hfn hb hname hgn hgb alJ hE hk0 hO hC hlen
end Go.Ideal
namespace Go.Ideal
variable {P:Program} {B:kI Nat} {w0:Wd} {kl kl' bH:kI OA} {F:kI aO} {K:KO} {ds:kI Tmp} {rest:kI bV} {n:Nat} {l:qr} {D:kI Deferred} {pm:x8 FrameMode} {ro:x8 Nat} {d:Nat} {g:x8 (Tmp×Bool)}
variable{α:Type}{k:Nat}
def adz{E:Enc α}{aC:kI (α×E.Y)}{p:α×E.Y}(hp:aC[k]? =some p):jf (jH (eG E aC) (k*E.n)) E.n=some (E.pat p.1 p.2):=by
 have hk:=(bq.1 hp).1;have hl:=za aC;have hm:(k+1)*E.n<=aC.length*E.n:=anD _ hk;rw[ru,BL]at hm;rw[p9,qD,if_pos A0];congr 1;apply iY;intro j;rw[sK];by_cases hj:j<E.n
 .have hu:(E.pat p.1 p.2)[j]? =some ((E.pat p.1 p.2)[j]'(GB)):=bP _;rw[if_pos hj,oO,hu];exact vZ hp hu
 .rw[if_neg hj,fO (by rw[E.len];omega)]
def amU{E:Enc α}(a b:kI (α×E.Y)):eG E (a++b)=eG E a++eG E b:=by unfold eG;rw[anI]
def apo{E:Enc α}{aC:kI (α×E.Y)}{p:α×E.Y}(hk:k<aC.length):jV (eG E aC) (k*E.n) (E.pat p.1 p.2)=some (eG E (aC.set k p)):=by
 have h1:aC=aC.take k++aC.drop k:=(uq k aC).symm;have hd:aC.drop k=aC[k]::aC.drop (k+1):=oU hk;have h2:eG E aC=eG E (aC.take k)++(E.pat aC[k].1 aC[k].2++eG E (aC.drop (k+1))):=by
  conv=>lhs;rw[h1,hd,amU]
  rfl
 have h3:k*E.n=(eG E (aC.take k)).length:=by rw[za,gT,DF z7]
 rw[h2,h3,anR (by rw[E.len,iH,E.len];omega),E.len,List.drop_append_of_le_length (by rw[E.len];exact bT _),List.drop_of_length_le (by rw[E.len];exact bT _),dY];congr 1;have h4:aC.set k p=aC.take k++p::aC.drop (k+1):=by
  conv=>lhs;rw[h1]
  rw[Gl _ _ (by rw[gT];omega),gT,DF z7,vK,hd];rfl
 rw[h4,amU];rfl
def adA(E:Enc α){aC:kI (α×E.Y)}{k o b m:Nat}{p:α×E.Y}{x:aaB}(hp:aC[k]? =some p)(ho:o=k*E.n)
 (next:R (λh=>aH P ds rest (act n ((d,.agg ⟨E.pat p.1 p.2⟩)::l) D pm ro) h K) B w0 kl F)
 (hx:ev l x=.pointer (some ⟨b,o,none⟩):=by rfl) (hk:az (pt b (.cells (eG E aC))) kl kl':=by exact afv) (hz:E.n=m:=by rfl) (hn:Nat.blt d n=true:=by rfl) (hg:cZ l g=true:=by rfl):
 R (λh=>aH P ds (⟨⟨some d,g,.pW m x⟩,[]⟩::rest) (act n l D pm ro) h K) B w0 kl F:=by
 subst ho hz;exact(R9 hn hg hx hk (adz hp)).h next
def apq(E:Enc α){aC:kI (α×E.Y)}{k o b m:Nat}(p:α×E.Y){x y:aaB}(hlt:k<aC.length)(ho:o=k*E.n)
 (next:R (λh=>aH P ds rest (act n l D pm ro) h K) B w0 (pt b (.cells (eG E (aC.set k p)))::kl') F)
 (hx:ev l x=.pointer (some ⟨b,o,none⟩):=by rfl) (hy:ev l y=.agg ⟨E.pat p.1 p.2⟩:=by rfl) (hk:az (pt b (.cells (eG E aC))) kl kl':=by exact afv) (hz:E.n=m:=by rfl) (hg:cZ l g=true:=by rfl):
 R (λh=>aH P ds (⟨⟨none,g,.store m x y⟩,[]⟩::rest) (act n l D pm ro) h K) B w0 kl F:=by
 subst ho hz;exact(ab5 (vs:=E.pat p.1 p.2) hg hx (by rw[hy];rfl) (by rw[xe,E.len];exact alT _) hk (apo hlt)).h next
variable{b o f m c:Nat}{x:aaB}
def amV{ρ:aaB->vI}{olo ohi:x8 aaB}{lo hi:Nat}{size:Nat}(hx:ρ x=.slice (some ⟨b,o,some f⟩) m c)(hf:f=0\/f=size)(hs:0<size)(hlo:olo=none/\lo=0\/∃t,olo=some t/\ρ t=.int .i64 (lo:Int))(hhi:ohi=none/\hi=m\/∃t,ohi=some t/\ρ t=.int .i64 (hi:Int))(h1:lo<=hi)(h2:hi<=c):
 Pu P ρ (.P6 size x olo ohi none) (.slice (some ⟨b,o+lo*size,some f⟩) (hi - lo) (c - lo)):=λh=>by
 have e3:upTo c (.int .i64 (hi:Int))=some hi:=anP h2;have e4:upTo hi (.int .i64 (lo:Int))=some lo:=anP h1;have hbd:bounds? m c (jm ρ olo) (jm ρ ohi) none=some (lo,hi,c):=by
  rcases hlo with⟨rfl,rfl⟩|⟨t,rfl,ht⟩<;>rcases hhi with⟨rfl,hm⟩|⟨t',rfl,ht'⟩
  .rw[hm];rfl
  .show bounds? m c none (some (ρ t')) none=_;rw[ht'];show(match upTo c (.int .i64 (hi:Int))with|none=>none|some h=>match some 0 with|none=>none|some l=>some (l,h,c))=_;rw[e3]
  .rw[hm]at e4⊢;show bounds? m c (some (ρ t)) none none=_;rw[ht];show(match upTo m (.int .i64 (lo:Int))with|none=>none|some l=>some (l,m,c))=_;rw[e4]
  .show bounds? m c (some (ρ t)) (some (ρ t')) none=_;rw[ht,ht'];show(match upTo c (.int .i64 (hi:Int))with|none=>none|some h=>match upTo h (.int .i64 (lo:Int))with|none=>none|some l=>some (l,h,c))=_;rw[e3];show(match upTo hi (.int .i64 (lo:Int))with|none=>none|some l=>some (l,hi,c))=_;rw[e4]
 have h3:jm ρ none=none:=rfl;simp only[aF.run,hx,h3,hbd];match f,hf with
 |0,_=>rfl
 |k+1,hf=>
  have hk:k+1=size:=by
   rcases hf with h|h
   .cases h
   .exact h
  show cond (Nat.beq (Nat.succ k) size) (some (Value.slice (some ⟨b,Nat.add o (Nat.mul lo size),some (Nat.succ k)⟩) (hi - lo) (c - lo),h)) none=_;rw[show Nat.beq (Nat.succ k) size=true by rw[show Nat.succ k=size from hk];exact alT _];rfl
def apr{zero:kI vI}{cs cs':kI vI}(hv:jV cs o (zeros zero m)=some cs')(h0:0<m)
 (next:R (λh=>aH P ds rest (act n l D pm ro) h K) B w0 (pt b (.cells cs')::kl') F)
 (hx:ev l x=.slice (some ⟨b,o,some f⟩) m c:=by rfl) (hk:az (pt b (.cells cs)) kl kl':=by exact afv) (hg:cZ l g=true:=by rfl):
 R (λh=>aH P ds (⟨⟨none,g,.clear zero x⟩,[]⟩::rest) (act n l D pm ro) h K) B w0 kl F:=λw s=>by
 obtain⟨k,rfl⟩:∃k,m=k+1:=⟨m - 1,z7⟩
 exact Mh hg (v:=.tuple #[]) (h':=w.h.set b (.cells cs')) (by simp only[aF.run,hx];simp only[IH.storeAt,(s.at_ hk).2,hv]) (next _ ((s.gq hk).write))
def adB(E:Enc α){xs:kI α}{b f m:Nat}{Q:IH->Prop}(h:∀aC:kI (α×E.Y),aC.map (·.1)=xs->m=xs.length->(f=0\/f=E.n)->R Q B w0 (pt b (.cells (eG E aC))::kl') (pG E aC::F))
 (hk:az (ap E (.slice (some ⟨b,0,some f⟩) m m) xs) kl kl':=by exact afv):R Q B w0 kl F:=λw s=>by
 have s1:=s.gq hk;obtain⟨S,⟨S1,S2,q1,q2,e⟩,h2,h3⟩:=s1.own;rcases q1 with⟨_,h0,_⟩|⟨b',o',f',cells,h4,h5,h6,h7,h8,h9⟩
 .cases h0
 injection h4 with e1 e2 e3;injection e1 with e1;injection e1 with e1 e4 e5;injection e5 with e5;subst e1 e4 e5 e2;rw[fo]at h8;obtain⟨l,hl,hp⟩:=IE (p:=λk (p:α×E.Y)=>xs[k]? =some p.1/\(∀(j:Nat) u,(E.pat p.1 p.2)[j]? =some u->cells[0+k*E.n+j]? =some u)/\∀f∈E.fs p.1 p.2,f.p w) xs.length (λk hk=>by
  obtain⟨y,q1,q2⟩:=h9 k xs[k] (bP hk);exact⟨(xs[k],y),bP hk,q1,q2⟩)
 have hm:l.map (·.1)=xs:=by
  exact lB
 have hfl:=za (E:=E) l;have hcells:cells=eG E l:=by
  apply iY;intro j;by_cases hj:j<l.length*E.n
  .have hn0:0<E.n:=by
    exact wA
   have hd:j/E.n<l.length:=by rw[anE hn0];exact hj
   have hmod:=zO j hn0;have hpk:=bP hd;have hu:(E.pat (l[j/E.n]).1 (l[j/E.n]).2)[j%E.n]? =some ((E.pat (l[j/E.n]).1 (l[j/E.n]).2)[j%E.n]'(by rw[E.len];exact hmod)):=bP _;have u1:=(hp _ _ hpk).2.1 (j%E.n) _ hu;have u2:=vZ hpk hu;have yX:j/E.n*E.n+j%E.n=j:=HR
   rw[fo,yX]at u1;rw[yX]at u2;rw[u1,u2]
  .rw[fO (by rw[h8,<- hl];omega),fO z7]
 refine h l hm rfl h5 w ⟨s1.agree,s1.le,s1.af9,⟨S,⟨S1,S2,⟨h6,by rw[<- hcells];exact h7⟩,q2,e⟩,h2,h3⟩,λg hg=>?_⟩;rcases dx.1 hg with rfl|hg
 .intro p hp' g hg;obtain⟨k,hk⟩:=uy.1 hp';exact(hp k p hk).2.2 g hg
 .exact s1.facts g hg
def adC(E:Enc α){aC:kI (α×E.Y)}{rest':kI vI}{b f c:Nat}{Q:IH->Prop}(hf:f=0\/f=E.n)(hc:aC.length<=c)(h:R Q B w0 kl' (ai E (.slice (some ⟨b,0,some f⟩) aC.length c) (aC.map (·.1))::F))
 (ha:∀w,(∀f∈F,f.p w)->(pG E aC).p w) (hk:az (pt b (.cells (eG E aC++rest'))) kl kl':=by exact afv):R Q B w0 kl F:=λw s=>by
 have hall:=ha w s.facts;obtain⟨w',hw,s'⟩:=(s.gq hk).freeze (fs:=[⟨λw=>Fz w b (eG E aC++rest'),λa h=>h.mono a⟩]) (λw w' S hp hle hh hz g hg=>by
  rw[bM.1 hg];exact⟨hz b (by rw[hp.1];exact bM.2 rfl),.inl (by rw[hh];exact hp.2)⟩)
 have hfz:Fz w' b (eG E aC++rest'):=s'.facts _ (cB ..);have GX:=ha w' λf hf=>s'.facts f (nA _ hf);rw[<- hw];refine h w' ⟨s'.agree,s'.le,s'.af9,s'.own,λg hg=>?_⟩;rcases dx.1 hg with rfl|hg
 .refine .inr ⟨b,0,f,c,_,⟨by rw[bY],by rw[bY];exact hc,hf⟩,hfz,λk x hk=>?_⟩;rw[dm]at hk;cases hp:aC[k]? with
  |none=>rw[hp]at hk;cases hk
  |some p=>
   rw[hp]at hk;cases hk;refine⟨p.2,λj u hj=>?_,GX p (aZ hp)⟩;have:=vZ hp hj;rw[fo,qp (bq.1 this).1];exact this
 .exact s'.facts g (nA _ hg)
def adD(E:Enc α){v:vI}{aC:kI (α×E.Y)}{Q:IH->Prop}(h0:aC=[]->∀c,v=.slice none 0 c->R Q B w0 kl F)(h1:aC=[]->∀i o f c,v=.slice (some ⟨i,o,some f⟩) 0 c->R Q B w0 kl F)
 (h2:0<aC.length->∀i o f c,v=.slice (some ⟨i,o,some f⟩) aC.length c->R Q B w0 kl F) (hf:rT E v aC∈F:=by exact vW):R Q B w0 kl F:=λw s=>by
 rcases s.facts _ hf with⟨e,a,c,hv,hg⟩|⟨i,o,f,c,cells,⟨hv,_⟩,_⟩
 .exact px
 .exact r8
def aps{E:Enc α}{v:vI}{xs:kI α}{Q:IH->Prop}(h:∀a,v=.slice a xs.length xs.length->(xs=[]->a=none\/∃b o,a=some ⟨b,o,some 0⟩\/a=some ⟨b,o,some E.n⟩)->R Q B w0 kl F)(hk:az (ap E v xs) kl kl':=by exact afv):R Q B w0 kl F:=λw s=>by
 obtain⟨S,⟨S1,S2,q1,q2,e⟩,h2,h3⟩:=(s.gq hk).own;rcases q1 with⟨rfl,h1,_⟩|⟨b,o,f,cells,h4,h5,_⟩
 .exact h none h1 (λ_=>.inl rfl) w s
 .refine h _ h4 (λ_=>.inr ⟨b,o,?_⟩) w s;rcases h5 with h5|h5
  .subst h5;exact .inl rfl
  .subst h5;exact .inr rfl
def apt(E:Enc α){x i:aaB}{v:vI}{xs:kI α}(k:Nat)(z:α){kk:IntKind}{d2 m:Nat}{g2:x8 (Tmp×Bool)}(hz:xs[k]? =some z)
 (next:∀b o (y:E.Y),R (λh=>aH P ds rest (act n ((d2,.agg ⟨E.pat z y⟩)::(d,.pointer (some ⟨b,o,none⟩))::l) D pm ro) h K) B w0 kl (E.fs z y++F))
 (hn:Nat.blt d n=true:=by rfl) (hg:cZ l g=true:=by rfl) (hn2:Nat.blt d2 n=true:=by rfl) (hg2:∀u,cZ ((d,u)::l) g2=true:=by intro _;rfl) (hx:ev l x=v:=by conv=>lhs;whnf) (hi:ev l i=.int kk (k:Int):=by rfl)
 (hk:az (ap E v xs) kl kl':=by exact afv) (hm:E.n=m:=by rfl):
 R (λh=>aH P ds (⟨⟨some d,g,.nQ m x i⟩,[]⟩::⟨⟨some d2,g2,.pW m (.tmp d)⟩,[]⟩::rest) (act n l D pm ro) h K) B w0 kl F:=by
 subst hm;intro w s;have s1:=s.gq hk;obtain⟨S,⟨S1,S2,p,p2,e⟩,h2,h3⟩:=s1.own;have hlt:=(bq.1 hz).1;rcases p with⟨h,_⟩|⟨b,o,f,cells,e1,hf,e2,hb,hcl,hel⟩
 .rw[h]at hz;cases hz
 .subst e1;obtain⟨y,u1,u2⟩:=hel k z hz;have hm:(k+1)*E.n<=xs.length*E.n:=anD _ hlt;rw[ru,BL]at hm;have hc:jf (jH cells (o+(k:Int).toNat*E.n)) E.n=some (E.pat z y):=by
   rw[kJ,p9,qD,if_pos A0];congr 1;apply iY;intro j;rw[sK];by_cases hj:j<E.n
   .have hu:(E.pat z y)[j]? =some ((E.pat z y)[j]'(GB)):=bP _;rw[if_pos hj,oO,hu];exact u1 j _ hu
   .rw[if_neg hj,fO (by rw[E.len];omega)]
  refine Mj hn hg hx hi z7 z7 ?_;have hbS:b∈S:=DG
  refine aba hn2 (hg2 _) DH ⟨(h3 b hbS).2.1,hb⟩ hc (next _ _ y w ⟨s.agree,s.le,s.af9,s.own,λf hf=>?_⟩);rcases dX.1 hf with hf|hf
  .exact u2 f hf
  .exact s.facts f hf
end Go.Ideal
namespace Go.Ideal
variable {P:Program}
def alK{α:Type}(P:Program)(vals:α->kI vI)(fn:Fn)(first cap:kI vI)(O:kI OA)(F:kI aO)(X:kI α->Prop):Prop:=
 ∀(S:Type) (inv:S->kI OA) (ok:kI α->S->Prop) (step:S->α->S×Bool) (s0:S) (Fb:Fn) (y1 y2:kI vI) (F':kI aO),ok [] s0->
  (∀vs s x rest,ok vs s->X (vs++x::rest)->(step s x).2=true->ok (vs++[x]) (step s x).1)->
  (∀vs s x rest,ok vs s->X (vs++x::rest)->bA P Fb (y1++vals x) y2 (inv s) F' (λ_:Unit=>.bool (step s x).2) (λ_=>inv (step s x).1) (λ_=>[]) (λ_=>True))->
  bA P fn (first++[.func Fb ⟨y1⟩ ⟨y2⟩]) cap (inv s0++O) (F++F') (λ_:kI α=>.tuple ⟨[]⟩) (λxs=>inv (mD step s0 xs)++O) (λ_=>[]) X
section
variable {B:kI Nat} {w0:Wd} {kl kl' bH:kI OA} {F:kI aO} {K:KO} {n:Nat} {l:qr} {D:kI Deferred} {pm:x8 FrameMode} {ro:x8 Nat}
variable{S α Z:Type}{ps:kI Tmp}{assign body:dI}{fn:Fn}{first captured:kI vI}{O:kI OA}{F1:kI aO}
def apu{f:aaB}{vals:α->kI vI}{X:kI α->Prop}(step:S->α->S×Out)(inv:S->kI OA)(ok:kI α->S->Prop)(s0:S)(h0:ok [] s0)
 (hok:∀vs s x rest,ok vs s->X (vs++x::rest)->(step s x).2=.normal->ok (vs++[x]) (step s x).1) (hit:alK P vals fn first captured O F1 X)
 (hf:ev l f=.func fn ⟨first⟩ ⟨captured⟩) (hps:ps.all (λp=>Nat.blt p n)=true) (hlen:∀x,ps.length=(vals x).length) (hk:aI (inv s0++O) kl bH) (hF:Sub F1 F) (jM:∀s x,EW (step s x).2)
 (l3:α->Z->qr) (k3:α->Z->kI OA)
 (ha:∀(s:S) (x:α) (lo:Nat) (o:dN) B w0,R (λh=>EV P assign (act n ((ps.zip (vals x)).reverse++l) [] none (some lo)) h (IR B w0 n (l3 x) lo o (λz=>k3 x z++inv s) F)) B w0 (pt lo o::inv s) F)
 (hb:∀(vs:kI α) (s:S) (x:α) (rest:kI α) (z:Z) (lo:Nat) (L:oV) B w0,ok vs s->X (vs++x::rest)->R (λh=>EV P body (act n (l3 x z) [] none (some lo)) h (EX B w0 lo L (λ_:Unit=>(step s x).2) (λ_=>inv (step s x).1) (λ_=>[]) (λ_=>True))) B w0 (pt lo (.loop (y5 L))::(k3 x z++inv s)) F)
 (next:∀r xs,X xs->R (λh=>K (pq step s0 xs).2 (act n l ({target:=.collected r,args:= #[]}::D) pm none) h) B w0 ((inv (pq step s0 xs).1++O)++(pt r (.aid true)::bH)) F):
 R (λh=>EV P (.rangeFunc f ps assign body) (act n l D pm none) h K) B w0 kl F:=by
 refine acH (Y:=kI α) (k1:=inv s0++O) (F1:=F1++F) (MJ:=λ_=>.tuple ⟨[]⟩) (out:=λxs=>(pq step s0 xs).2) (k1':=λxs=>inv (pq step s0 xs).1++O) (fs:=λ_=>[]) (pr:=X) hf ?_ hk (hF.app (Sub.refl' F [])) (λr y hy=>next r y hy);intro lo r;have:=hit (S×Out) (λso=>pt lo (.loop (oG ⟨.ready,none,ahI l,n,ps,assign,body,r⟩ so.2))::inv so.1) (λvs so=>so.2=.normal/\ok vs so.1) (λso x=>(step so.1 x,qH (step so.1 x).2)) (s0,.normal) (.yield lo) [] [] F ⟨rfl,h0⟩
  (λvs so x rest ho hx h=>by
    exact eo)
  (λvs so x rest ho hx=>by
    exact cI)
 have e:(λxs:kI α=>(pt lo (.loop (oG ⟨.ready,none,ahI l,n,ps,assign,body,r⟩ (mD (λ(so:S×Out) x=>(step so.1 x,qH (step so.1 x).2)) (s0,.normal) xs).2))::inv (mD (λ(so:S×Out) x=>(step so.1 x,qH (step so.1 x).2)) (s0,.normal) xs).1)++O)=λxs=>pt lo (.loop (oG ⟨.ready,none,ahI l,n,ps,assign,body,r⟩ (pq step s0 xs).2))::(inv (pq step s0 xs).1++O):=by
  funext xs
  rw[Sw];rfl
 have h2:bA P fn (first++[.func (.yield lo) ⟨[]⟩ ⟨[]⟩]) captured (pt lo (.loop ⟨.ready,none,ahI l,n,ps,assign,body,r⟩)::(inv s0++O)) (F1++F) (λ_:kI α=>.tuple ⟨[]⟩) (λxs=>(pt lo (.loop (oG ⟨.ready,none,ahI l,n,ps,assign,body,r⟩ (mD (λ(so:S×Out) x=>(step so.1 x,qH (step so.1 x).2)) (s0,.normal) xs).2))::inv (mD (λ(so:S×Out) x=>(step so.1 x,qH (step so.1 x).2)) (s0,.normal) xs).1)++O) (λ_=>[]) X:=this;rw[e]at h2;exact h2
def apv{f:aaB}{vals:α->kI vI}{X:kI α->Prop}(step:S->α->S×Out)(inv:S->kI OA)(ok:kI α->S->Prop)(s0:S)(l3:α->Z->qr)(k3:α->Z->kI OA)(h0:ok [] s0)
 (hok:∀vs s x rest,ok vs s->X (vs++x::rest)->(step s x).2=.normal->ok (vs++[x]) (step s x).1) (hit:alK P vals fn first captured O F1 X)
 (ha:∀(s:S) (x:α) (lo:Nat) (o:dN) B w0,R (λh=>EV P assign (act n ((ps.zip (vals x)).reverse++l) [] none (some lo)) h (IR B w0 n (l3 x) lo o (λz=>k3 x z++inv s) F)) B w0 (pt lo o::inv s) F)
 (hb:∀(vs:kI α) (s:S) (x:α) (rest:kI α) (z:Z) (lo:Nat) (L:oV) B w0,ok vs s->X (vs++x::rest)->R (λh=>EV P body (act n (l3 x z) [] none (some lo)) h (EX B w0 lo L (λ_:Unit=>(step s x).2) (λ_=>inv (step s x).1) (λ_=>[]) (λ_=>True))) B w0 (pt lo (.loop (y5 L))::(k3 x z++inv s)) F)
 (next:∀r xs,X xs->R (λh=>K (pq step s0 xs).2 (act n l ({target:=.collected r,args:= #[]}::D) pm none) h) B w0 ((inv (pq step s0 xs).1++O)++(pt r (.aid true)::bH)) F)
 (jM:∀s x,EW (step s x).2)
 (hf:ev l f=.func fn ⟨first⟩ ⟨captured⟩:=by rfl) (hps:ps.all (λp=>Nat.blt p n)=true:=by rfl) (hlen:∀x,ps.length=(vals x).length:=by intro _;rfl)
 (hk:aI (inv s0++O) kl bH:=by exact pg) (hF:Sub F1 F:=by exact o9):
 R (λh=>EV P (.rangeFunc f ps assign body) (act n l D pm none) h K) B w0 kl F:=
 apu step inv ok s0 h0 hok hit hf hps hlen hk hF jM l3 k3 ha hb next
variable{xs:kI Int}{v:vI}{Q:IH->Prop}
def adE(hne:0<xs.length)(h:∀b f pre,(f=0\/f=1)->v=.slice (some ⟨b,pre.length,some f⟩) xs.length xs.length->R Q B w0 (pt b (.cells (pre++xs.map (.int .i64)))::kl') F)(hk:az (ap ae v xs) kl kl':=by exact afv):R Q B w0 kl F:=λw s=>by
 have s1:=s.gq hk;obtain⟨S,⟨S1,S2,q1,q2,e⟩,h2,h3⟩:=s1.own;rcases q1 with⟨h0,_⟩|⟨b,o,f,cells,h4,h5,h6,h7,h8,h9⟩
 .rw[h0]at hne;simp at hne
 .have h8:cells.length=o+xs.length*1:=h8;have hpl:(cells.take o).length=o:=by rw[gT];omega
  have hc:cells=cells.take o++xs.map (.int .i64):=by
   exact eK
  refine h b f (cells.take o) h5 (by rw[hpl];exact h4) w ⟨s1.agree,s1.le,s1.af9,⟨S,⟨S1,S2,⟨h6,by rw[<- hc];exact h7⟩,q2,e⟩,h2,h3⟩,s1.facts⟩
def adF{b f m:Nat}{pre:kI vI}(hm:m=xs.length)(hf:f=0\/f=1)(h:R Q B w0 (ap ae (.slice (some ⟨b,pre.length,some f⟩) m m) xs::kl') F)(hk:az (pt b (.cells (pre++xs.map (.int .i64)))) kl kl':=by exact afv):R Q B w0 kl F:=λw s=>by
 subst hm;refine h w ((s.gq hk).AB (A:=pt b (.cells (pre++xs.map (.int .i64)))) λw S hp=>.inr ⟨b,pre.length,f,_,rfl,hf,hp.1,hp.2,by rw[iH,bY];show _=pre.length+xs.length*1;omega,λk x hx=>⟨(),λj u hj=>?_,λf hf=>by cases hf⟩⟩);exact eE
def anV{ds:kI Tmp}{rest:kI bV}{d d2:Nat}{g g2:x8 (Tmp×Bool)}{x i:aaB}(k:Nat)(z:Int){kk:IntKind}(hz:xs[k]? =some z)
 (next:∀b o,R (λh=>aH P ds rest (act n ((d2,.int .i64 z)::(d,.pointer (some ⟨b,o,none⟩))::l) D pm ro) h K) B w0 kl F)
 (hn:Nat.blt d n=true:=by rfl) (hg:cZ l g=true:=by rfl) (hn2:Nat.blt d2 n=true:=by rfl) (hg2:∀u,cZ ((d,u)::l) g2=true:=by intro _;rfl) (hx:ev l x=v:=by conv=>lhs;whnf) (hi:ev l i=.int kk (k:Int):=by rfl)
 (hk:az (ap ae v xs) kl kl':=by exact afv):
 R (λh=>aH P ds (⟨⟨some d,g,.nQ 1 x i⟩,[]⟩::⟨⟨some d2,g2,.ah2 (.tmp d)⟩,[]⟩::rest) (act n l D pm ro) h K) B w0 kl F:=by
 intro w s;have s1:=s.gq hk;obtain⟨S,⟨S1,S2,p,p2,e⟩,h2,h3⟩:=s1.own;have hlt:=(bq.1 hz).1;rcases p with⟨h,_⟩|⟨b,o,f,cells,e1,hf,e2,hb,hcl,hel⟩
 .rw[h]at hz;cases hz
 .subst e1;obtain⟨y,u1,_⟩:=hel k z hz;have hc:cells[o+(k:Int).toNat*1]? =some (.int .i64 z):=by
   exact sv
  refine Mj hn hg hx hi z7 z7 ?_;have hbS:b∈S:=DG
  exact Hg hn2 (hg2 _) DH ⟨(h3 b hbS).2.1,hb⟩ hc (next _ _ w s)
end
variable{xs:kI Int}{F:kI aO}{kl:kI OA}
def St.opI{B:kI Nat}{w0 w:Wd}{v:vI}(hne:0<xs.length)(s1:St B w0 (ap ae v xs::kl) F w):∃b f pre,(f=0\/f=1)/\v=.slice (some ⟨b,pre.length,some f⟩) xs.length xs.length/\St B w0 (pt b (.cells (pre++xs.map (.int .i64)))::kl) F w:=by
 obtain⟨S,⟨S1,S2,q1,q2,e⟩,h2,h3⟩:=s1.own;rcases q1 with⟨h0,_⟩|⟨b,o,f,cells,h4,h5,h6,h7,h8,h9⟩
 .rw[h0]at hne;simp at hne
 .have h8:cells.length=o+xs.length*1:=h8;have hpl:(cells.take o).length=o:=by rw[gT];omega
  have hc:cells=cells.take o++xs.map (.int .i64):=by
   exact eK
  exact⟨b,f,cells.take o,h5,by rw[hpl];exact h4,s1.agree,s1.le,s1.af9,⟨S,⟨S1,S2,⟨h6,by rw[<- hc];exact h7⟩,q2,e⟩,h2,h3⟩,s1.facts⟩
variable{pre:kI vI}
def apx{b f m:Nat}(hm:m=xs.length)(hf:f=0\/f=1)(w:Wd)(S:kI Nat)(hp:(pt b (.cells (pre++xs.map (.int .i64)))).p w S):(ap ae (.slice (some ⟨b,pre.length,some f⟩) m m) xs).p w S:=by
 subst hm;refine .inr ⟨b,pre.length,f,_,rfl,hf,hp.1,hp.2,by rw[iH,bY];show _=pre.length+xs.length*1;omega,λk x hx=>⟨(),λj u hj=>?_,λf hf=>by cases hf⟩⟩;exact eE
variable{cap:kI vI}{Y:Type}{fn:Fn}
def bA.apy{args:x8 Addr->kI vI}{a:x8 Addr}{zs:Y->kI Int}{val:Y->vI}{fs:Y->kI aO}{pr:Y->Prop}(hne:0<xs.length)(hl:∀y,(zs y).length=xs.length)
 (h:∀b f pre,(f=0\/f=1)->bA P fn (args (some ⟨b,pre.length,some f⟩)) cap [pt b (.cells (pre++xs.map (.int .i64)))] F val (λy=>[pt b (.cells (pre++(zs y).map (.int .i64)))]) fs pr):
 bA P fn (args a) cap [ap ae (.slice a xs.length xs.length) xs] F val (λy=>[ap ae (.slice a xs.length xs.length) (zs y)]) fs pr:=λB w s=>by
 obtain⟨b,f,pre,hf,ev,s'⟩:=s.opI hne;obtain rfl:a=some ⟨b,pre.length,some f⟩:=by injection ev
 refine .vT _ (h b f pre hf B w s') ?_;rintro r pm h' ⟨h1,w',y,e1,st,e2,e3⟩;exact⟨h1,w',y,e1,st.AB λw S hp=>apx (hl y).symm hf w S hp,e2,e3⟩
def bA.weak{args:kI vI}{val:Y->vI}{kl':Y->kI OA}{fs:Y->kI aO}{pr pr2:Y->Prop}(h:bA P fn args cap kl F val kl' fs pr)(hp:∀y,pr y->pr2 y):bA P fn args cap kl F val kl' fs pr2:=λB w s=>by
 refine .vT _ (h B w s) ?_;rintro r pm h' ⟨h1,w',y,e1,st,e2,e3⟩;exact⟨h1,w',y,e1,st,e2,hp y e3⟩
variable{k:Nat}{x:Int}
def TS(h:xs[k]? =some x):(pre++xs.map (Value.int .i64))[pre.length+k*1]? =some (.int .i64 x):=by
 rw[pR z7,show pre.length+k*1 - pre.length=k by omega,dm,h];rfl
def TT:(pre++xs.map (Value.int .i64)).set (pre.length+k*1) (.int .i64 x)=pre++(xs.set k x).map (.int .i64):=by
 rw[Gl _ _ z7,show pre.length+k*1 - pre.length=k by omega,DD]
