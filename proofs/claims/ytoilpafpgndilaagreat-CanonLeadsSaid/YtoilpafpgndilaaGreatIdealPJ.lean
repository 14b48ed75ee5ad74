/- Part. -/
import Derived.Test.YtoilpafpgndilaaGreatIdealNJ
import Derived.Lib.Bytealg
import Derived.Lib.Atoi
import Derived.Lib.ConvBytes
import Derived.Shelf.SlSortCmp.WholeK
import Derived.Shelf.SlSortCmp.Whole1
import Derived.Sort.EncStr
set_option linter.all false
namespace Go.Ideal
structure Beyond(w w':World):Prop where
 heap:∀b,b<w.heap.size->w'.heap[b]? =w.heap[b]?
 size:w.heap.size<=w'.heap.size
 os:w'.os=w.os
 tape:w'.tape=w.tape
 output:w'.output=w.output
 drawn:w.drawn<=w'.drawn
def WR.beyond{P:Program}{β:aJ}{h:IH}{w w':World}(hW:WR P β h w)(hb:Beyond w w'):WR P β h w'/\Eff β h w β h w':=
 ⟨⟨hW.dom,hW.live,λi g o h1 h2=>(hW.obj i g o h1 h2).congr (hb.heap _ (hW.obj i g o h1 h2).lt),hW.inj⟩,
  ⟨λ_ _=>rfl,aZ _,λ_ _ h=>h,λ_ _ _=>rfl,aZ _,λ_ _ _=>rfl,hb.os,hb.tape,hb.output,hb.size,λb hb' _=>hb.heap b hb',λi g hg hi=>absurd (hW.dom _ _ hg) s6,λi g _ _ _ _ hb'=>hb.heap _ hb',hb.drawn⟩⟩
open Go.Sort Go.Proofs Go.RowKit Go.Lib Go.Shelf
variable {P:Program}
variable{w w':World}
def Beyond.grown(h:Beyond w w'):∃q os,w'=Go.Sort.grow (w.drewN q) os:=by
 refine⟨w'.drawn - w.drawn,w'.heap.extract w.heap.size w'.heap.size,?_⟩;obtain⟨heap,tape,drawn,os,output⟩:=w;obtain⟨heap',tape',drawn',os',output'⟩:=w';obtain⟨h1,h2,h3,h4,h5,h6⟩:=h;dsimp only at h1 h2 h3 h4 h5 h6;subst h3 h4 h5;have e1:heap'=heap++heap'.extract heap.size heap'.size:=by
  apply Array.ext_getElem?;intro i;rw[Array.getElem?_append];split
  .rename_i hi;exact h1 i hi
  .rename_i hi;rw[Array.getElem?_extract];by_cases hl:i<heap'.size
   .rw[if_pos s6,show heap.size+(i - heap.size)=i by omega]
   .rw[if_neg s6,uX s6]
 have e2:drawn'=drawn+(drawn' - drawn):=s6
 show World.mk heap' tape' drawn' os' output'=World.mk (heap++heap'.extract heap.size heap'.size) tape' (drawn+(drawn' - drawn)) os' output';rw[<- e1,<- e2]
variable{β:aJ}
def Eff.beyond{β':aJ}{h h':IH}(hW:WR P β h w)(he:Eff β h w β' h' w')(hl:h'.low=h.next):Beyond w w':=by
 refine⟨λk hk=>?_,he.size,he.os,he.tape,he.output,he.drawn⟩;by_cases hx:∀i g,β i=some g->h.get i≠none->g.b≠k
 .exact he.keep k hk hx
 .have hx:∃i g,β i=some g/\h.get i≠none/\g.b=k:=by
   exact nt
  obtain⟨i,g,hi,hg,rfl⟩:=hx;have hin:=hW.dom i g hi;exact he.vD i g (by rw[hl];exact hin) hin hi hg hk
variable{f:fO}
def Zl{fn:Func}(hfn:P.funcs[f]? =some fn){body:Code}(hb:fn.body=some body)(hname:fn.name≠ "runtime.NumGoroutine")(xs:Array ah)(w:World):(callFunc f xs).run P w=.ok (.enter f xs) w:=by
 exact gk
def ai5(sN:P.follows .mixedOrders=true){g:fO}{fn:Func}(hfn:P.funcs[g]? =some fn){body:Code}(hb:fn.body=some body)(hname:fn.name≠ "runtime.NumGoroutine"){args args' cap cap':ae ah}{F:ae aI}{n:Int}
 (hC:aX P (.func g) args cap [] F (λ_:Unit=>.int .i64 n) (λ_=>[]) (λ_=>[]) (λ_=>True)) {β:aJ} {w:World} {d:Wd} (hlow:d.h.low=d.h.next) (hF:∀f∈F,f.p d) (hG:l9 P β) (hW:WR P β d.h w) (ha:aW β args args') (hc:aW β cap cap'):
 Calls P g ((⟨args'⟩:Array ah)++(⟨cap'⟩:Array ah)) w λe w'=>e=.returned (.int .i64 n)/\∃q os,w'=Go.Sort.grow (w.drewN q) os:=by
 have hst:St [] d [] F d:=⟨⟨aZ _,λ_ _ _=>rfl,λ_ _=>rfl⟩,Wd.Le.refl d,λi hi hz=>.inl hz,⟨[],rfl,Ae,s7⟩,hF⟩
 have hM:=XM sN (hC [] d hst);obtain⟨nx,F0,n1,n2,n3⟩:=hM β w (.func g) args' cap' hG hW (.func g) ha hc;have hnx:nx=.enter g ((⟨args'⟩:Array ah)++(⟨cap'⟩:Array ah)):=by
  have n1:(invoke (.fn (.func g) ⟨cap'⟩) ⟨args'⟩).run P w=.ok nx w:=n1;simp only[invoke]at n1;rw[Zl hfn hb hname]at n1;cases n1;rfl
 subst hnx;have AP:F0=Frame.enter P g ((⟨args'⟩:Array ah)++(⟨cap'⟩:Array ah)) .normal:=by
  have:entry P .normal (.enter g ((⟨args'⟩:Array ah)++(⟨cap'⟩:Array ah)))=some (Frame.enter P g ((⟨args'⟩:Array ah)++(⟨cap'⟩:Array ah)) .normal):=rfl;have n2:entry P .normal (.enter g ((⟨args'⟩:Array ah)++(⟨cap'⟩:Array ah)))=some F0:=n2;rw[this]at n2;exact(Option.some.inj n2).symm
 subst AP;intro cs;obtain⟨r,pm',h',β',w',r',cs1,q1,q2,q3,q4,q5,q6⟩:=n3 cs (by intro m hm;cases hm);obtain⟨hp,d2,_,rfl,hs2,rfl,_⟩:=q1;have ai6:=hs2.agree.low (by rw[hlow];exact aZ _) s7;cases q5;cases q4 with
 | @ok v v' pX=>
   have:=pX.mP;subst this;rcases q6 with⟨f1,a1,F1,e1,e2,e3,e4,e5⟩|⟨⟨_,l,e1⟩,_⟩
   .cases e1;refine⟨.returned _,w',F1,⟨rfl,(q3.beyond hW (ai6.trans hlow)).grown⟩,e2,e3,?_⟩;exact pZ
   .cases e1
def Nf(P:Program)(f:fO)(k:Nat):Prop:=∀(α:Type) [Inhabited α] (enc:α->ae ah) (cf:α->α->Int) (g:fO) (cb:Array ah) (blk off cap:Nat) (d:Array α) (w:World),
 (∀x,(enc x).length=k)->(∀x,∀v∈enc x,v.oneCell'=true)->SWO (ltOf cf)->(∀args w,(callFunc g args).run P w=.ok (.enter g args) w)->CmpLays P g cb enc k cf blk off d.size w->HoldsK enc k w blk off d->blk<w.heap.size->d.size<4611686018427387904->
 Calls P f #[.slice (some ⟨blk,off,none⟩) d.size cap,.func (.func g) #[] cb] w λe w'=>e=.returned (.tuple #[])/\∃d' n os,PermIn 0 d.size d d'/\SortedIn (ltOf cf) 0 d.size d'/\w'=sortWorldK enc k w blk off n d' os
def JG(P:Program)(f:fO)(k:Nat)(wr:ae ah->ah):Prop:=∀(α:Type) [Inhabited α] (enc:α->ae ah) (cf:α->α->Int) (g:fO) (cb:Array ah) (blk off cap:Nat) (d:Array α) (w:World),
 (∀x,(enc x).length=k)->(∀x,∀v∈enc x,v.oneCell'=true)->SWO (ltOf cf)->(∀args w,(callFunc g args).run P w=.ok (.enter g args) w)->
 (∀(m:Nat) (os:Array Obj) (dk:Array α),dk.size=d.size->∀x y:α,Calls P g (#[wr (enc x),wr (enc y)]++cb) (sortWorldK enc k w blk off m dk os) λe w'=>e=.returned (.int .i64 (cf x y))/\∃q os',w'=Go.Sort.grow ((sortWorldK enc k w blk off m dk os).drewN q) os')->
 HoldsK enc k w blk off d->blk<w.heap.size->d.size<4611686018427387904->
 Calls P f #[.slice (some ⟨blk,off,none⟩) d.size cap,.func (.func g) #[] cb] w λe w'=>e=.returned (.tuple #[])/\∃d' n os,PermIn 0 d.size d d'/\SortedIn (ltOf cf) 0 d.size d'/\w'=sortWorldK enc k w blk off n d' os
def Zm(l:ae ah):ah:=.agg ⟨l⟩
def wZ(l:ae ah):ah:=l.headD .nilFunc
def Nf.toW{k:Nat}(h:Nf P f k):JG P f k Zm:=h
structure El{X:Type}(β:aJ)(E:Enc X)(xs:List X)(d:Wd) where
 x:X
 y:E.Y
 v:List Value
 mem:x∈xs
 rel:aW β (E.pat x y) v
 cell:(E.pat x y).all cellV=true
 fs:∀f∈E.fs x y,f.p d
variable{vs vs':ae ah}
def aW.oneCell(hv:aW β vs vs')(hall:vs.all cellV=true):∀v∈vs',v.oneCell'=true:=λv hv'=>by
 obtain⟨j,hj⟩:=iM hv';have hjl:j<vs.length:=by
  have:=(aV.1 hj).1;rw[hv.length]at this;exact this
 exact fc
noncomputable def Wd.but(d:Wd)(b:Nat):Wd:=⟨⟨(d.h.kill b).t,d.h.next,d.h.next⟩,d.z,d.nN⟩
def Wd.Gp(d:Wd)(b i:Nat):(d.but b).h.get i=if i=b then none else d.h.get i:=by
 show(d.h.kill b).get i=_;exact IH.uu _ _ _
def Wd.ai7{d:Wd}{b:Nat}(hz:¬d.z b):d.Le (d.but b):=⟨aZ _,λ_ h=>h,λi hi=>by rw[Wd.Gp,if_neg (λe:i=b=>hz (e▸hi))]⟩
variable{α:Type}
def ai8[Inhabited α](enc:α->ae ah)(k:Nat)(w:World)(blk off m:Nat)(dk:Array α)(os:Array Obj){b:Nat}(hb:b<w.heap.size)(hne:b≠blk):(sortWorldK enc k w blk off m dk os).heap[b]? =w.heap[b]?:=by
 show((w.heap.modify blk _)++os)[b]? =_;rw[adO (by rw[Array.size_modify];exact hb),Array.getElem?_modify,if_neg (λe=>hne e.symm)]
def WR.ai9[Inhabited α]{β:aJ}{d:Wd}{w:World}(hW:WR P β d.h w){b:Nat}{g:je}{cs:ae ah}(hi:β b=some g)(hg:d.h.get b=some (.cells cs))(enc:α->ae ah)(k off m:Nat)(dk:Array α)(os:Array Obj):
 WR P β (d.but b).h (sortWorldK enc k w g.b off m dk os):=by
 refine⟨hW.dom,λi o h=>?_,λi g' o h1 h2=>?_,λi j g1 g2 h1 h2 h3 h4 h5 h6=>?_⟩
 .rw[Wd.Gp]at h;split at h
  .cases h
  .exact hW.live i o h
 .rw[Wd.Gp]at h2;split at h2
  .cases h2
  .rename_i hib;have hO:=hW.obj i g' o h1 h2;refine hO.congr (ai8 enc k w g.b off m dk os hO.lt λe=>hib ?_);exact hW.inj i b g' g h1 hi (by rw[h2];simp) (by rw[hg];simp) (.inr λcs2=>by rw[hg];simp) e
 .rw[Wd.Gp]at h3 h4;rw[Wd.Gp,Wd.Gp]at h5;split at h3
  .exact absurd rfl h3
  split at h4
  .exact absurd rfl h4
  rename_i n1 n2;rw[if_neg n1,if_neg n2]at h5;exact hW.inj i j g1 g2 h1 h2 h3 h4 h5 h6
def List.aja{R:α->α->Prop}{l:ae α}(h:∀(i j:Nat) x y,i<j->l[i]? =some x->l[j]? =some y->R x y):l.Pairwise R:=
 yZ.2 λi j hi hj hij=>h i j _ _ hij (bG hi) (bG hj)
def ajb(sN:P.follows .mixedOrders=true){f g:fO}{k:Nat}{wr:ae ah->ah}(hwr:∀{β:aJ} {vs vs':ae ah},vs.length=k->vs.all cellV=true->aW β vs vs'->VR β (wr vs) (wr vs'))(hS:JG P f k wr){fn:Func}(hfn:P.funcs[f]? =some fn){body:Code}(hb:fn.body=some body)(hname:fn.name≠ "runtime.NumGoroutine"){gn:Func}(hgn:P.funcs[g]? =some gn){Gq:Code}(hgb:gn.body=some Gq)(Gr:gn.name≠ "runtime.NumGoroutine")
 {X:Type} {E:Enc X} (hE:E.n=k) (hk0:0<k) {xs:ae X} {cf:X->X->Int} (hO:SWO (ltOf cf)) {cap:ae ah} {F:ae aI}
 (hC:∀x∈xs,∀y∈xs,∀a b,aX P (.func g) [wr (E.pat x a),wr (E.pat y b)] cap [] (E.fs x a++(E.fs y b++F)) (λ_:Unit=>.int .i64 (cf x y)) (λ_=>[]) (λ_=>[]) (λ_=>True))
 {d:Wd} {b o c:Nat} {fl:ak Nat} {cs:ae ah} (hg:d.h.get b=some (.cells cs)) (hz:¬d.z b) (hF:∀f∈F,f.p d)
 (hel:∀(j:Nat) x,xs[j]? =some x->∃y,(∀(t:Nat) u,(E.pat x y)[t]? =some u->cs[o+j*E.n+t]? =some u)/\∀f∈E.fs x y,f.p d) (hcs:cs.length=o+xs.length*E.n) (hne:0<xs.length) (hlen:xs.length<4611686018427387904):
 nM P ⟨.func f,[.slice (some ⟨b,o,fl⟩) xs.length c,.func (.func g) ⟨[]⟩ ⟨cap⟩],[],none⟩ d.h (λr pm h2=>pm=none/\r=.ok (.tuple ⟨[]⟩)/\∃(zs:ae (X×E.Y)) (cs2:ae ah),(zs.map (·.1)).Perm xs/\(zs.map (·.1)).Pairwise (λx y=>¬cf y x<0)/\cs2.length=cs.length/\
  (∀(j:Nat) p,zs[j]? =some p->(∀(t:Nat) u,(E.pat p.1 p.2)[t]? =some u->cs2[o+j*E.n+t]? =some u)/\∀f∈E.fs p.1 p.2,f.p d)/\h2=d.h.set b (.cells cs2)):=by
 subst hE;intro β w fn' args' cap' hG hW hf ha hcap;obtain⟨kE,t1,t2⟩:=I5 (P:=P) (q:=⟨.func f,[.slice (some ⟨b,o,fl⟩) xs.length c,.func (.func g) ⟨[]⟩ ⟨cap⟩],[],none⟩) (f:=f) (args:=[.slice (some ⟨b,o,fl⟩) xs.length c,.func (.func g) ⟨[]⟩ ⟨cap⟩]) yb hf ha hcap hfn hb hname w;cases t2 with|cons hv tl=>
 cases tl with|cons hv2 tl=>
 cases tl;obtain⟨gi,a,c',hi,rfl,hab,_,hn,hcc,hao,_⟩:=hv.oJ;obtain⟨fn2,f2,cb,hfr2,hf2,hcb,rfl⟩:=hv2.Cg;cases hfr2;cases hf2;have hao:a.off=gi.off+o/\a.spot=none:=by
  rcases hao with e|e
  .omega
  .exact e
 obtain⟨⟨c0,t0,RD,hh,_⟩,q2,q3,q4,q5,q6⟩:=hW.obj b gi _ hi hg;have ea:a=⟨gi.b,gi.off+o,none⟩:=by
  obtain⟨ab,ao,asp⟩:=a;simp only at hab hao;rw[hab,hao.1,hao.2]
 subst ea;have hlt:gi.b<w.heap.size:=(Pj.1 hh).1;have ajc:∀j t,j<xs.length->t<E.n->o+j*E.n+t<cs.length:=λj t hj ht=>by
  have:=Nat.mul_le_mul_right E.n (show j+1<=xs.length from hj);rw[rD,Ad]at this;omega
 let cellOf:Nat->ah:=λt=>(w.cell? ⟨gi.b,gi.off+o+t,none⟩).getD .nilFunc
 have hcell:∀t,t<xs.length*E.n->w.cell? ⟨gi.b,gi.off+o+t,none⟩=some (cellOf t)/\w.frozen? ⟨gi.b,gi.off+o+t,none⟩=false:=λt ht=>by
  obtain⟨r1,r2⟩:=q4 (gi.off+o+t) s6;refine⟨?_,r2⟩;obtain⟨v,hv⟩:=KJ.1 r1;show _=some ((w.cell? ⟨gi.b,gi.off+o+t,none⟩).getD .nilFunc);rw[hv];rfl
 have hex:∀j,j<xs.length->∃e:El β E xs d,xs[j]? =some e.x/\e.v=(List.range E.n).map λt=>cellOf (j*E.n+t):=λj hj=>by
  have hx:xs[j]? =some xs[j]:=bG hj;obtain⟨y,h1,h2⟩:=hel j _ hx;refine⟨⟨xs[j],y,(List.range E.n).map λt=>cellOf (j*E.n+t),wo hj,?_,?_,h2⟩,hx,rfl⟩
  .refine aW.Lf (by rw[aR,nG,E.len]) λt v ht=>?_;have htn:t<E.n:=by have:=(aV.1 ht).1;rw[E.len]at this;exact this
   obtain⟨v',r1,r2⟩:=q6 _ v (h1 t v ht);refine⟨v',?_,r2⟩;rw[bU,oI htn,lq];show some ((w.cell? ⟨gi.b,gi.off+o+(j*E.n+t),none⟩).getD .nilFunc)=_;rw[show gi.off+o+(j*E.n+t)=gi.off+(o+j*E.n+t)by omega,r1];rfl
  .rw[jy]at q5⊢;intro v hv;obtain⟨t,ht⟩:=iM hv;exact q5 v (aT (h1 t v ht))
 have e0:El β E xs d:=Classical.choice (by obtain⟨e,_⟩:=hex 0 hne;exact⟨e⟩)
 haveI:Inhabited (El β E xs d):=⟨e0⟩
 obtain⟨el,M5⟩:∃el:Nat->El β E xs d,∀j,j<xs.length->xs[j]? =some (el j).x/\(el j).v=(List.range E.n).map λt=>cellOf (j*E.n+t):=
  ⟨λj=>if h:j<xs.length then Classical.choose (hex j h)else e0,λj hj=>by dsimp only;rw[dif_pos hj];exact Pv (hex j hj)⟩
 let D:Array (El β E xs d):=((List.range xs.length).map el).toArray
 have hDs:D.size=xs.length:=by simp[D]
 have hDg:∀j,j<xs.length->D[j]! =el j:=λj hj=>by
  rw[getElem!_pos D j (by rw[hDs];exact hj)];simp[D]
 have hDx:D.toList.map (·.x)=xs:=by
  apply iH;intro j;by_cases hj:j<xs.length
  .rw[(M5 j hj).1];simp[D,hj]
  .rw[dW (l:=xs) s6,dW (by simp[D];omega)]
 have hlv:∀e:El β E xs d,e.v.length=E.n:=λe=>by rw[e.rel.length,E.len]
 have hH:HoldsK (λe:El β E xs d=>e.v) E.n w gi.b (gi.off+o) D:=λt ht=>by
  have ht:t<xs.length*E.n:=by rw[size_flatK,hDs]at ht;exact ht
  rw[get_flatK _ _ _ _ (by rw[hDs];exact ht)];have hq:t/E.n<xs.length:=(VM hk0).2 ht;have hr:t%E.n<E.n:=wu _ hk0;rw[hDg _ hq,(M5 _ hq).2];have:((List.range E.n).map λt'=>cellOf (t/E.n*E.n+t'))[t%E.n]! =cellOf t:=by
   rw[getElem!_pos _ _ (by simpa using hr)];simp only[List.getElem_map,List.getElem_range];rw[Fe,Nat.div_add_mod]
  rw[this];exact hcell t ht
 have hO2:SWO (ltOf λa b:El β E xs d=>cf a.x b.x):=⟨λa=>hO.irrefl a.x,λa b c=>hO.trans a.x b.x c.x,λa b c=>hO.ntrans a.x b.x c.x⟩
 have hcmp:∀(m:Nat) (os:Array Obj) (dk:Array (El β E xs d)),dk.size=D.size->∀x y:El β E xs d,Calls P g (#[wr x.v,wr y.v]++⟨cb⟩) (sortWorldK (λe:El β E xs d=>e.v) E.n w gi.b (gi.off+o) m dk os) λe w'=>e=.returned (.int .i64 (cf x.x y.x))/\∃q os',w'=Go.Sort.grow ((sortWorldK (λe:El β E xs d=>e.v) E.n w gi.b (gi.off+o) m dk os).drewN q) os':=λm os dk _ x y=>by
  have hle:=Wd.ai7 hz;exact ai5 sN hgn hgb Gr (hC x.x x.mem y.x y.mem x.y y.y) (d:=d.but b) rfl (λfa hfa=>by
   rcases fq.1 hfa with h|h
   .exact fa.mono hle (x.fs fa h)
   .rcases fq.1 h with h|h
    .exact fa.mono hle (y.fs fa h)
    .exact fa.mono hle (hF fa h)) hG (hW.ai9 hi hg _ _ _ m dk os) (.cons (hwr (E.len _ _) x.cell x.rel) (.cons (hwr (E.len _ _) y.cell y.rel) .nil)) hcb
 have hK:=hS (El β E xs d) (λe=>e.v) (λa b=>cf a.x b.x) g ⟨cb⟩ gi.b (gi.off+o) c' D w hlv (λe=>aW.oneCell e.rel e.cell) hO2 (λxs w=>Zl hgn hgb Gr xs w) hcmp hH hlt (by rw[hDs];exact hlen);refine⟨_,Frame.enter P f ⟨_⟩ .normal,t1,rfl,λcs0 AC=>?_⟩;rw[hDs]at hK;obtain⟨e,w',fr,⟨he,d2,n2,os,hpm,hsd,hw'⟩,hcomes,hfr,hlv2⟩:=hK cs0;subst he;have hd2:d2.size=xs.length:=hpm.1.trans hDs;have hdg:∀(j:Nat) e,d2.toList[j]? =some e->j<xs.length/\d2[j]! =e:=λj e h=>by
  rw[zZ]at h;obtain⟨hj,he⟩:=Pj.1 h;exact⟨s6,by rw[getElem!_pos d2 j hj];exact he⟩
 let zs:ae (X×E.Y):=d2.toList.map λe=>(e.x,e.y)
 let L:ae ah:=(List.range (xs.length*E.n)).map λt=>(E.pat (d2[t/E.n]!).x (d2[t/E.n]!).y).getD (t%E.n) .nilFunc
 let L':ae ah:=(flatK (λe:El β E xs d=>e.v) E.n d2).toList
 have uD:L.length=xs.length*E.n:=by simp[L]
 have RP:∀t,t<xs.length*E.n->L[t]? =some ((E.pat (d2[t/E.n]!).x (d2[t/E.n]!).y).getD (t%E.n) .nilFunc):=λt ht=>by
  show((List.range (xs.length*E.n)).map _)[t]? =_;rw[bU,oI ht];rfl
 have ajf:L'.length=xs.length*E.n:=by simp[L',hd2]
 have RQ:∀(e:El β E xs d) t,t<E.n->(E.pat e.x e.y)[t]? =some ((E.pat e.x e.y).getD t .nilFunc):=λe t ht=>by
  rw[DD,bG (by rw[E.len];exact ht)];rfl
 have Zn:∀(t:Nat) v,L[t]? =some v->t<xs.length*E.n:=λt v ht=>by
  have:=(aV.1 ht).1
  rwa [uD]at this
 have hrel:aW β L L':=aW.Lf (by rw[ajf,uD]) λt v ht=>by
  have htn:=Zn t v ht;rw[RP t htn]at ht;cases ht;have hr:=wu t hk0;obtain⟨v',r1,r2⟩:=(d2[t/E.n]!).rel.get (RQ _ _ hr);refine⟨v',?_,r2⟩;have h1:L'[t]? =some (flatK (λe:El β E xs d=>e.v) E.n d2)[t]!:=by
   show(flatK (λe:El β E xs d=>e.v) E.n d2).toList[t]? =_;rw[zZ,Pt DE,getElem!_pos _ _ DE]
  rw[h1,get_flatK _ _ _ _ (by rw[hd2];exact htn)];show some ((d2[t/E.n]!).v)[t%E.n]! =_;rw[getElem!_pos _ _ (by rw[hlv];exact hr),<- bG];exact r1
 have hall:L.all cellV=true:=by
  rw[jy];intro v hv;obtain⟨t,ht⟩:=iM hv;have htn:=Zn t v ht;rw[RP t htn]at ht;cases ht;exact jy.1 (d2[t/E.n]!).cell _ (aT (RQ _ _ (wu t hk0)))
 obtain⟨cs2,hl⟩:=Ey cs o L (by rw[uD];omega);obtain⟨l1,l2,l3⟩:=D5 hl;have hs:d.h.storeAt b o L=some (d.h.set b (.cells cs2)):=by unfold IH.storeAt;simp only[hg,hl]
 obtain⟨_,w1,w2⟩:=FM hW hi hs hrel hall;have hw1:sortWorldK (λe:El β E xs d=>e.v) E.n w gi.b (gi.off+o) n2 d2 os=Go.Sort.grow (Sort.ahead (w.setCells gi.b (gi.off+o) L') n2) os:=by
  have:=Go.Ideal.setCells_putRow (id:ah->ah) w gi.b (gi.off+o) (flatK (λe:El β E xs d=>e.v) E.n d2);rw[BX]at this;rw[show w.setCells gi.b (gi.off+o) L'=_ from this];rfl
 rw[hw1]at hw';have w3:WR P β (d.h.set b (.cells cs2)) (Sort.ahead (w.setCells gi.b (gi.off+o) L') n2):=w1.qK rfl;have w4:=w2.trans (Eff.qK (w':=Sort.ahead (w.setCells gi.b (gi.off+o) L') n2) w1.dom rfl rfl rfl rfl (Ph _ _));obtain⟨w5,w6⟩:=w3.grow os;rw[<- hw']at w5 w6;refine⟨.ok (.tuple ⟨[]⟩),none,_,β,w',.returned (.tuple #[]),cs0,⟨rfl,rfl,zs,cs2,?_,?_,l2,?_,rfl⟩,w5,w4.trans w6,.ok (.dX _),.none cs0,.inl ⟨f,_,fr,rfl,hcomes,hfr,hlv2.2.2.1,hlv2.1,hlv2.2.1,hlv2.2.2.2⟩⟩
 .have hp:=hpm.2.2;rw[show d2.extract 0 xs.length=d2 by rw[<- hd2];simp,show D.extract 0 xs.length=D by rw[<- hDs];simp]at hp;have h1:=hp.map (·.x);rw[hDx]at h1;show((d2.toList.map λe=>(e.x,e.y)).map (·.1)).Perm xs;rw[rG];exact h1
 .show((d2.toList.map λe=>(e.x,e.y)).map (·.1)).Pairwise _;rw[rG];refine List.aja λi j x y hij hx hy=>?_;rw[bU,kg]at hx hy;obtain⟨e1,hx,rfl⟩:=hx;obtain⟨e2,hy,rfl⟩:=hy;have h1:=hdg i e1 hx;have h2:=hdg j e2 hy;have:=hsd i j (bM _) hij h2.1;rw[h1.2,h2.2]at this;exact uZ this
 .intro j p hj;have hj:(d2.toList.map λe=>(e.x,e.y))[j]? =some p:=hj;rw[bU,kg]at hj;obtain⟨e,he0,rfl⟩:=hj;obtain⟨hjn,he⟩:=hdg j e he0;refine⟨λt u ht=>?_,e.fs⟩;have htn:t<E.n:=by have:=(aV.1 ht).1;rw[E.len]at this;exact this
  have hb2:=ajc j t hjn htn;rw[l3,if_pos ⟨s6,by rw[uD];omega⟩,show o+j*E.n+t - o=j*E.n+t by omega,RP _ s6];have d1:(j*E.n+t)/E.n=j:=by rw[Fe,Nat.mul_add_div hk0,Nat.div_eq_of_lt htn,xL]
  have d3:(j*E.n+t)%E.n=t:=by rw[Fe,Nat.mul_add_mod,Nat.mod_eq_of_lt htn]
  rw[d1,d3,he,<- RQ e t htn];exact ht
def JH(P:Program)(f:fO):Prop:=∀(p:ak Addr) (cap:Nat) (fv:ah) (w:World),Calls P f #[.slice p 0 cap,fv] w λe w'=>e=.returned (.tuple #[])/\w'=w
def VR.ajg{a:ak Addr}{n c:Nat}{v:ah}(h:VR β (.slice a n c) v):∃p c',v=.slice p n c':=by
 cases h<;>exact⟨_,_,rfl⟩
def ajh(hS:JH P f){fn:Func}(hfn:P.funcs[f]? =some fn){body:Code}(hb:fn.body=some body)(hname:fn.name≠ "runtime.NumGoroutine"){a:ak Addr}{c:Nat}{fv:ah}{h:IH}:
 nM P ⟨.func f,[.slice a 0 c,fv],[],none⟩ h (λr pm h2=>pm=none/\r=.ok (.tuple ⟨[]⟩)/\h2=h):=by
 intro β w fn' args' cap' hG hW hf ha' hcap;obtain⟨kE,t1,t2⟩:=I5 (P:=P) (q:=⟨.func f,[.slice a 0 c,fv],[],none⟩) (f:=f) (args:=[.slice a 0 c,fv]) yb hf ha' hcap hfn hb hname w;cases t2 with|cons hv tl=>
 cases tl with|cons hv2 tl=>
 cases tl;obtain⟨p,c',rfl⟩:=hv.ajg;refine⟨_,Frame.enter P f ⟨_⟩ .normal,t1,rfl,λcs0 AC=>?_⟩;obtain⟨e,w',fr,⟨he,hw'⟩,hcomes,hfr,hlv⟩:=hS p c' _ w cs0;subst he hw';exact⟨.ok (.tuple ⟨[]⟩),none,h,β,_,.returned (.tuple #[]),cs0,⟨rfl,rfl,rfl⟩,hW,Eff.refl _ _ _ hW.dom,.ok (.dX _),.none cs0,.inl ⟨f,_,fr,rfl,hcomes,hfr,hlv.2.2.1,hlv.1,hlv.2.1,hlv.2.2.2⟩⟩
def Zo(sN:P.follows .mixedOrders=true){f g:fO}{k:Nat}{wr:ae ah->ah}(hwr:∀{β:aJ} {vs vs':ae ah},vs.length=k->vs.all cellV=true->aW β vs vs'->VR β (wr vs) (wr vs'))(hS:JG P f k wr)(hN:JH P f){fn:Func}(hfn:P.funcs[f]? =some fn){body:Code}(hb:fn.body=some body)(hname:fn.name≠ "runtime.NumGoroutine"){gn:Func}(hgn:P.funcs[g]? =some gn){Gq:Code}(hgb:gn.body=some Gq)(Gr:gn.name≠ "runtime.NumGoroutine")
 {X:Type} {E:Enc X} (hE:E.n=k) (hk0:0<k) {xs:ae X} {cf:X->X->Int} (hO:SWO (ltOf cf)) {cap:ae ah} {F:ae aI} {a:ak Addr}
 (hC:∀x∈xs,∀y∈xs,∀a b,aX P (.func g) [wr (E.pat x a),wr (E.pat y b)] cap [] (E.fs x a++(E.fs y b++F)) (λ_:Unit=>.int .i64 (cf x y)) (λ_=>[]) (λ_=>[]) (λ_=>True))
 (hlen:xs.length<4611686018427387904):
 aX P (.func f) [.slice a xs.length xs.length,.func (.func g) ⟨[]⟩ ⟨cap⟩] [] [ap E (.slice a xs.length xs.length) xs] F (λ_:ae X=>.tuple ⟨[]⟩) (λys=>[ap E (.slice a xs.length xs.length) ys]) (λ_=>[]) (λys=>ys.Perm xs/\ys.Pairwise λx y=>¬cf y x<0):=by
 intro B w s;by_cases hx:xs=[]
 .subst hx;refine .real (I4 _ (ajh hN hfn hb hname) ?_);rintro r pm h' ⟨rfl,rfl,rfl⟩;exact⟨rfl,w,[],rfl,⟨s.agree,s.le,s.fH,s.own,λf hf=>by cases hf⟩,rfl,.refl _,.nil⟩
 have hne:0<xs.length:=Fb.2 hx;obtain⟨S,⟨S1,S2,q1,q2,e⟩,h2,h3⟩:=s.own;rcases q1 with⟨h,_⟩|⟨b,o,fl,cells,e1,hf,e2,hb',hcl,hel⟩
 .exact absurd h hx
 injection e1 with e1 YR;subst e1 e2 e;have hzb:¬w.z b:=(h3 b s7).2.2;refine .real (I4 _ (ajb sN hwr hS hfn hb hname hgn hgb Gr hE hk0 hO hC hb' hzb s.facts hel hcl hne hlen) ?_);rintro r pm h' ⟨rfl,rfl,zs,cs2,hp,hpw,hl2,aji,rfl⟩;have s1:St B w [pt b (.cells cells)] [] w:=⟨s.agree,s.le,s.fH,⟨[b]++S2,⟨[b],S2,⟨rfl,hb'⟩,q2,rfl⟩,h2,h3⟩,λf hf=>by cases hf⟩
 have s2:=s1.write (o':=.cells cs2);have hle:w.Le ⟨w.h.set b (.cells cs2),w.z,λi hi=>w.nN i hi⟩:=s2.le;have hzl:zs.length=xs.length:=by have:=hp.length_eq;rwa [aR]at this
 refine⟨rfl,⟨w.h.set b (.cells cs2),w.z,λi hi=>w.nN i hi⟩,zs.map (·.1),rfl,?_,rfl,hp,hpw⟩;refine s2.zo (A':=ap E (.slice (some ⟨b,o,some fl⟩) xs.length xs.length) (zs.map (·.1))) λS' hp'=>?_;refine .inr ⟨b,o,fl,cs2,by rw[aR,hzl],hf,hp'.1,hp'.2,by rw[hl2,hcl,aR,hzl],λj x hj=>?_⟩;rw[bU,kg]at hj;obtain⟨p,hj,rfl⟩:=hj;obtain⟨r1,r2⟩:=aji j p hj;exact⟨p.2,r1,λf hf=>f.mono hle (r2 f hf)⟩
def ajj(sN:P.follows .mixedOrders=true){f g:fO}{k:Nat}(hS:Nf P f k)(hN:JH P f){fn:Func}(hfn:P.funcs[f]? =some fn){body:Code}(hb:fn.body=some body)(hname:fn.name≠ "runtime.NumGoroutine"){gn:Func}(hgn:P.funcs[g]? =some gn){Gq:Code}(hgb:gn.body=some Gq)(Gr:gn.name≠ "runtime.NumGoroutine")
 {X:Type} {E:Enc X} (hE:E.n=k) (hk0:0<k) {xs:ae X} {cf:X->X->Int} (hO:SWO (ltOf cf)) {cap:ae ah} {F:ae aI} {a:ak Addr}
 (hC:∀x∈xs,∀y∈xs,∀a b,aX P (.func g) [.agg ⟨E.pat x a⟩,.agg ⟨E.pat y b⟩] cap [] (E.fs x a++(E.fs y b++F)) (λ_:Unit=>.int .i64 (cf x y)) (λ_=>[]) (λ_=>[]) (λ_=>True))
 (hlen:xs.length<4611686018427387904):
 aX P (.func f) [.slice a xs.length xs.length,.func (.func g) ⟨[]⟩ ⟨cap⟩] [] [ap E (.slice a xs.length xs.length) xs] F (λ_:ae X=>.tuple ⟨[]⟩) (λys=>[ap E (.slice a xs.length xs.length) ys]) (λ_=>[]) (λys=>ys.Perm xs/\ys.Pairwise λx y=>¬cf y x<0):=
 Zo sN (wr:=Zm) (λ_ h1 h2=>.agg h1 h2) hS.toW hN hfn hb hname hgn hgb Gr hE hk0 hO hC hlen
def ajk(h:∀(α:Type) [Inhabited α] (enc:α->ah) (cf:α->α->Int) (g:fO) (cb:Array ah) (blk off cap:Nat) (d:Array α) (w:World),OneCell enc->SWO (ltOf cf)->(∀args w,(callFunc g args).run P w=.ok (.enter g args) w)->CmpLays1 P g cb enc cf blk off d.size w->Holds enc w blk off d->blk<w.heap.size->d.size<4611686018427387904->
 Calls P f #[.slice (some ⟨blk,off,none⟩) d.size cap,.func (.func g) #[] cb] w λe w'=>e=.returned (.tuple #[])/\∃d' n os,PermIn 0 d.size d d'/\SortedIn (ltOf cf) 0 d.size d'/\w'=sortWorld enc w blk off n d' os):JG P f 1 wZ:=by
 intro α _ enc cf g cb blk off cap d w hk h1 hO eg hcmp hH hblk hsz;have he:∀x,enc x=[wZ (enc x)]:=λx=>by
  have:=hk x;match h2:enc x,this with
  |[v],_=>rfl
 have hfl:∀dk:Array α,flatK enc 1 dk=dk.map λx=>wZ (enc x):=λdk=>by
  refine ext_get! s7 λt ht=>?_;rw[size_flatK,lK]at ht;rw[get_flatK _ _ _ _ s6,Nat.div_one,Nat.mod_one,he];rw[getElem!_pos (dk.map _) t (by simpa using ht),Array.getElem_map,getElem!_pos dk t ht];rfl
 have hpc:∀(dk:Array α) (c:Array ah),putCells id off (dk.map λx=>wZ (enc x)) c=putCells (λx=>wZ (enc x)) off dk c:=λdk c=>by
  unfold putCells;congr 1;funext t x
  rw[Array.size_map];split
  .rename_i hr;rw[getElem!_pos (dk.map _) _ tc,Array.getElem_map,getElem!_pos dk _ s6];rfl
  .rfl
 have hsw:∀(m:Nat) (dk:Array α) (os:Array Obj),sortWorldK enc 1 w blk off m dk os=sortWorld (λx=>wZ (enc x)) w blk off m dk os:=λm dk os=>by
  unfold sortWorldK sortWorld putRowK putRow;rw[hfl,show putCells id off (dk.map λx=>wZ (enc x))=putCells (λx=>wZ (enc x)) off dk from funext (hpc dk)]
 have:=h α (λx=>wZ (enc x)) cf g cb blk off cap d w (λx=>h1 x _ (by rw[he x];exact bA.2 rfl)) hO eg (λm os dk hs x y=>by
  have:=hcmp m os dk hs x y;rw[hsw]at this;exact this) (λj hj=>by
  have:=hH j (by rw[size_flatK];omega);rw[get_flatK _ _ _ _ s6,Nat.div_one,Nat.mod_one,he]at this;exact this) hblk hsz
 refine this.mono ?_;rintro e w' ⟨h1,d',n,os,h2,h3,h4⟩;exact⟨h1,d',n,os,h2,h3,by rw[hsw];exact h4⟩
def ajl(h1:vs.length=1)(h2:vs.all cellV=true)(h:aW β vs vs'):VR β (wZ vs) (wZ vs'):=by
 match vs,h1 with
 |[v],_=>
  cases h with|cons a b=>
  cases b;exact a
end Go.Ideal
namespace Go.Ideal
open Go.Proofs Go.RowKit Go.Lib Go.Shelf
variable {P:Program}
structure RU(P:Program)(f:FuncId)(z:Value)(e:TypeId)(iX:Nat):Prop where
 room:∀(b off n c i vb vo:Nat) (cs:List Value) (v:Value) (w:World),i<n->n+1<=c->(n+1)*iX<=140737488355328->vb≠b->cs.length=n->(∀j u,cs[j]? =some u->w.cell? ⟨b,off+j,none⟩=some u)->(∀j,j<n+1->(w.cell? ⟨b,off+j,none⟩).isSome=true)->
  (∀j,j<n+1->w.frozen? ⟨b,off+j,none⟩=false)->w.cell? ⟨vb,vo,none⟩=some v->(∀u∈cs,u.oneCell'=true)->v.oneCell'=true->∀(tA tB:TypeId) (kA kB:Nat),w.shape? vb=some (tA,kA)->w.shape? b=some (tB,kB)->kB≠0->w.frozen? ⟨vb,vo,none⟩=false->w.frozen? ⟨vb,kA,none⟩=false->
  Calls P f #[.slice (some ⟨b,off,none⟩) n c,.int .i64 i,.slice (some ⟨vb,vo,none⟩) 1 1] w λe w'=>e=.returned (.slice (some ⟨b,off,none⟩) (n+1) c)/\w'=(w.drew.setCells b (off+(i+1)) (cs.drop i)).setCells b (off+i) [v]
 grow:∀(b off n c i vb vo:Nat) (cs:List Value) (v:Value) (w:World),i<n->n<=c->c<n+1->(n+1)*iX<=140737488355328->cs.length=n->(∀j u,cs[j]? =some u->w.cell? ⟨b,off+j,none⟩=some u)->w.cell? ⟨vb,vo,none⟩=some v->(∀u∈cs,u.oneCell'=true)->v.oneCell'=true->
  Calls P f #[.slice (some ⟨b,off,none⟩) n c,.int .i64 i,.slice (some ⟨vb,vo,none⟩) 1 1] w λr w'=>∃k,n+1<=k/\r=.returned (.slice (some ⟨w.heap.size,0,none⟩) (n+1) k)/\
   w'=(((w.alloc (.cells ⟨cs.take i++List.replicate (n+1 - i) z++List.replicate (k - (n+1)) z⟩ e)).drew.setCells w.heap.size i [v]).drew).setCells w.heap.size (i+1) (cs.drop i)
def kZ{α:Type}(l:ae α)(i:Nat)(x:α):ae α:=l.take i++x::l.drop i
variable{α:Type}{i:Nat}
def Ez{l:ae α}{x:α}(h:i<=l.length):(kZ l i x).length=l.length+1:=by
 unfold kZ;rw[eF,nW,fU,lu];omega
def Gs{l:ae α}{x:α}(h:i<=l.length)(t:Nat):(kZ l i x)[t]? =if t<i then l[t]? else if t=i then some x else l[t - 1]?:=by
 unfold kZ;have hl:(l.take i).length=i:=tw
 by_cases h1:t<i
 .rw[if_pos h1,jL s6,rE,if_pos h1]
 .rw[if_neg h1,jP s6,hl];by_cases h2:t=i
  .rw[if_pos h2,h2,nX];rfl
  .rw[if_neg h2,show t - i=(t - i - 1)+1 by omega,uf,jU,show i+(t - i - 1)=t - 1 by omega]
def ajm{β:aJ}{x v:ah}(h:VR β x v)(hc:cellV x=true):v.oneCell'=true:=
 aW.oneCell (.cons h .nil) (by simp[hc]) v (bA.2 rfl)
def ajn{f:fO}{z:ah}{e:aD}{iX:Nat}(hz:VR (λ_=>none) z z)(hzc:cellV z=true)(hI:RU P f z e iX){fn:Func}(hfn:P.funcs[f]? =some fn){body:Code}(hb:fn.body=some body)(hname:fn.name≠ "runtime.NumGoroutine")
 {h:IH} {j o fl n i vb:Nat} {cs0:ae ah} {x:ah} (hj:h.get j=some (.cells cs0)) (hv:h.get vb=some (.cells [x])) (hne:vb≠j) (hcl:cs0.length=o+n) (hfl:fl=0\/fl=1) (hi:i<n) (hn:(n+1)*iX<=140737488355328):
 nM P ⟨.func f,[.slice (some ⟨j,o,some fl⟩) n n,.int .i64 (i:Int),.slice (some ⟨vb,0,some 0⟩) 1 1],[],none⟩ h (λr pm h'=>pm=none/\r=.ok (.slice (some ⟨h.next,0,some 1⟩) (n+1) (n+1))/\Cr h h' j (.cells (kZ (cs0.drop o) i x))):=by
 intro β w fn' args' cap' hG hW hf ha hcap;obtain⟨kE,t1,t2⟩:=I5 (P:=P) (q:=⟨.func f,[.slice (some ⟨j,o,some fl⟩) n n,.int .i64 (i:Int),.slice (some ⟨vb,0,some 0⟩) 1 1],[],none⟩) (f:=f) (args:=[.slice (some ⟨j,o,some fl⟩) n n,.int .i64 (i:Int),.slice (some ⟨vb,0,some 0⟩) 1 1]) yb hf ha hcap hfn hb hname w;cases t2 with|cons hv1 tl=>
 cases tl with|cons hv2 tl=>
 cases tl with|cons hv3 tl=>
 cases tl;obtain rfl:=hv2.mP;obtain⟨gi,a,c',hgi,rfl,hab,_,_,hcc,hao,hkind⟩:=hv1.oJ;obtain⟨gv,av,cv,hgv,rfl,Zp,_,_,atd,Zq,ajo⟩:=hv3.oJ;have hcv:cv=1:=by
  rcases ajo with⟨_,e⟩|⟨e,h0,_⟩
  .exact e
  .injection e with e;omega
 subst hcv;have ea:a=⟨gi.b,gi.off+o,none⟩:=by
  obtain⟨ab,ao,asp⟩:=a;simp only at hab hao;rcases hao with hao|hao
  .omega
  .rw[hab,hao.1,hao.2]
 subst ea;have ev:av=⟨gv.b,gv.off,none⟩:=by
  obtain⟨ab,ao,asp⟩:=av;simp only at Zp Zq;rcases Zq with hao|hao
  .omega
  .rw[Zp,hao.1,hao.2];rfl
 subst ev;obtain⟨⟨c0,t0,RD,hh,ajp⟩,q2,q3,q4,q5,q6⟩:=hW.obj j gi _ hgi hj;obtain⟨⟨c1,t1',fz1,Zr,ajq⟩,p2,p3,p4,p5,p6⟩:=hW.obj vb gv _ hgv hv;have hbb:gv.b≠gi.b:=λe=>hne (hW.inj vb j gv gi hgv hgi (by rw[hv];simp) (by rw[hj];simp) (.inl λcs e=>by rw[hv]at e;cases e) e);have hjn:j<h.next:=hW.live j _ hj
 obtain⟨v,FO,pX⟩:=p6 0 x rfl;rw[xL]at FO;have zA:cellV x=true:=by simpa using p5
 have Zt:v.oneCell'=true:=ajm pX zA;have p2:1=gv.len:=p2;have ajr:w.frozen? ⟨gv.b,gv.off,none⟩=false:=(p4 gv.off s6).2;let old:ae ah:=cs0.drop o
 have hol:old.length=n:=by show(cs0.drop o).length=n;rw[lu];omega
 let lW:ae ah:=(List.range n).map λt=>(w.cell? ⟨gi.b,gi.off+o+t,none⟩).getD .nilFunc
 have hRl:lW.length=n:=by simp[lW]
 have Zu:∀t,t<n->lW[t]? =w.cell? ⟨gi.b,gi.off+o+t,none⟩:=λt ht=>by
  obtain⟨u,hu⟩:=KJ.1 (q4 (gi.off+o+t) s6).1;show((List.range n).map _)[t]? =_;rw[bU,oI ht,hu];show some ((w.cell? ⟨gi.b,gi.off+o+t,none⟩).getD .nilFunc)=_;rw[hu];rfl
 have RV:∀t u,lW[t]? =some u->w.cell? ⟨gi.b,gi.off+o+t,none⟩=some u:=λt u ht=>by
  have htn:t<n:=by have:=(aV.1 ht).1;omega
  rw[<- Zu t htn];exact ht
 have hrel:aW β old lW:=aW.Lf (by rw[hRl,hol]) λt u ht=>by
  have htn:t<n:=by have:=(aV.1 ht).1;omega
  have ht':cs0[o+t]? =some u:=by rw[<- jU];exact ht
  obtain⟨u',r1,r2⟩:=q6 (o+t) u ht';exact⟨u',by rw[Zu t htn,l5];exact r1,r2⟩
 have CL:old.all cellV=true:=by
  rw[jy]at q5⊢;exact λu hu=>q5 u (E9 hu)
 have Zv:∀u∈lW,u.oneCell'=true:=aW.oneCell hrel CL;have hnew:(kZ old i x).all cellV=true:=by
  rw[jy]at CL⊢;intro u hu;rcases fq.1 hu with hu|hu
  .exact CL u (xK hu)
  .rcases bH.1 hu with rfl|hu
   .exact zA
   .exact CL u (E9 hu)
 refine⟨_,Frame.enter P f ⟨_⟩ .normal,t1,rfl,λcs hcs=>?_⟩;by_cases hroom:n+1<=c'
 .
  obtain⟨k0,k1,k2,k3⟩:fl=1/\gi.sz=1/\o+n=gi.len/\gi.off+o+c'=gi.top:=by
   rcases hkind with⟨_,e⟩|⟨e,h0,e2,e3,_⟩
   .omega
   .injection e with e;have:gi.sz=1:=by omega
    rw[this]at e2 e3;exact⟨s6,this,s6,s6⟩
  obtain⟨r,w',fr,⟨he,hw'⟩,hcomes,hfr,hlv⟩:=hI.room gi.b (gi.off+o) n c' i gv.b gv.off lW v w hi hroom hn hbb hRl RV (λt ht=>(q4 _ s6).1) (λt ht=>(q4 _ s6).2) FO Zv Zt t1' t0 c1.size c0.size (by simp only[World.shape?,Zr]) (by simp only[World.shape?,hh])
   (λe=>by
     have:=(q4 (gi.off+o) s6).1;simp only[World.cell?,hh]at this;rw[uX s6]at this;cases this) ajr (by simp only[World.frozen?,Zr];simpa using ajq) cs
  subst he;obtain⟨A1,A2,A3,A4,A5,A6⟩:=Qe (w:=w.drew) gi.b (gi.off+o+(i+1)) (lW.drop i);obtain⟨B1,B2,B3,B4,B5,B6⟩:=Qe (w:=w.drew.setCells gi.b (gi.off+o+(i+1)) (lW.drop i)) gi.b (gi.off+o+i) [v];rw[<- hw']at B1 B2 B3 B4 B5 B6;have hdl:(lW.drop i).length=n - i:=by rw[lu,hRl]
  have hs0:∀t,t<gi.top->(w.drew.cell? ⟨gi.b,t,none⟩).isSome=true:=λt ht=>(q4 t ht).1;have hs1:∀t,t<gi.top->((w.drew.setCells gi.b (gi.off+o+(i+1)) (lW.drop i)).cell? ⟨gi.b,t,none⟩).isSome=true:=λt ht=>by
   by_cases hr:gi.off+o+(i+1)<=t/\t<gi.off+o+(i+1)+(lW.drop i).length
   .have:=Fa gi.b (lW.drop i) (gi.off+o+(i+1)) w.drew (λk hk=>hs0 _ s6) (t - (gi.off+o+(i+1))) s6;rw[show gi.off+o+(i+1)+(t - (gi.off+o+(i+1)))=t by omega]at this;rw[this];simp
   .rw[BS gi.b (lW.drop i) (gi.off+o+(i+1)) w.drew ⟨gi.b,t,none⟩ (λ_ _=>by simp;omega)];exact hs0 t ht
  have hcell:∀t u,(kZ lW i v)[t]? =some u->w'.cell? ⟨gi.b,gi.off+o+t,none⟩=some u:=λt u ht=>by
   have htl:t<n+1:=by
    have:=(aV.1 ht).1
    rwa [Ez s6,hRl]at this
   rw[Gs s6]at ht;rw[hw'];by_cases h1:t=i
   .rw[if_neg s6,if_pos h1]at ht;have:=Fa gi.b [v] (gi.off+o+i) (w.drew.setCells gi.b (gi.off+o+(i+1)) (lW.drop i)) (λk hk=>by have hk:k<1:=hk;exact hs1 _ s6) 0 s7;rw[h1];exact this.trans ht
   .rw[BS gi.b [v] (gi.off+o+i) _ ⟨gi.b,gi.off+o+t,none⟩ (λ_ _=>by simp;omega)];by_cases h2:t<i
    .rw[if_pos h2]at ht;rw[BS gi.b (lW.drop i) (gi.off+o+(i+1)) w.drew ⟨gi.b,gi.off+o+t,none⟩ (λ_ _=>by simp;omega)];exact RV t u ht
    .rw[if_neg h2,if_neg h1]at ht;have:=Fa gi.b (lW.drop i) (gi.off+o+(i+1)) w.drew (λk hk=>hs0 _ s6) (t - (i+1)) s6;rw[show gi.off+o+(i+1)+(t - (i+1))=gi.off+o+t by omega]at this;rw[this,<- ht];rw[<- bG,jU,show i+(t - (i+1))=t - 1 by omega]
  have hins:aW β (kZ old i x) (kZ lW i v):=(hrel.take i).append (.cons pX (hrel.drop i));have hle:=aJ.xX (β:=β) (i:=h.next) ⟨gi.b,gi.off+o,n+1,gi.top,1⟩ hW.zh;obtain⟨R1,R2⟩:=hW.Wy hgi (by rw[hj];simp) (by rw[hj];intro cs e;cases e) (.cells (kZ old i x)) ⟨gi.b,gi.off+o,n+1,gi.top,1⟩ rfl (w1:=w') (B1.trans A1) (λb hb=>(B2 b hb).trans (A2 b hb)) (B5.trans A5) (B4.trans A4) (B6.trans A6)
   (by rw[hw',Iq,Iq];exact Dw _)
   ⟨B3 (A3 ⟨c0,t0,RD,hh,ajp⟩),by rw[Ez s6,hol],by show gi.off+o+(n+1)<=gi.top;omega,λt ht=>⟨by
    by_cases hr:gi.off+o+i<=t/\t<gi.off+o+i+[v].length
    .have:=Fa gi.b [v] (gi.off+o+i) (w.drew.setCells gi.b (gi.off+o+(i+1)) (lW.drop i)) (λk hk=>by have hk:k<1:=hk;exact hs1 _ s6) (t - (gi.off+o+i)) s6;rw[show gi.off+o+i+(t - (gi.off+o+i))=t by omega]at this;rw[hw',this];simp
    .rw[hw',BS gi.b [v] (gi.off+o+i) _ ⟨gi.b,t,none⟩ (λ_ _=>by simp at hr⊢;omega)];exact hs1 t ht,by rw[hw',KG,KG];exact(q4 t ht).2⟩,hnew,λt u ht=>by
    obtain⟨u',r1,r2⟩:=hins.get ht;exact⟨u',hcell t u' r1,r2.mono hle⟩⟩
  have hlow:h.low<=j->((h.kill j).new (.cells (kZ old i x))).low=h.low:=λhl=>by rw[IH.Im,IH.Aq];omega
  refine⟨.ok (.slice (some ⟨h.next,0,some 1⟩) (n+1) (n+1)),none,(h.kill j).new (.cells (kZ old i x)),_,w',.returned _,cs,⟨rfl,rfl,⟨rfl,λt ht hne=>by rw[IH.jq,IH.uu,if_neg (by rw[IH.Il];omega),if_neg hne],⟨by rw[IH.Lc,IH.Il];omega,by rw[IH.jq,if_pos (IH.Il h j).symm]⟩,hlow⟩⟩,R1,R2,.ok ?_,.none cs,.inl ⟨f,_,fr,rfl,hcomes,hfr,hlv.2.2.1,hlv.1,hlv.2.1,hlv.2.2.2⟩⟩;exact VR.pW (g:=⟨gi.b,gi.off+o,n+1,gi.top,1⟩) (aJ.l8 _ _ _) rfl rfl (aZ _) Nat.one_pos s7 tc hroom (.inr rfl)
 .
  have hcn:n<=c':=by rcases hkind with⟨_,e⟩|⟨e,h0,e2,e3,_⟩<;>omega
  obtain⟨r,w',fr,⟨k,hk,hr',hw'⟩,hcomes,hfr,hlv⟩:=hI.grow gi.b (gi.off+o) n c' i gv.b gv.off lW v w hi hcn s6 hn hRl RV FO Zv Zt cs;subst hr';obtain⟨D1,D2⟩:=hW.drop hgi;have hzz:VR β z z:=hz.mono (λ_ _ hh=>by cases hh);have hrep:∀m,aW β (List.replicate m z) (List.replicate m z):=λm=>by
   induction m with
   |zero=>exact .nil
   |succ m ih=>exact .cons hzz ih
  have ajs:∀m,(List.replicate m z).all cellV=true:=λm=>by
   rw[jy];intro u hu;rw[(List.mem_replicate.1 hu).2];exact hzc
  have ajt:(old.take i).all cellV=true:=by
   rw[jy]at CL⊢;exact λu hu=>CL u (xK hu)
  let g1:je:=⟨w.heap.size,0,n+1,k,1⟩
  let c1':ae ah:=old.take i++List.replicate (n+1 - i) z
  have Zw:c1'.length=n+1:=by
   show(old.take i++List.replicate (n+1 - i) z).length=n+1;rw[eF,fU,wC,hol];omega
  have hle:=aJ.xX (β:=β) (i:=(h.kill j).next) g1 D1.zh;have hcells:=OR.Ir (P:=P) (β:=β.add (h.kill j).next g1) (w:=w) (cs:=c1') (cs':=lW.take i++List.replicate (n+1 - i) z) e
   (((hrel.take i).append (hrep _)).mono hle) (by rw[List.all_append,ajt,ajs];rfl) (List.replicate (k - (n+1)) z) 1
  have hcells:OR P (β.add (h.kill j).next g1) g1 (w.alloc (.cells ⟨lW.take i++List.replicate (n+1 - i) z++List.replicate (k - (n+1)) z⟩ e)) (.cells c1'):=by
   rw[Zw,wC,show n+1+(k - (n+1))=k by omega]at hcells;exact hcells
  obtain⟨b1,b2⟩:=D1.alloc (.cells c1') (.cells ⟨lW.take i++List.replicate (n+1 - i) z++List.replicate (k - (n+1)) z⟩ e) g1 rfl rfl hcells;let wa:=w.alloc (.cells ⟨lW.take i++List.replicate (n+1 - i) z++List.replicate (k - (n+1)) z⟩ e)
  let ha:=(h.kill j).new (.cells c1')
  have b3:WR P (β.add (h.kill j).next g1) ha wa.drew:=b1.qK rfl;have b4:Eff (β.add (h.kill j).next g1) ha wa (β.add (h.kill j).next g1) ha wa.drew:=Eff.qK b1.dom rfl rfl rfl rfl;have hga:ha.get h.next=some (.cells c1'):=by show((h.kill j).new (.cells c1')).get h.next=_;rw[IH.jq,if_pos (IH.Il h j).symm]
  obtain⟨c2,hl2⟩:=Ey c1' i [x] tc;obtain⟨l1,l2,l3⟩:=D5 hl2;have aju:ha.storeAt h.next i [x]=some (ha.set h.next (.cells c2)):=by unfold IH.storeAt;simp only[hga,hl2]
  obtain⟨_,m1,m2⟩:=FM b3 (g:=g1) (aJ.l8 _ _ _) aju (vs':=[v]) (.cons (pX.mono hle) .nil) (by simp[zA]);let hb':=ha.set h.next (.cells c2)
  let wb:=wa.drew.setCells w.heap.size i [v]
  have e0:g1.off+i=i:=eB _;rw[e0]at m1 m2;have b5:WR P (β.add (h.kill j).next g1) hb' wb.drew:=m1.qK rfl;have b6:Eff (β.add (h.kill j).next g1) hb' wb (β.add (h.kill j).next g1) hb' wb.drew:=Eff.qK m1.dom rfl rfl rfl rfl;have hgb:hb'.get h.next=some (.cells c2):=by show(ha.set h.next (.cells c2)).get h.next=_;rw[IH.nJ,if_pos rfl]
  have hdl:(old.drop i).length=n - i:=by rw[lu,hol]
  obtain⟨c3,hl3⟩:=Ey c2 (i+1) (old.drop i) (by rw[l2,Zw,hdl];omega);obtain⟨n1,n2,n3⟩:=D5 hl3;have ajv:hb'.storeAt h.next (i+1) (old.drop i)=some (hb'.set h.next (.cells c3)):=by unfold IH.storeAt;simp only[hgb,hl3]
  obtain⟨_,Ng,RX⟩:=FM b5 (g:=g1) (aJ.l8 _ _ _) ajv (vs':=lW.drop i) ((hrel.drop i).mono hle) (by
   rw[jy]at CL⊢;exact λu hu=>CL u (E9 hu))
  have e1:g1.off+(i+1)=i+1:=eB _;rw[e1]at Ng RX;have hc3:c3=kZ old i x:=iH λt=>by
   rw[n3,hdl,l3,Gs s6];by_cases h1:t<i
   .rw[if_neg s6,if_neg tc,if_pos h1];show(old.take i++List.replicate (n+1 - i) z)[t]? =_;rw[jL tw,rE,if_pos h1]
   .rw[if_neg h1];by_cases h2:t=i
    .rw[if_neg s6,if_pos tc,if_pos h2,h2,nX];rfl
    .rw[if_neg h2];by_cases h3:t<n+1
     .rw[if_pos s6,jU,show i+(t - (i+1))=t - 1 by omega]
     .rw[if_neg s6,if_neg tc,dW s6,dW s6]
  rw[hc3]at Ng RX;have hE:=((((D2.trans b2).trans b4).trans m2).trans b6).trans RX;rw[<- hw']at Ng hE;refine⟨.ok (.slice (some ⟨h.next,0,some 1⟩) (n+1) (n+1)),none,hb'.set h.next (.cells (kZ old i x)),_,w',.returned _,cs,⟨rfl,rfl,⟨rfl,λt ht hne=>?_,⟨?_,by rw[IH.nJ,if_pos rfl]⟩,λhl=>?_⟩⟩,Ng,hE,.ok ?_,.none cs,.inl ⟨f,_,fr,rfl,hcomes,hfr,hlv.2.2.1,hlv.1,hlv.2.1,hlv.2.2.2⟩⟩
  .rw[IH.nJ,if_neg s6];show(ha.set h.next (.cells c2)).get t=_;rw[IH.nJ,if_neg s6];show((h.kill j).new (.cells c1')).get t=_;rw[IH.jq,if_neg (by rw[IH.Il];omega),IH.uu,if_neg hne]
  .show h.next<h.next+1;omega
  .have:h.low<=h.next:=by omega
   rw[IH.FD];show min (ha.set h.next (.cells c2)).low _=_;rw[IH.FD];show min (min ((h.kill j).new (.cells c1')).low _) _=_;rw[IH.Im,IH.Aq];omega
  .exact VR.pW (g:=g1) (aJ.l8 _ _ _) rfl rfl (aZ _) Nat.one_pos (by simp[g1]) (by simp[g1]) hk (.inr rfl)
def ajw{E:Enc α}(hE:E.n=1){f:fO}{z:ah}{e:aD}{iX:Nat}(hz:VR (λ_=>none) z z)(hzc:cellV z=true)(hI:RU P f z e iX){fn:Func}(hfn:P.funcs[f]? =some fn){body:Code}(hb:fn.body=some body)(hname:fn.name≠ "runtime.NumGoroutine")
 {ad:ak Addr} {xs:ae α} {a:α} {y:E.Y} {x:ah} (hx:E.pat a y=[x]) {vb i:Nat} (hi:i<xs.length) (hn:(xs.length+1)*iX<=140737488355328):
 aX P (.func f) [.slice ad xs.length xs.length,.int .i64 (i:Int),.slice (some ⟨vb,0,some 0⟩) 1 1] [] [ap E (.slice ad xs.length xs.length) xs,pt vb (.cells (E.pat a y))] (E.fs a y)
  (λc:Nat=>.slice (some ⟨c,0,some 1⟩) (xs.length+1) (xs.length+1)) (λc=>[ap E (.slice (some ⟨c,0,some 1⟩) (xs.length+1) (xs.length+1)) (kZ xs i a)]) (λ_=>[]) (λ_=>True):=by
 intro B w s;have hv:At w.h vb (.cells (E.pat a y)):=s.at_ (.there .here);have s2:St B w [ap E (.slice ad xs.length xs.length) xs] (E.fs a y) w:=St.drop (k:=[ap E (.slice ad xs.length xs.length) xs]) s;have hfs:∀f∈E.fs a y,f.p w:=λf hf=>s.facts f hf;obtain⟨S,⟨S1,S2,q1,q2,ee⟩,h2,h3⟩:=s.own;obtain⟨S1',S3,⟨ev,hvb⟩,⟨⟩,ee'⟩:=q2;subst ee' ev;rcases q1 with⟨h,_⟩|⟨b,o,fl,cells,e1,hf,e2,hb',hcl,hel⟩
 .rw[h]at hi;simp at hi
 injection e1 with e1 YR;subst e1 e2 ee;have hne:vb≠b:=λe=>by subst e;simp at h2
 rw[hE,lK]at hcl;rw[hE]at hf;have zq:St B w [pt b (.cells cells)] (E.fs a y) w:=⟨s2.agree,s2.le,s2.fH,⟨[b],⟨[b],[],⟨rfl,hb'⟩,rfl,rfl⟩,s7,λi hi=>h3 i (jl _ hi)⟩,s2.facts⟩
 refine .real (I4 _ (ajn hz hzc hI hfn hb hname hb' (x:=x) (by rw[<- hx];exact hv.2) hne hcl hf hi hn) ?_);rintro r pm h' ⟨rfl,rfl,mv⟩;obtain⟨w',rfl,jY,AV⟩:=zq.move mv;refine⟨rfl,w',w.h.next,rfl,(jY.sub (F':=[]) Sub.nil).zo λS hp=>?_,rfl,trivial⟩;have hdl:(cells.drop o).length=xs.length:=tj
 refine .inr ⟨_,0,1,_,by rw[Ez s6],.inr hE.symm,hp.1,hp.2,by rw[Ez s6,Ez s6,hdl,hE];omega,λk u hk=>?_⟩;rw[Gs s6]at hk;have old:∀t,xs[t]? =some u->(cells.drop o)[t]? =cells[o+t]?:=λt _=>jU;have side:∀t,xs[t]? =some u->(∀j v,j<1->cells[o+t]? =some v->(kZ (cells.drop o) i x)[0+k*E.n+j]? =some v)->∃y,(∀(j:Nat) u',(E.pat u y)[j]? =some u'->(kZ (cells.drop o) i x)[0+k*E.n+j]? =some u')/\∀f∈E.fs u y,f.p w':=λt ht hh=>by
  obtain⟨y',u1,u2⟩:=hel t u ht;refine⟨y',λj u' hj=>?_,λf hf=>f.mono AV (u2 f hf)⟩;have hj1:j<1:=by
   have:=(aV.1 hj).1;rw[E.len,hE]at this;exact this
  have:=u1 j u' hj;rw[hE,lK,show o+t+j=o+t by omega]at this;exact hh j u' hj1 this
 by_cases h1:k<i
 .rw[if_pos h1]at hk;refine side k hk λj v hj hv=>?_;rw[hE,Gs s6,show 0+k*1+j=k by omega,if_pos h1,jU];exact hv
 .rw[if_neg h1]at hk;by_cases h2:k=i
  .rw[if_pos h2]at hk;cases hk;refine⟨y,λj u' hj=>?_,λf hf=>f.mono AV (hfs f hf)⟩;rw[hx]at hj;match j,hj with
   |0,hj=>rw[hE,Gs s6,show 0+k*1+0=k by omega,if_neg h1,if_pos h2];exact hj
   |j+1,hj=>simp at hj
  .rw[if_neg h2]at hk;refine side (k - 1) hk λj v hj hv=>?_;rw[hE,Gs s6,show 0+k*1+j=k by omega,if_neg h1,if_neg h2,jU];exact hv
end Go.Ideal
namespace Go.Ideal
open Go.Sort Go.RowKit Go.Proofs
variable {P:Program}
end Go.Ideal
namespace Go.Ideal
variable {P:Program}
section
variable {B:ae Nat} {w0:Wd} {kl kl':ae OA} {F:ae aI} {K:KO} {ds:ae Tmp} {rest:ae bN} {n:Nat} {l:qr} {D:ae Deferred} {pm:ak FrameMode} {ro:ak Nat} {d:Nat} {g:ak (Tmp×Bool)}
variable{α:Type}
def ajy{E:Enc α}{e:aD}{size bytes b':Nat}{s x:ay}{v:ah}{xs:ae α}{a:α}{y:E.Y}{cs:ae ah}{k1 k2:ae OA}(hn:Nat.blt d n=true)(hg:bO l g=true)
 (hs:ev l s=v) (hx:ev l x=.slice (some ⟨b',0,some 0⟩) 1 1) (hk:aB (ap E v xs) kl k1) (hc:aB (pt b' (.cells cs)) k1 k2) (hp:cs=E.pat a y) (hF:Sub (E.fs a y) F) (hz:E.n=size)
 (hm:(xs.length+1)*bytes<=1073741824/\(xs.length+1)*size<=1073741824/\xs.length+1<=1073741824):
 dI (R (λh=>aM P ds (⟨⟨some d,g,.append e size bytes s x⟩,[]⟩::rest) (act n l D pm ro) h K) B w0 kl F)
  (∀c,R (λh=>aM P ds rest (act n ((d,.slice (some ⟨c,0,some E.n⟩) (xs.length+1) (xs.length+1))::l) D pm ro) h K) B w0 (ap E (.slice (some ⟨c,0,some E.n⟩) (xs.length+1) (xs.length+1)) (xs++[a])::k2) F):=by
 refine⟨λr w st=>?_⟩;subst hp hz;have hlen:=E.len a y;have st2:St B w0 (ap E v xs::pt b' (.cells (E.pat a y))::k2) F w:=st.lF (.cons hk (.cons hc .nil));have hat:At w.h b' (.cells (E.pat a y)):=st2.at_ (.there .here);have pG:St B w0 (ap E v xs::k2) F w:=(st2.fI (.there .here)).tail;have hfs:∀f∈E.fs a y,f.p w:=λf hf=>st.facts f (hF.mem f hf);have hread:w.h.jd b' 0 (1*E.n)=some (E.pat a y):=by
  exact lP
 have hx1:ql (ev l x)=some (0+1):=by rw[hx];rfl
 have hx2:pE E.n (0+1) (ev l x) w.h=some (E.pat a y):=AT
 have put:∀(w':Wd) (c:Nat) (f:Nat) (cells:ae ah),cells.length=xs.length*E.n->(∀(k:Nat) z,xs[k]? =some z->∃y,(∀(j:Nat) u,(E.pat z y)[j]? =some u->cells[k*E.n+j]? =some u)/\∀f∈E.fs z y,f.p w')->(∀f∈E.fs a y,f.p w')->
  (f=0\/f=E.n)->∀S,(pt c (.cells (cells++E.pat a y))).p w' S->(ap E (.slice (some ⟨c,0,some f⟩) (xs.length+1) (xs.length+1)) (xs++[a])).p w' S:=by
  intro w' c f cells h1 h2 h3 h4 S hp;refine .inr ⟨c,0,f,_,by rw[eF];rfl,h4,hp.1,hp.2,by rw[eF,eF,h1,hlen,u7,rD,Ad,eB],λk z hk=>?_⟩;by_cases hlt:k<xs.length
  .exact ew
  .exact cU
 obtain⟨S,⟨S1,S2,q,q2,e1⟩,hnd,hown⟩:=pG.own;rcases q with⟨rfl,rfl,rfl⟩|⟨b,o,f,cells,rfl,hf,rfl,hb,hcl,hel⟩
 .exact da
 .exact cD
def RY(E:Enc α){e:aD}{size bytes b':Nat}{s x:ay}{v:ah}{xs:ae α}(a:α)(y:E.Y){cs:ae ah}{k1 k2:ae OA}
 (hm:(xs.length+1)*bytes<=1073741824/\(xs.length+1)*size<=1073741824/\xs.length+1<=1073741824)
 (next:∀c,R (λh=>aM P ds rest (act n ((d,.slice (some ⟨c,0,some E.n⟩) (xs.length+1) (xs.length+1))::l) D pm ro) h K) B w0 (ap E (.slice (some ⟨c,0,some E.n⟩) (xs.length+1) (xs.length+1)) (xs++[a])::k2) F)
 (hn:Nat.blt d n=true:=by rfl) (hg:bO l g=true:=by rfl)
 (hs:ev l s=v:=by conv=>lhs;whnf) (hx:ev l x=.slice (some ⟨b',0,some 0⟩) 1 1:=by rfl) (hk:aB (ap E v xs) kl k1:=by exact dU) (hc:aB (pt b' (.cells cs)) k1 k2:=by exact dU) (hp:cs=E.pat a y:=by rfl) (hF:Sub (E.fs a y) F:=by exact mo) (hz:E.n=size:=by rfl):
 R (λh=>aM P ds (⟨⟨some d,g,.append e size bytes s x⟩,[]⟩::rest) (act n l D pm ro) h K) B w0 kl F:=
 (ajy hn hg hs hx hk hc hp hF hz hm).h next
def gv(f:Nat):ak Nat->Nat->ah
 |none,_=>.slice none 0 0
 |some c,n=>.slice (some ⟨c,0,some f⟩) n n
def ajz{E:Enc α}{c:ak Nat}{xs:ae α}{w:Wd}{S:ae Nat}(h:(ap E (gv E.n c xs.length) xs).p w S)(h0:0<xs.length):∃b cells,gv E.n c xs.length=.slice (some ⟨b,0,some E.n⟩) xs.length xs.length/\S=[b]/\w.h.get b=some (.cells cells)/\cells.length=xs.length*E.n/\
 ∀(k:Nat) x,xs[k]? =some x->∃y,(∀(j:Nat) u,(E.pat x y)[j]? =some u->cells[k*E.n+j]? =some u)/\∀f∈E.fs x y,f.p w:=by
 rcases h with⟨h,_⟩|⟨b,o,f,cells,h1,h2,h3,h4,h5,h6⟩
 .rw[h]at h0;simp at h0
 .cases c with
  |none=>simp[gv]at h1
  |some c=>
   simp only[gv,Value.slice.injEq,aN,Addr.mk.injEq]at h1;obtain⟨⟨rfl,rfl,h1⟩,_⟩:=h1;refine⟨c,cells,rfl,h3,h4,by rw[h5,eB],λk x hk=>?_⟩;obtain⟨y,q1,q2⟩:=h6 k x hk;exact⟨y,λj u hj=>by have:=q1 j u hj;rwa [eB]at this,q2⟩
def ajA{E:Enc α}{xs:ae α}{Q:IH->Prop}(h0:0<xs.length)(hk:aB (ap E (.slice none 0 0) xs) kl kl':=by exact dU):R Q B w0 kl F:=λw s=>by
 obtain⟨S,⟨S1,S2,q1,q2,e⟩,h2,h3⟩:=(s.fI hk).own;obtain⟨b,cells,h,_⟩:=ajz (c:=none) q1 h0;simp[gv]at h
end
end Go.Ideal
namespace Go.Ideal
variable {P:Program} {B:ae Nat} {w0:Wd} {kl kl' bz:ae OA} {F:ae aI} {K:KO} {ds:ae Tmp} {rest:ae bN} {n:Nat} {l:qr} {D:ae Deferred} {pm:ak FrameMode} {ro:ak Nat} {d:Nat} {g:ak (Tmp×Bool)}
variable{α:Type}{k:Nat}
def ajB{E:Enc α}{aC:ae (α×E.Y)}{p:α×E.Y}(hp:aC[k]? =some p):jM (kw (cO E aC) (k*E.n)) E.n=some (E.pat p.1 p.2):=by
 have hk:=(aV.1 hp).1;have hl:=yE aC;have hm:(k+1)*E.n<=aC.length*E.n:=Nat.mul_le_mul_right _ hk;rw[rD,Ad]at hm;rw[qp,qJ,if_pos tj];congr 1;apply iH;intro j;rw[rE];by_cases hj:j<E.n
 .have hu:(E.pat p.1 p.2)[j]? =some ((E.pat p.1 p.2)[j]'(by rw[E.len];exact hj)):=bG _;rw[if_pos hj,jU,hu];exact yF hp hu
 .rw[if_neg hj,dW (by rw[E.len];omega)]
def RZ{E:Enc α}(a b:ae (α×E.Y)):cO E (a++b)=cO E a++cO E b:=by unfold cO;rw[KQ]
def ajC{E:Enc α}{aC:ae (α×E.Y)}{p:α×E.Y}(hk:k<aC.length):jH (cO E aC) (k*E.n) (E.pat p.1 p.2)=some (cO E (aC.set k p)):=by
 have h1:aC=aC.take k++aC.drop k:=(nE k aC).symm;have hd:aC.drop k=aC[k]::aC.drop (k+1):=nH hk;have h2:cO E aC=cO E (aC.take k)++(E.pat aC[k].1 aC[k].2++cO E (aC.drop (k+1))):=by
  conv=>lhs;rw[h1,hd,RZ]
  rfl
 have h3:k*E.n=(cO E (aC.take k)).length:=by rw[yE,fU,DF s6]
 rw[h2,h3,Nc (by rw[E.len,eF,E.len];omega),E.len,List.drop_append_of_le_length (by rw[E.len];exact aZ _),List.drop_of_length_le (by rw[E.len];exact aZ _),cK];congr 1;have h4:aC.set k p=aC.take k++p::aC.drop (k+1):=by
  conv=>lhs;rw[h1]
  rw[Af _ _ tw,fU,DF s6,nX,hd];rfl
 rw[h4,RZ];rfl
def Gt(E:Enc α){aC:ae (α×E.Y)}{k o b m:Nat}{p:α×E.Y}{x:ay}(hp:aC[k]? =some p)(ho:o=k*E.n)
 (next:R (λh=>aM P ds rest (act n ((d,.agg ⟨E.pat p.1 p.2⟩)::l) D pm ro) h K) B w0 kl F)
 (hx:ev l x=.pointer (some ⟨b,o,none⟩):=by rfl) (hk:aB (pt b (.cells (cO E aC))) kl kl':=by exact dU) (hz:E.n=m:=by rfl) (hn:Nat.blt d n=true:=by rfl) (hg:bO l g=true:=by rfl):
 R (λh=>aM P ds (⟨⟨some d,g,.sH m x⟩,[]⟩::rest) (act n l D pm ro) h K) B w0 kl F:=by
 subst ho hz;exact(Rc hn hg hx hk (ajB hp)).h next
def Zx(E:Enc α){aC:ae (α×E.Y)}{k o b m:Nat}(p:α×E.Y){x y:ay}(hlt:k<aC.length)(ho:o=k*E.n)
 (next:R (λh=>aM P ds rest (act n l D pm ro) h K) B w0 (pt b (.cells (cO E (aC.set k p)))::kl') F)
 (hx:ev l x=.pointer (some ⟨b,o,none⟩):=by rfl) (hy:ev l y=.agg ⟨E.pat p.1 p.2⟩:=by rfl) (hk:aB (pt b (.cells (cO E aC))) kl kl':=by exact dU) (hz:E.n=m:=by rfl) (hg:bO l g=true:=by rfl):
 R (λh=>aM P ds (⟨⟨none,g,.store m x y⟩,[]⟩::rest) (act n l D pm ro) h K) B w0 kl F:=by
 subst ho hz;exact(Re (vs:=E.pat p.1 p.2) hg hx (by rw[hy];rfl) (by rw[xV,E.len];exact HV _) hk (ajC hlt)).h next
variable{b o f m c:Nat}{x:ay}
def Gu{ρ:ay->ah}{Nh Ni:ak ay}{lo hi:Nat}{size:Nat}(hx:ρ x=.slice (some ⟨b,o,some f⟩) m c)(hf:f=0\/f=size)(hs:0<size)(hlo:Nh=none/\lo=0\/∃t,Nh=some t/\ρ t=.int .i64 (lo:Int))(hhi:Ni=none/\hi=m\/∃t,Ni=some t/\ρ t=.int .i64 (hi:Int))(h1:lo<=hi)(h2:hi<=c):
 Pu P ρ (.PE size x Nh Ni none) (.slice (some ⟨b,o+lo*size,some f⟩) (hi - lo) (c - lo)):=λh=>by
 have e3:upTo c (.int .i64 (hi:Int))=some hi:=YB h2;have e4:upTo hi (.int .i64 (lo:Int))=some lo:=YB h1;have hbd:bounds? m c (jI ρ Nh) (jI ρ Ni) none=some (lo,hi,c):=by
  rcases hlo with⟨rfl,rfl⟩|⟨t,rfl,ht⟩<;>rcases hhi with⟨rfl,hm⟩|⟨t',rfl,ht'⟩
  .rw[hm];rfl
  .show bounds? m c none (some (ρ t')) none=_;rw[ht'];show(match upTo c (.int .i64 (hi:Int))with|none=>none|some h=>match some 0 with|none=>none|some l=>some (l,h,c))=_;rw[e3]
  .rw[hm]at e4⊢;show bounds? m c (some (ρ t)) none none=_;rw[ht];show(match upTo m (.int .i64 (lo:Int))with|none=>none|some l=>some (l,m,c))=_;rw[e4]
  .show bounds? m c (some (ρ t)) (some (ρ t')) none=_;rw[ht,ht'];show(match upTo c (.int .i64 (hi:Int))with|none=>none|some h=>match upTo h (.int .i64 (lo:Int))with|none=>none|some l=>some (l,h,c))=_;rw[e3];show(match upTo hi (.int .i64 (lo:Int))with|none=>none|some l=>some (l,hi,c))=_;rw[e4]
 have h3:jI ρ none=none:=rfl;simp only[aK.run,hx,h3,hbd];match f,hf with
 |0,_=>rfl
 |k+1,hf=>
  have hk:k+1=size:=by
   rcases hf with h|h
   .cases h
   .exact h
  show cond (Nat.beq (Nat.succ k) size) (some (Value.slice (some ⟨b,Nat.add o (Nat.mul lo size),some (Nat.succ k)⟩) (hi - lo) (c - lo),h)) none=_;rw[show Nat.beq (Nat.succ k) size=true by rw[show Nat.succ k=size from hk];exact HV _];rfl
def Zy{zero:ae ah}{cs cs':ae ah}(hv:jH cs o (zeros zero m)=some cs')(h0:0<m)
 (next:R (λh=>aM P ds rest (act n l D pm ro) h K) B w0 (pt b (.cells cs')::kl') F)
 (hx:ev l x=.slice (some ⟨b,o,some f⟩) m c:=by rfl) (hk:aB (pt b (.cells cs)) kl kl':=by exact dU) (hg:bO l g=true:=by rfl):
 R (λh=>aM P ds (⟨⟨none,g,.clear zero x⟩,[]⟩::rest) (act n l D pm ro) h K) B w0 kl F:=λw s=>by
 obtain⟨k,rfl⟩:∃k,m=k+1:=⟨m - 1,s6⟩
 exact LH hg (v:=.tuple #[]) (h':=w.h.set b (.cells cs')) (by simp only[aK.run,hx];simp only[IH.storeAt,(s.at_ hk).2,hv]) (next _ ((s.fI hk).write))
def Zz(E:Enc α){xs:ae α}{b f m:Nat}{Q:IH->Prop}(h:∀aC:ae (α×E.Y),aC.map (·.1)=xs->m=xs.length->(f=0\/f=E.n)->R Q B w0 (pt b (.cells (cO E aC))::kl') (qz E aC::F))
 (hk:aB (ap E (.slice (some ⟨b,0,some f⟩) m m) xs) kl kl':=by exact dU):R Q B w0 kl F:=λw s=>by
 have s1:=s.fI hk;obtain⟨S,⟨S1,S2,q1,q2,e⟩,h2,h3⟩:=s1.own;rcases q1 with⟨_,h0,_⟩|⟨b',o',f',cells,h4,h5,h6,h7,h8,h9⟩
 .cases h0
 injection h4 with e1 e2 e3;injection e1 with e1;injection e1 with e1 e4 e5;injection e5 with e5;subst e1 e4 e5 e2;rw[eB]at h8;obtain⟨l,hl,hp⟩:=ML (p:=λk (p:α×E.Y)=>xs[k]? =some p.1/\(∀(j:Nat) u,(E.pat p.1 p.2)[j]? =some u->cells[0+k*E.n+j]? =some u)/\∀f∈E.fs p.1 p.2,f.p w) xs.length (λk hk=>by
  obtain⟨y,q1,q2⟩:=h9 k xs[k] (bG hk);exact⟨(xs[k],y),bG hk,q1,q2⟩)
 have hm:l.map (·.1)=xs:=by
  exact gg
 have hfl:=yE (E:=E) l;have hcells:cells=cO E l:=by
  apply iH;intro j;by_cases hj:j<l.length*E.n
  .have hn0:0<E.n:=by
    exact rL
   have hd:j/E.n<l.length:=by rw[VM hn0];exact hj
   have hmod:=wu j hn0;have hpk:=bG hd;have hu:(E.pat (l[j/E.n]).1 (l[j/E.n]).2)[j%E.n]? =some ((E.pat (l[j/E.n]).1 (l[j/E.n]).2)[j%E.n]'(by rw[E.len];exact hmod)):=bG _;have u1:=(hp _ _ hpk).2.1 (j%E.n) _ hu;have u2:=yF hpk hu;have Ct:j/E.n*E.n+j%E.n=j:=DB
   rw[eB,Ct]at u1;rw[Ct]at u2;rw[u1,u2]
  .rw[dW (by rw[h8,<- hl];omega),dW s6]
 refine h l hm rfl h5 w ⟨s1.agree,s1.le,s1.fH,⟨S,⟨S1,S2,⟨h6,by rw[<- hcells];exact h7⟩,q2,e⟩,h2,h3⟩,λg hg=>?_⟩;rcases bH.1 hg with rfl|hg
 .intro p hp' g hg;obtain⟨k,hk⟩:=yY.1 hp';exact(hp k p hk).2.2 g hg
 .exact s1.facts g hg
def Nj(E:Enc α){aC:ae (α×E.Y)}{rest':ae ah}{b f c:Nat}{Q:IH->Prop}(hf:f=0\/f=E.n)(hc:aC.length<=c)(h:R Q B w0 kl' (aj E (.slice (some ⟨b,0,some f⟩) aC.length c) (aC.map (·.1))::F))
 (ha:∀w,(∀f∈F,f.p w)->(qz E aC).p w) (hk:aB (pt b (.cells (cO E aC++rest'))) kl kl':=by exact dU):R Q B w0 kl F:=λw s=>by
 have hall:=ha w s.facts;obtain⟨w',hw,s'⟩:=(s.fI hk).freeze (fs:=[⟨λw=>Fz w b (cO E aC++rest'),λa h=>h.mono a⟩]) (λw w' S hp hle hh hz g hg=>by
  rw[bA.1 hg];exact⟨hz b (by rw[hp.1];exact bA.2 rfl),.inl (by rw[hh];exact hp.2)⟩)
 have hfz:Fz w' b (cO E aC++rest'):=s'.facts _ (dD ..);have Lu:=ha w' λf hf=>s'.facts f (nD _ hf);rw[<- hw];refine h w' ⟨s'.agree,s'.le,s'.fH,s'.own,λg hg=>?_⟩;rcases bH.1 hg with rfl|hg
 .refine .inr ⟨b,0,f,c,_,⟨by rw[aR],by rw[aR];exact hc,hf⟩,hfz,λk x hk=>?_⟩;rw[bU]at hk;cases hp:aC[k]? with
  |none=>rw[hp]at hk;cases hk
  |some p=>
   rw[hp]at hk;cases hk;refine⟨p.2,λj u hj=>?_,Lu p (aT hp)⟩;have:=yF hp hj;rw[eB,jL (aV.1 this).1];exact this
 .exact s'.facts g (nD _ hg)
def ZA(E:Enc α){v:ah}{aC:ae (α×E.Y)}{Q:IH->Prop}(h0:aC=[]->∀c,v=.slice none 0 c->R Q B w0 kl F)(h1:aC=[]->∀i o f c,v=.slice (some ⟨i,o,some f⟩) 0 c->R Q B w0 kl F)
 (h2:0<aC.length->∀i o f c,v=.slice (some ⟨i,o,some f⟩) aC.length c->R Q B w0 kl F) (hf:vK E v aC∈F:=by exact iN):R Q B w0 kl F:=λw s=>by
 rcases s.facts _ hf with⟨e,a,c,hv,hg⟩|⟨i,o,f,c,cells,⟨hv,_⟩,_⟩
 .exact kx
 .exact nl
def Nk{E:Enc α}{v:ah}{xs:ae α}{Q:IH->Prop}(h:∀a,v=.slice a xs.length xs.length->(xs=[]->a=none\/∃b o,a=some ⟨b,o,some 0⟩\/a=some ⟨b,o,some E.n⟩)->R Q B w0 kl F)(hk:aB (ap E v xs) kl kl':=by exact dU):R Q B w0 kl F:=λw s=>by
 obtain⟨S,⟨S1,S2,q1,q2,e⟩,h2,h3⟩:=(s.fI hk).own;rcases q1 with⟨rfl,h1,_⟩|⟨b,o,f,cells,h4,h5,_⟩
 .exact h none h1 (λ_=>.inl rfl) w s
 .refine h _ h4 (λ_=>.inr ⟨b,o,?_⟩) w s;rcases h5 with h5|h5
  .subst h5;exact .inl rfl
  .subst h5;exact .inr rfl
end Go.Ideal
namespace Go.Ideal
inductive Ren(σ:Nat->Nat)(m n:Nat):Value->Value->Prop
 |free {v:Value} (h:dG v=true):Ren σ m n v v
 |sl {i o k c:Nat} {s:Option Nat} (h1:m<=i) (h2:i<n):Ren σ m n (.slice (some ⟨i,o,s⟩) k c) (.slice (some ⟨σ i,o,s⟩) k c)
inductive uE(σ:Nat->Nat)(m n:Nat):List Value->List Value->Prop
 |nil:uE σ m n [] []
 |cons {v v':Value} {l l':List Value} (h:Ren σ m n v v') (hl:uE σ m n l l'):uE σ m n (v::l) (v'::l')
variable{σ:Nat->Nat}{m n:Nat}{v v':ah}
def Ren.vr{β β':aJ}{w:ah}(hr:Ren σ m n v v')(hv:VR β v' w)(hβ:∀i,m<=i->i<n->β' i=β (σ i)):VR β' v w:=by
 cases hr with
 |free h=>
  rw[hv.rM h];exact VR.free h
 |sl h1 h2=>
  cases hv with
  |az h hb hn ha=>exact .az ((hβ _ h1 h2).trans h) hb hn ha
  |pW h hb hs hn hz hl ht hc ha=>exact .pW ((hβ _ h1 h2).trans h) hb hs hn hz hl ht hc ha
def uE.len{σ:Nat->Nat}{m n:Nat}:∀{l l':ae ah},uE σ m n l l'->l'.length=l.length
 |_,_,.nil=>rfl
 |_,_,.cons _ hl=>by simp[uE.len hl]
def uE.get{σ:Nat->Nat}{m n:Nat}:∀{l l':ae ah},uE σ m n l l'->∀{j:Nat} {v:ah},l[j]? =some v->∃v',l'[j]? =some v'/\Ren σ m n v v'
 |_,_,.nil,j,v,h=>by simp at h
 |_,_,.cons h hl,0,v,e=>by simp at e;subst e;exact⟨_,rfl,h⟩
 |_,_,.cons h hl,j+1,v,e=>by simpa using uE.get hl tt
def Ren.cell(h:Ren σ m n v v')(hc:cellV v'=true):cellV v=true:=by
 cases h with
 |free _=>exact hc
 |sl _ _=>rfl
def uE.cells{σ:Nat->Nat}{m n:Nat}:∀{l l':ae ah},uE σ m n l l'->l'.all cellV=true->l.all cellV=true
 |_,_,.nil,_=>rfl
 |_,_,.cons h hl,hc=>by
  simp only[Pb,eP]at hc⊢;exact⟨h.cell hc.1,uE.cells hl hc.2⟩
structure atg(n0 n2:Nat)(lv:List Value)(l2:List (Nat×dL))(e:List Value×List (Nat×dL))(σ:Nat->Nat):Prop where
 val:uE σ n0 n2 lv e.1
 up:∀j,n0<=j->j<n2->n0<=σ j
 inj:∀i j,n0<=i->n0<=j->i<n2->j<n2->σ i=σ j->i=j
 get:∀p∈l2,n0<=p.1->∃cs cs',p.2=.cells cs/\(σ p.1,.cells cs')∈e.2/\uE σ n0 n2 cs cs'
end Go.Ideal
namespace Go.Ideal
variable {P:Program}
def Gv{α:Type}(P:Program)(vals:α->ae ah)(fn:Fn)(first cap:ae ah)(O:ae OA)(F:ae aI)(X:ae α->Prop):Prop:=
 ∀(S:Type) (inv:S->ae OA) (ok:ae α->S->Prop) (step:S->α->S×Bool) (s0:S) (tq:Fn) (y1 y2:ae ah) (F':ae aI),ok [] s0->
  (∀vs s x rest,ok vs s->X (vs++x::rest)->(step s x).2=true->ok (vs++[x]) (step s x).1)->
  (∀vs s x rest,ok vs s->X (vs++x::rest)->aX P tq (y1++vals x) y2 (inv s) F' (λ_:Unit=>.bool (step s x).2) (λ_=>inv (step s x).1) (λ_=>[]) (λ_=>True))->
  aX P fn (first++[.func tq ⟨y1⟩ ⟨y2⟩]) cap (inv s0++O) (F++F') (λ_:ae α=>.tuple ⟨[]⟩) (λxs=>inv (dA step s0 xs)++O) (λ_=>[]) X
section
variable {B:ae Nat} {w0:Wd} {kl kl' bz:ae OA} {F:ae aI} {K:KO} {n:Nat} {l:qr} {D:ae Deferred} {pm:ak FrameMode} {ro:ak Nat}
variable{S α Z:Type}{ps:ae Tmp}{assign body:dz}{fn:Fn}{first captured:ae ah}{O:ae OA}{F1:ae aI}
def ajD{f:ay}{vals:α->ae ah}{X:ae α->Prop}(step:S->α->S×Out)(inv:S->ae OA)(ok:ae α->S->Prop)(s0:S)(h0:ok [] s0)
 (hok:∀vs s x rest,ok vs s->X (vs++x::rest)->(step s x).2=.normal->ok (vs++[x]) (step s x).1) (hit:Gv P vals fn first captured O F1 X)
 (hf:ev l f=.func fn ⟨first⟩ ⟨captured⟩) (hps:ps.all (λp=>Nat.blt p n)=true) (hlen:∀x,ps.length=(vals x).length) (hk:aF (inv s0++O) kl bz) (hF:Sub F1 F) (jC:∀s x,AZ (step s x).2)
 (l3:α->Z->qr) (k3:α->Z->ae OA)
 (ha:∀(s:S) (x:α) (lo:Nat) (o:dL) B w0,R (λh=>EV P assign (act n ((ps.zip (vals x)).reverse++l) [] none (some lo)) h (CJ B w0 n (l3 x) lo o (λz=>k3 x z++inv s) F)) B w0 (pt lo o::inv s) F)
 (hb:∀(vs:ae α) (s:S) (x:α) (rest:ae α) (z:Z) (lo:Nat) (L:pz) B w0,ok vs s->X (vs++x::rest)->R (λh=>EV P body (act n (l3 x z) [] none (some lo)) h (A7 B w0 lo L (λ_:Unit=>(step s x).2) (λ_=>inv (step s x).1) (λ_=>[]) (λ_=>True))) B w0 (pt lo (.loop (wT L))::(k3 x z++inv s)) F)
 (next:∀r xs,X xs->R (λh=>K (iO step s0 xs).2 (act n l ({target:=.collected r,args:= #[]}::D) pm none) h) B w0 ((inv (iO step s0 xs).1++O)++(pt r (.jo true)::bz)) F):
 R (λh=>EV P (.rangeFunc f ps assign body) (act n l D pm none) h K) B w0 kl F:=by
 refine Rp (Y:=ae α) (k1:=inv s0++O) (F1:=F1++F) (Jr:=λ_=>.tuple ⟨[]⟩) (out:=λxs=>(iO step s0 xs).2) (k1':=λxs=>inv (iO step s0 xs).1++O) (fs:=λ_=>[]) (pr:=X) hf ?_ hk (hF.app (Sub.refl' F [])) (λr y hy=>next r y hy);intro lo r;have:=hit (S×Out) (λso=>pt lo (.loop (mE ⟨.ready,none,iD l,n,ps,assign,body,r⟩ so.2))::inv so.1) (λvs so=>so.2=.normal/\ok vs so.1) (λso x=>(step so.1 x,lV (step so.1 x).2)) (s0,.normal) (.yield lo) [] [] F ⟨rfl,h0⟩
  (λvs so x rest ho hx h=>by
    exact cW)
  (λvs so x rest ho hx=>by
    exact cE)
 have e:(λxs:ae α=>(pt lo (.loop (mE ⟨.ready,none,iD l,n,ps,assign,body,r⟩ (dA (λ(so:S×Out) x=>(step so.1 x,lV (step so.1 x).2)) (s0,.normal) xs).2))::inv (dA (λ(so:S×Out) x=>(step so.1 x,lV (step so.1 x).2)) (s0,.normal) xs).1)++O)=λxs=>pt lo (.loop (mE ⟨.ready,none,iD l,n,ps,assign,body,r⟩ (iO step s0 xs).2))::(inv (iO step s0 xs).1++O):=by
  funext xs
  rw[MP];rfl
 have h2:aX P fn (first++[.func (.yield lo) ⟨[]⟩ ⟨[]⟩]) captured (pt lo (.loop ⟨.ready,none,iD l,n,ps,assign,body,r⟩)::(inv s0++O)) (F1++F) (λ_:ae α=>.tuple ⟨[]⟩) (λxs=>(pt lo (.loop (mE ⟨.ready,none,iD l,n,ps,assign,body,r⟩ (dA (λ(so:S×Out) x=>(step so.1 x,lV (step so.1 x).2)) (s0,.normal) xs).2))::inv (dA (λ(so:S×Out) x=>(step so.1 x,lV (step so.1 x).2)) (s0,.normal) xs).1)++O) (λ_=>[]) X:=this;rw[e]at h2;exact h2
def ajE{f:ay}{vals:α->ae ah}{X:ae α->Prop}(step:S->α->S×Out)(inv:S->ae OA)(ok:ae α->S->Prop)(s0:S)(l3:α->Z->qr)(k3:α->Z->ae OA)(h0:ok [] s0)
 (hok:∀vs s x rest,ok vs s->X (vs++x::rest)->(step s x).2=.normal->ok (vs++[x]) (step s x).1) (hit:Gv P vals fn first captured O F1 X)
 (ha:∀(s:S) (x:α) (lo:Nat) (o:dL) B w0,R (λh=>EV P assign (act n ((ps.zip (vals x)).reverse++l) [] none (some lo)) h (CJ B w0 n (l3 x) lo o (λz=>k3 x z++inv s) F)) B w0 (pt lo o::inv s) F)
 (hb:∀(vs:ae α) (s:S) (x:α) (rest:ae α) (z:Z) (lo:Nat) (L:pz) B w0,ok vs s->X (vs++x::rest)->R (λh=>EV P body (act n (l3 x z) [] none (some lo)) h (A7 B w0 lo L (λ_:Unit=>(step s x).2) (λ_=>inv (step s x).1) (λ_=>[]) (λ_=>True))) B w0 (pt lo (.loop (wT L))::(k3 x z++inv s)) F)
 (next:∀r xs,X xs->R (λh=>K (iO step s0 xs).2 (act n l ({target:=.collected r,args:= #[]}::D) pm none) h) B w0 ((inv (iO step s0 xs).1++O)++(pt r (.jo true)::bz)) F)
 (jC:∀s x,AZ (step s x).2)
 (hf:ev l f=.func fn ⟨first⟩ ⟨captured⟩:=by rfl) (hps:ps.all (λp=>Nat.blt p n)=true:=by rfl) (hlen:∀x,ps.length=(vals x).length:=by intro _;rfl)
 (hk:aF (inv s0++O) kl bz:=by exact mW) (hF:Sub F1 F:=by exact mo):
 R (λh=>EV P (.rangeFunc f ps assign body) (act n l D pm none) h K) B w0 kl F:=
 ajD step inv ok s0 h0 hok hit hf hps hlen hk hF jC l3 k3 ha hb next
variable{xs:ae Int}{v:ah}{Q:IH->Prop}
def ZB(hne:0<xs.length)(h:∀b f pre,(f=0\/f=1)->v=.slice (some ⟨b,pre.length,some f⟩) xs.length xs.length->R Q B w0 (pt b (.cells (pre++xs.map (.int .i64)))::kl') F)(hk:aB (ap ai v xs) kl kl':=by exact dU):R Q B w0 kl F:=λw s=>by
 have s1:=s.fI hk;obtain⟨S,⟨S1,S2,q1,q2,e⟩,h2,h3⟩:=s1.own;rcases q1 with⟨h0,_⟩|⟨b,o,f,cells,h4,h5,h6,h7,h8,h9⟩
 .rw[h0]at hne;simp at hne
 .have h8:cells.length=o+xs.length*1:=h8;have hpl:(cells.take o).length=o:=by rw[fU];omega
  have hc:cells=cells.take o++xs.map (.int .i64):=by
   exact dj
  refine h b f (cells.take o) h5 (by rw[hpl];exact h4) w ⟨s1.agree,s1.le,s1.fH,⟨S,⟨S1,S2,⟨h6,by rw[<- hc];exact h7⟩,q2,e⟩,h2,h3⟩,s1.facts⟩
def ZC{b f m:Nat}{pre:ae ah}(hm:m=xs.length)(hf:f=0\/f=1)(h:R Q B w0 (ap ai (.slice (some ⟨b,pre.length,some f⟩) m m) xs::kl') F)(hk:aB (pt b (.cells (pre++xs.map (.int .i64)))) kl kl':=by exact dU):R Q B w0 kl F:=λw s=>by
 subst hm;refine h w ((s.fI hk).Cv (A:=pt b (.cells (pre++xs.map (.int .i64)))) λw S hp=>.inr ⟨b,pre.length,f,_,rfl,hf,hp.1,hp.2,by rw[eF,aR];show _=pre.length+xs.length*1;omega,λk x hx=>⟨(),λj u hj=>?_,λf hf=>by cases hf⟩⟩);exact c7
def ZE{ds:ae Tmp}{rest:ae bN}{d d2:Nat}{g g2:ak (Tmp×Bool)}{x i:ay}(k:Nat)(z:Int){kk:IntKind}(hz:xs[k]? =some z)
 (next:∀b o,R (λh=>aM P ds rest (act n ((d2,.int .i64 z)::(d,.pointer (some ⟨b,o,none⟩))::l) D pm ro) h K) B w0 kl F)
 (hn:Nat.blt d n=true:=by rfl) (hg:bO l g=true:=by rfl) (hn2:Nat.blt d2 n=true:=by rfl) (hg2:∀u,bO ((d,u)::l) g2=true:=by intro _;rfl) (hx:ev l x=v:=by conv=>lhs;whnf) (hi:ev l i=.int kk (k:Int):=by rfl)
 (hk:aB (ap ai v xs) kl kl':=by exact dU):
 R (λh=>aM P ds (⟨⟨some d,g,.jw 1 x i⟩,[]⟩::⟨⟨some d2,g2,.fE (.tmp d)⟩,[]⟩::rest) (act n l D pm ro) h K) B w0 kl F:=by
 intro w s;have s1:=s.fI hk;obtain⟨S,⟨S1,S2,p,p2,e⟩,h2,h3⟩:=s1.own;have hlt:=(aV.1 hz).1;rcases p with⟨h,_⟩|⟨b,o,f,cells,e1,hf,e2,hb,hcl,hel⟩
 .rw[h]at hz;cases hz
 .subst e1;obtain⟨y,u1,_⟩:=hel k z hz;have hc:cells[o+(k:Int).toNat*1]? =some (.int .i64 z):=by
   have:=u1 0 (.int .i64 z) rfl;simpa[ai]using this
  refine LJ hn hg hx hi s6 s6 ?_;have hbS:b∈S:=by rw[e,e2];simp
  exact Jc hn2 (hg2 _) (by show lk _ d=_;simp[lk]) ⟨(h3 b hbS).2.1,hb⟩ hc (next _ _ w s)
end
variable{xs:ae Int}{F:ae aI}{kl:ae OA}
def St.opI{B:ae Nat}{w0 w:Wd}{v:ah}(hne:0<xs.length)(s1:St B w0 (ap ai v xs::kl) F w):∃b f pre,(f=0\/f=1)/\v=.slice (some ⟨b,pre.length,some f⟩) xs.length xs.length/\St B w0 (pt b (.cells (pre++xs.map (.int .i64)))::kl) F w:=by
 obtain⟨S,⟨S1,S2,q1,q2,e⟩,h2,h3⟩:=s1.own;rcases q1 with⟨h0,_⟩|⟨b,o,f,cells,h4,h5,h6,h7,h8,h9⟩
 .rw[h0]at hne;simp at hne
 .have h8:cells.length=o+xs.length*1:=h8;have hpl:(cells.take o).length=o:=by rw[fU];omega
  have hc:cells=cells.take o++xs.map (.int .i64):=by
   exact dj
  exact⟨b,f,cells.take o,h5,by rw[hpl];exact h4,s1.agree,s1.le,s1.fH,⟨S,⟨S1,S2,⟨h6,by rw[<- hc];exact h7⟩,q2,e⟩,h2,h3⟩,s1.facts⟩
variable{pre:ae ah}
def ajG{b f m:Nat}(hm:m=xs.length)(hf:f=0\/f=1)(w:Wd)(S:ae Nat)(hp:(pt b (.cells (pre++xs.map (.int .i64)))).p w S):(ap ai (.slice (some ⟨b,pre.length,some f⟩) m m) xs).p w S:=by
 subst hm;refine .inr ⟨b,pre.length,f,_,rfl,hf,hp.1,hp.2,by rw[eF,aR];show _=pre.length+xs.length*1;omega,λk x hx=>⟨(),λj u hj=>?_,λf hf=>by cases hf⟩⟩;exact c7
variable{cap:ae ah}{Y:Type}{fn:Fn}
def aX.ajH{args:ak Addr->ae ah}{a:ak Addr}{zs:Y->ae Int}{val:Y->ah}{fs:Y->ae aI}{pr:Y->Prop}(hne:0<xs.length)(hl:∀y,(zs y).length=xs.length)
 (h:∀b f pre,(f=0\/f=1)->aX P fn (args (some ⟨b,pre.length,some f⟩)) cap [pt b (.cells (pre++xs.map (.int .i64)))] F val (λy=>[pt b (.cells (pre++(zs y).map (.int .i64)))]) fs pr):
 aX P fn (args a) cap [ap ai (.slice a xs.length xs.length) xs] F val (λy=>[ap ai (.slice a xs.length xs.length) (zs y)]) fs pr:=λB w s=>by
 obtain⟨b,f,pre,hf,ev,s'⟩:=s.opI hne;obtain rfl:a=some ⟨b,pre.length,some f⟩:=by injection ev
 refine .uy _ (h b f pre hf B w s') ?_;rintro r pm h' ⟨h1,w',y,e1,st,e2,e3⟩;exact⟨h1,w',y,e1,st.Cv λw S hp=>ajG (hl y).symm hf w S hp,e2,e3⟩
def aX.weak{args:ae ah}{val:Y->ah}{kl':Y->ae OA}{fs:Y->ae aI}{pr ZF:Y->Prop}(h:aX P fn args cap kl F val kl' fs pr)(hp:∀y,pr y->ZF y):aX P fn args cap kl F val kl' fs ZF:=λB w s=>by
 refine .uy _ (h B w s) ?_;rintro r pm h' ⟨h1,w',y,e1,st,e2,e3⟩;exact⟨h1,w',y,e1,st,e2,hp y e3⟩
variable{k:Nat}{x:Int}
def JI(h:xs[k]? =some x):(pre++xs.map (Value.int .i64))[pre.length+k*1]? =some (.int .i64 x):=by
 rw[jP s6,show pre.length+k*1 - pre.length=k by omega,bU,h];rfl
def JJ:(pre++xs.map (Value.int .i64)).set (pre.length+k*1) (.int .i64 x)=pre++(xs.set k x).map (.int .i64):=by
 rw[Af _ _ s6,show pre.length+k*1 - pre.length=k by omega,pQ]
