/-
  The ideal machine, 82: a call from a heap that is known to the letter, over package variables.
-/
import Derived.Test.YtbdaaopebgcnaaaGreatDoorIdealOM
import Derived.Lib.Bytealg
import Derived.Lib.Atoi
import Derived.Lib.ConvBytes
import Derived.Shelf.SlSortCmp.WholeK
import Derived.Shelf.SlSortCmp.Whole1
import Derived.Sort.EncStr
import Derived.Test.YtbdaaopebgcnaaaGreatDoorIdealPM
import Derived.Deep.Draws
import Derived.Lib.LaidTab
import Derived.Lib.ItoaNum
import Derived.Lib.Itoa
import Derived.Lib.Join
set_option linter.all false
namespace Go.Ideal
theorem ZX{P:Program}{f:FuncId}{fn:Func}(hfn:P.funcs[f]? =some fn){body:Code}(hb:fn.body=some body)(hname:fn.name≠ "runtime.NumGoroutine"){args:List Value}{v:Value}(hv:bE v=true)(ha:args.all bE=true)
 (hC:∀w,Calls P f ⟨args⟩ w λe w'=>e=.returned v/\w'=w) {h:IH}:iG P ⟨.func f,args,[],none⟩ h (λr pm h2=>pm=none/\r=.ok v/\h2=h):=by
 intro β w fn' args' cap' hG hW hf ha' hcap;obtain⟨gP,t1,t2⟩:=yI (P:=P) (q:=⟨.func f,args,[],none⟩) (f:=f) (args:=args) (by simp only[target,gK,fJ]) hf ha' hcap hfn hb hname w;have e2:=aD.EP t2 ha;subst e2;refine⟨_,Frame.enter P f ⟨_⟩ .normal,t1,rfl,λcs0 pI=>?_⟩;obtain⟨e,w',fr,⟨he,hw'⟩,hcomes,hfr,hlv⟩:=hC w cs0;subst he hw';exact⟨.ok v,none,h,β,_,.returned v,cs0,⟨rfl,rfl,rfl⟩,hW,Eff.refl _ _ _ hW.dom,.ok (VR.free hv),.none cs0,.inl ⟨f,_,fr,rfl,hcomes,hfr,hlv.2.2.1,hlv.1,hlv.2.1,hlv.2.2.2⟩⟩
noncomputable def ES(fn:Nat):dO->IH->Option (Value×IH):=λq h=>
 match q with
 |⟨.func f,[.string s,.int .u8 c],[],none⟩=>cond (Nat.beq f fn) (some (.int .i64 (Lib.indexByte s.data.toList c.toNat.toUInt8),h)) none
 |_=>none
theorem ZY{P:Program}{f:FuncId}{fn:Func}(hfn:P.funcs[f]? =some fn){body:Code}(hb:fn.body=some body)(hname:fn.name≠ "runtime.NumGoroutine")
 (hC:∀s c w,Calls P f #[.string s,.int .u8 c] w λe w'=>e=.returned (.int .i64 (Lib.indexByte s.data.toList c.toNat.toUInt8))/\w'=w)
 {q:dO} {h:IH} {v':Value} {h':IH} (hk:ES f q h=some (v',h')):CALL P q h (λr pm h2=>r=.ok v'/\pm=none/\h2=h'):=by
 unfold ES at hk;split at hk
 ·rename_i g s c;cases hcd:Nat.beq g f with
  |false=>rw[hcd]at hk;cases hk
  |true=>
   rw[hcd]at hk;have e:=jl hcd;subst e;injection hk with hk;injection hk with h1 h2;subst h1 h2;refine .uV _ (.real (ZX hfn hb hname rfl rfl λw=>hC s c w)) ?_;rintro r pm h2 ⟨a,b,c⟩;exact⟨b,a,c⟩
 ·cases hk
structure Beyond(w w':World):Prop where
 heap:∀b,b<w.heap.size->w'.heap[b]? =w.heap[b]?
 size:w.heap.size<=w'.heap.size
 os:w'.os=w.os
 tape:w'.tape=w.tape
 output:w'.output=w.output
 drawn:w.drawn<=w'.drawn
theorem WR.beyond{P:Program}{β:ak}{h:IH}{w w':World}(hW:WR P β h w)(hb:Beyond w w'):WR P β h w'/\Eff β h w β h w':=
 ⟨⟨hW.dom,hW.live,λi g o h1 h2=>(hW.obj i g o h1 h2).congr (hb.heap _ (hW.obj i g o h1 h2).lt),hW.inj⟩,
  ⟨λ_ _=>rfl,aC _,λ_ _ h=>h,λ_ _ _=>rfl,aC _,λ_ _ _=>rfl,hb.os,hb.tape,hb.output,hb.size,λb hb' _=>hb.heap b hb',λi g hg hi=>absurd (hW.dom _ _ hg) (by omega),λi g _ _ _ _ hb'=>hb.heap _ hb',hb.drawn⟩⟩
end Go.Ideal
namespace Go.Ideal
open Go.Sort Go.Proofs Go.RowKit Go.Lib Go.Shelf
variable {P:Program}
theorem Beyond.grown{w w':World}(h:Beyond w w'):∃q os,w'=Go.Sort.grow (w.drewN q) os:=by
 refine⟨w'.drawn - w.drawn,w'.heap.extract w.heap.size w'.heap.size,?_⟩;obtain⟨heap,tape,drawn,os,output⟩:=w;obtain⟨heap',tape',drawn',os',output'⟩:=w';obtain⟨h1,h2,h3,h4,h5,h6⟩:=h;dsimp only at h1 h2 h3 h4 h5 h6;subst h3 h4 h5;have e1:heap'=heap++heap'.extract heap.size heap'.size:=by
  apply Ll;intro i;rw[Array.getElem?_append];split
  ·rename_i hi;exact h1 i hi
  ·rename_i hi;rw[Array.getElem?_extract];by_cases hl:i<heap'.size
   ·rw[if_pos (by omega),show heap.size+(i - heap.size)=i by omega]
   ·rw[if_neg (by omega),nY (by omega)]
 have e2:drawn'=drawn+(drawn' - drawn):=by omega
 show World.mk heap' tape' drawn' os' output'=World.mk (heap++heap'.extract heap.size heap'.size) tape' (drawn+(drawn' - drawn)) os' output';rw[<- e1,<- e2]
theorem Eff.beyond{β β':ak}{h h':IH}{w w':World}(hW:WR P β h w)(he:Eff β h w β' h' w')(hl:h'.low=h.next):Beyond w w':=by
 refine⟨λk hk=>?_,he.size,he.os,he.tape,he.output,he.drawn⟩;by_cases hx:∀i g,β i=some g->h.get i≠none->g.b≠k
 ·exact he.keep k hk hx
 ·have hx:∃i g,β i=some g/\h.get i≠none/\g.b=k:=by
   apply Classical.byContradiction;intro hc;exact hx λi g hi hg hb=>hc ⟨i,g,hi,hg,hb⟩
  obtain⟨i,g,hi,hg,rfl⟩:=hx;have hin:=hW.dom i g hi;exact he.mI i g (by rw[hl];exact hin) hin hi hg hk
theorem Pm{f:FuncId}{fn:Func}(hfn:P.funcs[f]? =some fn){body:Code}(hb:fn.body=some body)(hname:fn.name≠ "runtime.NumGoroutine")(xs:Array Value)(w:World):(callFunc f xs).run P w=.ok (.enter f xs) w:=by
 have hn:(fn.name== "runtime.NumGoroutine")=false:=by simpa using hname
 simp only[callFunc,bD,run_program,bF,hfn,hn,hb,Option.isNone_some,qb,if_false,cZ]
theorem ZZ(mM:P.follows .mixedOrders=true){g:FuncId}{fn:Func}(hfn:P.funcs[g]? =some fn){body:Code}(hb:fn.body=some body)(hname:fn.name≠ "runtime.NumGoroutine"){args args' cap cap':List Value}{F:List aB}{n:Int}
 (hC:aT P (.func g) args cap [] F (λ_:Unit=>.int .i64 n) (λ_=>[]) (λ_=>[]) (λ_=>True)) {β:ak} {w:World} {d:Wd} (hlow:d.h.low=d.h.next) (hF:∀f∈F,f.p d) (hG:iO P β) (hW:WR P β d.h w) (ha:aD β args args') (hc:aD β cap cap'):
 Calls P g ((⟨args'⟩:Array Value)++(⟨cap'⟩:Array Value)) w λe w'=>e=.returned (.int .i64 n)/\∃q os,w'=Go.Sort.grow (w.drewN q) os:=by
 have hst:St [] d [] F d:=⟨⟨aC _,λ_ _ _=>rfl,λ_ _=>rfl⟩,Wd.Le.refl d,λi hi hz=>.inl hz,⟨[],rfl,Gl,by simp⟩,hF⟩
 have hM:=Iu mM (hC [] d hst);obtain⟨nx,F0,n1,n2,n3⟩:=hM β w (.func g) args' cap' hG hW (.func g) ha hc;have hnx:nx=.enter g ((⟨args'⟩:Array Value)++(⟨cap'⟩:Array Value)):=by
  have n1:(invoke (.fn (.func g) ⟨cap'⟩) ⟨args'⟩).run P w=.ok nx w:=n1;simp only[invoke]at n1;rw[Pm hfn hb hname]at n1;cases n1;rfl
 subst hnx;have wX:F0=Frame.enter P g ((⟨args'⟩:Array Value)++(⟨cap'⟩:Array Value)) .normal:=by
  have:entry P .normal (.enter g ((⟨args'⟩:Array Value)++(⟨cap'⟩:Array Value)))=some (Frame.enter P g ((⟨args'⟩:Array Value)++(⟨cap'⟩:Array Value)) .normal):=rfl;have n2:entry P .normal (.enter g ((⟨args'⟩:Array Value)++(⟨cap'⟩:Array Value)))=some F0:=n2;rw[this]at n2;exact(Option.some.inj n2).symm
 subst wX;intro cs;obtain⟨r,pm',h',β',w',r',cs1,q1,q2,q3,q4,q5,q6⟩:=n3 cs (by intro m hm;cases hm);obtain⟨hp,d2,_,rfl,hs2,rfl,_⟩:=q1;have Z0:=hs2.agree.low (by rw[hlow];exact aC _) (by simp);cases q5;cases q4 with
 | @ok v v' lF=>
   have:=lF.j4;subst this;rcases q6 with⟨f1,a1,F1,e1,e2,e3,e4,e5⟩|⟨⟨_,l,e1⟩,_⟩
   ·cases e1;refine⟨.returned _,w',F1,⟨rfl,(q3.beyond hW (Z0.trans hlow)).grown⟩,e2,e3,?_⟩;obtain⟨t1,t2,fn,t3,t4⟩:=e5;exact⟨t1,t2,e4,fn,t3,t4⟩
   ·cases e1
def ET(P:Program)(f:FuncId)(k:Nat)(wr:List Value->Value):Prop:=∀(α:Type) [Inhabited α] (enc:α->List Value) (cf:α->α->Int) (g:FuncId) (cb:Array Value) (blk off cap:Nat) (d:Array α) (w:World),
 (∀x,(enc x).length=k)->(∀x,∀v∈enc x,v.oneCell'=true)->SWO (ltOf cf)->(∀args w,(callFunc g args).run P w=.ok (.enter g args) w)->
 (∀(m:Nat) (os:Array Obj) (dk:Array α),dk.size=d.size->∀x y:α,Calls P g (#[wr (enc x),wr (enc y)]++cb) (sortWorldK enc k w blk off m dk os) λe w'=>e=.returned (.int .i64 (cf x y))/\∃q os',w'=Go.Sort.grow ((sortWorldK enc k w blk off m dk os).drewN q) os')->
 HoldsK enc k w blk off d->blk<w.heap.size->d.size<4611686018427387904->
 Calls P f #[.slice (some ⟨blk,off,none⟩) d.size cap,.func (.func g) #[] cb] w λe w'=>e=.returned (.tuple #[])/\∃d' n os,PermIn 0 d.size d d'/\SortedIn (ltOf cf) 0 d.size d'/\w'=sortWorldK enc k w blk off n d' os
def pU(l:List Value):Value:=l.headD .nilFunc
structure El{X:Type}(β:ak)(E:Enc X)(xs:List X)(d:Wd) where
 x:X
 y:E.Y
 v:List Value
 mem:x∈xs
 rel:aD β (E.pat x y) v
 cell:(E.pat x y).all cellV=true
 fs:∀f∈E.fs x y,f.p d
theorem aD.oneCell{β:ak}{vs vs':List Value}(hv:aD β vs vs')(hall:vs.all cellV=true):∀v∈vs',v.oneCell'=true:=λv hv'=>by
 obtain⟨j,hj⟩:=oM hv';have hjl:j<vs.length:=by
  have:=(dU.1 hj).1;rw[hv.length]at this;exact this
 obtain⟨v2,hv2,hr⟩:=hv.get (bH hjl);rw[hv2]at hj;cases hj;have hc:=(jA.1 hall) _ (List.getElem_mem hjl);obtain⟨a,b⟩:=hr.cellV hc;cases v<;>first|rfl|exact absurd rfl (a _)|exact absurd rfl (b _)
noncomputable def Wd.but(d:Wd)(b:Nat):Wd:=⟨⟨(d.h.kill b).t,d.h.next,d.h.next⟩,d.z,d.gX⟩
theorem Wd.zl(d:Wd)(b i:Nat):(d.but b).h.get i=if i=b then none else d.h.get i:=by
 show(d.h.kill b).get i=_;exact IH.o8 _ _ _
theorem Wd.Z4{d:Wd}{b:Nat}(hz:¬d.z b):d.Le (d.but b):=⟨aC _,λ_ h=>h,λi hi=>by rw[Wd.zl,if_neg (λe:i=b=>hz (e▸hi))]⟩
theorem Z5{α:Type}[Inhabited α](enc:α->List Value)(k:Nat)(w:World)(blk off m:Nat)(dk:Array α)(os:Array Obj){b:Nat}(hb:b<w.heap.size)(hne:b≠blk):(sortWorldK enc k w blk off m dk os).heap[b]? =w.heap[b]?:=by
 show((w.heap.modify blk _)++os)[b]? =_;rw[Lp (by rw[Array.size_modify];exact hb),Array.getElem?_modify,if_neg (λe=>hne e.symm)]
theorem WR.Z6{α:Type}[Inhabited α]{β:ak}{d:Wd}{w:World}(hW:WR P β d.h w){b:Nat}{g:fD}{cs:List Value}(hi:β b=some g)(hg:d.h.get b=some (.cells cs))(enc:α->List Value)(k off m:Nat)(dk:Array α)(os:Array Obj):
 WR P β (d.but b).h (sortWorldK enc k w g.b off m dk os):=by
 refine⟨hW.dom,λi o h=>?_,λi g' o h1 h2=>?_,λi j g1 g2 h1 h2 h3 h4 h5 h6=>?_⟩
 ·rw[Wd.zl]at h;split at h
  ·cases h
  ·exact hW.live i o h
 ·rw[Wd.zl]at h2;split at h2
  ·cases h2
  ·rename_i hib;have hO:=hW.obj i g' o h1 h2;refine hO.congr (Z5 enc k w g.b off m dk os hO.lt λe=>hib ?_);exact hW.inj i b g' g h1 hi (by rw[h2];simp) (by rw[hg];simp) (.inr λcs2=>by rw[hg];simp) e
 ·rw[Wd.zl]at h3 h4;rw[Wd.zl,Wd.zl]at h5;split at h3
  ·exact absurd rfl h3
  split at h4
  ·exact absurd rfl h4
  rename_i n1 n2;rw[if_neg n1,if_neg n2]at h5;exact hW.inj i j g1 g2 h1 h2 h3 h4 h5 h6
theorem List.Z7{α:Type}{R:α->α->Prop}{l:List α}(h:∀(i j:Nat) x y,i<j->l[i]? =some x->l[j]? =some y->R x y):l.Pairwise R:=
 List.pairwise_iff_getElem.2 λi j hi hj hij=>h i j _ _ hij (bH hi) (bH hj)
theorem Z8(mM:P.follows .mixedOrders=true){f g:FuncId}{k:Nat}{wr:List Value->Value}(hwr:∀{β:ak} {vs vs':List Value},vs.length=k->vs.all cellV=true->aD β vs vs'->VR β (wr vs) (wr vs'))(hS:ET P f k wr){fn:Func}(hfn:P.funcs[f]? =some fn){body:Code}(hb:fn.body=some body)(hname:fn.name≠ "runtime.NumGoroutine"){gn:Func}(hgn:P.funcs[g]? =some gn){EU:Code}(hgb:gn.body=some EU)(EW:gn.name≠ "runtime.NumGoroutine")
 {X:Type} {E:Enc X} (hE:E.n=k) (hk0:0<k) {xs:List X} {cf:X->X->Int} (hO:SWO (ltOf cf)) {cap:List Value} {F:List aB}
 (hC:∀x∈xs,∀y∈xs,∀a b,aT P (.func g) [wr (E.pat x a),wr (E.pat y b)] cap [] (E.fs x a++(E.fs y b++F)) (λ_:Unit=>.int .i64 (cf x y)) (λ_=>[]) (λ_=>[]) (λ_=>True))
 {d:Wd} {b o c:Nat} {fl:Option Nat} {cs:List Value} (hg:d.h.get b=some (.cells cs)) (hz:¬d.z b) (hF:∀f∈F,f.p d)
 (hel:∀(j:Nat) x,xs[j]? =some x->∃y,(∀(t:Nat) u,(E.pat x y)[t]? =some u->cs[o+j*E.n+t]? =some u)/\∀f∈E.fs x y,f.p d) (hcs:cs.length=o+xs.length*E.n) (hne:0<xs.length) (hlen:xs.length<4611686018427387904):
 iG P ⟨.func f,[.slice (some ⟨b,o,fl⟩) xs.length c,.func (.func g) ⟨[]⟩ ⟨cap⟩],[],none⟩ d.h (λr pm h2=>pm=none/\r=.ok (.tuple ⟨[]⟩)/\∃(zs:List (X×E.Y)) (cs2:List Value),(zs.map (·.1)).Perm xs/\(zs.map (·.1)).Pairwise (λx y=>¬cf y x<0)/\cs2.length=cs.length/\
  (∀(j:Nat) p,zs[j]? =some p->(∀(t:Nat) u,(E.pat p.1 p.2)[t]? =some u->cs2[o+j*E.n+t]? =some u)/\∀f∈E.fs p.1 p.2,f.p d)/\h2=d.h.set b (.cells cs2)):=by
 subst hE;intro β w fn' args' cap' hG hW hf ha hcap;obtain⟨gP,t1,t2⟩:=yI (P:=P) (q:=⟨.func f,[.slice (some ⟨b,o,fl⟩) xs.length c,.func (.func g) ⟨[]⟩ ⟨cap⟩],[],none⟩) (f:=f) (args:=[.slice (some ⟨b,o,fl⟩) xs.length c,.func (.func g) ⟨[]⟩ ⟨cap⟩]) (by simp only[target,gK,fJ]) hf ha hcap hfn hb hname w;cases t2 with|cons hv tl=>
 cases tl with|cons hv2 tl=>
 cases tl;obtain⟨gi,a,c',hi,rfl,hab,_,hn,hcc,hao,_⟩:=hv.kJ;obtain⟨fn2,f2,cb,hfr2,hf2,hcb,rfl⟩:=hv2.uQ;cases hfr2;cases hf2;have hao:a.off=gi.off+o/\a.spot=none:=by
  rcases hao with e|e
  ·omega
  ·exact e
 obtain⟨⟨c0,t0,fz0,hh⟩,q2,q3,q4,q5,q6⟩:=hW.obj b gi _ hi hg;have ea:a=⟨gi.b,gi.off+o,none⟩:=by
  obtain⟨ab,ao,asp⟩:=a;simp only at hab hao;rw[hab,hao.1,hao.2]
 subst ea;have hlt:gi.b<w.heap.size:=(Lm.1 hh).1;have Z9:∀j t,j<xs.length->t<E.n->o+j*E.n+t<cs.length:=λj t hj ht=>by
  have:=Nat.mul_le_mul_right E.n (show j+1<=xs.length from hj);rw[lg,xV]at this;omega
 let cellOf:Nat->Value:=λt=>(w.cell? ⟨gi.b,gi.off+o+t,none⟩).getD .nilFunc
 have hcell:∀t,t<xs.length*E.n->w.cell? ⟨gi.b,gi.off+o+t,none⟩=some (cellOf t)/\w.frozen? ⟨gi.b,gi.off+o+t,none⟩=false:=λt ht=>by
  obtain⟨r1,r2⟩:=q4 (gi.off+o+t) (by omega);refine⟨?_,r2⟩;obtain⟨v,hv⟩:=Li.1 r1;show _=some ((w.cell? ⟨gi.b,gi.off+o+t,none⟩).getD .nilFunc);rw[hv];rfl
 have hex:∀j,j<xs.length->∃e:El β E xs d,xs[j]? =some e.x/\e.v=(List.range E.n).map λt=>cellOf (j*E.n+t):=λj hj=>by
  have hx:xs[j]? =some xs[j]:=bH hj;obtain⟨y,h1,h2⟩:=hel j _ hx;refine⟨⟨xs[j],y,(List.range E.n).map λt=>cellOf (j*E.n+t),List.getElem_mem hj,?_,?_,h2⟩,hx,rfl⟩
  ·refine aD.GI (by rw[bI,Lt,E.len]) λt v ht=>?_;have htn:t<E.n:=by have:=(dU.1 ht).1;rw[E.len]at this;exact this
   obtain⟨v',r1,r2⟩:=q6 _ v (h1 t v ht);refine⟨v',?_,r2⟩;rw[cK,zN htn,iJ];show some ((w.cell? ⟨gi.b,gi.off+o+(j*E.n+t),none⟩).getD .nilFunc)=_;rw[show gi.off+o+(j*E.n+t)=gi.off+(o+j*E.n+t)by omega,r1];rfl
  ·rw[jA]at q5⊢;intro v hv;obtain⟨t,ht⟩:=oM hv;exact q5 v (dA (h1 t v ht))
 have e0:El β E xs d:=Classical.choice (by obtain⟨e,_⟩:=hex 0 hne;exact⟨e⟩)
 haveI:Inhabited (El β E xs d):=⟨e0⟩
 obtain⟨el,Pn⟩:∃el:Nat->El β E xs d,∀j,j<xs.length->xs[j]? =some (el j).x/\(el j).v=(List.range E.n).map λt=>cellOf (j*E.n+t):=
  ⟨λj=>if h:j<xs.length then Classical.choose (hex j h)else e0,λj hj=>by dsimp only;rw[dif_pos hj];exact Classical.choose_spec (hex j hj)⟩
 let D:Array (El β E xs d):=((List.range xs.length).map el).toArray
 have hDs:D.size=xs.length:=by simp[D]
 have hDg:∀j,j<xs.length->D[j]! =el j:=λj hj=>by
  rw[getElem!_pos D j (by rw[hDs];exact hj)];simp[D]
 have hDx:D.toList.map (·.x)=xs:=by
  apply jX;intro j;by_cases hj:j<xs.length
  ·rw[(Pn j hj).1];simp[D,hj]
  ·rw[iX (l:=xs) (by omega),iX (by simp[D];omega)]
 have hlv:∀e:El β E xs d,e.v.length=E.n:=λe=>by rw[e.rel.length,E.len]
 have hH:HoldsK (λe:El β E xs d=>e.v) E.n w gi.b (gi.off+o) D:=λt ht=>by
  have ht:t<xs.length*E.n:=by rw[size_flatK,hDs]at ht;exact ht
  rw[get_flatK _ _ _ _ (by rw[hDs];exact ht)];have hq:t/E.n<xs.length:=(Lu hk0).2 ht;have hr:t%E.n<E.n:=sM _ hk0;rw[hDg _ hq,(Pn _ hq).2];have:((List.range E.n).map λt'=>cellOf (t/E.n*E.n+t'))[t%E.n]! =cellOf t:=by
   rw[getElem!_pos _ _ (by simpa using hr)];simp only[List.getElem_map,List.getElem_range];rw[xQ,Nat.div_add_mod]
  rw[this];exact hcell t ht
 have hO2:SWO (ltOf λa b:El β E xs d=>cf a.x b.x):=⟨λa=>hO.irrefl a.x,λa b c=>hO.trans a.x b.x c.x,λa b c=>hO.ntrans a.x b.x c.x⟩
 have hcmp:∀(m:Nat) (os:Array Obj) (dk:Array (El β E xs d)),dk.size=D.size->∀x y:El β E xs d,Calls P g (#[wr x.v,wr y.v]++⟨cb⟩) (sortWorldK (λe:El β E xs d=>e.v) E.n w gi.b (gi.off+o) m dk os) λe w'=>e=.returned (.int .i64 (cf x.x y.x))/\∃q os',w'=Go.Sort.grow ((sortWorldK (λe:El β E xs d=>e.v) E.n w gi.b (gi.off+o) m dk os).drewN q) os':=λm os dk _ x y=>by
  have hle:=Wd.Z4 hz;exact ZZ mM hgn hgb EW (hC x.x x.mem y.x y.mem x.y y.y) (d:=d.but b) rfl (λfa hfa=>by
   rcases fI.1 hfa with h|h
   ·exact fa.mono hle (x.fs fa h)
   ·rcases fI.1 h with h|h
    ·exact fa.mono hle (y.fs fa h)
    ·exact fa.mono hle (hF fa h)) hG (hW.Z6 hi hg _ _ _ m dk os) (.cons (hwr (E.len _ _) x.cell x.rel) (.cons (hwr (E.len _ _) y.cell y.rel) .nil)) hcb
 have hK:=hS (El β E xs d) (λe=>e.v) (λa b=>cf a.x b.x) g ⟨cb⟩ gi.b (gi.off+o) c' D w hlv (λe=>aD.oneCell e.rel e.cell) hO2 (λxs w=>Pm hgn hgb EW xs w) hcmp hH hlt (by rw[hDs];exact hlen);refine⟨_,Frame.enter P f ⟨_⟩ .normal,t1,rfl,λcs0 pI=>?_⟩;rw[hDs]at hK;obtain⟨e,w',fr,⟨he,d2,n2,os,hpm,hsd,hw'⟩,hcomes,hfr,hlv2⟩:=hK cs0;subst he;have hd2:d2.size=xs.length:=hpm.1.trans hDs;have hdg:∀(j:Nat) e,d2.toList[j]? =some e->j<xs.length/\d2[j]! =e:=λj e h=>by
  rw[sK]at h;obtain⟨hj,he⟩:=Lm.1 h;exact⟨by omega,by rw[getElem!_pos d2 j hj];exact he⟩
 let zs:List (X×E.Y):=d2.toList.map λe=>(e.x,e.y)
 let L:List Value:=(List.range (xs.length*E.n)).map λt=>(E.pat (d2[t/E.n]!).x (d2[t/E.n]!).y).getD (t%E.n) .nilFunc
 let L':List Value:=(flatK (λe:El β E xs d=>e.v) E.n d2).toList
 have xk:L.length=xs.length*E.n:=by simp[L]
 have Jp:∀t,t<xs.length*E.n->L[t]? =some ((E.pat (d2[t/E.n]!).x (d2[t/E.n]!).y).getD (t%E.n) .nilFunc):=λt ht=>by
  show((List.range (xs.length*E.n)).map _)[t]? =_;rw[cK,zN ht];rfl
 have aac:L'.length=xs.length*E.n:=by simp[L',hd2]
 have Jq:∀(e:El β E xs d) t,t<E.n->(E.pat e.x e.y)[t]? =some ((E.pat e.x e.y).getD t .nilFunc):=λe t ht=>by
  rw[oh,bH (by rw[E.len];exact ht)];rfl
 have Po:∀(t:Nat) v,L[t]? =some v->t<xs.length*E.n:=λt v ht=>by
  have:=(dU.1 ht).1
  rwa [xk]at this
 have hrel:aD β L L':=aD.GI (by rw[aac,xk]) λt v ht=>by
  have htn:=Po t v ht;rw[Jp t htn]at ht;cases ht;have hr:=sM t hk0;obtain⟨v',r1,r2⟩:=(d2[t/E.n]!).rel.get (Jq _ _ hr);refine⟨v',?_,r2⟩;have h1:L'[t]? =some (flatK (λe:El β E xs d=>e.v) E.n d2)[t]!:=by
   show(flatK (λe:El β E xs d=>e.v) E.n d2).toList[t]? =_;rw[sK,Lx (by rw[size_flatK,hd2];exact htn),getElem!_pos _ _ (by rw[size_flatK,hd2];exact htn)]
  rw[h1,get_flatK _ _ _ _ (by rw[hd2];exact htn)];show some ((d2[t/E.n]!).v)[t%E.n]! =_;rw[getElem!_pos _ _ (by rw[hlv];exact hr),<- bH];exact r1
 have hall:L.all cellV=true:=by
  rw[jA];intro v hv;obtain⟨t,ht⟩:=oM hv;have htn:=Po t v ht;rw[Jp t htn]at ht;cases ht;exact jA.1 (d2[t/E.n]!).cell _ (dA (Jq _ _ (sM t hk0)))
 obtain⟨cs2,hl⟩:=EI cs o L (by rw[xk];omega);obtain⟨l1,l2,l3⟩:=Da hl;have hs:d.h.storeAt b o L=some (d.h.set b (.cells cs2)):=by unfold IH.storeAt;simp only[hg,hl]
 obtain⟨_,w1,w2⟩:=GL hW hi hs hrel hall;have hw1:sortWorldK (λe:El β E xs d=>e.v) E.n w gi.b (gi.off+o) n2 d2 os=Go.Sort.grow (Sort.ahead (w.setCells gi.b (gi.off+o) L') n2) os:=by
  have:=Go.Ideal.setCells_putRow (id:Value->Value) w gi.b (gi.off+o) (flatK (λe:El β E xs d=>e.v) E.n d2);rw[CG]at this;rw[show w.setCells gi.b (gi.off+o) L'=_ from this];rfl
 rw[hw1]at hw';have w3:WR P β (d.h.set b (.cells cs2)) (Sort.ahead (w.setCells gi.b (gi.off+o) L') n2):=w1.qy rfl;have w4:=w2.trans (Eff.qy (w':=Sort.ahead (w.setCells gi.b (gi.off+o) L') n2) w1.dom rfl rfl rfl rfl (Nat.le_add_right _ _));obtain⟨w5,w6⟩:=w3.grow os;rw[<- hw']at w5 w6;refine⟨.ok (.tuple ⟨[]⟩),none,_,β,w',.returned (.tuple #[]),cs0,⟨rfl,rfl,zs,cs2,?_,?_,l2,?_,rfl⟩,w5,w4.trans w6,.ok (.bN _),.none cs0,.inl ⟨f,_,fr,rfl,hcomes,hfr,hlv2.2.2.1,hlv2.1,hlv2.2.1,hlv2.2.2.2⟩⟩
 ·have hp:=hpm.2.2;rw[show d2.extract 0 xs.length=d2 by rw[<- hd2];simp,show D.extract 0 xs.length=D by rw[<- hDs];simp]at hp;have h1:=hp.map (·.x);rw[hDx]at h1;show((d2.toList.map λe=>(e.x,e.y)).map (·.1)).Perm xs;rw[zW];exact h1
 ·show((d2.toList.map λe=>(e.x,e.y)).map (·.1)).Pairwise _;rw[zW];refine List.Z7 λi j x y hij hx hy=>?_;rw[cK,kz]at hx hy;obtain⟨e1,hx,rfl⟩:=hx;obtain⟨e2,hy,rfl⟩:=hy;have h1:=hdg i e1 hx;have h2:=hdg j e2 hy;have:=hsd i j (dY _) hij h2.1;rw[h1.2,h2.2]at this;exact Gj this
 ·intro j p hj;have hj:(d2.toList.map λe=>(e.x,e.y))[j]? =some p:=hj;rw[cK,kz]at hj;obtain⟨e,he0,rfl⟩:=hj;obtain⟨hjn,he⟩:=hdg j e he0;refine⟨λt u ht=>?_,e.fs⟩;have htn:t<E.n:=by have:=(dU.1 ht).1;rw[E.len]at this;exact this
  have hb2:=Z9 j t hjn htn;rw[l3,if_pos ⟨by omega,by rw[xk];omega⟩,show o+j*E.n+t - o=j*E.n+t by omega,Jp _ (by omega)];have d1:(j*E.n+t)/E.n=j:=by rw[xQ,Nat.mul_add_div hk0,Nat.div_eq_of_lt htn,rE]
  have d3:(j*E.n+t)%E.n=t:=by rw[xQ,Nat.mul_add_mod,Nat.mod_eq_of_lt htn]
  rw[d1,d3,he,<- Jq e t htn];exact ht
def Jr(P:Program)(f:FuncId):Prop:=∀(p:Option Addr) (cap:Nat) (fv:Value) (w:World),Calls P f #[.slice p 0 cap,fv] w λe w'=>e=.returned (.tuple #[])/\w'=w
theorem VR.aad{β:ak}{a:Option Addr}{n c:Nat}{v:Value}(h:VR β (.slice a n c) v):∃p c',v=.slice p n c':=by
 cases h<;>exact⟨_,_,rfl⟩
theorem aae{f:FuncId}(hS:Jr P f){fn:Func}(hfn:P.funcs[f]? =some fn){body:Code}(hb:fn.body=some body)(hname:fn.name≠ "runtime.NumGoroutine"){a:Option Addr}{c:Nat}{fv:Value}{h:IH}:
 iG P ⟨.func f,[.slice a 0 c,fv],[],none⟩ h (λr pm h2=>pm=none/\r=.ok (.tuple ⟨[]⟩)/\h2=h):=by
 intro β w fn' args' cap' hG hW hf ha' hcap;obtain⟨gP,t1,t2⟩:=yI (P:=P) (q:=⟨.func f,[.slice a 0 c,fv],[],none⟩) (f:=f) (args:=[.slice a 0 c,fv]) (by simp only[target,gK,fJ]) hf ha' hcap hfn hb hname w;cases t2 with|cons hv tl=>
 cases tl with|cons hv2 tl=>
 cases tl;obtain⟨p,c',rfl⟩:=hv.aad;refine⟨_,Frame.enter P f ⟨_⟩ .normal,t1,rfl,λcs0 pI=>?_⟩;obtain⟨e,w',fr,⟨he,hw'⟩,hcomes,hfr,hlv⟩:=hS p c' _ w cs0;subst he hw';exact⟨.ok (.tuple ⟨[]⟩),none,h,β,_,.returned (.tuple #[]),cs0,⟨rfl,rfl,rfl⟩,hW,Eff.refl _ _ _ hW.dom,.ok (.bN _),.none cs0,.inl ⟨f,_,fr,rfl,hcomes,hfr,hlv.2.2.1,hlv.1,hlv.2.1,hlv.2.2.2⟩⟩
theorem aaf(mM:P.follows .mixedOrders=true){f g:FuncId}{k:Nat}{wr:List Value->Value}(hwr:∀{β:ak} {vs vs':List Value},vs.length=k->vs.all cellV=true->aD β vs vs'->VR β (wr vs) (wr vs'))(hS:ET P f k wr)(hN:Jr P f){fn:Func}(hfn:P.funcs[f]? =some fn){body:Code}(hb:fn.body=some body)(hname:fn.name≠ "runtime.NumGoroutine"){gn:Func}(hgn:P.funcs[g]? =some gn){EU:Code}(hgb:gn.body=some EU)(EW:gn.name≠ "runtime.NumGoroutine")
 {X:Type} {E:Enc X} (hE:E.n=k) (hk0:0<k) {xs:List X} {cf:X->X->Int} (hO:SWO (ltOf cf)) {cap:List Value} {F:List aB} {a:Option Addr}
 (hC:∀x∈xs,∀y∈xs,∀a b,aT P (.func g) [wr (E.pat x a),wr (E.pat y b)] cap [] (E.fs x a++(E.fs y b++F)) (λ_:Unit=>.int .i64 (cf x y)) (λ_=>[]) (λ_=>[]) (λ_=>True))
 (hlen:xs.length<4611686018427387904):
 aT P (.func f) [.slice a xs.length xs.length,.func (.func g) ⟨[]⟩ ⟨cap⟩] [] [ap E (.slice a xs.length xs.length) xs] F (λ_:List X=>.tuple ⟨[]⟩) (λys=>[ap E (.slice a xs.length xs.length) ys]) (λ_=>[]) (λys=>ys.Perm xs/\ys.Pairwise λx y=>¬cf y x<0):=by
 intro B w s;by_cases hx:xs=[]
 ·subst hx;refine .real (Ba _ (aae hN hfn hb hname) ?_);rintro r pm h' ⟨rfl,rfl,rfl⟩;exact⟨rfl,w,[],rfl,⟨s.agree,s.le,s.eG,s.own,λf hf=>by cases hf⟩,rfl,.refl _,.nil⟩
 have hne:0<xs.length:=rF.2 hx;obtain⟨S,⟨S1,S2,q1,q2,e⟩,h2,h3⟩:=s.own;rcases q1 with⟨h,_⟩|⟨b,o,fl,cells,e1,hf,e2,hb',hcl,hel⟩
 ·exact absurd h hx
 injection e1 with e1 e1';subst e1 e2 e;have hzb:¬w.z b:=(h3 b (by simp)).2.2;refine .real (Ba _ (Z8 mM hwr hS hfn hb hname hgn hgb EW hE hk0 hO hC hb' hzb s.facts hel hcl hne hlen) ?_);rintro r pm h' ⟨rfl,rfl,zs,cs2,hp,hpw,hl2,aah,rfl⟩;have s1:St B w [pt b (.cells cells)] [] w:=⟨s.agree,s.le,s.eG,⟨[b]++S2,⟨[b],S2,⟨rfl,hb'⟩,q2,rfl⟩,h2,h3⟩,λf hf=>by cases hf⟩
 have s2:=s1.write (o':=.cells cs2);have hle:w.Le ⟨w.h.set b (.cells cs2),w.z,λi hi=>w.gX i hi⟩:=s2.le;have hzl:zs.length=xs.length:=by have:=hp.length_eq;rwa [bI]at this
 refine⟨rfl,⟨w.h.set b (.cells cs2),w.z,λi hi=>w.gX i hi⟩,zs.map (·.1),rfl,?_,rfl,hp,hpw⟩;refine s2.nN (A':=ap E (.slice (some ⟨b,o,some fl⟩) xs.length xs.length) (zs.map (·.1))) λS' hp'=>?_;refine .inr ⟨b,o,fl,cs2,by rw[bI,hzl],hf,hp'.1,hp'.2,by rw[hl2,hcl,bI,hzl],λj x hj=>?_⟩;rw[cK,kz]at hj;obtain⟨p,hj,rfl⟩:=hj;obtain⟨r1,r2⟩:=aah j p hj;exact⟨p.2,r1,λf hf=>f.mono hle (r2 f hf)⟩
theorem aai{f:FuncId}(h:∀(α:Type) [Inhabited α] (enc:α->Value) (cf:α->α->Int) (g:FuncId) (cb:Array Value) (blk off cap:Nat) (d:Array α) (w:World),OneCell enc->SWO (ltOf cf)->(∀args w,(callFunc g args).run P w=.ok (.enter g args) w)->CmpLays1 P g cb enc cf blk off d.size w->Holds enc w blk off d->blk<w.heap.size->d.size<4611686018427387904->
 Calls P f #[.slice (some ⟨blk,off,none⟩) d.size cap,.func (.func g) #[] cb] w λe w'=>e=.returned (.tuple #[])/\∃d' n os,PermIn 0 d.size d d'/\SortedIn (ltOf cf) 0 d.size d'/\w'=sortWorld enc w blk off n d' os):ET P f 1 pU:=by
 intro α _ enc cf g cb blk off cap d w hk h1 hO eg hcmp hH hblk hsz;have he:∀x,enc x=[pU (enc x)]:=λx=>by
  have:=hk x;match h2:enc x,this with
  |[v],_=>rfl
 have hfl:∀dk:Array α,flatK enc 1 dk=dk.map λx=>pU (enc x):=λdk=>by
  refine ext_get! (by simp) λt ht=>?_;rw[size_flatK,jB]at ht;rw[get_flatK _ _ _ _ (by omega),Nat.div_one,Nat.mod_one,he];rw[getElem!_pos (dk.map _) t (by simpa using ht),Array.getElem_map,getElem!_pos dk t ht];rfl
 have hpc:∀(dk:Array α) (c:Array Value),putCells id off (dk.map λx=>pU (enc x)) c=putCells (λx=>pU (enc x)) off dk c:=λdk c=>by
  unfold putCells;congr 1;funext t x
  rw[Array.size_map];split
  ·rename_i hr;rw[getElem!_pos (dk.map _) _ (by simp;omega),Array.getElem_map,getElem!_pos dk _ (by omega)];rfl
  ·rfl
 have hsw:∀(m:Nat) (dk:Array α) (os:Array Obj),sortWorldK enc 1 w blk off m dk os=sortWorld (λx=>pU (enc x)) w blk off m dk os:=λm dk os=>by
  unfold sortWorldK sortWorld putRowK putRow;rw[hfl,show putCells id off (dk.map λx=>pU (enc x))=putCells (λx=>pU (enc x)) off dk from funext (hpc dk)]
 have:=h α (λx=>pU (enc x)) cf g cb blk off cap d w (λx=>h1 x _ (by rw[he x];exact cB.2 rfl)) hO eg (λm os dk hs x y=>by
  have:=hcmp m os dk hs x y;rw[hsw]at this;exact this) (λj hj=>by
  have:=hH j (by rw[size_flatK];omega);rw[get_flatK _ _ _ _ (by omega),Nat.div_one,Nat.mod_one,he]at this;exact this) hblk hsz
 refine this.mono ?_;rintro e w' ⟨h1,d',n,os,h2,h3,h4⟩;exact⟨h1,d',n,os,h2,h3,by rw[hsw];exact h4⟩
theorem aaj{β:ak}{vs vs':List Value}(h1:vs.length=1)(h2:vs.all cellV=true)(h:aD β vs vs'):VR β (pU vs) (pU vs'):=by
 match vs,h1 with
 |[v],_=>
  cases h with|cons a b=>
  cases b;exact a
end Go.Ideal
namespace Go.Ideal
open Go.Sort Go.RowKit Go.Proofs
variable {P:Program}
def si(zs:List ByteArray):List (List UInt8):=(zs.map λz=>z.data.toList).mergeSort λx y=>decide (x<=y)
end Go.Ideal
namespace Go.Ideal
variable {P:Program}
section
variable {B:List Nat} {w0:Wd} {kl kl':List OA} {F:List aB} {K:KO} {ds:List Tmp} {rest:List aP} {n:Nat} {l:List (Nat×Value)} {D:List Deferred} {pm:Option FrameMode} {ro:Option Nat} {d:Nat} {g:Option (Tmp×Bool)}
theorem aak{α:Type}{E:Enc α}{e:TypeId}{size bytes b':Nat}{s x:Operand}{v:Value}{xs:List α}{a:α}{y:E.Y}{cs:List Value}{k1 k2:List OA}(hn:Nat.blt d n=true)(hg:aZ l g=true)
 (hs:ev l s=v) (hx:ev l x=.slice (some ⟨b',0,some 0⟩) 1 1) (hk:ah (ap E v xs) kl k1) (hc:ah (pt b' (.cells cs)) k1 k2) (hp:cs=E.pat a y) (hF:Sub (E.fs a y) F) (hz:E.n=size)
 (hm:(xs.length+1)*bytes<=1073741824/\(xs.length+1)*size<=1073741824/\xs.length+1<=1073741824):
 bK (R (λh=>ax P ds (⟨⟨some d,g,.append e size bytes s x⟩,[]⟩::rest) (act n l D pm ro) h K) B w0 kl F)
  (∀c,R (λh=>ax P ds rest (act n ((d,.slice (some ⟨c,0,some E.n⟩) (xs.length+1) (xs.length+1))::l) D pm ro) h K) B w0 (ap E (.slice (some ⟨c,0,some E.n⟩) (xs.length+1) (xs.length+1)) (xs++[a])::k2) F):=by
 refine⟨λr w st=>?_⟩;subst hp hz;have hlen:=E.len a y;have st2:St B w0 (ap E v xs::pt b' (.cells (E.pat a y))::k2) F w:=st.jb (.cons hk (.cons hc .nil));have hat:At w.h b' (.cells (E.pat a y)):=st2.at_ (.there .here);have jP:St B w0 (ap E v xs::k2) F w:=(st2.eT (.there .here)).tail;have hfs:∀f∈E.fs a y,f.p w:=λf hf=>st.facts f (hF.mem f hf);have hread:w.h.dL b' 0 (1*E.n)=some (E.pat a y):=by
  rw[hat.c.dL,jE,jF,xV,qi,if_pos (by omega),<- hlen,iB]
 have hx1:jY (ev l x)=some (0+1):=by rw[hx];rfl
 have hx2:jC E.n (0+1) (ev l x) w.h=some (E.pat a y):=by rw[hx];exact hread
 -- what lies there afterwards
 have put:∀(w':Wd) (c:Nat) (f:Nat) (cells:List Value),cells.length=xs.length*E.n->(∀(k:Nat) z,xs[k]? =some z->∃y,(∀(j:Nat) u,(E.pat z y)[j]? =some u->cells[k*E.n+j]? =some u)/\∀f∈E.fs z y,f.p w')->(∀f∈E.fs a y,f.p w')->
  (f=0\/f=E.n)->∀S,(pt c (.cells (cells++E.pat a y))).p w' S->(ap E (.slice (some ⟨c,0,some f⟩) (xs.length+1) (xs.length+1)) (xs++[a])).p w' S:=by
  intro w' c f cells h1 h2 h3 h4 S hp;refine .inr ⟨c,0,f,_,by rw[dK];rfl,h4,hp.1,hp.2,by rw[dK,dK,h1,hlen,qj,lg,xV,dB],λk z hk=>?_⟩;by_cases hlt:k<xs.length
  ·rw[iW hlt]at hk;obtain⟨y',q1,q2⟩:=h2 k z hk;refine⟨y',λj u hj=>?_,q2⟩;rw[dB];have:=q1 j u hj;rw[iW (dU.1 this).1];exact this
  ·rw[lN (by omega)]at hk;have hk0:k=xs.length:=by
    have:=(dU.1 hk).1;simp at this;omega
   subst hk0;simp at hk;subst hk;refine⟨y,λj u hj=>?_,h3⟩;rw[dB,lN (by omega),h1,Nat.add_sub_cancel_left];exact hj
 obtain⟨S,⟨S1,S2,q,q2,e1⟩,hnd,hown⟩:=jP.own;rcases q with⟨rfl,rfl,rfl⟩|⟨b,o,f,cells,rfl,hf,rfl,hb,hcl,hel⟩
 ·refine NF (c:=0) hn hg hs hx1 hx2 (by simpa using hm) λh' ag mP hnx=>?_;obtain⟨w',rfl,dG⟩:=jP.tail.fresh ag mP hnx;refine r _ w' (dG.nN λS hp=>?_);have hle:∀f∈E.fs a y,f.p w':=λf hf=>dG.facts f (hF.mem f hf);exact put w' _ E.n [] (by simp) (λk z hk=>by cases hk) hle (.inr rfl) S hp
 ·have lJ:St B w0 (pt b (.cells cells)::k2) F w:=⟨jP.agree,jP.le,jP.eG,⟨S,⟨_,S2,⟨rfl,hb⟩,q2,e1⟩,hnd,hown⟩,jP.facts⟩
  have yS:At w.h b (.cells cells):=lJ.at_ .here;refine Bi (old:=cells.drop o) (xs:=E.pat a y) hn hg hs hx1 hx2 ?_ (hf.elim (λe=>.inl (by rw[e])) λe=>.inr (by rw[e])) hm λh' mv=>?_
  ·have hdl:(cells.drop o).length=xs.length*E.n:=by rw[iY];omega
   rw[yS.c.dL,jE,jF,if_pos (by omega),<- hdl,iB]
  obtain⟨w',rfl,dG,nO⟩:=lJ.move mv;refine r _ w' (dG.nN λS hp=>?_);have hle:∀f∈E.fs a y,f.p w':=λf hf=>dG.facts f (hF.mem f hf);refine put w' _ E.n (cells.drop o) (by rw[iY];omega) (λk z hk=>?_) hle (.inr rfl) S hp;obtain⟨y',u1,u2⟩:=hel k z hk;exact⟨y',λj u hj=>by rw[iV,<- lQ];exact u1 j u hj,λf hf=>f.mono nO (u2 f hf)⟩
theorem aal{α:Type}(E:Enc α){e:TypeId}{size bytes b':Nat}{s x:Operand}{v:Value}{xs:List α}(a:α)(y:E.Y){cs:List Value}{k1 k2:List OA}
 (hm:(xs.length+1)*bytes<=1073741824/\(xs.length+1)*size<=1073741824/\xs.length+1<=1073741824)
 (next:∀c,R (λh=>ax P ds rest (act n ((d,.slice (some ⟨c,0,some E.n⟩) (xs.length+1) (xs.length+1))::l) D pm ro) h K) B w0 (ap E (.slice (some ⟨c,0,some E.n⟩) (xs.length+1) (xs.length+1)) (xs++[a])::k2) F)
 (hn:Nat.blt d n=true:=by rfl) (hg:aZ l g=true:=by rfl)
 (hs:ev l s=v:=by conv=>lhs;whnf) (hx:ev l x=.slice (some ⟨b',0,some 0⟩) 1 1:=by rfl) (hk:ah (ap E v xs) kl k1:=by exact gp) (hc:ah (pt b' (.cells cs)) k1 k2:=by exact gp) (hp:cs=E.pat a y:=by rfl) (hF:Sub (E.fs a y) F:=by exact mR) (hz:E.n=size:=by rfl):
 R (λh=>ax P ds (⟨⟨some d,g,.append e size bytes s x⟩,[]⟩::rest) (act n l D pm ro) h K) B w0 kl F:=
 (aak hn hg hs hx hk hc hp hF hz hm).h next
def gv(f:Nat):Option Nat->Nat->Value
 |none,_=>.slice none 0 0
 |some c,n=>.slice (some ⟨c,0,some f⟩) n n
theorem aam{α:Type}{E:Enc α}{c:Option Nat}{xs:List α}{w:Wd}{S:List Nat}(h:(ap E (gv E.n c xs.length) xs).p w S)(h0:0<xs.length):∃b cells,gv E.n c xs.length=.slice (some ⟨b,0,some E.n⟩) xs.length xs.length/\S=[b]/\w.h.get b=some (.cells cells)/\cells.length=xs.length*E.n/\
 ∀(k:Nat) x,xs[k]? =some x->∃y,(∀(j:Nat) u,(E.pat x y)[j]? =some u->cells[k*E.n+j]? =some u)/\∀f∈E.fs x y,f.p w:=by
 rcases h with⟨h,_⟩|⟨b,o,f,cells,h1,h2,h3,h4,h5,h6⟩
 ·rw[h]at h0;simp at h0
 ·cases c with
  |none=>simp[gv]at h1
  |some c=>
   simp only[gv,Value.slice.injEq,au,Addr.mk.injEq]at h1;obtain⟨⟨rfl,rfl,h1⟩,_⟩:=h1;refine⟨c,cells,rfl,h3,h4,by rw[h5,dB],λk x hk=>?_⟩;obtain⟨y,q1,q2⟩:=h6 k x hk;exact⟨y,λj u hj=>by have:=q1 j u hj;rwa [dB]at this,q2⟩
theorem aan{α:Type}{E:Enc α}{xs:List α}{Q:IH->Prop}(h0:0<xs.length)(hk:ah (ap E (.slice none 0 0) xs) kl kl':=by exact gp):R Q B w0 kl F:=λw s=>by
 obtain⟨S,⟨S1,S2,q1,q2,e⟩,h2,h3⟩:=(s.eT hk).own;obtain⟨b,cells,h,_⟩:=aam (c:=none) q1 h0;simp[gv]at h
end
end Go.Ideal
namespace Go.Ideal
variable {P:Program} {B:List Nat} {w0:Wd} {kl kl' aW:List OA} {F:List aB} {K:KO} {ds:List Tmp} {rest:List aP} {n:Nat} {l:List (Nat×Value)} {D:List Deferred} {pm:Option FrameMode} {ro:Option Nat} {d:Nat} {g:Option (Tmp×Bool)}
theorem zm{α:Type}{E:Enc α}(a b:List (α×E.Y)):aK E (a++b)=aK E a++aK E b:=by unfold aK;rw[List.flatMap_append]
theorem EX{ρ:Operand->Value}{x:Operand}{tN tO:Option Operand}{b o f m c lo hi:Nat}{size:Nat}(hx:ρ x=.slice (some ⟨b,o,some f⟩) m c)(hf:f=0\/f=size)(hs:0<size)(hlo:tN=none/\lo=0\/∃t,tN=some t/\ρ t=.int .i64 (lo:Int))(hhi:tO=none/\hi=m\/∃t,tO=some t/\ρ t=.int .i64 (hi:Int))(h1:lo<=hi)(h2:hi<=c):
 Pu P ρ (.nD size x tN tO none) (.slice (some ⟨b,o+lo*size,some f⟩) (hi - lo) (c - lo)):=λh=>by
 have e3:upTo c (.int .i64 (hi:Int))=some hi:=Bw h2;have e4:upTo hi (.int .i64 (lo:Int))=some lo:=Bw h1;have hbd:bounds? m c (eO ρ tN) (eO ρ tO) none=some (lo,hi,c):=by
  rcases hlo with⟨rfl,rfl⟩|⟨t,rfl,ht⟩<;>rcases hhi with⟨rfl,hm⟩|⟨t',rfl,ht'⟩
  ·rw[hm];rfl
  ·show bounds? m c none (some (ρ t')) none=_;rw[ht'];show(match upTo c (.int .i64 (hi:Int))with|none=>none|some h=>match some 0 with|none=>none|some l=>some (l,h,c))=_;rw[e3]
  ·rw[hm]at e4⊢;show bounds? m c (some (ρ t)) none none=_;rw[ht];show(match upTo m (.int .i64 (lo:Int))with|none=>none|some l=>some (l,m,c))=_;rw[e4]
  ·show bounds? m c (some (ρ t)) (some (ρ t')) none=_;rw[ht,ht'];show(match upTo c (.int .i64 (hi:Int))with|none=>none|some h=>match upTo h (.int .i64 (lo:Int))with|none=>none|some l=>some (l,h,c))=_;rw[e3];show(match upTo hi (.int .i64 (lo:Int))with|none=>none|some l=>some (l,hi,c))=_;rw[e4]
 have h3:eO ρ none=none:=rfl;simp only[ai.run,hx,h3,hbd];match f,hf with
 |0,_=>rfl
 |k+1,hf=>
  have hk:k+1=size:=by
   rcases hf with h|h
   ·cases h
   ·exact h
  show cond (Nat.beq (Nat.succ k) size) (some (Value.slice (some ⟨b,Nat.add o (Nat.mul lo size),some (Nat.succ k)⟩) (hi - lo) (c - lo),h)) none=_;rw[show Nat.beq (Nat.succ k) size=true by rw[show Nat.succ k=size from hk];exact uD _];rfl
theorem Pp(cs:List Value):fV cs cs.length []=some cs:=by
 have:=EM (cs1:=cs) (cs2:=[]) (xs:=[]) (dY _);simpa using this
theorem Pq{re:List fq}{α:Type}{e:TypeId}{size bytes b f m:Nat}{s x:Operand}{v:Value}(E:Enc α)(aa bM:List (α×E.Y))(hmx:m=aa.length)(hf0:f=0\/f=E.n)(hm:(m+bM.length)*bytes<=1073741824/\(m+bM.length)*size<=1073741824/\m+bM.length<=1073741824)
 (next:∀b' f' m',m'=(aa++bM).length->(f'=0\/f'=E.n)->R (λh=>ax P ds rest (act n ((d,.slice (some ⟨b',0,some f'⟩) m' m')::l) D pm ro) h K) B w0 (pt b' (.cells (aK E (aa++bM)))::kl') F)
 (hs:ev l s=.slice (some ⟨b,0,some f⟩) m m:=by rfl) (hx:ev l x=v:=by conv=>lhs;whnf) (hf:oD E v bM∈F:=by exact mU) (hz:E.n=size:=by rfl) (hk:ah (pt b (.cells (aK E aa))) kl kl':=by exact gp) (hn:Nat.blt d n=true:=by rfl) (hg:aZ l g=true:=by rfl)
 (hsm:∀b' f' m',Same P re (ev ((d,.slice (some ⟨b',0,some f'⟩) m' m')::l)) ((d,.slice (some ⟨b',0,some f'⟩) m' m')::l) B w0 (pt b' (.cells (aK E (aa++bM)))::kl') F:=by intro _ _ _;repeat (first|exact qK|refine pO rfl (by repeat (first|with_reducible exact ah.here|with_reducible apply ah.there|with_reducible apply ah.app)) (by first|exact rfl|(conv=>lhs;whnf)) rfl ?_|refine yV rfl (by(repeat (first|with_reducible exact aS .. |with_reducible apply bW));first|done|fail) (by first|exact rfl|(conv=>lhs;whnf)) rfl ?_|refine yX rfl (by(repeat (first|with_reducible exact aS .. |with_reducible apply bW));first|done|fail) (by first|exact rfl|(conv=>lhs;whnf)) rfl ?_|refine yY rfl (by repeat (first|with_reducible exact ah.here|with_reducible apply ah.there|with_reducible apply ah.app)) (by first|exact rfl|(conv=>lhs;whnf)) rfl ?_|refine yZ rfl (by(repeat (first|with_reducible exact aS .. |with_reducible apply bW));first|done|fail) (by first|exact rfl|(conv=>lhs;whnf)) rfl ?_|refine y7 rfl (by(repeat (first|with_reducible exact aS .. |with_reducible apply bW));first|done|fail) (by first|exact rfl|(conv=>lhs;whnf)) rfl ?_|refine N9 (by first|((with_reducible apply DI);(focus ((conv=>lhs;whnf);(first|done|fail))))|((with_reducible apply Bn);(focus ((conv=>lhs;whnf);(first|done|fail))))|((with_reducible apply Bo);(focus exact rfl))|((with_reducible apply DR);(focus exact rfl);(focus exact rfl))|((with_reducible apply DT);(focus exact rfl);(focus exact rfl))|((with_reducible apply DU);(focus exact rfl);(focus exact rfl))|((with_reducible apply DV);(focus exact rfl);(focus exact rfl))|((with_reducible apply DW);(focus exact rfl);(focus exact rfl))|((with_reducible apply DX);(focus exact rfl);(focus exact rfl))|((with_reducible apply DL);(focus exact rfl))|((with_reducible apply DJ);(focus exact rfl);(focus ((conv=>lhs;whnf);(first|done|fail))))|((with_reducible apply DK);(focus exact rfl);(focus ((conv=>lhs;whnf);(first|done|fail))))|((with_reducible apply D5);(focus exact rfl);(focus ((conv=>lhs;whnf);(first|done|fail))))|((with_reducible apply D6);(focus exact rfl))|((with_reducible apply D7);(focus exact rfl);(focus ((conv=>lhs;whnf);(first|done|fail))))|((with_reducible apply D8);(focus exact rfl);(focus ((conv=>lhs;whnf);(first|done|fail))))|((with_reducible apply D9);(focus ((conv=>lhs;whnf);(first|done|fail))))|((with_reducible apply Ea);(focus exact rfl))|((with_reducible apply Eb);(focus exact rfl))|((with_reducible apply Ec);(focus exact rfl))|with_reducible exact DN|((with_reducible apply Ed);(focus exact rfl);(focus exact rfl);(focus exact rfl))|((with_reducible apply Er);(focus exact rfl);(focus exact rfl);(focus ((omega);(first|done|fail))))|((with_reducible apply Bp);(focus exact rfl);(focus exact rfl);(focus ((omega);(first|done|fail)));(focus ((omega);(first|done|fail))))|((with_reducible apply Ee);(focus exact rfl);(focus exact rfl);(focus ((omega);(first|done|fail)));(focus ((omega);(first|done|fail))))|((with_reducible apply DY);(focus exact rfl);(focus exact rfl);(focus ((omega);(first|done|fail)));(focus ((omega);(first|done|fail))))|((with_reducible apply DZ);(focus exact rfl);(focus exact rfl);(focus ((omega);(first|done|fail)));(focus ((omega);(first|done|fail))))|((with_reducible apply Eh);(focus exact rfl);(focus exact rfl);(focus ((first|assumption|kernel_rfl);(first|done|fail))))|((with_reducible apply Ei);(focus exact rfl);(focus exact rfl);(focus ((first|assumption|kernel_rfl);(first|done|fail))))|((with_reducible apply Ej);(focus exact rfl);(focus exact rfl))|((with_reducible apply Em);(focus exact rfl);(focus exact rfl))|((with_reducible apply Eo);(focus exact rfl);(focus exact rfl);(focus ((omega);(first|done|fail)));(focus ((omega);(first|done|fail))))) rfl ?_)):
 R (λh=>ax P ds (⟨⟨some d,g,.append e size bytes s x⟩,re⟩::rest) (act n l D pm ro) h K) B w0 kl F:=λw st=>by
 subst hz hmx;have st1:=st.eT hk;have hat:At w.h b (.cells (aK E aa)):=st.at_ hk;have hfl:=qR aa;obtain⟨r1,r2⟩:=EN (st.facts _ hf);by_cases hne:bM=[]
 ·subst hne;rw[fJ]at next
  rw[qf,rE]at hm;have hle:∀{a b:Nat},a<=b->Nat.ble a b=true:=λh=>by rw[mq];exact h
  rw[fJ]at hsm;refine zk hn hg (v:=.slice (some ⟨b,0,some f⟩) aa.length aa.length) (h':=w.h.set b (.cells (aK E aa))) ?_ (hsm b f _ ⟨w.h.set b (.cells (aK E aa)),w.z,λi hi=>w.gX i hi⟩ st1.write) (next b f _ rfl hf0 ⟨w.h.set b (.cells (aK E aa)),w.z,λi hi=>w.gX i hi⟩ st1.write);have e1:w.h.storeAt b (Nat.add 0 (Nat.mul aa.length E.n)) []=some (w.h.set b (.cells (aK E aa))):=by
   have e2:fV (aK E aa) (Nat.add 0 (Nat.mul aa.length E.n)) []=some (aK E aa):=by
    rw[show Nat.add 0 (Nat.mul aa.length E.n)=(aK E aa).length by rw[hfl];exact dB _];exact Pp _
   unfold IH.storeAt;simp only[st1.get.1,e2]
  simp only[ai.run,hx,hs,r1,r2,mE];rw[show Nat.add aa.length (List.length ([]:List (α×E.Y)))=aa.length from rfl,show aK E ([]:List (α×E.Y))=[]from rfl];rw[hle (show Nat.mul aa.length bytes<=small from hm.1),hle (show Nat.mul aa.length E.n<=small from hm.2.1),hle (show aa.length<=small from hm.2.2),hle (aC aa.length)];simp only[zS,cond_true,e1]
 ·obtain⟨k,hk'⟩:∃k,bM.length=k+1:=⟨bM.length - 1,by have:=rF.2 hne;omega⟩
  rw[hk']at r1 r2 hm;refine Jj (b:=b) (o:=0) (m:=aa.length) (k:=k) (f:=some f) (old:=aK E aa) (xs:=aK E bM) hn hg hs (by rw[hx];exact r1) (by rw[hx];exact r2) ?_ (by rcases hf0 with h|h<;>rw[h];exact .inl rfl;exact .inr rfl) hm (λh' mv=>?_) λh' mv=>?_
  ·rw[hat.c.dL,jE,qi,jF,if_pos (by omega),rH (by omega)]
  ·obtain⟨w',rfl,dG,nO⟩:=st1.move mv;have:=hsm w.h.next E.n (aa.length+(k+1))
   rw[zm]at this;exact this w' dG
  obtain⟨w',rfl,dG,nO⟩:=st1.move mv;have:=next w.h.next E.n (aa.length+(k+1)) (by rw[dK,hk']) (.inr rfl)
  rw[zm]at this;exact this w' dG
theorem Ps{α:Type}(E:Enc α){aa:List (α×E.Y)}{rest':List Value}{b f c:Nat}{Q:IH->Prop}(hf:f=0\/f=E.n)(hc:aa.length<=c)(h:R Q B w0 kl' (ae E (.slice (some ⟨b,0,some f⟩) aa.length c) (aa.map (·.1))::F))
 (ha:∀w,(∀f∈F,f.p w)->(mW E aa).p w) (hk:ah (pt b (.cells (aK E aa++rest'))) kl kl':=by exact gp):R Q B w0 kl F:=λw s=>by
 have hall:=ha w s.facts;obtain⟨w',hw,s'⟩:=(s.eT hk).freeze (fs:=[⟨λw=>Fz w b (aK E aa++rest'),λa h=>h.mono a⟩]) (λw w' S hp hle hh hz g hg=>by
  rw[cB.1 hg];exact⟨hz b (by rw[hp.1];exact cB.2 rfl),.inl (by rw[hh];exact hp.2)⟩)
 have hfz:Fz w' b (aK E aa++rest'):=s'.facts _ (aS ..);have Dm:=ha w' λf hf=>s'.facts f (nC _ hf);rw[<- hw];refine h w' ⟨s'.agree,s'.le,s'.eG,s'.own,λg hg=>?_⟩;rcases bZ.1 hg with rfl|hg
 ·refine .inr ⟨b,0,f,c,_,⟨by rw[bI],by rw[bI];exact hc,hf⟩,hfz,λk x hk=>?_⟩;rw[cK]at hk;cases hp:aa[k]? with
  |none=>rw[hp]at hk;cases hk
  |some p=>
   rw[hp]at hk;cases hk;refine⟨p.2,λj u hj=>?_,Dm p (dA hp)⟩;have:=xh hp hj;rw[dB,iW (dU.1 this).1];exact this
 ·exact s'.facts g (nC _ hg)
theorem aao{α:Type}(E:Enc α){v:Value}{aa:List (α×E.Y)}{Q:IH->Prop}(h0:aa=[]->∀c,v=.slice none 0 c->R Q B w0 kl F)(h1:aa=[]->∀i o f c,v=.slice (some ⟨i,o,some f⟩) 0 c->R Q B w0 kl F)
 (h2:0<aa.length->∀i o f c,v=.slice (some ⟨i,o,some f⟩) aa.length c->R Q B w0 kl F) (hf:oD E v aa∈F:=by exact mU):R Q B w0 kl F:=λw s=>by
 rcases s.facts _ hf with⟨e,a,c,hv,hg⟩|⟨i,o,f,c,cells,⟨hv,_⟩,_⟩
 ·match a,hv,hg with
  |none,hv,_=>exact h0 e c hv w s
  |some ⟨i,o,some f⟩,hv,_=>exact h1 e i o f c hv w s
 ·by_cases hx:aa=[]
  ·subst hx;exact h1 rfl i o f c hv w s
  ·exact h2 (rF.2 hx) i o f c hv w s
theorem aap{ρ:Operand->Value}{x y:Operand}{t:TypeId}{a b:Nat}(hx:ρ x=.int .u64 (a:Int))(hy:ρ y=.int .u64 (b:Int))(hb:0<b):Pu P ρ (.bin .rem t x y) (.int .u64 ((a%b:Nat):Int)):=λh=>by
 have hv:dh P (binOp .rem t (.int .u64 (a:Int)) (.int .u64 (b:Int)))=some (.int .u64 ((a%b:Nat):Int)):=by
  show dh P (Op.intDiv .rem .u64 a b)=_;unfold Op.intDiv;rw[if_neg (by omega)];show some (Value.int .u64 ((a:Int).tmod (b:Int)))=_;rw[show(a:Int).tmod (b:Int)=((a%b:Nat):Int)from(Int.ofNat_tmod a b).symm]
 have h1:ji P (do eqGuard .rem t x y (.int .u64 (a:Int)) (.int .u64 (b:Int));binOp .rem t (.int .u64 (a:Int)) (.int .u64 (b:Int)))=some (.int .u64 ((a%b:Nat):Int)):=by
  unfold ji;rw[gL,yT (by intro c e;cases e) (by intro e;cases e)];simp only[iA,hv];rfl
 have h2:mG P .rem t x y (.int .u64 (a:Int)) (.int .u64 (b:Int))=some (.int .u64 ((a%b:Nat):Int)):=by
  unfold mG;have:(match oV .u64 .u64 with|true=>mF .rem .u64 (a:Int) (b:Int)|false=>none)=none:=rfl;simp only[oV,bE,zS,cond];exact h1
 simp only[ai.run,hx,hy,h2]
end Go.Ideal
namespace Go.Ideal
open Go.RowKit Go.WideShapes Go.ChangeShapes
variable {P:Program}
theorem aaq{f:FuncId}{fn:Func}(hfn:P.funcs[f]? =some fn){body:Code}(hb:fn.body=some body)(hname:fn.name≠ "runtime.NumGoroutine"){args:List Value}{v:Value}(hv:tT v=true)(ha:args.all bE=true){h:IH}
 (hC:∀β w,iO P β->WR P β h w->Calls P f ⟨args⟩ w λe w'=>e=.returned v/\Beyond w w'):iG P ⟨.func f,args,[],none⟩ h (λr pm h2=>pm=none/\r=.ok v/\h2=h):=by
 intro β w fn' args' cap' hG hW hf ha' hcap;obtain⟨gP,t1,t2⟩:=yI (P:=P) (q:=⟨.func f,args,[],none⟩) (f:=f) (args:=args) (by simp only[target,gK,fJ]) hf ha' hcap hfn hb hname w;have e2:=aD.EP t2 ha;subst e2;refine⟨_,Frame.enter P f ⟨_⟩ .normal,t1,rfl,λcs0 pI=>?_⟩;obtain⟨e,w',fr,⟨he,hw'⟩,hcomes,hfr,hlv⟩:=hC β w hG hW cs0;subst he;obtain⟨w1,w2⟩:=hW.beyond hw';exact⟨.ok v,none,h,β,_,.returned v,cs0,⟨rfl,rfl,rfl⟩,w1,w2,.ok (VR.O7 hv),.none cs0,.inl ⟨f,_,fr,rfl,hcomes,hfr,hlv.2.2.1,hlv.1,hlv.2.1,hlv.2.2.2⟩⟩
theorem aar(w:World)(k:Nat)(os:Array Obj):Beyond w (Go.Sort.grow (w.drewN k) os):=by
 refine⟨λb hb=>?_,?_,rfl,rfl,rfl,Nat.le_add_right _ _⟩
 ·show(w.heap++os)[b]? =_;rw[Lp hb]
 ·show w.heap.size<=(w.heap++os).size;rw[Array.size_append];omega
def mX(g:Nat)(cs:List Value):aB:=⟨λw=>w.z g/\w.h.get g=some (.fM cs),λa h=>⟨a.z g h.1,(a.get g h.1).trans h.2⟩⟩
theorem aas{β:ak}{h:IH}{w:World}(hG:iO P β)(hW:WR P β h w){name:String}{g:Nat}(hg:P.globalNamed name=some g)(hlt:g<P.globals.size){k:IntKind}{zs:List Int}(hsz:tu P g=zs.length)(h0:0<zs.length)
 (hr:h.get g=some (.fM (zs.map λz=>Value.int k z))):Lib.TabIs P w name k zs:=by
 obtain⟨i,h1,h2,h3,h4⟩:=hG g hlt;obtain⟨⟨c,t,fz,hh,hs⟩,_,_,hc⟩:=hW.obj g i _ h1 hr;rw[h2]at hh hc;unfold Lib.TabIs World.var?;rw[hg,iA,hh];show some c=_;congr 1;have hcs:c.size=zs.length:=by
  rcases hs with hs|hs<;>omega
 apply Ll;intro j;by_cases hj:j<zs.length
 ·have hz:(zs.map λz=>Value.int k z)[j]? =some (.int k zs[j]):=by rw[cK,bH hj];rfl
  obtain⟨v',q1,q2⟩:=hc j _ hz;have:=q2.j4;subst this;rw[zQ (xs:=zs.map λz=>Value.int k z),hz];rw[h3,dB]at q1;simpa[World.cell?,hh]using q1
 ·rw[nY (by omega),zQ (xs:=zs.map λz=>Value.int k z),iX (by rw[bI];omega)]
def Pt(P:Program)(f:FuncId):Prop:=∀n:Int, -9223372036854775808<=n->n<=9223372036854775807->∀w,Lib.TabIs P w "internal\x2fstrconv.uint64pow10" .u64 Lib.pow10Tab->
 Calls P f #[.int .i64 n] w λe w'=>e=.returned (.string ⟨(Lib.itoa n).toArray⟩)/\∃k os,w'=Go.Sort.grow (w.drewN k) os
def nQ:List Value:=Lib.pow10Tab.map λz=>Value.int .u64 z
theorem aat{f:FuncId}(hI:Pt P f){fn:Func}(hfn:P.funcs[f]? =some fn){body:Code}(hb:fn.body=some body)(hname:fn.name≠ "runtime.NumGoroutine"){g:Nat}(hg:P.globalNamed "internal\x2fstrconv.uint64pow10" =some g)
 (hlt:g<P.globals.size) (hsz:tu P g=20) {n:Int} (h0: -9223372036854775808<=n) (h1:n<=9223372036854775807):aT P (.func f) [.int .i64 n] [] [] [mX g nQ] (λ_:Unit=>.string ⟨(Lib.itoa n).toArray⟩) (λ_=>[]) (λ_=>[]) (λ_=>True):=by
 intro B w s;have hf:=(s.facts _ (cB.2 rfl)).2;refine .real (Ba _ (aaq hfn hb hname (v:=.string ⟨(Lib.itoa n).toArray⟩) rfl rfl λβ wr hG hW=>?_) ?_)
 ·refine(hI n h0 h1 wr (aas hG hW hg hlt (by rw[hsz,Lib.pow10Tab_length]) (by rw[Lib.pow10Tab_length];decide) hf)).mono ?_;rintro e w' ⟨rfl,k,os,rfl⟩;exact⟨rfl,aar _ _ _⟩
 ·rintro r pm h' ⟨rfl,rfl,rfl⟩;exact⟨rfl,w,(),rfl,⟨s.agree,s.le,s.eG,s.own,λf h=>by cases h⟩,rfl,trivial⟩
def Joins(P:Program)(f:FuncId):Prop:=∀(bk o c:Nat) (xs:List ByteArray) (sep:ByteArray) (w:World),(∀(j:Nat) x,xs[j]? =some x->w.cell? ⟨bk,o+j,none⟩=some (.string x))->bk<w.heap.size->xs.length<=140737488355328->xs.length<=c->
 (Lib.join (xs.map (·.data.toList)) sep.data.toList).length<=140737488355328->
 Calls P f #[.slice (some ⟨bk,o,none⟩) xs.length c,.string sep] w λe w'=>e=.returned (.string ⟨(Lib.join (xs.map (·.data.toList)) sep.data.toList).toArray⟩)/\Below w.heap.size w w'
def qU(xs:List ByteArray)(sep:ByteArray):ByteArray:=⟨(Lib.join (xs.map (·.data.toList)) sep.data.toList).toArray⟩
theorem aau{f:FuncId}(hJ:Joins P f){fn:Func}(hfn:P.funcs[f]? =some fn){body:Code}(hb:fn.body=some body)(hname:fn.name≠ "runtime.NumGoroutine"){b o c:Nat}{fl:Option Nat}{xs:List ByteArray}{sep:ByteArray}{h:IH}{cs:List Value}
 (hg:h.get b=some (.cells cs)\/h.get b=some (.fM cs)) (hz:∀(j:Nat) z,xs[j]? =some z->cs[o+j]? =some (.string z)) (hne:0<xs.length) (hn:xs.length<=140737488355328) (hlen:(qU xs sep).data.size<=140737488355328):
 iG P ⟨.func f,[.slice (some ⟨b,o,fl⟩) xs.length c,.string sep],[],none⟩ h (λr pm h2=>pm=none/\r=.ok (.string (qU xs sep))/\h2=h):=by
 intro β w fn' args' cap' hG hW hf ha hcap;obtain⟨gP,t1,t2⟩:=yI (P:=P) (q:=⟨.func f,[.slice (some ⟨b,o,fl⟩) xs.length c,.string sep],[],none⟩) (f:=f) (args:=[.slice (some ⟨b,o,fl⟩) xs.length c,.string sep]) (by simp only[target,gK,fJ]) hf ha hcap hfn hb hname w;cases t2 with|cons hv tl=>
 cases tl with|cons hv2 tl=>
 cases tl;have:=hv2.uP;subst this;obtain⟨g,a,c',hi,rfl,hab,_,hn1,hcc,hao,_⟩:=hv.kJ;have hao:a.off=g.off+o/\a.spot=none:=by
  rcases hao with e|e
  ·omega
  ·exact e
 have ea:a=⟨g.b,g.off+o,none⟩:=by
  obtain⟨ab,ao,ags⟩:=a;simp only at hab hao;rw[hab,hao.1,hao.2]
 subst ea;obtain⟨hlt,q6⟩:g.b<w.heap.size/\∀(j:Nat) v,cs[j]? =some v->∃v',w.cell? ⟨g.b,g.off+j,none⟩=some v'/\VR β v v':=by
  rcases hg with hg|hg
  ·have k:=hW.obj b g _ hi hg;exact⟨k.lt,k.2.2.2.2.2⟩
  ·have k:=hW.obj b g _ hi hg;exact⟨k.lt,k.2.2.2⟩
 have hC:=ZW (hJ g.b (g.off+o) c' xs sep w (λj x hj=>by
  obtain⟨v',h1,h2⟩:=q6 (o+j) _ (hz j x hj);have:=h2.uP;subst this;rw[lQ];exact h1) hlt hn (by omega) (by simpa[qU]using hlen)) (by rintro e w' ⟨rfl,_⟩ h;cases h)
 refine⟨_,Frame.enter P f ⟨_⟩ .normal,t1,rfl,λcs0 pI=>?_⟩;obtain⟨e,w',fr,⟨⟨he,hw'⟩,hd⟩,hcomes,hfr,hlv⟩:=hC cs0;subst he;obtain⟨w1,w2⟩:=hW.beyond ⟨λk hk=>hw'.block k hk,hw'.size,hw'.os,hw'.tape,hw'.output,hd⟩;exact⟨.ok (.string (qU xs sep)),none,h,β,_,.returned (.string (qU xs sep)),cs0,⟨rfl,rfl,rfl⟩,w1,w2,.ok (VR.free rfl),.none cs0,.inl ⟨f,_,fr,rfl,hcomes,hfr,hlv.2.2.1,hlv.1,hlv.2.1,hlv.2.2.2⟩⟩
theorem aav{f:FuncId}(hJ:Joins P f){fn:Func}(hfn:P.funcs[f]? =some fn){body:Code}(hb:fn.body=some body)(hname:fn.name≠ "runtime.NumGoroutine"){v:Value}{xs:List ByteArray}{sep:ByteArray}(hne:0<xs.length)(hn:xs.length<=140737488355328)
 (hlen:(qU xs sep).data.size<=140737488355328):aT P (.func f) [v,.string sep] [] [] [ae eP v xs] (λ_:Unit=>.string (qU xs sep)) (λ_=>[]) (λ_=>[]) (λ_=>True):=by
 intro B w s;rcases s.facts _ (cB.2 rfl)with⟨h,_⟩|⟨b,o,fl,c,cells,⟨e1,_,_⟩,h2,h3⟩
 ·rw[h]at hne;simp at hne
 subst e1;refine .real (Ba _ (aau hJ hfn hb hname h2.2 (λj z hj=>?_) hne hn hlen) ?_)
 ·obtain⟨y,u1,_⟩:=h3 j z hj;have:=u1 0 (.string z) rfl;simpa[eP]using this
 ·rintro r pm h' ⟨rfl,rfl,rfl⟩;exact⟨rfl,w,(),rfl,⟨s.agree,s.le,s.eG,s.own,λf h=>by cases h⟩,rfl,trivial⟩
def nR(P:Program)(n g0:Nat)(cs:List Value):Lay:=(List.range n).map λg=>(some ⟨g,0,0,tu P g,0⟩,if g=g0 then some cs else none)
theorem Js{n i g0:Nat}{cs:List Value}(h:i<n):(nR P n g0 cs)[i]? =some (some ⟨i,0,0,tu P i,0⟩,if i=g0 then some cs else none):=by
 unfold nR;rw[cK,zN h];rfl
theorem aaw(n g0:Nat)(cs:List Value):(nR P n g0 cs).length=n:=by unfold nR;rw[bI,Lt]
section
variable {H:Type} {enc:TypeId×Value->H} {W:World}
theorem aax(mM:P.follows .mixedOrders=true){f:FuncId}(fn:Func)(hfn:P.funcs[f]? =some fn)(hbody:fn.body.isNone=false)(hname:(fn.name== "runtime.NumGoroutine")=false){K:TypeId->Prop}
 (hK:∀t,K t->PlainT P K t) {ts:List TypeId} {vs:List Value} {ds:List (DataW H)} {ps:List MemPlace} (hT:∀t∈ts,K t) (hok:∀(j:Nat) t v,ts[j]? =some t->vs[j]? =some v->Value.okWide P W .any 0 t v)
 (hA:DataW.TrodAll enc P W 0 (λ_=>true) true ts vs ds ps) {name:String} {g0:Nat} {k:IntKind} {zs:List Int} (hg:P.globalNamed name=some g0) (hlt:g0<P.globals.size) (hsz:tu P g0=zs.length) (htab:Lib.TabIs P W name k zs)
 (aay:∀(w:Wd) (vs':List Value),P.globals.size<=w.h.next->(∀i,i<w.h.next->w.z i)->(mX g0 (zs.map λz=>Value.int k z)).p w->vs'.length=vs.length->(∀(j:Nat) t v d,ts[j]? =some t->vs'[j]? =some v->ds[j]? =some d->rX P w t v d)->∃F,(∀f∈F,f.p w)/\ik P f vs' F (.bool true)):
 Calls P f ⟨vs⟩ W (λe w'=>e=.returned (.bool true)/\Below W.heap.size W w'):=by
 have tcs:=zs.map λz=>Value.int k z;obtain⟨M,vs',h1,h2,h3⟩:=NR hK hT hok hA (nR P P.globals.size g0 (zs.map λz=>Value.int k z));have hlG:=aaw (P:=P) P.globals.size g0 (zs.map λz=>Value.int k z);have hL0:(nR P P.globals.size g0 (zs.map λz=>Value.int k z)++M)[g0]? =some (some ⟨g0,0,0,tu P g0,0⟩,some (zs.map λz=>Value.int k z)):=by
  rw[iW (by omega),Js hlt,if_pos rfl]
 have hblk:∃t fz,W.heap[g0]? =some (.cells (zs.map λz=>Value.int k z).toArray t fz):=by
  unfold Lib.TabIs World.var? at htab;rw[hg,iA]at htab;split at htab
  ·rename_i e;cases htab;exact⟨_,_,e⟩
  ·cases htab
 refine Zw mM fn hfn hbody hname (L:=nR P P.globals.size g0 (zs.map λz=>Value.int k z)++M) (args:=vs') (λg hg=>⟨⟨g,0,0,tu P g,0⟩,?_,rfl,rfl,rfl⟩) (λi g cs hi=>?_) h1 rfl ?_
 ·unfold ig;rw[iW (by omega),Js hg];rfl
 ·by_cases hlt':i<P.globals.size
  ·rw[iW (by omega),Js hlt']at hi;by_cases hi0:i=g0
   ·subst hi0;rw[if_pos rfl]at hi;cases hi;obtain⟨t,fz,hb⟩:=hblk;refine⟨⟨_,t,fz,hb,.inr (by rw[hsz];simp)⟩,rfl,?_,λj v hj=>⟨v,?_,VR.free ?_⟩⟩
    ·rw[jA];intro v hv;obtain⟨z,_,rfl⟩:=gz.1 hv;rfl
    ·simp only[World.cell?,dB];rw[hb];simpa using hj
    ·rw[cK]at hj;cases e:zs[j]? with
     |none=>rw[e]at hj;cases hj
     |some z=>rw[e]at hj;cases hj;rfl
   ·rw[if_neg hi0]at hi;cases hi
  ·exact h3 i g cs (by omega) hi
 have hlen:vs'.length=vs.length:=by
  have:∀{a b:List Value},aD (ig (nR P P.globals.size g0 (zs.map λz=>Value.int k z)++M)) a b->a.length=b.length:=by
   intro a;induction a with
   |nil=>intro b h;cases h;rfl
   |cons x a ih=>intro b h;cases h with|cons q r=>simp[ih r]
  exact this h1
 obtain⟨F,hF,hfn'⟩:=aay (Et (nR P P.globals.size g0 (zs.map λz=>Value.int k z)++M)) vs' (by show _<=(nR P P.globals.size g0 (zs.map λz=>Value.int k z)++M).length;rw[dK];omega) (λi hi=>hi)
  ⟨by show _<(nR P P.globals.size g0 (zs.map λz=>Value.int k z)++M).length;rw[dK];omega,by show(iH _).get g0=_;rw[Dz,hL0];rfl⟩ hlen (λj t v d ht hv hd=>by
  obtain⟨v0,e,lF⟩:=YK (ts:=ts) h1 j v hv;exact YJ rfl (h2 j t v d ht hv hd) lF (hok j t v0 ht e))
 have st:St [] (Et (nR P P.globals.size g0 (zs.map λz=>Value.int k z)++M)) [] F (Et (nR P P.globals.size g0 (zs.map λz=>Value.int k z)++M)):=⟨⟨aC _,λ_ _ _=>rfl,λ_ _=>rfl⟩,Wd.Le.refl _,λi _ hz=>.inl hz,⟨[],rfl,Gl,λi hi=>by cases hi⟩,hF⟩
 refine .uV _ (hfn' [] (Et (nR P P.globals.size g0 (zs.map λz=>Value.int k z)++M)) st) ?_;rintro r pm h' ⟨rfl,w',y,rfl,s,rfl,_⟩;exact⟨rfl,rfl,⟨s.agree.next,λi hi=>s.agree.get i hi (by simp),λhl=>s.agree.low hl (by simp)⟩⟩
end
end Go.Ideal
namespace Go.Ideal
variable {P:Program} {B:List Nat} {w0:Wd} {kl kl' aW:List OA} {F:List aB} {K:KO} {ds:List Tmp} {rest:List aP} {n:Nat} {l:List (Nat×Value)} {D:List Deferred} {pm:Option FrameMode} {ro:Option Nat} {d:Nat} {g:Option (Tmp×Bool)}
def sk{α:Type}(E:Enc α)(v:Value)(aa:List (α×E.Y)):OA:=
 ⟨λw S=>(aa=[]/\v=.slice none 0 0/\S=[])\/∃b f c r,v=.slice (some ⟨b,0,some f⟩) aa.length c/\(f=0\/f=E.n)/\S=[b]/\w.h.get b=some (.cells (aK E aa++r))/\aa.length*E.n+r.length=c*E.n/\aa.length<=c/\
  ∀p∈aa,∀q∈E.fs p.1 p.2,q.p w,
  λa h hp=>by
   rcases hp with hp|⟨b,f,c,r,h1,h2,h3,h4,h5,h6,h7⟩
   ·exact .inl hp
   ·exact .inr ⟨b,f,c,r,h1,h2,h3,by rw[h b (by rw[h3];exact cB.2 rfl)];exact h4,h5,h6,λp hp q hq=>q.mono a (h7 p hp q hq)⟩⟩
section
variable {α:Type} {v:Value}
theorem Pv(E:Enc α){Q:IH->Prop}(h:R Q B w0 (sk E (.slice none 0 0) []::kl) F):R Q B w0 kl F:=λw s=>by
 obtain⟨S,h1,h2,h3⟩:=s.own;exact h w ⟨s.agree,s.le,s.eG,⟨S,⟨[],S,.inl ⟨rfl,rfl,rfl⟩,h1,rfl⟩,h2,h3⟩,s.facts⟩
theorem qV(E:Enc α){aa:List (α×E.Y)}{Q:IH->Prop}(h:∀a c,v=.slice a aa.length c->R Q B w0 kl F)(hk:ah (sk E v aa) kl kl':=by exact gp):R Q B w0 kl F:=λw s=>by
 obtain⟨S,⟨S1,S2,q1,q2,e⟩,h2,h3⟩:=(s.eT hk).own;rcases q1 with⟨rfl,h1,_⟩|⟨b,f,c,r,h4,_⟩
 ·exact h _ _ h1 w s
 ·exact h _ _ h4 w s
theorem BC(E:Enc α){aa:List (α×E.Y)}{x:Operand}(next:R (λh=>ax P ds rest (act n ((d,.int .i64 (aa.length:Int))::l) D pm ro) h K) B w0 kl F)(hx:ev l x=v:=by conv=>lhs;whnf)(hk:ah (sk E v aa) kl kl':=by exact gp)(hn:Nat.blt d n=true:=by rfl)(hg:aZ l g=true:=by rfl):
 R (λh=>ax P ds (⟨⟨some d,g,.iN x⟩,[]⟩::rest) (act n l D pm ro) h K) B w0 kl F:=
 qV E (v:=v) (aa:=aa) (λa c e=>(bV hn hg (Bo (hx.trans e))).h next) hk
theorem xm(E:Enc α){aa:List (α×E.Y)}{Q:IH->Prop}(hne:0<aa.length)(h:∀b f c r,(f=0\/f=E.n)->aa.length*E.n+r.length=c*E.n->aa.length<=c->v=.slice (some ⟨b,0,some f⟩) aa.length c->R Q B w0 (pt b (.cells (aK E aa++r))::kl') (mW E aa::F))(hk:ah (sk E v aa) kl kl':=by exact gp):
 R Q B w0 kl F:=λw s=>by
 have s1:=s.eT hk;obtain⟨S,⟨S1,S2,q1,q2,e⟩,h2,h3⟩:=s1.own;rcases q1 with⟨h0,_⟩|⟨b,f,c,r,e1,e2,e3,e4,e5,e6,e7⟩
 ·rw[h0]at hne;simp at hne
 ·refine h b f c r e2 e5 e6 e1 w ⟨s1.agree,s1.le,s1.eG,⟨S,⟨S1,S2,⟨e3,e4⟩,q2,e⟩,h2,h3⟩,λq hq=>?_⟩;rcases bZ.1 hq with rfl|hq
  ·exact e7
  ·exact s1.facts q hq
theorem Jt(E:Enc α){aa:List (α×E.Y)}{Q:IH->Prop}{b f c m:Nat}{r:List Value}(hm:m=aa.length)(hf:f=0\/f=E.n)(hr:aa.length*E.n+r.length=c*E.n)(hc:aa.length<=c)(h:R Q B w0 (sk E (.slice (some ⟨b,0,some f⟩) m c) aa::kl') F)
 (hk:ah (pt b (.cells (aK E aa++r))) kl kl':=by exact gp) (ha:mW E aa∈F:=by exact mU):R Q B w0 kl F:=λw s=>by
 have hall:=s.facts _ ha;refine h w ((s.eT hk).nN (A:=pt b (.cells (aK E aa++r))) λS hp=>.inr ⟨b,f,c,r,by rw[hm],hf,hp.1,hp.2,hr,hc,hall⟩)
theorem BD(E:Enc α){aa:List (α×E.Y)}{k:Nat}{p:α×E.Y}{Q:IH->Prop}{F2:List aB}(hp:aa[k]? =some p)(h:R Q B w0 kl F2)(hf:mW E aa∈F:=by exact mU)(ha:bO (E.fs p.1 p.2) F F2:=by repeat (first|exact bO.nil|apply bO.cons|exact bO.self|exact bO.app)):R Q B w0 kl F:=λw s=>
 h w ⟨s.agree,s.le,s.eG,s.own,λq hq=>by
  rw[<- ha.eq]at hq;rcases fI.1 hq with hq|hq
  ·exact s.facts _ hf p (dA hp) q hq
  ·exact s.facts q hq⟩
theorem pV{E:Enc α}{aa:List (α×E.Y)}{k j o:Nat}{p:α×E.Y}{u:Value}{r:List Value}(hp:aa[k]? =some p)(hu:(E.pat p.1 p.2)[j]? =some u)(ho:o=k*E.n+j):(aK E aa++r)[o]? =some u:=by
 subst ho;have h:=xh hp hu;rw[iW (dU.1 h).1];exact h
theorem lX{re:List fq}(E:Enc α){e:TypeId}{size bytes b':Nat}{s x:Operand}{aa:List (α×E.Y)}(a:α)(y:E.Y){cs:List Value}{k1 k2:List OA}
 (hm:(aa.length+1)*bytes<=1073741824/\(aa.length+1)*size<=1073741824/\aa.length+1<=1073741824)
 (next:∀v',R (λh=>ax P ds rest (act n ((d,v')::l) D pm ro) h K) B w0 (sk E v' (aa++[(a,y)])::k2) F)
 (hn:Nat.blt d n=true:=by rfl) (hg:aZ l g=true:=by rfl)
 (hs:ev l s=v:=by conv=>lhs;whnf) (hx:ev l x=.slice (some ⟨b',0,some 0⟩) 1 1:=by rfl) (hk:ah (sk E v aa) kl k1:=by exact gp) (hc:ah (pt b' (.cells cs)) k1 k2:=by exact gp) (hp:cs=E.pat a y:=by rfl) (hF:Sub (E.fs a y) F:=by exact mR) (hz:E.n=size:=by rfl)
 (hsm:∀v',Same P re (ev ((d,v')::l)) ((d,v')::l) B w0 (sk E v' (aa++[(a,y)])::k2) F:=by intro _;repeat (first|exact qK|refine pO rfl (by repeat (first|with_reducible exact ah.here|with_reducible apply ah.there|with_reducible apply ah.app)) (by first|exact rfl|(conv=>lhs;whnf)) rfl ?_|refine yV rfl (by(repeat (first|with_reducible exact aS .. |with_reducible apply bW));first|done|fail) (by first|exact rfl|(conv=>lhs;whnf)) rfl ?_|refine yX rfl (by(repeat (first|with_reducible exact aS .. |with_reducible apply bW));first|done|fail) (by first|exact rfl|(conv=>lhs;whnf)) rfl ?_|refine yY rfl (by repeat (first|with_reducible exact ah.here|with_reducible apply ah.there|with_reducible apply ah.app)) (by first|exact rfl|(conv=>lhs;whnf)) rfl ?_|refine yZ rfl (by(repeat (first|with_reducible exact aS .. |with_reducible apply bW));first|done|fail) (by first|exact rfl|(conv=>lhs;whnf)) rfl ?_|refine y7 rfl (by(repeat (first|with_reducible exact aS .. |with_reducible apply bW));first|done|fail) (by first|exact rfl|(conv=>lhs;whnf)) rfl ?_)):
 R (λh=>ax P ds (⟨⟨some d,g,.append e size bytes s x⟩,re⟩::rest) (act n l D pm ro) h K) B w0 kl F:=λw st=>by
 subst hp hz;have hlen:=E.len a y;have st2:St B w0 (sk E v aa::pt b' (.cells (E.pat a y))::k2) F w:=st.jb (.cons hk (.cons hc .nil));have hat:At w.h b' (.cells (E.pat a y)):=st2.at_ (.there .here);have jP:St B w0 (sk E v aa::k2) F w:=(st2.eT (.there .here)).tail;have hfs:∀f∈E.fs a y,f.p w:=λf hf=>st.facts f (hF.mem f hf);have hread:w.h.dL b' 0 (1*E.n)=some (E.pat a y):=by
  rw[hat.c.dL,jE,jF,xV,qi,if_pos (by omega),<- hlen,iB]
 have hx1:jY (ev l x)=some (0+1):=by rw[hx];rfl
 have hx2:jC E.n (0+1) (ev l x) w.h=some (E.pat a y):=by rw[hx];exact hread
 have hone:aK E [(a,y)]=E.pat a y:=by simp[aK]
 have put:∀(w':Wd) (c:Nat) (f cc:Nat) (r:List Value),(f=0\/f=E.n)->(∀p∈aa,∀q∈E.fs p.1 p.2,q.p w')->(∀q∈E.fs a y,q.p w')->(aa.length+1)*E.n+r.length=cc*E.n->aa.length+1<=cc->
  ∀S,(pt c (.cells (aK E aa++(E.pat a y++r)))).p w' S->(sk E (.slice (some ⟨c,0,some f⟩) (aa.length+1) cc) (aa++[(a,y)])).p w' S:=by
  intro w' c f cc r h1 h2 h3 h4 h5 S hp;refine .inr ⟨c,f,cc,r,by rw[dK];rfl,h1,hp.1,?_,by rw[dK];exact h4,by rw[dK];exact h5,λp hp=>?_⟩
  ·rw[zm,hone,gY];exact hp.2
  ·rcases fI.1 hp with hp|hp
   ·exact h2 p hp
   ·rw[cB.1 hp];exact h3
 obtain⟨S,⟨S1,S2,q,q2,e1⟩,hnd,hown⟩:=jP.own;rcases q with⟨rfl,rfl,rfl⟩|⟨b,f,c,r,rfl,hf,rfl,hb,hrl,hcl,hel⟩
 ·have key:∀h',Agree w.h h'->At h' w.h.next (.cells (E.pat a y))->h'.next=w.h.next+1->∃w':Wd,w'.h=h'/\St B w0 (sk E (.slice (some ⟨w.h.next,0,some E.n⟩) 1 1) ([]++[(a,y)])::k2) F w':=λh' ag mP hnx=>by
   obtain⟨w',e1,dG⟩:=jP.tail.fresh ag mP hnx;refine⟨w',e1,dG.nN λS hp=>?_⟩;exact put w' _ E.n 1 [] (.inr rfl) (λp hp=>by cases hp) (λf hf=>dG.facts f (hF.mem f hf)) (by simp) (by simp) S (by simpa[aK]using hp)
  refine O3 (c:=0) hn hg hs hx1 hx2 (by simpa using hm) (λh' ag mP hnx=>?_) λh' ag mP hnx=>?_
  ·obtain⟨w',rfl,dG⟩:=key h' ag mP hnx;exact hsm _ w' dG
  ·obtain⟨w',rfl,dG⟩:=key h' ag mP hnx;exact next _ w' dG
 ·have lJ:St B w0 (pt b (.cells (aK E aa++r))::k2) F w:=⟨jP.agree,jP.le,jP.eG,⟨S,⟨_,S2,⟨rfl,hb⟩,q2,e1⟩,hnd,hown⟩,jP.facts⟩
  have yS:At w.h b (.cells (aK E aa++r)):=lJ.at_ .here;have hfl:=qR aa;by_cases hlt:aa.length<c
  · -- in place
    have hle:∀{a b:Nat},a<=b->Nat.ble a b=true:=λh=>by rw[mq];exact h
    have hroom:E.n<=r.length:=by
     have h1:(aa.length+1)*E.n<=c*E.n:=Nat.mul_le_mul_right _ hlt;rw[lg,xV]at h1;omega
    have hlv:fV (aK E aa++r) (aK E aa).length (E.pat a y)=some (aK E aa++(E.pat a y++r.drop E.n)):=by
     rw[EM (by omega),hlen]
    have vH:St B w0 (sk E (.slice (some ⟨b,0,some f⟩) (aa.length+1) c) (aa++[(a,y)])::k2) F ⟨w.h.set b (.cells (aK E aa++(E.pat a y++r.drop E.n))),w.z,λi hi=>w.gX i hi⟩:=by
     have EY:=lJ.write (o':=.cells (aK E aa++(E.pat a y++r.drop E.n)));have nO:w.Le ⟨w.h.set b (.cells (aK E aa++(E.pat a y++r.drop E.n))),w.z,λi hi=>w.gX i hi⟩:=by
      refine⟨aC _,λ_ h=>h,λi hi=>?_⟩;have:i≠b:=λe=>(hown b (by rw[e1];simp)).2.2 (e▸hi);show(w.h.set b _).get i=_;rw[IH.jM,if_neg this]
     refine EY.nN λS hp=>put _ b f c (r.drop E.n) hf (λp hp q hq=>q.mono nO (hel p hp q hq)) (λq hq=>q.mono nO (hfs q hq)) ?_ hlt S hp;rw[iY,lg,xV];omega
    refine zk hn hg (v:=.slice (some ⟨b,0,some f⟩) (aa.length+1) c) (h':=w.h.set b (.cells (aK E aa++(E.pat a y++r.drop E.n)))) ?_ (hsm _ ⟨w.h.set b _,w.z,λi hi=>w.gX i hi⟩ vH) (next _ ⟨w.h.set b _,w.z,λi hi=>w.gX i hi⟩ vH)
    ·have e2:w.h.storeAt b (Nat.add 0 (Nat.mul aa.length E.n)) (E.pat a y)=some (w.h.set b (.cells (aK E aa++(E.pat a y++r.drop E.n)))):=by
      unfold IH.storeAt;simp only[hb];rw[show Nat.add 0 (Nat.mul aa.length E.n)=(aK E aa).length by rw[hfl];exact dB _,hlv]
     have aaz:jY (ev l x)=some 1:=hx1;have aaA:rP E.n 1 (ev l x) w.h=some (E.pat a y):=hx2;simp only[ai.run,aaz,aaA,hs,mE];show cond (Nat.ble (Nat.mul (aa.length+1) bytes) small&&Nat.ble (Nat.mul (aa.length+1) E.n) small&&Nat.ble (aa.length+1) small) (cond (Nat.ble (aa.length+1) c) (match w.h.storeAt b (Nat.add 0 (Nat.mul aa.length E.n)) (E.pat a y)with|some h=>some (Value.slice (some ⟨b,0,some f⟩) (aa.length+1) c,h)|none=>none) _) none=_;rw[hle (show Nat.mul (aa.length+1) bytes<=small from hm.1),hle (show Nat.mul (aa.length+1) E.n<=small from hm.2.1),hle (show aa.length+1<=small from hm.2.2),hle hlt,e2];rfl
  ·have hc:c=aa.length:=by omega
   subst hc;have hr0:r=[]:=qc.1 (by omega);subst hr0;rw[fJ]at hb yS lJ;have key:∀h',uZ w.h h' b (.cells (aK E aa++E.pat a y))->∃w':Wd,w'.h=h'/\St B w0 (sk E (.slice (some ⟨w.h.next,0,some E.n⟩) (aa.length+1) (aa.length+1)) (aa++[(a,y)])::k2) F w':=λh' mv=>by
    obtain⟨w',e1,dG,nO⟩:=lJ.move mv;refine⟨w',e1,dG.nN λS hp=>?_⟩;exact put w' _ E.n (aa.length+1) [] (.inr rfl) (λp hp q hq=>q.mono nO (hel p hp q hq)) (λf hf=>dG.facts f (hF.mem f hf)) (by simp) (aC _) S (by rw[fJ];exact hp)
   refine Jj (old:=aK E aa) (xs:=E.pat a y) hn hg hs hx1 hx2 ?_ (hf.elim (λe=>.inl (by rw[e])) λe=>.inr (by rw[e])) hm (λh' mv=>?_) λh' mv=>?_
   ·rw[yS.c.dL,jE,jF,qi,if_pos (by omega),<- hfl,iB]
   ·obtain⟨w',rfl,dG⟩:=key h' mv;exact hsm _ w' dG
   ·obtain⟨w',rfl,dG⟩:=key h' mv;exact next _ w' dG
end
theorem Ju{α:Type}(E:Enc α){aa:List (α×E.Y)}{Q:IH->Prop}{b f c m:Nat}{r:List Value}(hm:m<=aa.length)(hf:f=0\/f=E.n)(hr:aa.length*E.n+r.length=c*E.n)(hc:aa.length<=c)(h:R Q B w0 (sk E (.slice (some ⟨b,0,some f⟩) m c) (aa.take m)::kl') F)
 (hk:ah (pt b (.cells (aK E aa++r))) kl kl':=by exact gp) (ha:mW E aa∈F:=by exact mU):R Q B w0 kl F:=λw s=>by
 have hall:=s.facts _ ha;refine h w ((s.eT hk).nN (A:=pt b (.cells (aK E aa++r))) λS hp=>.inr ⟨b,f,c,aK E (aa.drop m)++r,by rw[fB,Nat.min_eq_left hm],hf,hp.1,?_,?_,?_,λp hp=>hall p (xO hp)⟩)
 ·rw[<- gY,<- zm,xU];exact hp.2
 ·rw[dK,qR,fB,iY,Nat.min_eq_left hm,<- hr,<- lQ,<- lg];congr 2;omega
 ·rw[fB];omega
theorem tV{α:Type}(E:Enc α){v:Value}{aa:List (α×E.Y)}:vB (sk E v aa) [ae E v (aa.map (·.1))]:=λw w' S hp hle hh hz f hf=>by
 rw[cB.1 hf];rcases hp with⟨rfl,rfl,_⟩|⟨b,f,c,r,e1,e2,e3,e4,e5,e6,e7⟩
 ·exact .inl ⟨rfl,none,0,rfl,trivial⟩
 ·refine .inr ⟨b,0,f,c,aK E aa++r,⟨by rw[bI];exact e1,by rw[bI];exact e6,e2⟩,⟨hz b (by rw[e3];exact cB.2 rfl),.inl (by rw[hh];exact e4)⟩,λk x hx=>?_⟩;rw[cK]at hx;cases e:aa[k]? with
  |none=>rw[e]at hx;cases hx
  |some p=>
   rw[e]at hx;cases hx;exact⟨p.2,λj u hj=>pV e hj (by omega),λq hq=>q.mono hle (e7 p (dA e) q hq)⟩
theorem mY{re:List fq}{x:Operand}{b o:Nat}{cs:List Value}{v:Value}{l':List (Nat×Value)}(hx:ev l' x=.pointer (some ⟨b,o,none⟩))(hk:ah (pt b (.cells cs)) kl kl')(hv:cs[o]? =some v)(hd:lk l' d=v)
 (t:Same P re (ev l') l' B w0 kl F):Same P (⟨some d,g,.aH x⟩::re) (ev l') l' B w0 kl F:=
 pO hx hk (by rw[mH];exact hv) hd t
theorem Pw(hg:wT l g=true):(act n l D pm ro).wants g=some false:=by
 cases g with
 |none=>cases hg
 |some p=>
  obtain⟨t,w⟩:=p;rw[Be];simp only[wT]at hg;split at hg
  ·rename_i b hb;rw[hb];cases w<;>cases b<;>simp_all
  ·rename_i b hb;rw[hb]
  ·cases hg
def aq{α:Type}(E:Enc α)(v:Value)(aa:List (α×E.Y)):OA:=
 ⟨λw S=>(aa=[]/\v=.slice none 0 0/\S=[])\/∃b f,v=.slice (some ⟨b,0,some f⟩) aa.length aa.length/\(f=0\/f=E.n)/\S=[b]/\w.h.get b=some (.cells (aK E aa))/\∀p∈aa,∀q∈E.fs p.1 p.2,q.p w,
  λa h hp=>by
   rcases hp with hp|⟨b,f,h1,h2,h3,h4,h7⟩
   ·exact .inl hp
   ·exact .inr ⟨b,f,h1,h2,h3,by rw[h b (by rw[h3];exact cB.2 rfl)];exact h4,λp hp q hq=>q.mono a (h7 p hp q hq)⟩⟩
section
variable {α:Type} {v:Value}
theorem aaB(E:Enc α){Q:IH->Prop}(h:R Q B w0 (aq E (.slice none 0 0) []::kl) F):R Q B w0 kl F:=λw s=>by
 obtain⟨S,h1,h2,h3⟩:=s.own;exact h w ⟨s.agree,s.le,s.eG,⟨S,⟨[],S,.inl ⟨rfl,rfl,rfl⟩,h1,rfl⟩,h2,h3⟩,s.facts⟩
theorem xn(E:Enc α){b:Nat}{Q:IH->Prop}(h:R Q B w0 (aq E (.slice (some ⟨b,0,some 0⟩) 0 0) []::kl') F)(hk:ah (pt b (.cells [])) kl kl':=by exact gp):R Q B w0 kl F:=λw s=>
 h w ((s.eT hk).yR (A:=pt b (.cells [])) λw S hp=>.inr ⟨b,0,rfl,.inl rfl,hp.1,hp.2,λp hp=>by cases hp⟩)
theorem vJ(E:Enc α){aa:List (α×E.Y)}{Q:IH->Prop}(h:R Q B w0 (sk E v aa::kl') F)(hk:ah (aq E v aa) kl kl':=by exact gp):R Q B w0 kl F:=λw s=>
 h w ((s.eT hk).yR (A:=aq E v aa) λw S hp=>by
  rcases hp with hp|⟨b,f,h1,h2,h3,h4,h7⟩
  ·exact .inl hp
  ·exact .inr ⟨b,f,aa.length,[],h1,h2,h3,by rw[fJ];exact h4,by simp,aC _,h7⟩)
theorem vK{re:List fq}(E:Enc α){e:TypeId}{size bytes:Nat}{s x:Operand}{vx:Value}{aa:List (α×E.Y)}(bM:List (α×E.Y))(hm:(aa.length+bM.length)*bytes<=1073741824/\(aa.length+bM.length)*size<=1073741824/\aa.length+bM.length<=1073741824)
 (next:∀v',R (λh=>ax P ds rest (act n ((d,v')::l) D pm ro) h K) B w0 (aq E v' (aa++bM)::kl') F)
 (hs:ev l s=v:=by conv=>lhs;whnf) (hx:ev l x=vx:=by conv=>lhs;whnf) (hf:oD E vx bM∈F:=by exact mU) (hz:E.n=size:=by rfl) (hk:ah (aq E v aa) kl kl':=by exact gp) (hn:Nat.blt d n=true:=by rfl) (hg:aZ l g=true:=by rfl)
 (hsm:∀v',Same P re (ev ((d,v')::l)) ((d,v')::l) B w0 (aq E v' (aa++bM)::kl') F:=by intro _;repeat (first|exact qK|refine pO rfl (by repeat (first|with_reducible exact ah.here|with_reducible apply ah.there|with_reducible apply ah.app)) (by first|exact rfl|(conv=>lhs;whnf)) rfl ?_|refine yV rfl (by(repeat (first|with_reducible exact aS .. |with_reducible apply bW));first|done|fail) (by first|exact rfl|(conv=>lhs;whnf)) rfl ?_|refine yX rfl (by(repeat (first|with_reducible exact aS .. |with_reducible apply bW));first|done|fail) (by first|exact rfl|(conv=>lhs;whnf)) rfl ?_|refine yY rfl (by repeat (first|with_reducible exact ah.here|with_reducible apply ah.there|with_reducible apply ah.app)) (by first|exact rfl|(conv=>lhs;whnf)) rfl ?_|refine yZ rfl (by(repeat (first|with_reducible exact aS .. |with_reducible apply bW));first|done|fail) (by first|exact rfl|(conv=>lhs;whnf)) rfl ?_|refine y7 rfl (by(repeat (first|with_reducible exact aS .. |with_reducible apply bW));first|done|fail) (by first|exact rfl|(conv=>lhs;whnf)) rfl ?_)):
 R (λh=>ax P ds (⟨⟨some d,g,.append e size bytes s x⟩,re⟩::rest) (act n l D pm ro) h K) B w0 kl F:=λw st=>by
 subst hz;have st1:=st.eT hk;have hel:=st.facts _ hf;have hall:=EK hel;obtain⟨r1,r2⟩:=EN hel;obtain⟨S,⟨S1,S2,q,q2,e1⟩,hnd,hown⟩:=st1.own;rcases q with⟨rfl,rfl,rfl⟩|⟨b,f,rfl,hf0,rfl,hb,hal⟩
 ·by_cases hne:bM=[]
  ·subst hne;obtain⟨a,c,Px⟩:∃a c,vx=.slice a 0 c:=by
    rcases hel with⟨_,a,c,h,_⟩|⟨i,o,f,c,cells,⟨h,_⟩,_⟩
    ·exact⟨a,c,h⟩
    ·exact⟨_,c,h⟩
   have vH:St B w0 (aq E (.slice none 0 0) ([]++[])::kl') F w:=⟨st1.agree,st1.le,st1.eG,⟨S,⟨[],S2,.inl ⟨rfl,rfl,rfl⟩,q2,e1⟩,hnd,hown⟩,st1.facts⟩
   exact zk hn hg (Zv hs (hx.trans Px) w.h) (hsm _ w vH) (next _ w vH)
  ·obtain⟨k,hk'⟩:∃k,bM.length=k+1:=⟨bM.length - 1,by have:=rF.2 hne;omega⟩
   rw[hk']at r1 r2;have key:∀h',Agree w.h h'->At h' w.h.next (.cells (aK E bM))->h'.next=w.h.next+1->∃w':Wd,w'.h=h'/\St B w0 (aq E (.slice (some ⟨w.h.next,0,some E.n⟩) (k+1) (k+1)) ([]++bM)::kl') F w':=λh' ag mP hnx=>by
    obtain⟨w',e1,dG⟩:=st1.tail.fresh ag mP hnx;refine⟨w',e1,dG.nN λS hp=>.inr ⟨w.h.next,E.n,by rw[dw,hk'],.inr rfl,hp.1,by rw[dw];exact hp.2,λp hp q hq=>?_⟩⟩;rw[dw]at hp;exact EK (dG.facts _ hf) p hp q hq
   refine O3 (c:=0) (k:=k) hn hg hs (by rw[hx];exact r1) (by rw[hx];exact r2) (by rw[hk']at hm;simpa using hm) (λh' ag mP hnx=>?_) λh' ag mP hnx=>?_
   ·obtain⟨w',rfl,dG⟩:=key h' ag mP hnx;exact hsm _ w' dG
   ·obtain⟨w',rfl,dG⟩:=key h' ag mP hnx;exact next _ w' dG
 ·have lJ:St B w0 (pt b (.cells (aK E aa))::kl') F w:=⟨st1.agree,st1.le,st1.eG,⟨S,⟨_,S2,⟨rfl,hb⟩,q2,e1⟩,hnd,hown⟩,st1.facts⟩
  have EY:St B w0 (pt b (.cells (aK E aa))::kl') (mW E aa::F) w:=⟨lJ.agree,lJ.le,lJ.eG,lJ.own,λq hq=>by
   rcases bZ.1 hq with rfl|hq
   ·exact hal
   ·exact lJ.facts q hq⟩
  have key:∀(b' f' m':Nat),m'=(aa++bM).length->(f'=0\/f'=E.n)->∀w2,St B w0 (pt b' (.cells (aK E (aa++bM)))::kl') (mW E aa::F) w2->St B w0 (aq E (.slice (some ⟨b',0,some f'⟩) m' m') (aa++bM)::kl') F w2:=λb' f' m' hm' hf' w2 s2=>by
   have hA1:=s2.facts (mW E aa) (aS ..);have hA2:=EK (s2.facts _ (bW _ hf));have s3:St B w0 (pt b' (.cells (aK E (aa++bM)))::kl') F w2:=s2.sub (iQ.sub (.cons .here));exact s3.nN λS hp=>.inr ⟨b',f',by rw[hm'],hf',hp.1,hp.2,λp hp q hq=>(fI.1 hp).elim (λh=>hA1 p h q hq) (λh=>hA2 p h q hq)⟩
  by_cases hne:bM=[]
  ·subst hne;obtain⟨a,c,Px⟩:∃a c,vx=.slice a 0 c:=by
    rcases hel with⟨_,a,c,h,_⟩|⟨i,o,f,c,cells,⟨h,_⟩,_⟩
    ·exact⟨a,c,h⟩
    ·exact⟨_,c,h⟩
   have st7:St B w0 (pt b (.cells (aK E (aa++[])))::kl') (mW E aa::F) ⟨w.h.set b (.cells (aK E aa)),w.z,λi hi=>w.gX i hi⟩:=by rw[fJ];exact EY.write
   have vH:=key b f aa.length (by rw[fJ]) hf0 _ st7;have hle:∀{a b:Nat},a<=b->Nat.ble a b=true:=λh=>by rw[mq];exact h
   rw[qf,rE]at hm;refine zk hn hg (v:=.slice (some ⟨b,0,some f⟩) aa.length aa.length) (h':=w.h.set b (.cells (aK E aa))) ?_ (hsm _ _ vH) (next _ _ vH);have hfl:=qR aa;have e1:w.h.storeAt b (Nat.add 0 (Nat.mul aa.length E.n)) []=some (w.h.set b (.cells (aK E aa))):=by
    have e2:fV (aK E aa) (Nat.add 0 (Nat.mul aa.length E.n)) []=some (aK E aa):=by
     rw[show Nat.add 0 (Nat.mul aa.length E.n)=(aK E aa).length by rw[hfl];exact dB _];exact Pp _
    unfold IH.storeAt;simp only[hb,e2]
   simp only[ai.run,hx,hs,r1,r2,mE];rw[show Nat.add aa.length (List.length ([]:List (α×E.Y)))=aa.length from rfl,show aK E ([]:List (α×E.Y))=[]from rfl];rw[hle (show Nat.mul aa.length bytes<=small from hm.1),hle (show Nat.mul aa.length E.n<=small from hm.2.1),hle (show aa.length<=small from hm.2.2),hle (aC aa.length)];simp only[zS,cond_true,e1]
  ·obtain⟨k,hk'⟩:∃k,bM.length=k+1:=⟨bM.length - 1,by have:=rF.2 hne;omega⟩
   have hat:At w.h b (.cells (aK E aa)):=lJ.at_ .here;have hfl:=qR aa;have Py:∀h',uZ w.h h' b (.cells (aK E aa++aK E bM))->∃w':Wd,w'.h=h'/\St B w0 (aq E (.slice (some ⟨w.h.next,0,some E.n⟩) (aa.length+(k+1)) (aa.length+(k+1))) (aa++bM)::kl') F w':=λh' mv=>by
    obtain⟨w',e1,dG,nO⟩:=EY.move mv;rw[<- zm]at dG;exact⟨w',e1,key _ _ _ (by rw[dK,hk']) (.inr rfl) w' dG⟩
   rw[hk']at r1 r2 hm;refine Jj (b:=b) (o:=0) (m:=aa.length) (k:=k) (f:=some f) (old:=aK E aa) (xs:=aK E bM) hn hg hs (by rw[hx];exact r1) (by rw[hx];exact r2) ?_ (by rcases hf0 with h|h<;>rw[h];exact .inl rfl;exact .inr rfl) hm (λh' mv=>?_) λh' mv=>?_
   ·rw[hat.c.dL,jE,qi,jF,if_pos (by omega),rH (by omega)]
   ·obtain⟨w',rfl,dG⟩:=Py h' mv;exact hsm _ w' dG
   ·obtain⟨w',rfl,dG⟩:=Py h' mv;exact next _ w' dG
end
theorem aaD{x y:Operand}{b o m:Nat}{cs vs c:List Value}{v:Value}{re:List fq}(hg:aZ l g=true)(hx:ev l x=.pointer (some ⟨b,o,none⟩))(hw:ev l y=v)(hy:cellsOf v=some vs)(hm:Nat.beq (fZ vs) m=true)
 (hk:ah (pt b (.cells cs)) kl kl') (hv:fV cs o vs=some c) (hs:∀r∈re,wT l r.guard=true):
 bK (R (λh=>ax P ds (⟨⟨none,g,.store m x y⟩,re⟩::rest) (act n l D pm ro) h K) B w0 kl F) (R (λh=>ax P ds rest (act n l D pm ro) h K) B w0 (pt b (.cells c)::kl') F):=
 ⟨λr w s=>by
  subst hw;have s':=(s.eT hk).write (o':=.cells c);refine .iK (pJ hg) bN (w.h.set b (.cells c)) (by rw[jH];simp only[ai.run,hx,hy,hm];simp only[IH.storeAt,(s.at_ hk).2,hv];rfl) (λq hq hne=>?_) (r _ s');exact absurd (Pw (hs q hq)) hne⟩
theorem aaE{op:ai}{v:Value}{re:List fq}(hn:Nat.blt d n=true)(hg:aZ l g=true)(hp:Pu P (ev l) op v)(hs:∀r∈re,wT ((d,v)::l) r.guard=true):
 bK (R (λh=>ax P ds (⟨⟨some d,g,op⟩,re⟩::rest) (act n l D pm ro) h K) B w0 kl F) (R (λh=>ax P ds rest (act n ((d,v)::l) D pm ro) h K) B w0 kl F):=
 ⟨λr w s=>by
  refine .iK (pJ hg) v w.h (by rw[jH];exact hp w.h) (λq hq hne=>?_) (by rw[lH hn];exact r w s);rw[lH hn]at hne;exact absurd (Pw (hs q hq)) hne⟩
end Go.Ideal
namespace Go.Ideal
inductive Ren(σ:Nat->Nat)(m n:Nat):Value->Value->Prop
 |free {v:Value} (h:bE v=true):Ren σ m n v v
 |sl {i o k c:Nat} {s:Option Nat} (h1:m<=i) (h2:i<n):Ren σ m n (.slice (some ⟨i,o,s⟩) k c) (.slice (some ⟨σ i,o,s⟩) k c)
inductive nS(σ:Nat->Nat)(m n:Nat):List Value->List Value->Prop
 |nil:nS σ m n [] []
 |cons {v v':Value} {l l':List Value} (h:Ren σ m n v v') (hl:nS σ m n l l'):nS σ m n (v::l) (v'::l')
theorem Ren.vr{σ:Nat->Nat}{m n:Nat}{β β':ak}{v v' w:Value}(hr:Ren σ m n v v')(hv:VR β v' w)(hβ:∀i,m<=i->i<n->β' i=β (σ i)):VR β' v w:=by
 cases hr with
 |free h=>
  rw[hv.kE h];exact VR.free h
 |sl h1 h2=>
  cases hv with
  |bC h hb hn ha=>exact .bC ((hβ _ h1 h2).trans h) hb hn ha
  |lu h hb hs hn hz hl ht hc ha=>exact .lu ((hβ _ h1 h2).trans h) hb hs hn hz hl ht hc ha
theorem nS.len{σ:Nat->Nat}{m n:Nat}:∀{l l':List Value},nS σ m n l l'->l'.length=l.length
 |_,_,.nil=>rfl
 |_,_,.cons _ hl=>by simp[nS.len hl]
theorem nS.get{σ:Nat->Nat}{m n:Nat}:∀{l l':List Value},nS σ m n l l'->∀{j:Nat} {v:Value},l[j]? =some v->∃v',l'[j]? =some v'/\Ren σ m n v v'
 |_,_,.nil,j,v,h=>by simp at h
 |_,_,.cons h hl,0,v,e=>by simp at e;subst e;exact⟨_,rfl,h⟩
 |_,_,.cons h hl,j+1,v,e=>by simpa using nS.get hl (by simpa using e)
theorem Ren.cell{σ:Nat->Nat}{m n:Nat}{v v':Value}(h:Ren σ m n v v')(hc:cellV v'=true):cellV v=true:=by
 cases h with
 |free _=>exact hc
 |sl _ _=>rfl
theorem nS.cells{σ:Nat->Nat}{m n:Nat}:∀{l l':List Value},nS σ m n l l'->l'.all cellV=true->l.all cellV=true
 |_,_,.nil,_=>rfl
 |_,_,.cons h hl,hc=>by
  simp only[wu,fo]at hc⊢;exact⟨h.cell hc.1,nS.cells hl hc.2⟩
structure age(n0 n2:Nat)(lv:List Value)(l2:List (Nat×bQ))(e:List Value×List (Nat×bQ))(σ:Nat->Nat):Prop where
 val:nS σ n0 n2 lv e.1
 up:∀j,n0<=j->j<n2->n0<=σ j
 inj:∀i j,n0<=i->n0<=j->i<n2->j<n2->σ i=σ j->i=j
 get:∀p∈l2,n0<=p.1->∃cs cs',p.2=.cells cs/\(σ p.1,.cells cs')∈e.2/\nS σ n0 n2 cs cs'
