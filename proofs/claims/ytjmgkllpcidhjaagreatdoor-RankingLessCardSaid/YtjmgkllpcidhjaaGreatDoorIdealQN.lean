/-
  The ideal machine, 82: a call from a heap that is known to the letter, over package variables.
-/
import Derived.Test.YtjmgkllpcidhjaaGreatDoorIdealON
import Derived.Lib.Bytealg
import Derived.Lib.Atoi
import Derived.Lib.ConvBytes
import Derived.Shelf.SlSortCmp.WholeK
import Derived.Shelf.SlSortCmp.Whole1
import Derived.Sort.EncStr
import Derived.Test.YtjmgkllpcidhjaaGreatDoorIdealPN
import Derived.Deep.Draws
import Derived.Lib.LaidTab
import Derived.Lib.ItoaNum
import Derived.Lib.Itoa
import Derived.Lib.Join
set_option linter.all false
namespace Go.Ideal
theorem ace{P:Program}{f:FuncId}{fn:Func}(hfn:P.funcs[f]? =some fn){body:Code}(hb:fn.body=some body)(hname:fn.name≠ "runtime.NumGoroutine"){args:List Value}{v:Value}(hv:bY v=true)(ha:args.all bY=true)
 (hC:∀w,Calls P f ⟨args⟩ w λe w'=>e=.returned v/\w'=w) {h:IH}:iG P ⟨.func f,args,[],none⟩ h (λr pm h2=>pm=none/\r=.ok v/\h2=h):=by
 intro β w fn' args' cap' hG hW hf ha' hcap;obtain⟨gY,t1,t2⟩:=zR (P:=P) (q:=⟨.func f,args,[],none⟩) (f:=f) (args:=args) (by simp only[target,gV,gQ]) hf ha' hcap hfn hb hname w;have e2:=aJ.F6 t2 ha;subst e2;refine⟨_,Frame.enter P f ⟨_⟩ .normal,t1,rfl,λcs0 oz=>?_⟩;obtain⟨e,w',fr,⟨he,hw'⟩,hcomes,hfr,hlv⟩:=hC w cs0;subst he hw';exact⟨.ok v,none,h,β,_,.returned v,cs0,⟨rfl,rfl,rfl⟩,hW,Eff.refl _ _ _ hW.dom,.ok (VR.free hv),.none cs0,.inl ⟨f,_,fr,rfl,hcomes,hfr,hlv.2.2.1,hlv.1,hlv.2.1,hlv.2.2.2⟩⟩
noncomputable def F9(fn:Nat):bQ->IH->Option (Value×IH):=λq h=>
 match q with
 |⟨.func f,[.string s,.int .u8 c],[],none⟩=>cond (Nat.beq f fn) (some (.int .i64 (Lib.indexByte s.data.toList c.toNat.toUInt8),h)) none
 |_=>none
theorem acf{P:Program}{f:FuncId}{fn:Func}(hfn:P.funcs[f]? =some fn){body:Code}(hb:fn.body=some body)(hname:fn.name≠ "runtime.NumGoroutine")
 (hC:∀s c w,Calls P f #[.string s,.int .u8 c] w λe w'=>e=.returned (.int .i64 (Lib.indexByte s.data.toList c.toNat.toUInt8))/\w'=w)
 {q:bQ} {h:IH} {v':Value} {h':IH} (hk:F9 f q h=some (v',h')):CALL P q h (λr pm h2=>r=.ok v'/\pm=none/\h2=h'):=by
 unfold F9 at hk;split at hk
 ·rename_i g s c;cases hcd:Nat.beq g f with
  |false=>rw[hcd]at hk;cases hk
  |true=>
   rw[hcd]at hk;have e:=fZ hcd;subst e;injection hk with hk;injection hk with h1 h2;subst h1 h2;refine .uK _ (.real (ace hfn hb hname rfl rfl λw=>hC s c w)) ?_;rintro r pm h2 ⟨a,b,c⟩;exact⟨b,a,c⟩
 ·cases hk
structure Beyond(w w':World):Prop where
 heap:∀b,b<w.heap.size->w'.heap[b]? =w.heap[b]?
 size:w.heap.size<=w'.heap.size
 os:w'.os=w.os
 tape:w'.tape=w.tape
 output:w'.output=w.output
 drawn:w.drawn<=w'.drawn
theorem WR.beyond{P:Program}{β:az}{h:IH}{w w':World}(hW:WR P β h w)(hb:Beyond w w'):WR P β h w'/\Eff β h w β h w':=
 ⟨⟨hW.dom,hW.live,λi g o h1 h2=>(hW.obj i g o h1 h2).congr (hb.heap _ (hW.obj i g o h1 h2).lt),hW.inj⟩,
  ⟨λ_ _=>rfl,aH _,λ_ _ h=>h,λ_ _ _=>rfl,aH _,λ_ _ _=>rfl,hb.os,hb.tape,hb.output,hb.size,λb hb' _=>hb.heap b hb',λi g hg hi=>absurd (hW.dom _ _ hg) (by omega),λi g _ _ _ _ hb'=>hb.heap _ hb',hb.drawn⟩⟩
end Go.Ideal
namespace Go.Ideal
open Go.Sort Go.Proofs Go.RowKit Go.Lib Go.Shelf
variable {P:Program}
theorem Beyond.grown{w w':World}(h:Beyond w w'):∃q os,w'=Go.Sort.grow (w.drewN q) os:=by
 refine⟨w'.drawn - w.drawn,w'.heap.extract w.heap.size w'.heap.size,?_⟩;obtain⟨heap,tape,drawn,os,output⟩:=w;obtain⟨heap',tape',drawn',os',output'⟩:=w';obtain⟨h1,h2,h3,h4,h5,h6⟩:=h;dsimp only at h1 h2 h3 h4 h5 h6;subst h3 h4 h5;have e1:heap'=heap++heap'.extract heap.size heap'.size:=by
  apply NJ;intro i;rw[Array.getElem?_append];split
  ·rename_i hi;exact h1 i hi
  ·rename_i hi;rw[Array.getElem?_extract];by_cases hl:i<heap'.size
   ·rw[if_pos (by omega),show heap.size+(i - heap.size)=i by omega]
   ·rw[if_neg (by omega),o8 (by omega)]
 have e2:drawn'=drawn+(drawn' - drawn):=by omega
 show World.mk heap' tape' drawn' os' output'=World.mk (heap++heap'.extract heap.size heap'.size) tape' (drawn+(drawn' - drawn)) os' output';rw[<- e1,<- e2]
theorem Eff.beyond{β β':az}{h h':IH}{w w':World}(hW:WR P β h w)(he:Eff β h w β' h' w')(hl:h'.low=h.next):Beyond w w':=by
 refine⟨λk hk=>?_,he.size,he.os,he.tape,he.output,he.drawn⟩;by_cases hx:∀i g,β i=some g->h.get i≠none->g.b≠k
 ·exact he.keep k hk hx
 ·have hx:∃i g,β i=some g/\h.get i≠none/\g.b=k:=by
   apply Classical.byContradiction;intro hc;exact hx λi g hi hg hb=>hc ⟨i,g,hi,hg,hb⟩
  obtain⟨i,g,hi,hg,rfl⟩:=hx;have hin:=hW.dom i g hi;exact he.lW i g (by rw[hl];exact hin) hin hi hg hk
theorem Rl{f:FuncId}{fn:Func}(hfn:P.funcs[f]? =some fn){body:Code}(hb:fn.body=some body)(hname:fn.name≠ "runtime.NumGoroutine")(xs:Array Value)(w:World):(callFunc f xs).run P w=.ok (.enter f xs) w:=by
 have hn:(fn.name== "runtime.NumGoroutine")=false:=by simpa using hname
 simp only[callFunc,bP,run_program,bR,hfn,hn,hb,Option.isNone_some,um,if_false,dB]
theorem acg(l5:P.follows .mixedOrders=true){g:FuncId}{fn:Func}(hfn:P.funcs[g]? =some fn){body:Code}(hb:fn.body=some body)(hname:fn.name≠ "runtime.NumGoroutine"){args args' cap cap':List Value}{F:List aK}{n:Int}
 (hC:bD P (.func g) args cap [] F (λ_:Unit=>.int .i64 n) (λ_=>[]) (λ_=>[]) (λ_=>True)) {β:az} {w:World} {d:Wd} (hlow:d.h.low=d.h.next) (hF:∀f∈F,f.p d) (hG:jg P β) (hW:WR P β d.h w) (ha:aJ β args args') (hc:aJ β cap cap'):
 Calls P g ((⟨args'⟩:Array Value)++(⟨cap'⟩:Array Value)) w λe w'=>e=.returned (.int .i64 n)/\∃q os,w'=Go.Sort.grow (w.drewN q) os:=by
 have hst:St [] d [] F d:=⟨⟨aH _,λ_ _ _=>rfl,λ_ _=>rfl⟩,Wd.Le.refl d,λi hi hz=>.inl hz,⟨[],rfl,Ez,by simp⟩,hF⟩
 have hM:=Fh l5 (hC [] d hst);obtain⟨nx,F0,n1,n2,n3⟩:=hM β w (.func g) args' cap' hG hW (.func g) ha hc;have hnx:nx=.enter g ((⟨args'⟩:Array Value)++(⟨cap'⟩:Array Value)):=by
  have n1:(invoke (.fn (.func g) ⟨cap'⟩) ⟨args'⟩).run P w=.ok nx w:=n1;simp only[invoke]at n1;rw[Rl hfn hb hname]at n1;cases n1;rfl
 subst hnx;have sW:F0=Frame.enter P g ((⟨args'⟩:Array Value)++(⟨cap'⟩:Array Value)) .normal:=by
  have:entry P .normal (.enter g ((⟨args'⟩:Array Value)++(⟨cap'⟩:Array Value)))=some (Frame.enter P g ((⟨args'⟩:Array Value)++(⟨cap'⟩:Array Value)) .normal):=rfl;have n2:entry P .normal (.enter g ((⟨args'⟩:Array Value)++(⟨cap'⟩:Array Value)))=some F0:=n2;rw[this]at n2;exact(Option.some.inj n2).symm
 subst sW;intro cs;obtain⟨r,pm',h',β',w',r',cs1,q1,q2,q3,q4,q5,q6⟩:=n3 cs (by intro m hm;cases hm);obtain⟨hp,d2,_,rfl,hs2,rfl,_⟩:=q1;have ach:=hs2.agree.low (by rw[hlow];exact aH _) (by simp);cases q5;cases q4 with
 | @ok v v' kL=>
   have:=kL.ko;subst this;rcases q6 with⟨f1,a1,F1,e1,e2,e3,e4,e5⟩|⟨⟨_,l,e1⟩,_⟩
   ·cases e1;refine⟨.returned _,w',F1,⟨rfl,(q3.beyond hW (ach.trans hlow)).grown⟩,e2,e3,?_⟩;obtain⟨t1,t2,fn,t3,t4⟩:=e5;exact⟨t1,t2,e4,fn,t3,t4⟩
   ·cases e1
def Ga(P:Program)(f:FuncId)(k:Nat)(wr:List Value->Value):Prop:=∀(α:Type) [Inhabited α] (enc:α->List Value) (cf:α->α->Int) (g:FuncId) (cb:Array Value) (blk off cap:Nat) (d:Array α) (w:World),
 (∀x,(enc x).length=k)->(∀x,∀v∈enc x,v.oneCell'=true)->SWO (ltOf cf)->(∀args w,(callFunc g args).run P w=.ok (.enter g args) w)->
 (∀(m:Nat) (os:Array Obj) (dk:Array α),dk.size=d.size->∀x y:α,Calls P g (#[wr (enc x),wr (enc y)]++cb) (sortWorldK enc k w blk off m dk os) λe w'=>e=.returned (.int .i64 (cf x y))/\∃q os',w'=Go.Sort.grow ((sortWorldK enc k w blk off m dk os).drewN q) os')->
 HoldsK enc k w blk off d->blk<w.heap.size->d.size<4611686018427387904->
 Calls P f #[.slice (some ⟨blk,off,none⟩) d.size cap,.func (.func g) #[] cb] w λe w'=>e=.returned (.tuple #[])/\∃d' n os,PermIn 0 d.size d d'/\SortedIn (ltOf cf) 0 d.size d'/\w'=sortWorldK enc k w blk off n d' os
def qN(l:List Value):Value:=l.headD .nilFunc
structure El{X:Type}(β:az)(E:Enc X)(xs:List X)(d:Wd) where
 x:X
 y:E.Y
 v:List Value
 mem:x∈xs
 rel:aJ β (E.pat x y) v
 cell:(E.pat x y).all cellV=true
 fs:∀f∈E.fs x y,f.p d
theorem aJ.oneCell{β:az}{vs vs':List Value}(hv:aJ β vs vs')(hall:vs.all cellV=true):∀v∈vs',v.oneCell'=true:=λv hv'=>by
 obtain⟨j,hj⟩:=qU hv';have hjl:j<vs.length:=by
  have:=(dX.1 hj).1;rw[hv.length]at this;exact this
 obtain⟨v2,hv2,hr⟩:=hv.get (bf hjl);rw[hv2]at hj;cases hj;have hc:=(iB.1 hall) _ (List.getElem_mem hjl);obtain⟨a,b⟩:=hr.cellV hc;cases v<;>first|rfl|exact absurd rfl (a _)|exact absurd rfl (b _)
noncomputable def Wd.but(d:Wd)(b:Nat):Wd:=⟨⟨(d.h.kill b).t,d.h.next,d.h.next⟩,d.z,d.iN⟩
theorem Wd.Ak(d:Wd)(b i:Nat):(d.but b).h.get i=if i=b then none else d.h.get i:=by
 show(d.h.kill b).get i=_;exact IH.qy _ _ _
theorem Wd.aci{d:Wd}{b:Nat}(hz:¬d.z b):d.Le (d.but b):=⟨aH _,λ_ h=>h,λi hi=>by rw[Wd.Ak,if_neg (λe:i=b=>hz (e▸hi))]⟩
theorem acj{α:Type}[Inhabited α](enc:α->List Value)(k:Nat)(w:World)(blk off m:Nat)(dk:Array α)(os:Array Obj){b:Nat}(hb:b<w.heap.size)(hne:b≠blk):(sortWorldK enc k w blk off m dk os).heap[b]? =w.heap[b]?:=by
 show((w.heap.modify blk _)++os)[b]? =_;rw[NL (by rw[Array.size_modify];exact hb),Array.getElem?_modify,if_neg (λe=>hne e.symm)]
theorem WR.ack{α:Type}[Inhabited α]{β:az}{d:Wd}{w:World}(hW:WR P β d.h w){b:Nat}{g:fE}{cs:List Value}(hi:β b=some g)(hg:d.h.get b=some (.cells cs))(enc:α->List Value)(k off m:Nat)(dk:Array α)(os:Array Obj):
 WR P β (d.but b).h (sortWorldK enc k w g.b off m dk os):=by
 refine⟨hW.dom,λi o h=>?_,λi g' o h1 h2=>?_,λi j g1 g2 h1 h2 h3 h4 h5 h6=>?_⟩
 ·rw[Wd.Ak]at h;split at h
  ·cases h
  ·exact hW.live i o h
 ·rw[Wd.Ak]at h2;split at h2
  ·cases h2
  ·rename_i hib;have hO:=hW.obj i g' o h1 h2;refine hO.congr (acj enc k w g.b off m dk os hO.lt λe=>hib ?_);exact hW.inj i b g' g h1 hi (by rw[h2];simp) (by rw[hg];simp) (.inr λcs2=>by rw[hg];simp) e
 ·rw[Wd.Ak]at h3 h4;rw[Wd.Ak,Wd.Ak]at h5;split at h3
  ·exact absurd rfl h3
  split at h4
  ·exact absurd rfl h4
  rename_i n1 n2;rw[if_neg n1,if_neg n2]at h5;exact hW.inj i j g1 g2 h1 h2 h3 h4 h5 h6
theorem List.acm{α:Type}{R:α->α->Prop}{l:List α}(h:∀(i j:Nat) x y,i<j->l[i]? =some x->l[j]? =some y->R x y):l.Pairwise R:=
 List.pairwise_iff_getElem.2 λi j hi hj hij=>h i j _ _ hij (bf hi) (bf hj)
theorem acn(l5:P.follows .mixedOrders=true){f g:FuncId}{k:Nat}{wr:List Value->Value}(hwr:∀{β:az} {vs vs':List Value},vs.length=k->vs.all cellV=true->aJ β vs vs'->VR β (wr vs) (wr vs'))(hS:Ga P f k wr){fn:Func}(hfn:P.funcs[f]? =some fn){body:Code}(hb:fn.body=some body)(hname:fn.name≠ "runtime.NumGoroutine"){gn:Func}(hgn:P.funcs[g]? =some gn){Gb:Code}(hgb:gn.body=some Gb)(Gc:gn.name≠ "runtime.NumGoroutine")
 {X:Type} {E:Enc X} (hE:E.n=k) (hk0:0<k) {xs:List X} {cf:X->X->Int} (hO:SWO (ltOf cf)) {cap:List Value} {F:List aK}
 (hC:∀x∈xs,∀y∈xs,∀a b,bD P (.func g) [wr (E.pat x a),wr (E.pat y b)] cap [] (E.fs x a++(E.fs y b++F)) (λ_:Unit=>.int .i64 (cf x y)) (λ_=>[]) (λ_=>[]) (λ_=>True))
 {d:Wd} {b o c:Nat} {fl:Option Nat} {cs:List Value} (hg:d.h.get b=some (.cells cs)) (hz:¬d.z b) (hF:∀f∈F,f.p d)
 (hel:∀(j:Nat) x,xs[j]? =some x->∃y,(∀(t:Nat) u,(E.pat x y)[t]? =some u->cs[o+j*E.n+t]? =some u)/\∀f∈E.fs x y,f.p d) (hcs:cs.length=o+xs.length*E.n) (hne:0<xs.length) (hlen:xs.length<4611686018427387904):
 iG P ⟨.func f,[.slice (some ⟨b,o,fl⟩) xs.length c,.func (.func g) ⟨[]⟩ ⟨cap⟩],[],none⟩ d.h (λr pm h2=>pm=none/\r=.ok (.tuple ⟨[]⟩)/\∃(zs:List (X×E.Y)) (cs2:List Value),(zs.map (·.1)).Perm xs/\(zs.map (·.1)).Pairwise (λx y=>¬cf y x<0)/\cs2.length=cs.length/\
  (∀(j:Nat) p,zs[j]? =some p->(∀(t:Nat) u,(E.pat p.1 p.2)[t]? =some u->cs2[o+j*E.n+t]? =some u)/\∀f∈E.fs p.1 p.2,f.p d)/\h2=d.h.set b (.cells cs2)):=by
 subst hE;intro β w fn' args' cap' hG hW hf ha hcap;obtain⟨gY,t1,t2⟩:=zR (P:=P) (q:=⟨.func f,[.slice (some ⟨b,o,fl⟩) xs.length c,.func (.func g) ⟨[]⟩ ⟨cap⟩],[],none⟩) (f:=f) (args:=[.slice (some ⟨b,o,fl⟩) xs.length c,.func (.func g) ⟨[]⟩ ⟨cap⟩]) (by simp only[target,gV,gQ]) hf ha hcap hfn hb hname w;cases t2 with|cons hv tl=>
 cases tl with|cons hv2 tl=>
 cases tl;obtain⟨gi,a,c',hi,rfl,hab,_,hn,hcc,hao,_⟩:=hv.lm;obtain⟨fn2,f2,cb,hfr2,hf2,hcb,rfl⟩:=hv2.vZ;cases hfr2;cases hf2;have hao:a.off=gi.off+o/\a.spot=none:=by
  rcases hao with e|e
  ·omega
  ·exact e
 obtain⟨⟨c0,t0,fz0,hh⟩,q2,q3,q4,q5,q6⟩:=hW.obj b gi _ hi hg;have ea:a=⟨gi.b,gi.off+o,none⟩:=by
  obtain⟨ab,ao,asp⟩:=a;simp only at hab hao;rw[hab,hao.1,hao.2]
 subst ea;have hlt:gi.b<w.heap.size:=(NK.1 hh).1;have aco:∀j t,j<xs.length->t<E.n->o+j*E.n+t<cs.length:=λj t hj ht=>by
  have:=Nat.mul_le_mul_right E.n (show j+1<=xs.length from hj);rw[kZ,zi]at this;omega
 let cellOf:Nat->Value:=λt=>(w.cell? ⟨gi.b,gi.off+o+t,none⟩).getD .nilFunc
 have hcell:∀t,t<xs.length*E.n->w.cell? ⟨gi.b,gi.off+o+t,none⟩=some (cellOf t)/\w.frozen? ⟨gi.b,gi.off+o+t,none⟩=false:=λt ht=>by
  obtain⟨r1,r2⟩:=q4 (gi.off+o+t) (by omega);refine⟨?_,r2⟩;obtain⟨v,hv⟩:=NH.1 r1;show _=some ((w.cell? ⟨gi.b,gi.off+o+t,none⟩).getD .nilFunc);rw[hv];rfl
 have hex:∀j,j<xs.length->∃e:El β E xs d,xs[j]? =some e.x/\e.v=(List.range E.n).map λt=>cellOf (j*E.n+t):=λj hj=>by
  have hx:xs[j]? =some xs[j]:=bf hj;obtain⟨y,h1,h2⟩:=hel j _ hx;refine⟨⟨xs[j],y,(List.range E.n).map λt=>cellOf (j*E.n+t),List.getElem_mem hj,?_,?_,h2⟩,hx,rfl⟩
  ·refine aJ.IU (by rw[bC,List.length_range,E.len]) λt v ht=>?_;have htn:t<E.n:=by have:=(dX.1 ht).1;rw[E.len]at this;exact this
   obtain⟨v',r1,r2⟩:=q6 _ v (h1 t v ht);refine⟨v',?_,r2⟩;rw[bX,Bj htn,iT];show some ((w.cell? ⟨gi.b,gi.off+o+(j*E.n+t),none⟩).getD .nilFunc)=_;rw[show gi.off+o+(j*E.n+t)=gi.off+(o+j*E.n+t)by omega,r1];rfl
  ·rw[iB]at q5⊢;intro v hv;obtain⟨t,ht⟩:=qU hv;exact q5 v (cZ (h1 t v ht))
 have e0:El β E xs d:=Classical.choice (by obtain⟨e,_⟩:=hex 0 hne;exact⟨e⟩)
 haveI:Inhabited (El β E xs d):=⟨e0⟩
 obtain⟨el,Rm⟩:∃el:Nat->El β E xs d,∀j,j<xs.length->xs[j]? =some (el j).x/\(el j).v=(List.range E.n).map λt=>cellOf (j*E.n+t):=
  ⟨λj=>if h:j<xs.length then Classical.choose (hex j h)else e0,λj hj=>by dsimp only;rw[dif_pos hj];exact Classical.choose_spec (hex j hj)⟩
 let D:Array (El β E xs d):=((List.range xs.length).map el).toArray
 have hDs:D.size=xs.length:=by simp[D]
 have hDg:∀j,j<xs.length->D[j]! =el j:=λj hj=>by
  rw[getElem!_pos D j (by rw[hDs];exact hj)];simp[D]
 have hDx:D.toList.map (·.x)=xs:=by
  apply jA;intro j;by_cases hj:j<xs.length
  ·rw[(Rm j hj).1];simp[D,hj]
  ·rw[ig (l:=xs) (by omega),ig (by simp[D];omega)]
 have hlv:∀e:El β E xs d,e.v.length=E.n:=λe=>by rw[e.rel.length,E.len]
 have hH:HoldsK (λe:El β E xs d=>e.v) E.n w gi.b (gi.off+o) D:=λt ht=>by
  have ht:t<xs.length*E.n:=by rw[size_flatK,hDs]at ht;exact ht
  rw[get_flatK _ _ _ _ (by rw[hDs];exact ht)];have hq:t/E.n<xs.length:=(Im hk0).2 ht;have hr:t%E.n<E.n:=ul _ hk0;rw[hDg _ hq,(Rm _ hq).2];have:((List.range E.n).map λt'=>cellOf (t/E.n*E.n+t'))[t%E.n]! =cellOf t:=by
   rw[getElem!_pos _ _ (by simpa using hr)];simp only[List.getElem_map,List.getElem_range];rw[xn,Io]
  rw[this];exact hcell t ht
 have hO2:SWO (ltOf λa b:El β E xs d=>cf a.x b.x):=⟨λa=>hO.irrefl a.x,λa b c=>hO.trans a.x b.x c.x,λa b c=>hO.ntrans a.x b.x c.x⟩
 have hcmp:∀(m:Nat) (os:Array Obj) (dk:Array (El β E xs d)),dk.size=D.size->∀x y:El β E xs d,Calls P g (#[wr x.v,wr y.v]++⟨cb⟩) (sortWorldK (λe:El β E xs d=>e.v) E.n w gi.b (gi.off+o) m dk os) λe w'=>e=.returned (.int .i64 (cf x.x y.x))/\∃q os',w'=Go.Sort.grow ((sortWorldK (λe:El β E xs d=>e.v) E.n w gi.b (gi.off+o) m dk os).drewN q) os':=λm os dk _ x y=>by
  have hle:=Wd.aci hz;exact acg l5 hgn hgb Gc (hC x.x x.mem y.x y.mem x.y y.y) (d:=d.but b) rfl (λfa hfa=>by
   rcases gy.1 hfa with h|h
   ·exact fa.mono hle (x.fs fa h)
   ·rcases gy.1 h with h|h
    ·exact fa.mono hle (y.fs fa h)
    ·exact fa.mono hle (hF fa h)) hG (hW.ack hi hg _ _ _ m dk os) (.cons (hwr (E.len _ _) x.cell x.rel) (.cons (hwr (E.len _ _) y.cell y.rel) .nil)) hcb
 have hK:=hS (El β E xs d) (λe=>e.v) (λa b=>cf a.x b.x) g ⟨cb⟩ gi.b (gi.off+o) c' D w hlv (λe=>aJ.oneCell e.rel e.cell) hO2 (λxs w=>Rl hgn hgb Gc xs w) hcmp hH hlt (by rw[hDs];exact hlen);refine⟨_,Frame.enter P f ⟨_⟩ .normal,t1,rfl,λcs0 oz=>?_⟩;rw[hDs]at hK;obtain⟨e,w',fr,⟨he,d2,n2,os,hpm,hsd,hw'⟩,hcomes,hfr,hlv2⟩:=hK cs0;subst he;have hd2:d2.size=xs.length:=hpm.1.trans hDs;have hdg:∀(j:Nat) e,d2.toList[j]? =some e->j<xs.length/\d2[j]! =e:=λj e h=>by
  rw[uk]at h;obtain⟨hj,he⟩:=NK.1 h;exact⟨by omega,by rw[getElem!_pos d2 j hj];exact he⟩
 let zs:List (X×E.Y):=d2.toList.map λe=>(e.x,e.y)
 let L:List Value:=(List.range (xs.length*E.n)).map λt=>(E.pat (d2[t/E.n]!).x (d2[t/E.n]!).y).getD (t%E.n) .nilFunc
 let L':List Value:=(flatK (λe:El β E xs d=>e.v) E.n d2).toList
 have yz:L.length=xs.length*E.n:=by simp[L]
 have Ll:∀t,t<xs.length*E.n->L[t]? =some ((E.pat (d2[t/E.n]!).x (d2[t/E.n]!).y).getD (t%E.n) .nilFunc):=λt ht=>by
  show((List.range (xs.length*E.n)).map _)[t]? =_;rw[bX,Bj ht];rfl
 have acs:L'.length=xs.length*E.n:=by simp[L',hd2]
 have Lm:∀(e:El β E xs d) t,t<E.n->(E.pat e.x e.y)[t]? =some ((E.pat e.x e.y).getD t .nilFunc):=λe t ht=>by
  rw[nY,bf (by rw[E.len];exact ht)];rfl
 have Rn:∀(t:Nat) v,L[t]? =some v->t<xs.length*E.n:=λt v ht=>by
  have:=(dX.1 ht).1
  rwa [yz]at this
 have hrel:aJ β L L':=aJ.IU (by rw[acs,yz]) λt v ht=>by
  have htn:=Rn t v ht;rw[Ll t htn]at ht;cases ht;have hr:=ul t hk0;obtain⟨v',r1,r2⟩:=(d2[t/E.n]!).rel.get (Lm _ _ hr);refine⟨v',?_,r2⟩;have h1:L'[t]? =some (flatK (λe:El β E xs d=>e.v) E.n d2)[t]!:=by
   show(flatK (λe:El β E xs d=>e.v) E.n d2).toList[t]? =_;rw[uk,NN (by rw[size_flatK,hd2];exact htn),getElem!_pos _ _ (by rw[size_flatK,hd2];exact htn)]
  rw[h1,get_flatK _ _ _ _ (by rw[hd2];exact htn)];show some ((d2[t/E.n]!).v)[t%E.n]! =_;rw[getElem!_pos _ _ (by rw[hlv];exact hr),<- bf];exact r1
 have hall:L.all cellV=true:=by
  rw[iB];intro v hv;obtain⟨t,ht⟩:=qU hv;have htn:=Rn t v ht;rw[Ll t htn]at ht;cases ht;exact iB.1 (d2[t/E.n]!).cell _ (cZ (Lm _ _ (ul t hk0)))
 obtain⟨cs2,hl⟩:=Dc cs o L (by rw[yz];omega);obtain⟨l1,l2,l3⟩:=BN hl;have hs:d.h.storeAt b o L=some (d.h.set b (.cells cs2)):=by unfold IH.storeAt;simp only[hg,hl]
 obtain⟨_,w1,w2⟩:=IX hW hi hs hrel hall;have hw1:sortWorldK (λe:El β E xs d=>e.v) E.n w gi.b (gi.off+o) n2 d2 os=Go.Sort.grow (Sort.ahead (w.setCells gi.b (gi.off+o) L') n2) os:=by
  have:=Go.Ideal.setCells_putRow (id:Value->Value) w gi.b (gi.off+o) (flatK (λe:El β E xs d=>e.v) E.n d2);rw[List.map_id]at this;rw[show w.setCells gi.b (gi.off+o) L'=_ from this];rfl
 rw[hw1]at hw';have w3:WR P β (d.h.set b (.cells cs2)) (Sort.ahead (w.setCells gi.b (gi.off+o) L') n2):=w1.ru rfl;have w4:=w2.trans (Eff.ru (w':=Sort.ahead (w.setCells gi.b (gi.off+o) L') n2) w1.dom rfl rfl rfl rfl (Nat.le_add_right _ _));obtain⟨w5,w6⟩:=w3.grow os;rw[<- hw']at w5 w6;refine⟨.ok (.tuple ⟨[]⟩),none,_,β,w',.returned (.tuple #[]),cs0,⟨rfl,rfl,zs,cs2,?_,?_,l2,?_,rfl⟩,w5,w4.trans w6,.ok (.bU _),.none cs0,.inl ⟨f,_,fr,rfl,hcomes,hfr,hlv2.2.2.1,hlv2.1,hlv2.2.1,hlv2.2.2.2⟩⟩
 ·have hp:=hpm.2.2;rw[show d2.extract 0 xs.length=d2 by rw[<- hd2];simp,show D.extract 0 xs.length=D by rw[<- hDs];simp]at hp;have h1:=hp.map (·.x);rw[hDx]at h1;show((d2.toList.map λe=>(e.x,e.y)).map (·.1)).Perm xs;rw[EC];exact h1
 ·show((d2.toList.map λe=>(e.x,e.y)).map (·.1)).Pairwise _;rw[EC];refine List.acm λi j x y hij hx hy=>?_;rw[bX,lc]at hx hy;obtain⟨e1,hx,rfl⟩:=hx;obtain⟨e2,hy,rfl⟩:=hy;have h1:=hdg i e1 hx;have h2:=hdg j e2 hy;have:=hsd i j (bF _) hij h2.1;rw[h1.2,h2.2]at this;exact Iq this
 ·intro j p hj;have hj:(d2.toList.map λe=>(e.x,e.y))[j]? =some p:=hj;rw[bX,lc]at hj;obtain⟨e,he0,rfl⟩:=hj;obtain⟨hjn,he⟩:=hdg j e he0;refine⟨λt u ht=>?_,e.fs⟩;have htn:t<E.n:=by have:=(dX.1 ht).1;rw[E.len]at this;exact this
  have hb2:=aco j t hjn htn;rw[l3,if_pos ⟨by omega,by rw[yz];omega⟩,show o+j*E.n+t - o=j*E.n+t by omega,Ll _ (by omega)];have d1:(j*E.n+t)/E.n=j:=by rw[xn,Nat.mul_add_div hk0,Nat.div_eq_of_lt htn,nV]
  have d3:(j*E.n+t)%E.n=t:=by rw[xn,Nat.mul_add_mod,Nat.mod_eq_of_lt htn]
  rw[d1,d3,he,<- Lm e t htn];exact ht
def Lp(P:Program)(f:FuncId):Prop:=∀(p:Option Addr) (cap:Nat) (fv:Value) (w:World),Calls P f #[.slice p 0 cap,fv] w λe w'=>e=.returned (.tuple #[])/\w'=w
theorem VR.acu{β:az}{a:Option Addr}{n c:Nat}{v:Value}(h:VR β (.slice a n c) v):∃p c',v=.slice p n c':=by
 cases h<;>exact⟨_,_,rfl⟩
theorem acv{f:FuncId}(hS:Lp P f){fn:Func}(hfn:P.funcs[f]? =some fn){body:Code}(hb:fn.body=some body)(hname:fn.name≠ "runtime.NumGoroutine"){a:Option Addr}{c:Nat}{fv:Value}{h:IH}:
 iG P ⟨.func f,[.slice a 0 c,fv],[],none⟩ h (λr pm h2=>pm=none/\r=.ok (.tuple ⟨[]⟩)/\h2=h):=by
 intro β w fn' args' cap' hG hW hf ha' hcap;obtain⟨gY,t1,t2⟩:=zR (P:=P) (q:=⟨.func f,[.slice a 0 c,fv],[],none⟩) (f:=f) (args:=[.slice a 0 c,fv]) (by simp only[target,gV,gQ]) hf ha' hcap hfn hb hname w;cases t2 with|cons hv tl=>
 cases tl with|cons hv2 tl=>
 cases tl;obtain⟨p,c',rfl⟩:=hv.acu;refine⟨_,Frame.enter P f ⟨_⟩ .normal,t1,rfl,λcs0 oz=>?_⟩;obtain⟨e,w',fr,⟨he,hw'⟩,hcomes,hfr,hlv⟩:=hS p c' _ w cs0;subst he hw';exact⟨.ok (.tuple ⟨[]⟩),none,h,β,_,.returned (.tuple #[]),cs0,⟨rfl,rfl,rfl⟩,hW,Eff.refl _ _ _ hW.dom,.ok (.bU _),.none cs0,.inl ⟨f,_,fr,rfl,hcomes,hfr,hlv.2.2.1,hlv.1,hlv.2.1,hlv.2.2.2⟩⟩
theorem acw(l5:P.follows .mixedOrders=true){f g:FuncId}{k:Nat}{wr:List Value->Value}(hwr:∀{β:az} {vs vs':List Value},vs.length=k->vs.all cellV=true->aJ β vs vs'->VR β (wr vs) (wr vs'))(hS:Ga P f k wr)(hN:Lp P f){fn:Func}(hfn:P.funcs[f]? =some fn){body:Code}(hb:fn.body=some body)(hname:fn.name≠ "runtime.NumGoroutine"){gn:Func}(hgn:P.funcs[g]? =some gn){Gb:Code}(hgb:gn.body=some Gb)(Gc:gn.name≠ "runtime.NumGoroutine")
 {X:Type} {E:Enc X} (hE:E.n=k) (hk0:0<k) {xs:List X} {cf:X->X->Int} (hO:SWO (ltOf cf)) {cap:List Value} {F:List aK} {a:Option Addr}
 (hC:∀x∈xs,∀y∈xs,∀a b,bD P (.func g) [wr (E.pat x a),wr (E.pat y b)] cap [] (E.fs x a++(E.fs y b++F)) (λ_:Unit=>.int .i64 (cf x y)) (λ_=>[]) (λ_=>[]) (λ_=>True))
 (hlen:xs.length<4611686018427387904):
 bD P (.func f) [.slice a xs.length xs.length,.func (.func g) ⟨[]⟩ ⟨cap⟩] [] [ap E (.slice a xs.length xs.length) xs] F (λ_:List X=>.tuple ⟨[]⟩) (λys=>[ap E (.slice a xs.length xs.length) ys]) (λ_=>[]) (λys=>ys.Perm xs/\ys.Pairwise λx y=>¬cf y x<0):=by
 intro B w s;by_cases hx:xs=[]
 ·subst hx;refine .real (Cw _ (acv hN hfn hb hname) ?_);rintro r pm h' ⟨rfl,rfl,rfl⟩;exact⟨rfl,w,[],rfl,⟨s.agree,s.le,s.eO,s.own,λf hf=>by cases hf⟩,rfl,.refl _,.nil⟩
 have hne:0<xs.length:=o9.2 hx;obtain⟨S,⟨S1,S2,q1,q2,e⟩,h2,h3⟩:=s.own;rcases q1 with⟨h,_⟩|⟨b,o,fl,cells,e1,hf,e2,hb',hcl,hel⟩
 ·exact absurd h hx
 injection e1 with e1 e1';subst e1 e2 e;have hzb:¬w.z b:=(h3 b (by simp)).2.2;refine .real (Cw _ (acn l5 hwr hS hfn hb hname hgn hgb Gc hE hk0 hO hC hb' hzb s.facts hel hcl hne hlen) ?_);rintro r pm h' ⟨rfl,rfl,zs,cs2,hp,hpw,hl2,acy,rfl⟩;have s1:St B w [pt b (.cells cells)] [] w:=⟨s.agree,s.le,s.eO,⟨[b]++S2,⟨[b],S2,⟨rfl,hb'⟩,q2,rfl⟩,h2,h3⟩,λf hf=>by cases hf⟩
 have s2:=s1.write (o':=.cells cs2);have hle:w.Le ⟨w.h.set b (.cells cs2),w.z,λi hi=>w.iN i hi⟩:=s2.le;have hzl:zs.length=xs.length:=by have:=hp.length_eq;rwa [bC]at this
 refine⟨rfl,⟨w.h.set b (.cells cs2),w.z,λi hi=>w.iN i hi⟩,zs.map (·.1),rfl,?_,rfl,hp,hpw⟩;refine s2.nD (A':=ap E (.slice (some ⟨b,o,some fl⟩) xs.length xs.length) (zs.map (·.1))) λS' hp'=>?_;refine .inr ⟨b,o,fl,cs2,by rw[bC,hzl],hf,hp'.1,hp'.2,by rw[hl2,hcl,bC,hzl],λj x hj=>?_⟩;rw[bX,lc]at hj;obtain⟨p,hj,rfl⟩:=hj;obtain⟨r1,r2⟩:=acy j p hj;exact⟨p.2,r1,λf hf=>f.mono hle (r2 f hf)⟩
theorem acz{f:FuncId}(h:∀(α:Type) [Inhabited α] (enc:α->Value) (cf:α->α->Int) (g:FuncId) (cb:Array Value) (blk off cap:Nat) (d:Array α) (w:World),OneCell enc->SWO (ltOf cf)->(∀args w,(callFunc g args).run P w=.ok (.enter g args) w)->CmpLays1 P g cb enc cf blk off d.size w->Holds enc w blk off d->blk<w.heap.size->d.size<4611686018427387904->
 Calls P f #[.slice (some ⟨blk,off,none⟩) d.size cap,.func (.func g) #[] cb] w λe w'=>e=.returned (.tuple #[])/\∃d' n os,PermIn 0 d.size d d'/\SortedIn (ltOf cf) 0 d.size d'/\w'=sortWorld enc w blk off n d' os):Ga P f 1 qN:=by
 intro α _ enc cf g cb blk off cap d w hk h1 hO eg hcmp hH hblk hsz;have he:∀x,enc x=[qN (enc x)]:=λx=>by
  have:=hk x;match h2:enc x,this with
  |[v],_=>rfl
 have hfl:∀dk:Array α,flatK enc 1 dk=dk.map λx=>qN (enc x):=λdk=>by
  refine ext_get! (by simp) λt ht=>?_;rw[size_flatK,gT]at ht;rw[get_flatK _ _ _ _ (by omega),Nat.div_one,Nat.mod_one,he];rw[getElem!_pos (dk.map _) t (by simpa using ht),Array.getElem_map,getElem!_pos dk t ht];rfl
 have hpc:∀(dk:Array α) (c:Array Value),putCells id off (dk.map λx=>qN (enc x)) c=putCells (λx=>qN (enc x)) off dk c:=λdk c=>by
  unfold putCells;congr 1;funext t x
  rw[Array.size_map];split
  ·rename_i hr;rw[getElem!_pos (dk.map _) _ (by simp;omega),Array.getElem_map,getElem!_pos dk _ (by omega)];rfl
  ·rfl
 have hsw:∀(m:Nat) (dk:Array α) (os:Array Obj),sortWorldK enc 1 w blk off m dk os=sortWorld (λx=>qN (enc x)) w blk off m dk os:=λm dk os=>by
  unfold sortWorldK sortWorld putRowK putRow;rw[hfl,show putCells id off (dk.map λx=>qN (enc x))=putCells (λx=>qN (enc x)) off dk from funext (hpc dk)]
 have:=h α (λx=>qN (enc x)) cf g cb blk off cap d w (λx=>h1 x _ (by rw[he x];exact di.2 rfl)) hO eg (λm os dk hs x y=>by
  have:=hcmp m os dk hs x y;rw[hsw]at this;exact this) (λj hj=>by
  have:=hH j (by rw[size_flatK];omega);rw[get_flatK _ _ _ _ (by omega),Nat.div_one,Nat.mod_one,he]at this;exact this) hblk hsz
 refine this.mono ?_;rintro e w' ⟨h1,d',n,os,h2,h3,h4⟩;exact⟨h1,d',n,os,h2,h3,by rw[hsw];exact h4⟩
theorem acA{β:az}{vs vs':List Value}(h1:vs.length=1)(h2:vs.all cellV=true)(h:aJ β vs vs'):VR β (qN vs) (qN vs'):=by
 match vs,h1 with
 |[v],_=>
  cases h with|cons a b=>
  cases b;exact a
end Go.Ideal
namespace Go.Ideal
open Go.Sort Go.RowKit Go.Proofs
variable {P:Program}
def gI(zs:List ByteArray):List (List UInt8):=(zs.map λz=>z.data.toList).mergeSort λx y=>decide (x<=y)
end Go.Ideal
namespace Go.Ideal
variable {P:Program}
section
variable {B:List Nat} {w0:Wd} {kl kl':List OA} {F:List aK} {K:KO} {ds:List Tmp} {rest:List aY} {n:Nat} {l:List (Nat×Value)} {D:List Deferred} {pm:Option FrameMode} {ro:Option Nat} {d:Nat} {g:Option (Tmp×Bool)}
theorem acB{α:Type}{E:Enc α}{e:TypeId}{size bytes b':Nat}{s x:Operand}{v:Value}{xs:List α}{a:α}{y:E.Y}{cs:List Value}{k1 k2:List OA}(hn:Nat.blt d n=true)(hg:bH l g=true)
 (hs:ev l s=v) (hx:ev l x=.slice (some ⟨b',0,some 0⟩) 1 1) (hk:ai (ap E v xs) kl k1) (hc:ai (pt b' (.cells cs)) k1 k2) (hp:cs=E.pat a y) (hF:Sub (E.fs a y) F) (hz:E.n=size)
 (hm:(xs.length+1)*bytes<=1073741824/\(xs.length+1)*size<=1073741824/\xs.length+1<=1073741824):
 bT (R (λh=>aB P ds (⟨⟨some d,g,.append e size bytes s x⟩,[]⟩::rest) (act n l D pm ro) h K) B w0 kl F)
  (∀c,R (λh=>aB P ds rest (act n ((d,.slice (some ⟨c,0,some E.n⟩) (xs.length+1) (xs.length+1))::l) D pm ro) h K) B w0 (ap E (.slice (some ⟨c,0,some E.n⟩) (xs.length+1) (xs.length+1)) (xs++[a])::k2) F):=by
 refine⟨λr w st=>?_⟩;subst hp hz;have hlen:=E.len a y;have st2:St B w0 (ap E v xs::pt b' (.cells (E.pat a y))::k2) F w:=st.jF (.cons hk (.cons hc .nil));have hat:At w.h b' (.cells (E.pat a y)):=st2.at_ (.there .here);have ku:St B w0 (ap E v xs::k2) F w:=(st2.fe (.there .here)).tail;have hfs:∀f∈E.fs a y,f.p w:=λf hf=>st.facts f (hF.mem f hf);have hread:w.h.dK b' 0 (1*E.n)=some (E.pat a y):=by
  rw[hat.c.dK,j5,j6,zi,uo,if_pos (by omega),<- hlen,fK]
 have hx1:kE (ev l x)=some (0+1):=by rw[hx];rfl
 have hx2:j3 E.n (0+1) (ev l x) w.h=some (E.pat a y):=by rw[hx];exact hread
 -- what lies there afterwards
 have put:∀(w':Wd) (c:Nat) (f:Nat) (cells:List Value),cells.length=xs.length*E.n->(∀(k:Nat) z,xs[k]? =some z->∃y,(∀(j:Nat) u,(E.pat z y)[j]? =some u->cells[k*E.n+j]? =some u)/\∀f∈E.fs z y,f.p w')->(∀f∈E.fs a y,f.p w')->
  (f=0\/f=E.n)->∀S,(pt c (.cells (cells++E.pat a y))).p w' S->(ap E (.slice (some ⟨c,0,some f⟩) (xs.length+1) (xs.length+1)) (xs++[a])).p w' S:=by
  intro w' c f cells h1 h2 h3 h4 S hp;refine .inr ⟨c,0,f,_,by rw[dW];rfl,h4,hp.1,hp.2,by rw[dW,dW,h1,hlen,qm,kZ,zi,dD],λk z hk=>?_⟩;by_cases hlt:k<xs.length
  ·rw[kD hlt]at hk;obtain⟨y',q1,q2⟩:=h2 k z hk;refine⟨y',λj u hj=>?_,q2⟩;rw[dD];have:=q1 j u hj;rw[kD (dX.1 this).1];exact this
  ·rw[pq (by omega)]at hk;have hk0:k=xs.length:=by
    have:=(dX.1 hk).1;simp at this;omega
   subst hk0;simp at hk;subst hk;refine⟨y,λj u hj=>?_,h3⟩;rw[dD,pq (by omega),h1,Nat.add_sub_cancel_left];exact hj
 obtain⟨S,⟨S1,S2,q,q2,e1⟩,hnd,hown⟩:=ku.own;rcases q with⟨rfl,rfl,rfl⟩|⟨b,o,f,cells,rfl,hf,rfl,hb,hcl,hel⟩
 ·refine JZ (c:=0) hn hg hs hx1 hx2 (by simpa using hm) λh' ag l8 hnx=>?_;obtain⟨w',rfl,dO⟩:=ku.tail.fresh ag l8 hnx;refine r _ w' (dO.nD λS hp=>?_);have hle:∀f∈E.fs a y,f.p w':=λf hf=>dO.facts f (hF.mem f hf);exact put w' _ E.n [] (by simp) (λk z hk=>by cases hk) hle (.inr rfl) S hp
 ·have l9:St B w0 (pt b (.cells cells)::k2) F w:=⟨ku.agree,ku.le,ku.eO,⟨S,⟨_,S2,⟨rfl,hb⟩,q2,e1⟩,hnd,hown⟩,ku.facts⟩
  have z8:At w.h b (.cells cells):=l9.at_ .here;refine CG (old:=cells.drop o) (xs:=E.pat a y) hn hg hs hx1 hx2 ?_ (hf.elim (λe=>.inl (by rw[e])) λe=>.inr (by rw[e])) hm λh' mv=>?_
  ·have hdl:(cells.drop o).length=xs.length*E.n:=by rw[jR];omega
   rw[z8.c.dK,j5,j6,if_pos (by omega),<- hdl,fK]
  obtain⟨w',rfl,dO,qH⟩:=l9.move mv;refine r _ w' (dO.nD λS hp=>?_);have hle:∀f∈E.fs a y,f.p w':=λf hf=>dO.facts f (hF.mem f hf);refine put w' _ E.n (cells.drop o) (by rw[jR];omega) (λk z hk=>?_) hle (.inr rfl) S hp;obtain⟨y',u1,u2⟩:=hel k z hk;exact⟨y',λj u hj=>by rw[jy,<- lS];exact u1 j u hj,λf hf=>f.mono qH (u2 f hf)⟩
theorem Lr{α:Type}(E:Enc α){e:TypeId}{size bytes b':Nat}{s x:Operand}{v:Value}{xs:List α}(a:α)(y:E.Y){cs:List Value}{k1 k2:List OA}
 (hm:(xs.length+1)*bytes<=1073741824/\(xs.length+1)*size<=1073741824/\xs.length+1<=1073741824)
 (next:∀c,R (λh=>aB P ds rest (act n ((d,.slice (some ⟨c,0,some E.n⟩) (xs.length+1) (xs.length+1))::l) D pm ro) h K) B w0 (ap E (.slice (some ⟨c,0,some E.n⟩) (xs.length+1) (xs.length+1)) (xs++[a])::k2) F)
 (hn:Nat.blt d n=true:=by rfl) (hg:bH l g=true:=by rfl)
 (hs:ev l s=v:=by conv=>lhs;whnf) (hx:ev l x=.slice (some ⟨b',0,some 0⟩) 1 1:=by rfl) (hk:ai (ap E v xs) kl k1:=by exact fM) (hc:ai (pt b' (.cells cs)) k1 k2:=by exact fM) (hp:cs=E.pat a y:=by rfl) (hF:Sub (E.fs a y) F:=by exact pY) (hz:E.n=size:=by rfl):
 R (λh=>aB P ds (⟨⟨some d,g,.append e size bytes s x⟩,[]⟩::rest) (act n l D pm ro) h K) B w0 kl F:=
 (acB hn hg hs hx hk hc hp hF hz hm).h next
def gv(f:Nat):Option Nat->Nat->Value
 |none,_=>.slice none 0 0
 |some c,n=>.slice (some ⟨c,0,some f⟩) n n
theorem acC{α:Type}{E:Enc α}{c:Option Nat}{xs:List α}{w:Wd}{S:List Nat}(h:(ap E (gv E.n c xs.length) xs).p w S)(h0:0<xs.length):∃b cells,gv E.n c xs.length=.slice (some ⟨b,0,some E.n⟩) xs.length xs.length/\S=[b]/\w.h.get b=some (.cells cells)/\cells.length=xs.length*E.n/\
 ∀(k:Nat) x,xs[k]? =some x->∃y,(∀(j:Nat) u,(E.pat x y)[j]? =some u->cells[k*E.n+j]? =some u)/\∀f∈E.fs x y,f.p w:=by
 rcases h with⟨h,_⟩|⟨b,o,f,cells,h1,h2,h3,h4,h5,h6⟩
 ·rw[h]at h0;simp at h0
 ·cases c with
  |none=>simp[gv]at h1
  |some c=>
   simp only[gv,Value.slice.injEq,aA,Addr.mk.injEq]at h1;obtain⟨⟨rfl,rfl,h1⟩,_⟩:=h1;refine⟨c,cells,rfl,h3,h4,by rw[h5,dD],λk x hk=>?_⟩;obtain⟨y,q1,q2⟩:=h6 k x hk;exact⟨y,λj u hj=>by have:=q1 j u hj;rwa [dD]at this,q2⟩
theorem Ro{α:Type}{E:Enc α}{xs:List α}{Q:IH->Prop}(h0:0<xs.length)(hk:ai (ap E (.slice none 0 0) xs) kl kl':=by exact fM):R Q B w0 kl F:=λw s=>by
 obtain⟨S,⟨S1,S2,q1,q2,e⟩,h2,h3⟩:=(s.fe hk).own;obtain⟨b,cells,h,_⟩:=acC (c:=none) q1 h0;simp[gv]at h
end
end Go.Ideal
namespace Go.Ideal
variable {P:Program} {B:List Nat} {w0:Wd} {kl kl' bK:List OA} {F:List aK} {K:KO} {ds:List Tmp} {rest:List aY} {n:Nat} {l:List (Nat×Value)} {D:List Deferred} {pm:Option FrameMode} {ro:Option Nat} {d:Nat} {g:Option (Tmp×Bool)}
theorem Dg{α:Type}{E:Enc α}(a b:List (α×E.Y)):aW E (a++b)=aW E a++aW E b:=by unfold aW;rw[List.flatMap_append]
theorem Dh{ρ:Operand->Value}{x:Operand}{tu tC:Option Operand}{b o f m c lo hi:Nat}{size:Nat}(hx:ρ x=.slice (some ⟨b,o,some f⟩) m c)(hf:f=0\/f=size)(hs:0<size)(hlo:tu=none/\lo=0\/∃t,tu=some t/\ρ t=.int .i64 (lo:Int))(hhi:tC=none/\hi=m\/∃t,tC=some t/\ρ t=.int .i64 (hi:Int))(h1:lo<=hi)(h2:hi<=c):
 Pu P ρ (.ny size x tu tC none) (.slice (some ⟨b,o+lo*size,some f⟩) (hi - lo) (c - lo)):=λh=>by
 have e3:upTo c (.int .i64 (hi:Int))=some hi:=C9 h2;have e4:upTo hi (.int .i64 (lo:Int))=some lo:=C9 h1;have hbd:bounds? m c (fD ρ tu) (fD ρ tC) none=some (lo,hi,c):=by
  rcases hlo with⟨rfl,rfl⟩|⟨t,rfl,ht⟩<;>rcases hhi with⟨rfl,hm⟩|⟨t',rfl,ht'⟩
  ·rw[hm];rfl
  ·show bounds? m c none (some (ρ t')) none=_;rw[ht'];show(match upTo c (.int .i64 (hi:Int))with|none=>none|some h=>match some 0 with|none=>none|some l=>some (l,h,c))=_;rw[e3]
  ·rw[hm]at e4⊢;show bounds? m c (some (ρ t)) none none=_;rw[ht];show(match upTo m (.int .i64 (lo:Int))with|none=>none|some l=>some (l,m,c))=_;rw[e4]
  ·show bounds? m c (some (ρ t)) (some (ρ t')) none=_;rw[ht,ht'];show(match upTo c (.int .i64 (hi:Int))with|none=>none|some h=>match upTo h (.int .i64 (lo:Int))with|none=>none|some l=>some (l,h,c))=_;rw[e3];show(match upTo hi (.int .i64 (lo:Int))with|none=>none|some l=>some (l,hi,c))=_;rw[e4]
 have h3:fD ρ none=none:=rfl;simp only[ak.run,hx,h3,hbd];match f,hf with
 |0,_=>rfl
 |k+1,hf=>
  have hk:k+1=size:=by
   rcases hf with h|h
   ·cases h
   ·exact h
  show cond (Nat.beq (Nat.succ k) size) (some (Value.slice (some ⟨b,Nat.add o (Nat.mul lo size),some (Nat.succ k)⟩) (hi - lo) (c - lo),h)) none=_;rw[show Nat.beq (Nat.succ k) size=true by rw[show Nat.succ k=size from hk];exact vO _];rfl
theorem acD(cs:List Value):fU cs cs.length []=some cs:=by
 have:=Lf (cs1:=cs) (cs2:=[]) (xs:=[]) (bF _);simpa using this
theorem acE{α:Type}(E:Enc α){xs:List α}{b f m:Nat}{Q:IH->Prop}(h:∀aa:List (α×E.Y),aa.map (·.1)=xs->m=xs.length->(f=0\/f=E.n)->R Q B w0 (pt b (.cells (aW E aa))::kl') (qa E aa::F))
 (hk:ai (ap E (.slice (some ⟨b,0,some f⟩) m m) xs) kl kl':=by exact fM):R Q B w0 kl F:=λw s=>by
 have s1:=s.fe hk;obtain⟨S,⟨S1,S2,q1,q2,e⟩,h2,h3⟩:=s1.own;rcases q1 with⟨_,h0,_⟩|⟨b',o',f',cells,h4,h5,h6,h7,h8,h9⟩
 ·cases h0
 injection h4 with e1 e2 e3;injection e1 with e1;injection e1 with e1 e4 e5;injection e5 with e5;subst e1 e4 e5 e2;rw[dD]at h8;obtain⟨l,hl,hp⟩:=FM (p:=λk (p:α×E.Y)=>xs[k]? =some p.1/\(∀(j:Nat) u,(E.pat p.1 p.2)[j]? =some u->cells[0+k*E.n+j]? =some u)/\∀f∈E.fs p.1 p.2,f.p w) xs.length (λk hk=>by
  obtain⟨y,q1,q2⟩:=h9 k xs[k] (bf hk);exact⟨(xs[k],y),bf hk,q1,q2⟩)
 have hm:l.map (·.1)=xs:=by
  apply jA;intro k;rw[bX];by_cases hk:k<xs.length
  ·have hk':k<l.length:=by omega
   rw[bf hk',iT,(hp k l[k] (bf hk')).1]
  ·rw[ig (by omega),ig (by omega)];rfl
 have hfl:=qL (E:=E) l;have hcells:cells=aW E l:=by
  apply jA;intro j;by_cases hj:j<l.length*E.n
  ·have hn0:0<E.n:=by
    rcases y9 E.n with h0|h0
    ·rw[h0]at hj;omega
    ·exact h0
   have hd:j/E.n<l.length:=by rw[Im hn0];exact hj
   have hmod:=ul j hn0;have hpk:=bf hd;have hu:(E.pat (l[j/E.n]).1 (l[j/E.n]).2)[j%E.n]? =some ((E.pat (l[j/E.n]).1 (l[j/E.n]).2)[j%E.n]'(by rw[E.len];exact hmod)):=bf _;have u1:=(hp _ _ hpk).2.1 (j%E.n) _ hu;have u2:=yo hpk hu;have rM:j/E.n*E.n+j%E.n=j:=by rw[xn];exact Io j E.n
   rw[dD,rM]at u1;rw[rM]at u2;rw[u1,u2]
  ·rw[ig (by rw[h8,<- hl];omega),ig (by omega)]
 refine h l hm rfl h5 w ⟨s1.agree,s1.le,s1.eO,⟨S,⟨S1,S2,⟨h6,by rw[<- hcells];exact h7⟩,q2,e⟩,h2,h3⟩,λg hg=>?_⟩;rcases aU.1 hg with rfl|hg
 ·intro p hp' g hg;obtain⟨k,hk⟩:=Ir.1 hp';exact(hp k p hk).2.2 g hg
 ·exact s1.facts g hg
theorem acF{α:Type}(E:Enc α){aa:List (α×E.Y)}{rest':List Value}{b f c:Nat}{Q:IH->Prop}(hf:f=0\/f=E.n)(hc:aa.length<=c)(h:R Q B w0 kl' (ah E (.slice (some ⟨b,0,some f⟩) aa.length c) (aa.map (·.1))::F))
 (ha:∀w,(∀f∈F,f.p w)->(qa E aa).p w) (hk:ai (pt b (.cells (aW E aa++rest'))) kl kl':=by exact fM):R Q B w0 kl F:=λw s=>by
 have hall:=ha w s.facts;obtain⟨w',hw,s'⟩:=(s.fe hk).freeze (fs:=[⟨λw=>Fz w b (aW E aa++rest'),λa h=>h.mono a⟩]) (λw w' S hp hle hh hz g hg=>by
  rw[di.1 hg];exact⟨hz b (by rw[hp.1];exact di.2 rfl),.inl (by rw[hh];exact hp.2)⟩)
 have hfz:Fz w' b (aW E aa++rest'):=s'.facts _ (bz ..);have E8:=ha w' λf hf=>s'.facts f (nW _ hf);rw[<- hw];refine h w' ⟨s'.agree,s'.le,s'.eO,s'.own,λg hg=>?_⟩;rcases aU.1 hg with rfl|hg
 ·refine .inr ⟨b,0,f,c,_,⟨by rw[bC],by rw[bC];exact hc,hf⟩,hfz,λk x hk=>?_⟩;rw[bX]at hk;cases hp:aa[k]? with
  |none=>rw[hp]at hk;cases hk
  |some p=>
   rw[hp]at hk;cases hk;refine⟨p.2,λj u hj=>?_,E8 p (cZ hp)⟩;have:=yo hp hj;rw[dD,kD (dX.1 this).1];exact this
 ·exact s'.facts g (nW _ hg)
end Go.Ideal
namespace Go.Ideal
open Go.RowKit Go.WideShapes Go.ChangeShapes
variable {P:Program}
theorem acG{f:FuncId}{fn:Func}(hfn:P.funcs[f]? =some fn){body:Code}(hb:fn.body=some body)(hname:fn.name≠ "runtime.NumGoroutine"){args:List Value}{v:Value}(hv:yx v=true)(ha:args.all bY=true){h:IH}
 (hC:∀β w,jg P β->WR P β h w->Calls P f ⟨args⟩ w λe w'=>e=.returned v/\Beyond w w'):iG P ⟨.func f,args,[],none⟩ h (λr pm h2=>pm=none/\r=.ok v/\h2=h):=by
 intro β w fn' args' cap' hG hW hf ha' hcap;obtain⟨gY,t1,t2⟩:=zR (P:=P) (q:=⟨.func f,args,[],none⟩) (f:=f) (args:=args) (by simp only[target,gV,gQ]) hf ha' hcap hfn hb hname w;have e2:=aJ.F6 t2 ha;subst e2;refine⟨_,Frame.enter P f ⟨_⟩ .normal,t1,rfl,λcs0 oz=>?_⟩;obtain⟨e,w',fr,⟨he,hw'⟩,hcomes,hfr,hlv⟩:=hC β w hG hW cs0;subst he;obtain⟨w1,w2⟩:=hW.beyond hw';exact⟨.ok v,none,h,β,_,.returned v,cs0,⟨rfl,rfl,rfl⟩,w1,w2,.ok (VR.Q7 hv),.none cs0,.inl ⟨f,_,fr,rfl,hcomes,hfr,hlv.2.2.1,hlv.1,hlv.2.1,hlv.2.2.2⟩⟩
theorem acH(w:World)(k:Nat)(os:Array Obj):Beyond w (Go.Sort.grow (w.drewN k) os):=by
 refine⟨λb hb=>?_,?_,rfl,rfl,rfl,Nat.le_add_right _ _⟩
 ·show(w.heap++os)[b]? =_;rw[NL hb]
 ·show w.heap.size<=(w.heap++os).size;rw[Array.size_append];omega
def lG(g:Nat)(cs:List Value):aK:=⟨λw=>w.z g/\w.h.get g=some (.fP cs),λa h=>⟨a.z g h.1,(a.get g h.1).trans h.2⟩⟩
theorem acI{β:az}{h:IH}{w:World}(hG:jg P β)(hW:WR P β h w){name:String}{g:Nat}(hg:P.globalNamed name=some g)(hlt:g<P.globals.size){k:IntKind}{zs:List Int}(hsz:uI P g=zs.length)(h0:0<zs.length)
 (hr:h.get g=some (.fP (zs.map λz=>Value.int k z))):Lib.TabIs P w name k zs:=by
 obtain⟨i,h1,h2,h3,h4⟩:=hG g hlt;obtain⟨⟨c,t,fz,hh,hs⟩,_,_,hc⟩:=hW.obj g i _ h1 hr;rw[h2]at hh hc;unfold Lib.TabIs World.var?;rw[hg,iA,hh];show some c=_;congr 1;have hcs:c.size=zs.length:=by
  rcases hs with hs|hs<;>omega
 apply NJ;intro j;by_cases hj:j<zs.length
 ·have hz:(zs.map λz=>Value.int k z)[j]? =some (.int k zs[j]):=by rw[bX,bf hj];rfl
  obtain⟨v',q1,q2⟩:=hc j _ hz;have:=q2.ko;subst this;rw[Bl (xs:=zs.map λz=>Value.int k z),hz];rw[h3,dD]at q1;simpa[World.cell?,hh]using q1
 ·rw[o8 (by omega),Bl (xs:=zs.map λz=>Value.int k z),ig (by rw[bC];omega)]
def Rp(P:Program)(f:FuncId):Prop:=∀n:Int, -9223372036854775808<=n->n<=9223372036854775807->∀w,Lib.TabIs P w "internal\x2fstrconv.uint64pow10" .u64 Lib.pow10Tab->
 Calls P f #[.int .i64 n] w λe w'=>e=.returned (.string ⟨(Lib.itoa n).toArray⟩)/\∃k os,w'=Go.Sort.grow (w.drewN k) os
def mh:List Value:=Lib.pow10Tab.map λz=>Value.int .u64 z
theorem acJ{f:FuncId}(hI:Rp P f){fn:Func}(hfn:P.funcs[f]? =some fn){body:Code}(hb:fn.body=some body)(hname:fn.name≠ "runtime.NumGoroutine"){g:Nat}(hg:P.globalNamed "internal\x2fstrconv.uint64pow10" =some g)
 (hlt:g<P.globals.size) (hsz:uI P g=20) {n:Int} (h0: -9223372036854775808<=n) (h1:n<=9223372036854775807):bD P (.func f) [.int .i64 n] [] [] [lG g mh] (λ_:Unit=>.string ⟨(Lib.itoa n).toArray⟩) (λ_=>[]) (λ_=>[]) (λ_=>True):=by
 intro B w s;have hf:=(s.facts _ (di.2 rfl)).2;refine .real (Cw _ (acG hfn hb hname (v:=.string ⟨(Lib.itoa n).toArray⟩) rfl rfl λβ wr hG hW=>?_) ?_)
 ·refine(hI n h0 h1 wr (acI hG hW hg hlt (by rw[hsz,Lib.pow10Tab_length]) (by rw[Lib.pow10Tab_length];decide) hf)).mono ?_;rintro e w' ⟨rfl,k,os,rfl⟩;exact⟨rfl,acH _ _ _⟩
 ·rintro r pm h' ⟨rfl,rfl,rfl⟩;exact⟨rfl,w,(),rfl,⟨s.agree,s.le,s.eO,s.own,λf h=>by cases h⟩,rfl,trivial⟩
def Joins(P:Program)(f:FuncId):Prop:=∀(bk o c:Nat) (xs:List ByteArray) (sep:ByteArray) (w:World),(∀(j:Nat) x,xs[j]? =some x->w.cell? ⟨bk,o+j,none⟩=some (.string x))->bk<w.heap.size->xs.length<=140737488355328->xs.length<=c->
 (Lib.join (xs.map (·.data.toList)) sep.data.toList).length<=140737488355328->
 Calls P f #[.slice (some ⟨bk,o,none⟩) xs.length c,.string sep] w λe w'=>e=.returned (.string ⟨(Lib.join (xs.map (·.data.toList)) sep.data.toList).toArray⟩)/\Below w.heap.size w w'
def oK(xs:List ByteArray)(sep:ByteArray):ByteArray:=⟨(Lib.join (xs.map (·.data.toList)) sep.data.toList).toArray⟩
theorem Rq{f:FuncId}(hJ:Joins P f){fn:Func}(hfn:P.funcs[f]? =some fn){body:Code}(hb:fn.body=some body)(hname:fn.name≠ "runtime.NumGoroutine"){b o c:Nat}{fl:Option Nat}{xs:List ByteArray}{sep:ByteArray}{h:IH}{cs:List Value}
 (hg:h.get b=some (.cells cs)\/h.get b=some (.fP cs)) (hz:∀(j:Nat) z,xs[j]? =some z->cs[o+j]? =some (.string z)) (hne:0<xs.length) (hn:xs.length<=140737488355328) (hlen:(oK xs sep).data.size<=140737488355328):
 iG P ⟨.func f,[.slice (some ⟨b,o,fl⟩) xs.length c,.string sep],[],none⟩ h (λr pm h2=>pm=none/\r=.ok (.string (oK xs sep))/\h2=h):=by
 intro β w fn' args' cap' hG hW hf ha hcap;obtain⟨gY,t1,t2⟩:=zR (P:=P) (q:=⟨.func f,[.slice (some ⟨b,o,fl⟩) xs.length c,.string sep],[],none⟩) (f:=f) (args:=[.slice (some ⟨b,o,fl⟩) xs.length c,.string sep]) (by simp only[target,gV,gQ]) hf ha hcap hfn hb hname w;cases t2 with|cons hv tl=>
 cases tl with|cons hv2 tl=>
 cases tl;have:=hv2.vY;subst this;obtain⟨g,a,c',hi,rfl,hab,_,hn1,hcc,hao,_⟩:=hv.lm;have hao:a.off=g.off+o/\a.spot=none:=by
  rcases hao with e|e
  ·omega
  ·exact e
 have ea:a=⟨g.b,g.off+o,none⟩:=by
  obtain⟨ab,ao,Al⟩:=a;simp only at hab hao;rw[hab,hao.1,hao.2]
 subst ea;obtain⟨hlt,q6⟩:g.b<w.heap.size/\∀(j:Nat) v,cs[j]? =some v->∃v',w.cell? ⟨g.b,g.off+j,none⟩=some v'/\VR β v v':=by
  rcases hg with hg|hg
  ·have k:=hW.obj b g _ hi hg;exact⟨k.lt,k.2.2.2.2.2⟩
  ·have k:=hW.obj b g _ hi hg;exact⟨k.lt,k.2.2.2⟩
 have hC:=acd (hJ g.b (g.off+o) c' xs sep w (λj x hj=>by
  obtain⟨v',h1,h2⟩:=q6 (o+j) _ (hz j x hj);have:=h2.vY;subst this;rw[lS];exact h1) hlt hn (by omega) (by simpa[oK]using hlen)) (by rintro e w' ⟨rfl,_⟩ h;cases h)
 refine⟨_,Frame.enter P f ⟨_⟩ .normal,t1,rfl,λcs0 oz=>?_⟩;obtain⟨e,w',fr,⟨⟨he,hw'⟩,hd⟩,hcomes,hfr,hlv⟩:=hC cs0;subst he;obtain⟨w1,w2⟩:=hW.beyond ⟨λk hk=>hw'.block k hk,hw'.size,hw'.os,hw'.tape,hw'.output,hd⟩;exact⟨.ok (.string (oK xs sep)),none,h,β,_,.returned (.string (oK xs sep)),cs0,⟨rfl,rfl,rfl⟩,w1,w2,.ok (VR.free rfl),.none cs0,.inl ⟨f,_,fr,rfl,hcomes,hfr,hlv.2.2.1,hlv.1,hlv.2.1,hlv.2.2.2⟩⟩
theorem acK{f:FuncId}(hJ:Joins P f){fn:Func}(hfn:P.funcs[f]? =some fn){body:Code}(hb:fn.body=some body)(hname:fn.name≠ "runtime.NumGoroutine"){v:Value}{xs:List ByteArray}{sep:ByteArray}(hne:0<xs.length)(hn:xs.length<=140737488355328)
 (hlen:(oK xs sep).data.size<=140737488355328):bD P (.func f) [v,.string sep] [] [] [ah eZ v xs] (λ_:Unit=>.string (oK xs sep)) (λ_=>[]) (λ_=>[]) (λ_=>True):=by
 intro B w s;rcases s.facts _ (di.2 rfl)with⟨h,_⟩|⟨b,o,fl,c,cells,⟨e1,_,_⟩,h2,h3⟩
 ·rw[h]at hne;simp at hne
 subst e1;refine .real (Cw _ (Rq hJ hfn hb hname h2.2 (λj z hj=>?_) hne hn hlen) ?_)
 ·obtain⟨y,u1,_⟩:=h3 j z hj;have:=u1 0 (.string z) rfl;simpa[eZ]using this
 ·rintro r pm h' ⟨rfl,rfl,rfl⟩;exact⟨rfl,w,(),rfl,⟨s.agree,s.le,s.eO,s.own,λf h=>by cases h⟩,rfl,trivial⟩
def oL(P:Program)(n g0:Nat)(cs:List Value):Lay:=(List.range n).map λg=>(some ⟨g,0,0,uI P g,0⟩,if g=g0 then some cs else none)
theorem Ls{n i g0:Nat}{cs:List Value}(h:i<n):(oL P n g0 cs)[i]? =some (some ⟨i,0,0,uI P i,0⟩,if i=g0 then some cs else none):=by
 unfold oL;rw[bX,Bj h];rfl
theorem acL(n g0:Nat)(cs:List Value):(oL P n g0 cs).length=n:=by unfold oL;rw[bC,List.length_range]
section
variable {H:Type} {enc:TypeId×Value->H} {W:World}
theorem Am(l5:P.follows .mixedOrders=true){f:FuncId}(fn:Func)(hfn:P.funcs[f]? =some fn)(hbody:fn.body.isNone=false)(hname:(fn.name== "runtime.NumGoroutine")=false){K:TypeId->Prop}
 (hK:∀t,K t->PlainT P K t) {ts:List TypeId} {vs:List Value} {ds:List (DataW H)} {ps:List MemPlace} (hT:∀t∈ts,K t) (hok:∀(j:Nat) t v,ts[j]? =some t->vs[j]? =some v->Value.okWide P W .any 0 t v)
 (hA:DataW.TrodAll enc P W 0 (λ_=>true) true ts vs ds ps) {name:String} {g0:Nat} {k:IntKind} {zs:List Int} (hg:P.globalNamed name=some g0) (hlt:g0<P.globals.size) (hsz:uI P g0=zs.length) (htab:Lib.TabIs P W name k zs)
 (acM:∀(w:Wd) (vs':List Value),P.globals.size<=w.h.next->(∀i,i<w.h.next->w.z i)->(lG g0 (zs.map λz=>Value.int k z)).p w->vs'.length=vs.length->(∀(j:Nat) t v d,ts[j]? =some t->vs'[j]? =some v->ds[j]? =some d->sZ P w t v d)->∃F,(∀f∈F,f.p w)/\eY P f vs' F (.bool true)):
 Calls P f ⟨vs⟩ W (λe w'=>e=.returned (.bool true)/\Below W.heap.size W w'):=by
 have tcs:=zs.map λz=>Value.int k z;obtain⟨M,vs',h1,h2,h3⟩:=P7 hK hT hok hA (oL P P.globals.size g0 (zs.map λz=>Value.int k z));have hlG:=acL (P:=P) P.globals.size g0 (zs.map λz=>Value.int k z);have hL0:(oL P P.globals.size g0 (zs.map λz=>Value.int k z)++M)[g0]? =some (some ⟨g0,0,0,uI P g0,0⟩,some (zs.map λz=>Value.int k z)):=by
  rw[kD (by omega),Ls hlt,if_pos rfl]
 have hblk:∃t fz,W.heap[g0]? =some (.cells (zs.map λz=>Value.int k z).toArray t fz):=by
  unfold Lib.TabIs World.var? at htab;rw[hg,iA]at htab;split at htab
  ·rename_i e;cases htab;exact⟨_,_,e⟩
  ·cases htab
 refine abM l5 fn hfn hbody hname (L:=oL P P.globals.size g0 (zs.map λz=>Value.int k z)++M) (args:=vs') (λg hg=>⟨⟨g,0,0,uI P g,0⟩,?_,rfl,rfl,rfl⟩) (λi g cs hi=>?_) h1 rfl ?_
 ·unfold iI;rw[kD (by omega),Ls hg];rfl
 ·by_cases hlt':i<P.globals.size
  ·rw[kD (by omega),Ls hlt']at hi;by_cases hi0:i=g0
   ·subst hi0;rw[if_pos rfl]at hi;cases hi;obtain⟨t,fz,hb⟩:=hblk;refine⟨⟨_,t,fz,hb,.inr (by rw[hsz];simp)⟩,rfl,?_,λj v hj=>⟨v,?_,VR.free ?_⟩⟩
    ·rw[iB];intro v hv;obtain⟨z,_,rfl⟩:=jQ.1 hv;rfl
    ·simp only[World.cell?,dD];rw[hb];simpa using hj
    ·rw[bX]at hj;cases e:zs[j]? with
     |none=>rw[e]at hj;cases hj
     |some z=>rw[e]at hj;cases hj;rfl
   ·rw[if_neg hi0]at hi;cases hi
  ·exact h3 i g cs (by omega) hi
 have hlen:vs'.length=vs.length:=by
  have:∀{a b:List Value},aJ (iI (oL P P.globals.size g0 (zs.map λz=>Value.int k z)++M)) a b->a.length=b.length:=by
   intro a;induction a with
   |nil=>intro b h;cases h;rfl
   |cons x a ih=>intro b h;cases h with|cons q r=>simp[ih r]
  exact this h1
 obtain⟨F,hF,hfn'⟩:=acM (FL (oL P P.globals.size g0 (zs.map λz=>Value.int k z)++M)) vs' (by show _<=(oL P P.globals.size g0 (zs.map λz=>Value.int k z)++M).length;rw[dW];omega) (λi hi=>hi)
  ⟨by show _<(oL P P.globals.size g0 (zs.map λz=>Value.int k z)++M).length;rw[dW];omega,by show(iV _).get g0=_;rw[Fu,hL0];rfl⟩ hlen (λj t v d ht hv hd=>by
  obtain⟨v0,e,kL⟩:=aa0 (ts:=ts) h1 j v hv;exact aaZ rfl (h2 j t v d ht hv hd) kL (hok j t v0 ht e))
 have st:St [] (FL (oL P P.globals.size g0 (zs.map λz=>Value.int k z)++M)) [] F (FL (oL P P.globals.size g0 (zs.map λz=>Value.int k z)++M)):=⟨⟨aH _,λ_ _ _=>rfl,λ_ _=>rfl⟩,Wd.Le.refl _,λi _ hz=>.inl hz,⟨[],rfl,Ez,λi hi=>by cases hi⟩,hF⟩
 refine .uK _ (hfn' [] (FL (oL P P.globals.size g0 (zs.map λz=>Value.int k z)++M)) st) ?_;rintro r pm h' ⟨rfl,w',y,rfl,s,rfl,_⟩;exact⟨rfl,rfl,⟨s.agree.next,λi hi=>s.agree.get i hi (by simp),λhl=>s.agree.low hl (by simp)⟩⟩
end
end Go.Ideal
namespace Go.Ideal
variable {P:Program} {B:List Nat} {w0:Wd} {kl kl' bK:List OA} {F:List aK} {K:KO} {ds:List Tmp} {rest:List aY} {n:Nat} {l:List (Nat×Value)} {D:List Deferred} {pm:Option FrameMode} {ro:Option Nat} {d:Nat} {g:Option (Tmp×Bool)}
def sk{α:Type}(E:Enc α)(v:Value)(aa:List (α×E.Y)):OA:=
 ⟨λw S=>(aa=[]/\v=.slice none 0 0/\S=[])\/∃b f c r,v=.slice (some ⟨b,0,some f⟩) aa.length c/\(f=0\/f=E.n)/\S=[b]/\w.h.get b=some (.cells (aW E aa++r))/\aa.length*E.n+r.length=c*E.n/\aa.length<=c/\
  ∀p∈aa,∀q∈E.fs p.1 p.2,q.p w,
  λa h hp=>by
   rcases hp with hp|⟨b,f,c,r,h1,h2,h3,h4,h5,h6,h7⟩
   ·exact .inl hp
   ·exact .inr ⟨b,f,c,r,h1,h2,h3,by rw[h b (by rw[h3];exact di.2 rfl)];exact h4,h5,h6,λp hp q hq=>q.mono a (h7 p hp q hq)⟩⟩
section
variable {α:Type} {v:Value}
theorem Lt(E:Enc α){Q:IH->Prop}(h:R Q B w0 (sk E (.slice none 0 0) []::kl) F):R Q B w0 kl F:=λw s=>by
 obtain⟨S,h1,h2,h3⟩:=s.own;exact h w ⟨s.agree,s.le,s.eO,⟨S,⟨[],S,.inl ⟨rfl,rfl,rfl⟩,h1,rfl⟩,h2,h3⟩,s.facts⟩
theorem mi(E:Enc α){aa:List (α×E.Y)}{Q:IH->Prop}(h:∀a c,v=.slice a aa.length c->R Q B w0 kl F)(hk:ai (sk E v aa) kl kl':=by exact fM):R Q B w0 kl F:=λw s=>by
 obtain⟨S,⟨S1,S2,q1,q2,e⟩,h2,h3⟩:=(s.fe hk).own;rcases q1 with⟨rfl,h1,_⟩|⟨b,f,c,r,h4,_⟩
 ·exact h _ _ h1 w s
 ·exact h _ _ h4 w s
theorem Di(E:Enc α){aa:List (α×E.Y)}{x:Operand}(next:R (λh=>aB P ds rest (act n ((d,.int .i64 (aa.length:Int))::l) D pm ro) h K) B w0 kl F)(hx:ev l x=v:=by conv=>lhs;whnf)(hk:ai (sk E v aa) kl kl':=by exact fM)(hn:Nat.blt d n=true:=by rfl)(hg:bH l g=true:=by rfl):
 R (λh=>aB P ds (⟨⟨some d,g,.jf x⟩,[]⟩::rest) (act n l D pm ro) h K) B w0 kl F:=
 mi E (v:=v) (aa:=aa) (λa c e=>(bO hn hg (FC (hx.trans e))).h next) hk
theorem tJ(E:Enc α){aa:List (α×E.Y)}{Q:IH->Prop}(hne:0<aa.length)(h:∀b f c r,(f=0\/f=E.n)->aa.length*E.n+r.length=c*E.n->aa.length<=c->v=.slice (some ⟨b,0,some f⟩) aa.length c->R Q B w0 (pt b (.cells (aW E aa++r))::kl') (qa E aa::F))(hk:ai (sk E v aa) kl kl':=by exact fM):
 R Q B w0 kl F:=λw s=>by
 have s1:=s.fe hk;obtain⟨S,⟨S1,S2,q1,q2,e⟩,h2,h3⟩:=s1.own;rcases q1 with⟨h0,_⟩|⟨b,f,c,r,e1,e2,e3,e4,e5,e6,e7⟩
 ·rw[h0]at hne;simp at hne
 ·refine h b f c r e2 e5 e6 e1 w ⟨s1.agree,s1.le,s1.eO,⟨S,⟨S1,S2,⟨e3,e4⟩,q2,e⟩,h2,h3⟩,λq hq=>?_⟩;rcases aU.1 hq with rfl|hq
  ·exact e7
  ·exact s1.facts q hq
theorem Ao(E:Enc α){aa:List (α×E.Y)}{Q:IH->Prop}{b f c m:Nat}{r:List Value}(hm:m=aa.length)(hf:f=0\/f=E.n)(hr:aa.length*E.n+r.length=c*E.n)(hc:aa.length<=c)(h:R Q B w0 (sk E (.slice (some ⟨b,0,some f⟩) m c) aa::kl') F)
 (hk:ai (pt b (.cells (aW E aa++r))) kl kl':=by exact fM) (ha:qa E aa∈F:=by exact oF):R Q B w0 kl F:=λw s=>by
 have hall:=s.facts _ ha;refine h w ((s.fe hk).nD (A:=pt b (.cells (aW E aa++r))) λS hp=>.inr ⟨b,f,c,r,by rw[hm],hf,hp.1,hp.2,hr,hc,hall⟩)
theorem Dj(E:Enc α){aa:List (α×E.Y)}{k:Nat}{p:α×E.Y}{Q:IH->Prop}{F2:List aK}(hp:aa[k]? =some p)(h:R Q B w0 kl F2)(hf:qa E aa∈F:=by exact oF)(ha:bZ (E.fs p.1 p.2) F F2:=by repeat (first|exact bZ.nil|apply bZ.cons|exact bZ.self|exact bZ.app)):R Q B w0 kl F:=λw s=>
 h w ⟨s.agree,s.le,s.eO,s.own,λq hq=>by
  rw[<- ha.eq]at hq;rcases gy.1 hq with hq|hq
  ·exact s.facts _ hf p (cZ hp) q hq
  ·exact s.facts q hq⟩
theorem mo{E:Enc α}{aa:List (α×E.Y)}{k j o:Nat}{p:α×E.Y}{u:Value}{r:List Value}(hp:aa[k]? =some p)(hu:(E.pat p.1 p.2)[j]? =some u)(ho:o=k*E.n+j):(aW E aa++r)[o]? =some u:=by
 subst ho;have h:=yo hp hu;rw[kD (dX.1 h).1];exact h
theorem Lu(E:Enc α){x hi:Operand}{aa:List (α×E.Y)}{size:Nat}(k:Nat)(hkl:k<=aa.length)(next:∀v',R (λh=>aB P ds rest (act n ((d,v')::l) D pm ro) h K) B w0 (sk E v' (aa.take k)::kl') F)
 (hx:ev l x=v:=by conv=>lhs;whnf) (hh:ev l hi=.int .i64 (k:Int):=by rfl) (hk:ai (sk E v aa) kl kl':=by exact fM) (hz:E.n=size:=by rfl) (h0:0<size:=by decide) (hn:Nat.blt d n=true:=by rfl) (hg:bH l g=true:=by rfl):
 R (λh=>aB P ds (⟨⟨some d,g,.ny size x none (some hi) none⟩,[]⟩::rest) (act n l D pm ro) h K) B w0 kl F:=λw s=>by
 subst hz;have s1:=s.fe hk;obtain⟨S,⟨S1,S2,q1,q2,e⟩,h2,h3⟩:=s1.own;rcases q1 with⟨h0',e1,e2⟩|⟨b,f,c,r,e1,e2,e3,e4,e5,e6,e7⟩
 ·subst h0';have hk0:k=0:=by simpa using hkl
  subst hk0;refine iH hn hg (Q3 (hx.trans e1) hh w.h) (next _ w ⟨s1.agree,s1.le,s1.eO,⟨S,⟨S1,S2,.inl ⟨rfl,rfl,e2⟩,q2,e⟩,h2,h3⟩,s1.facts⟩)
 ·have hrun:=Dh (P:=P) (x:=x) (tu:=none) (tC:=some hi) (lo:=0) (hi:=k) (hx.trans e1) e2 h0 (.inl ⟨rfl,rfl⟩) (.inr ⟨hi,rfl,hh⟩) (bF _) (by omega) w.h;rw[pF,pE,pE]at hrun;refine iH hn hg hrun (next _ w ⟨s1.agree,s1.le,s1.eO,⟨S,⟨S1,S2,.inr ⟨b,f,c,aW E (aa.drop k)++r,?_,e2,e3,?_,?_,?_,λp hp=>e7 p (y7 hp)⟩,q2,e⟩,h2,h3⟩,s1.facts⟩)
  ·rw[dw,xB hkl]
  ·rw[e4,<- ik,<- Dg,xz]
  ·rw[dW,qL,dw,jR,xB hkl,<- e5,<- lS,<- kZ];congr 2;omega
  ·rw[dw];omega
theorem jW{re:List fC}(E:Enc α){e:TypeId}{size bytes b':Nat}{s x:Operand}{aa:List (α×E.Y)}(a:α)(y:E.Y){cs:List Value}{k1 k2:List OA}
 (hm:(aa.length+1)*bytes<=1073741824/\(aa.length+1)*size<=1073741824/\aa.length+1<=1073741824)
 (next:∀v',R (λh=>aB P ds rest (act n ((d,v')::l) D pm ro) h K) B w0 (sk E v' (aa++[(a,y)])::k2) F)
 (hn:Nat.blt d n=true:=by rfl) (hg:bH l g=true:=by rfl)
 (hs:ev l s=v:=by conv=>lhs;whnf) (hx:ev l x=.slice (some ⟨b',0,some 0⟩) 1 1:=by rfl) (hk:ai (sk E v aa) kl k1:=by exact fM) (hc:ai (pt b' (.cells cs)) k1 k2:=by exact fM) (hp:cs=E.pat a y:=by rfl) (hF:Sub (E.fs a y) F:=by exact pY) (hz:E.n=size:=by rfl)
 (hsm:∀v',Same P re (ev ((d,v')::l)) ((d,v')::l) B w0 (sk E v' (aa++[(a,y)])::k2) F:=by intro _;repeat (first|exact rQ|refine qI rfl (by repeat (first|with_reducible exact ai.here|with_reducible apply ai.there|with_reducible apply ai.app)) (by first|exact rfl|(conv=>lhs;whnf)) rfl ?_|refine CQ rfl (by(repeat (first|with_reducible exact bz .. |with_reducible apply dh));first|done|fail) (by first|exact rfl|(conv=>lhs;whnf)) rfl ?_|refine CR rfl (by(repeat (first|with_reducible exact bz .. |with_reducible apply dh));first|done|fail) (by first|exact rfl|(conv=>lhs;whnf)) rfl ?_|refine CS rfl (by repeat (first|with_reducible exact ai.here|with_reducible apply ai.there|with_reducible apply ai.app)) (by first|exact rfl|(conv=>lhs;whnf)) rfl ?_|refine CU rfl (by(repeat (first|with_reducible exact bz .. |with_reducible apply dh));first|done|fail) (by first|exact rfl|(conv=>lhs;whnf)) rfl ?_|refine CV rfl (by(repeat (first|with_reducible exact bz .. |with_reducible apply dh));first|done|fail) (by first|exact rfl|(conv=>lhs;whnf)) rfl ?_)):
 R (λh=>aB P ds (⟨⟨some d,g,.append e size bytes s x⟩,re⟩::rest) (act n l D pm ro) h K) B w0 kl F:=λw st=>by
 subst hp hz;have hlen:=E.len a y;have st2:St B w0 (sk E v aa::pt b' (.cells (E.pat a y))::k2) F w:=st.jF (.cons hk (.cons hc .nil));have hat:At w.h b' (.cells (E.pat a y)):=st2.at_ (.there .here);have ku:St B w0 (sk E v aa::k2) F w:=(st2.fe (.there .here)).tail;have hfs:∀f∈E.fs a y,f.p w:=λf hf=>st.facts f (hF.mem f hf);have hread:w.h.dK b' 0 (1*E.n)=some (E.pat a y):=by
  rw[hat.c.dK,j5,j6,zi,uo,if_pos (by omega),<- hlen,fK]
 have hx1:kE (ev l x)=some (0+1):=by rw[hx];rfl
 have hx2:j3 E.n (0+1) (ev l x) w.h=some (E.pat a y):=by rw[hx];exact hread
 have hone:aW E [(a,y)]=E.pat a y:=by simp[aW]
 have put:∀(w':Wd) (c:Nat) (f cc:Nat) (r:List Value),(f=0\/f=E.n)->(∀p∈aa,∀q∈E.fs p.1 p.2,q.p w')->(∀q∈E.fs a y,q.p w')->(aa.length+1)*E.n+r.length=cc*E.n->aa.length+1<=cc->
  ∀S,(pt c (.cells (aW E aa++(E.pat a y++r)))).p w' S->(sk E (.slice (some ⟨c,0,some f⟩) (aa.length+1) cc) (aa++[(a,y)])).p w' S:=by
  intro w' c f cc r h1 h2 h3 h4 h5 S hp;refine .inr ⟨c,f,cc,r,by rw[dW];rfl,h1,hp.1,?_,by rw[dW];exact h4,by rw[dW];exact h5,λp hp=>?_⟩
  ·rw[Dg,hone,ik];exact hp.2
  ·rcases gy.1 hp with hp|hp
   ·exact h2 p hp
   ·rw[di.1 hp];exact h3
 obtain⟨S,⟨S1,S2,q,q2,e1⟩,hnd,hown⟩:=ku.own;rcases q with⟨rfl,rfl,rfl⟩|⟨b,f,c,r,rfl,hf,rfl,hb,hrl,hcl,hel⟩
 ·have key:∀h',Agree w.h h'->At h' w.h.next (.cells (E.pat a y))->h'.next=w.h.next+1->∃w':Wd,w'.h=h'/\St B w0 (sk E (.slice (some ⟨w.h.next,0,some E.n⟩) 1 1) ([]++[(a,y)])::k2) F w':=λh' ag l8 hnx=>by
   obtain⟨w',e1,dO⟩:=ku.tail.fresh ag l8 hnx;refine⟨w',e1,dO.nD λS hp=>?_⟩;exact put w' _ E.n 1 [] (.inr rfl) (λp hp=>by cases hp) (λf hf=>dO.facts f (hF.mem f hf)) (by simp) (by simp) S (by simpa[aW]using hp)
  refine QY (c:=0) hn hg hs hx1 hx2 (by simpa using hm) (λh' ag l8 hnx=>?_) λh' ag l8 hnx=>?_
  ·obtain⟨w',rfl,dO⟩:=key h' ag l8 hnx;exact hsm _ w' dO
  ·obtain⟨w',rfl,dO⟩:=key h' ag l8 hnx;exact next _ w' dO
 ·have l9:St B w0 (pt b (.cells (aW E aa++r))::k2) F w:=⟨ku.agree,ku.le,ku.eO,⟨S,⟨_,S2,⟨rfl,hb⟩,q2,e1⟩,hnd,hown⟩,ku.facts⟩
  have z8:At w.h b (.cells (aW E aa++r)):=l9.at_ .here;have hfl:=qL aa;by_cases hlt:aa.length<c
  · -- in place
    have hle:∀{a b:Nat},a<=b->Nat.ble a b=true:=λh=>by rw[nu];exact h
    have hroom:E.n<=r.length:=by
     have h1:(aa.length+1)*E.n<=c*E.n:=Nat.mul_le_mul_right _ hlt;rw[kZ,zi]at h1;omega
    have hlv:fU (aW E aa++r) (aW E aa).length (E.pat a y)=some (aW E aa++(E.pat a y++r.drop E.n)):=by
     rw[Lf (by omega),hlen]
    have wH:St B w0 (sk E (.slice (some ⟨b,0,some f⟩) (aa.length+1) c) (aa++[(a,y)])::k2) F ⟨w.h.set b (.cells (aW E aa++(E.pat a y++r.drop E.n))),w.z,λi hi=>w.iN i hi⟩:=by
     have Gd:=l9.write (o':=.cells (aW E aa++(E.pat a y++r.drop E.n)));have qH:w.Le ⟨w.h.set b (.cells (aW E aa++(E.pat a y++r.drop E.n))),w.z,λi hi=>w.iN i hi⟩:=by
      refine⟨aH _,λ_ h=>h,λi hi=>?_⟩;have:i≠b:=λe=>(hown b (by rw[e1];simp)).2.2 (e▸hi);show(w.h.set b _).get i=_;rw[IH.jC,if_neg this]
     refine Gd.nD λS hp=>put _ b f c (r.drop E.n) hf (λp hp q hq=>q.mono qH (hel p hp q hq)) (λq hq=>q.mono qH (hfs q hq)) ?_ hlt S hp;rw[jR,kZ,zi];omega
    refine De hn hg (v:=.slice (some ⟨b,0,some f⟩) (aa.length+1) c) (h':=w.h.set b (.cells (aW E aa++(E.pat a y++r.drop E.n)))) ?_ (hsm _ ⟨w.h.set b _,w.z,λi hi=>w.iN i hi⟩ wH) (next _ ⟨w.h.set b _,w.z,λi hi=>w.iN i hi⟩ wH)
    ·have e2:w.h.storeAt b (Nat.add 0 (Nat.mul aa.length E.n)) (E.pat a y)=some (w.h.set b (.cells (aW E aa++(E.pat a y++r.drop E.n)))):=by
      unfold IH.storeAt;simp only[hb];rw[show Nat.add 0 (Nat.mul aa.length E.n)=(aW E aa).length by rw[hfl];exact dD _,hlv]
     have acN:kE (ev l x)=some 1:=hx1;have acO:sI E.n 1 (ev l x) w.h=some (E.pat a y):=hx2;simp only[ak.run,acN,acO,hs,nZ];show cond (Nat.ble (Nat.mul (aa.length+1) bytes) small&&Nat.ble (Nat.mul (aa.length+1) E.n) small&&Nat.ble (aa.length+1) small) (cond (Nat.ble (aa.length+1) c) (match w.h.storeAt b (Nat.add 0 (Nat.mul aa.length E.n)) (E.pat a y)with|some h=>some (Value.slice (some ⟨b,0,some f⟩) (aa.length+1) c,h)|none=>none) _) none=_;rw[hle (show Nat.mul (aa.length+1) bytes<=small from hm.1),hle (show Nat.mul (aa.length+1) E.n<=small from hm.2.1),hle (show aa.length+1<=small from hm.2.2),hle hlt,e2];rfl
  ·have hc:c=aa.length:=by omega
   subst hc;have hr0:r=[]:=sD.1 (by omega);subst hr0;rw[gQ]at hb z8 l9;have key:∀h',wC w.h h' b (.cells (aW E aa++E.pat a y))->∃w':Wd,w'.h=h'/\St B w0 (sk E (.slice (some ⟨w.h.next,0,some E.n⟩) (aa.length+1) (aa.length+1)) (aa++[(a,y)])::k2) F w':=λh' mv=>by
    obtain⟨w',e1,dO,qH⟩:=l9.move mv;refine⟨w',e1,dO.nD λS hp=>?_⟩;exact put w' _ E.n (aa.length+1) [] (.inr rfl) (λp hp q hq=>q.mono qH (hel p hp q hq)) (λf hf=>dO.facts f (hF.mem f hf)) (by simp) (aH _) S (by rw[gQ];exact hp)
   refine QX (old:=aW E aa) (xs:=E.pat a y) hn hg hs hx1 hx2 ?_ (hf.elim (λe=>.inl (by rw[e])) λe=>.inr (by rw[e])) hm (λh' mv=>?_) λh' mv=>?_
   ·rw[z8.c.dK,j5,j6,uo,if_pos (by omega),<- hfl,fK]
   ·obtain⟨w',rfl,dO⟩:=key h' mv;exact hsm _ w' dO
   ·obtain⟨w',rfl,dO⟩:=key h' mv;exact next _ w' dO
end
theorem Lv{α:Type}(E:Enc α){aa:List (α×E.Y)}{Q:IH->Prop}{b f c m:Nat}{r:List Value}(hm:m<=aa.length)(hf:f=0\/f=E.n)(hr:aa.length*E.n+r.length=c*E.n)(hc:aa.length<=c)(h:R Q B w0 (sk E (.slice (some ⟨b,0,some f⟩) m c) (aa.take m)::kl') F)
 (hk:ai (pt b (.cells (aW E aa++r))) kl kl':=by exact fM) (ha:qa E aa∈F:=by exact oF):R Q B w0 kl F:=λw s=>by
 have hall:=s.facts _ ha;refine h w ((s.fe hk).nD (A:=pt b (.cells (aW E aa++r))) λS hp=>.inr ⟨b,f,c,aW E (aa.drop m)++r,by rw[dw,xB hm],hf,hp.1,?_,?_,?_,λp hp=>hall p (y7 hp)⟩)
 ·rw[<- ik,<- Dg,xz];exact hp.2
 ·rw[dW,qL,dw,jR,xB hm,<- hr,<- lS,<- kZ];congr 2;omega
 ·rw[dw];omega
theorem rU{α:Type}(E:Enc α){v:Value}{aa:List (α×E.Y)}:wF (sk E v aa) [ah E v (aa.map (·.1))]:=λw w' S hp hle hh hz f hf=>by
 rw[di.1 hf];rcases hp with⟨rfl,rfl,_⟩|⟨b,f,c,r,e1,e2,e3,e4,e5,e6,e7⟩
 ·exact .inl ⟨rfl,none,0,rfl,trivial⟩
 ·refine .inr ⟨b,0,f,c,aW E aa++r,⟨by rw[bC];exact e1,by rw[bC];exact e6,e2⟩,⟨hz b (by rw[e3];exact di.2 rfl),.inl (by rw[hh];exact e4)⟩,λk x hx=>?_⟩;rw[bX]at hx;cases e:aa[k]? with
  |none=>rw[e]at hx;cases hx
  |some p=>
   rw[e]at hx;cases hx;exact⟨p.2,λj u hj=>mo e hj (by omega),λq hq=>q.mono hle (e7 p (cZ e) q hq)⟩
theorem nJ{re:List fC}{x:Operand}{b o:Nat}{cs:List Value}{v:Value}{l':List (Nat×Value)}(hx:ev l' x=.pointer (some ⟨b,o,none⟩))(hk:ai (pt b (.cells cs)) kl kl')(hv:cs[o]? =some v)(hd:lk l' d=v)
 (t:Same P re (ev l') l' B w0 kl F):Same P (⟨some d,g,.aP x⟩::re) (ev l') l' B w0 kl F:=
 qI hx hk (by rw[om];exact hv) hd t
theorem Rs(hg:xZ l g=true):(act n l D pm ro).wants g=some false:=by
 cases g with
 |none=>cases hg
 |some p=>
  obtain⟨t,w⟩:=p;rw[Cz];simp only[xZ]at hg;split at hg
  ·rename_i b hb;rw[hb];cases w<;>cases b<;>simp_all
  ·rename_i b hb;rw[hb]
  ·cases hg
def aq{α:Type}(E:Enc α)(v:Value)(aa:List (α×E.Y)):OA:=
 ⟨λw S=>(aa=[]/\v=.slice none 0 0/\S=[])\/∃b f,v=.slice (some ⟨b,0,some f⟩) aa.length aa.length/\(f=0\/f=E.n)/\S=[b]/\w.h.get b=some (.cells (aW E aa))/\∀p∈aa,∀q∈E.fs p.1 p.2,q.p w,
  λa h hp=>by
   rcases hp with hp|⟨b,f,h1,h2,h3,h4,h7⟩
   ·exact .inl hp
   ·exact .inr ⟨b,f,h1,h2,h3,by rw[h b (by rw[h3];exact di.2 rfl)];exact h4,λp hp q hq=>q.mono a (h7 p hp q hq)⟩⟩
section
variable {α:Type} {v:Value}
theorem Lx(E:Enc α){Q:IH->Prop}(h:R Q B w0 (aq E (.slice none 0 0) []::kl) F):R Q B w0 kl F:=λw s=>by
 obtain⟨S,h1,h2,h3⟩:=s.own;exact h w ⟨s.agree,s.le,s.eO,⟨S,⟨[],S,.inl ⟨rfl,rfl,rfl⟩,h1,rfl⟩,h2,h3⟩,s.facts⟩
theorem yA(E:Enc α){b:Nat}{Q:IH->Prop}(h:R Q B w0 (aq E (.slice (some ⟨b,0,some 0⟩) 0 0) []::kl') F)(hk:ai (pt b (.cells [])) kl kl':=by exact fM):R Q B w0 kl F:=λw s=>
 h w ((s.fe hk).CL (A:=pt b (.cells [])) λw S hp=>.inr ⟨b,0,rfl,.inl rfl,hp.1,hp.2,λp hp=>by cases hp⟩)
theorem tK(E:Enc α){aa:List (α×E.Y)}{Q:IH->Prop}(h:R Q B w0 (sk E v aa::kl') F)(hk:ai (aq E v aa) kl kl':=by exact fM):R Q B w0 kl F:=λw s=>
 h w ((s.fe hk).CL (A:=aq E v aa) λw S hp=>by
  rcases hp with hp|⟨b,f,h1,h2,h3,h4,h7⟩
  ·exact .inl hp
  ·exact .inr ⟨b,f,aa.length,[],h1,h2,h3,by rw[gQ];exact h4,by simp,aH _,h7⟩)
theorem oM{re:List fC}(E:Enc α){e:TypeId}{size bytes:Nat}{s x:Operand}{vx:Value}{aa:List (α×E.Y)}(dA:List (α×E.Y))(hm:(aa.length+dA.length)*bytes<=1073741824/\(aa.length+dA.length)*size<=1073741824/\aa.length+dA.length<=1073741824)
 (next:∀v',R (λh=>aB P ds rest (act n ((d,v')::l) D pm ro) h K) B w0 (aq E v' (aa++dA)::kl') F)
 (hs:ev l s=v:=by conv=>lhs;whnf) (hx:ev l x=vx:=by conv=>lhs;whnf) (hf:tH E vx dA∈F:=by exact oF) (hz:E.n=size:=by rfl) (hk:ai (aq E v aa) kl kl':=by exact fM) (hn:Nat.blt d n=true:=by rfl) (hg:bH l g=true:=by rfl)
 (hsm:∀v',Same P re (ev ((d,v')::l)) ((d,v')::l) B w0 (aq E v' (aa++dA)::kl') F:=by intro _;repeat (first|exact rQ|refine qI rfl (by repeat (first|with_reducible exact ai.here|with_reducible apply ai.there|with_reducible apply ai.app)) (by first|exact rfl|(conv=>lhs;whnf)) rfl ?_|refine CQ rfl (by(repeat (first|with_reducible exact bz .. |with_reducible apply dh));first|done|fail) (by first|exact rfl|(conv=>lhs;whnf)) rfl ?_|refine CR rfl (by(repeat (first|with_reducible exact bz .. |with_reducible apply dh));first|done|fail) (by first|exact rfl|(conv=>lhs;whnf)) rfl ?_|refine CS rfl (by repeat (first|with_reducible exact ai.here|with_reducible apply ai.there|with_reducible apply ai.app)) (by first|exact rfl|(conv=>lhs;whnf)) rfl ?_|refine CU rfl (by(repeat (first|with_reducible exact bz .. |with_reducible apply dh));first|done|fail) (by first|exact rfl|(conv=>lhs;whnf)) rfl ?_|refine CV rfl (by(repeat (first|with_reducible exact bz .. |with_reducible apply dh));first|done|fail) (by first|exact rfl|(conv=>lhs;whnf)) rfl ?_)):
 R (λh=>aB P ds (⟨⟨some d,g,.append e size bytes s x⟩,re⟩::rest) (act n l D pm ro) h K) B w0 kl F:=λw st=>by
 subst hz;have st1:=st.fe hk;have hel:=st.facts _ hf;have hall:=K9 hel;obtain⟨r1,r2⟩:=Q0 hel;obtain⟨S,⟨S1,S2,q,q2,e1⟩,hnd,hown⟩:=st1.own;rcases q with⟨rfl,rfl,rfl⟩|⟨b,f,rfl,hf0,rfl,hb,hal⟩
 ·by_cases hne:dA=[]
  ·subst hne;obtain⟨a,c,Rt⟩:∃a c,vx=.slice a 0 c:=by
    rcases hel with⟨_,a,c,h,_⟩|⟨i,o,f,c,cells,⟨h,_⟩,_⟩
    ·exact⟨a,c,h⟩
    ·exact⟨_,c,h⟩
   have wH:St B w0 (aq E (.slice none 0 0) ([]++[])::kl') F w:=⟨st1.agree,st1.le,st1.eO,⟨S,⟨[],S2,.inl ⟨rfl,rfl,rfl⟩,q2,e1⟩,hnd,hown⟩,st1.facts⟩
   exact De hn hg (Q4 hs (hx.trans Rt) w.h) (hsm _ w wH) (next _ w wH)
  ·obtain⟨k,hk'⟩:∃k,dA.length=k+1:=⟨dA.length - 1,by have:=o9.2 hne;omega⟩
   rw[hk']at r1 r2;have key:∀h',Agree w.h h'->At h' w.h.next (.cells (aW E dA))->h'.next=w.h.next+1->∃w':Wd,w'.h=h'/\St B w0 (aq E (.slice (some ⟨w.h.next,0,some E.n⟩) (k+1) (k+1)) ([]++dA)::kl') F w':=λh' ag l8 hnx=>by
    obtain⟨w',e1,dO⟩:=st1.tail.fresh ag l8 hnx;refine⟨w',e1,dO.nD λS hp=>.inr ⟨w.h.next,E.n,by rw[gL,hk'],.inr rfl,hp.1,by rw[gL];exact hp.2,λp hp q hq=>?_⟩⟩;rw[gL]at hp;exact K9 (dO.facts _ hf) p hp q hq
   refine QY (c:=0) (k:=k) hn hg hs (by rw[hx];exact r1) (by rw[hx];exact r2) (by rw[hk']at hm;simpa using hm) (λh' ag l8 hnx=>?_) λh' ag l8 hnx=>?_
   ·obtain⟨w',rfl,dO⟩:=key h' ag l8 hnx;exact hsm _ w' dO
   ·obtain⟨w',rfl,dO⟩:=key h' ag l8 hnx;exact next _ w' dO
 ·have l9:St B w0 (pt b (.cells (aW E aa))::kl') F w:=⟨st1.agree,st1.le,st1.eO,⟨S,⟨_,S2,⟨rfl,hb⟩,q2,e1⟩,hnd,hown⟩,st1.facts⟩
  have Gd:St B w0 (pt b (.cells (aW E aa))::kl') (qa E aa::F) w:=⟨l9.agree,l9.le,l9.eO,l9.own,λq hq=>by
   rcases aU.1 hq with rfl|hq
   ·exact hal
   ·exact l9.facts q hq⟩
  have key:∀(b' f' m':Nat),m'=(aa++dA).length->(f'=0\/f'=E.n)->∀w2,St B w0 (pt b' (.cells (aW E (aa++dA)))::kl') (qa E aa::F) w2->St B w0 (aq E (.slice (some ⟨b',0,some f'⟩) m' m') (aa++dA)::kl') F w2:=λb' f' m' hm' hf' w2 s2=>by
   have hA1:=s2.facts (qa E aa) (bz ..);have hA2:=K9 (s2.facts _ (dh _ hf));have s3:St B w0 (pt b' (.cells (aW E (aa++dA)))::kl') F w2:=s2.sub (jc.sub (.cons .here));exact s3.nD λS hp=>.inr ⟨b',f',by rw[hm'],hf',hp.1,hp.2,λp hp q hq=>(gy.1 hp).elim (λh=>hA1 p h q hq) (λh=>hA2 p h q hq)⟩
  by_cases hne:dA=[]
  ·subst hne;obtain⟨a,c,Rt⟩:∃a c,vx=.slice a 0 c:=by
    rcases hel with⟨_,a,c,h,_⟩|⟨i,o,f,c,cells,⟨h,_⟩,_⟩
    ·exact⟨a,c,h⟩
    ·exact⟨_,c,h⟩
   have st7:St B w0 (pt b (.cells (aW E (aa++[])))::kl') (qa E aa::F) ⟨w.h.set b (.cells (aW E aa)),w.z,λi hi=>w.iN i hi⟩:=by rw[gQ];exact Gd.write
   have wH:=key b f aa.length (by rw[gQ]) hf0 _ st7;have hle:∀{a b:Nat},a<=b->Nat.ble a b=true:=λh=>by rw[nu];exact h
   rw[ql,nV]at hm;refine De hn hg (v:=.slice (some ⟨b,0,some f⟩) aa.length aa.length) (h':=w.h.set b (.cells (aW E aa))) ?_ (hsm _ _ wH) (next _ _ wH);have hfl:=qL aa;have e1:w.h.storeAt b (Nat.add 0 (Nat.mul aa.length E.n)) []=some (w.h.set b (.cells (aW E aa))):=by
    have e2:fU (aW E aa) (Nat.add 0 (Nat.mul aa.length E.n)) []=some (aW E aa):=by
     rw[show Nat.add 0 (Nat.mul aa.length E.n)=(aW E aa).length by rw[hfl];exact dD _];exact acD _
    unfold IH.storeAt;simp only[hb,e2]
   simp only[ak.run,hx,hs,r1,r2,nZ];rw[show Nat.add aa.length (List.length ([]:List (α×E.Y)))=aa.length from rfl,show aW E ([]:List (α×E.Y))=[]from rfl];rw[hle (show Nat.mul aa.length bytes<=small from hm.1),hle (show Nat.mul aa.length E.n<=small from hm.2.1),hle (show aa.length<=small from hm.2.2),hle (aH aa.length)];simp only[Ik,cond_true,e1]
  ·obtain⟨k,hk'⟩:∃k,dA.length=k+1:=⟨dA.length - 1,by have:=o9.2 hne;omega⟩
   have hat:At w.h b (.cells (aW E aa)):=l9.at_ .here;have hfl:=qL aa;have Ru:∀h',wC w.h h' b (.cells (aW E aa++aW E dA))->∃w':Wd,w'.h=h'/\St B w0 (aq E (.slice (some ⟨w.h.next,0,some E.n⟩) (aa.length+(k+1)) (aa.length+(k+1))) (aa++dA)::kl') F w':=λh' mv=>by
    obtain⟨w',e1,dO,qH⟩:=Gd.move mv;rw[<- Dg]at dO;exact⟨w',e1,key _ _ _ (by rw[dW,hk']) (.inr rfl) w' dO⟩
   rw[hk']at r1 r2 hm;refine QX (b:=b) (o:=0) (m:=aa.length) (k:=k) (f:=some f) (old:=aW E aa) (xs:=aW E dA) hn hg hs (by rw[hx];exact r1) (by rw[hx];exact r2) ?_ (by rcases hf0 with h|h<;>rw[h];exact .inl rfl;exact .inr rfl) hm (λh' mv=>?_) λh' mv=>?_
   ·rw[hat.c.dK,j5,uo,j6,if_pos (by omega),mM (by omega)]
   ·obtain⟨w',rfl,dO⟩:=Ru h' mv;exact hsm _ w' dO
   ·obtain⟨w',rfl,dO⟩:=Ru h' mv;exact next _ w' dO
end
theorem acQ{x y:Operand}{b o m:Nat}{cs vs c:List Value}{v:Value}{re:List fC}(hg:bH l g=true)(hx:ev l x=.pointer (some ⟨b,o,none⟩))(hw:ev l y=v)(hy:cellsOf v=some vs)(hm:Nat.beq (gB vs) m=true)
 (hk:ai (pt b (.cells cs)) kl kl') (hv:fU cs o vs=some c) (hs:∀r∈re,xZ l r.guard=true):
 bT (R (λh=>aB P ds (⟨⟨none,g,.store m x y⟩,re⟩::rest) (act n l D pm ro) h K) B w0 kl F) (R (λh=>aB P ds rest (act n l D pm ro) h K) B w0 (pt b (.cells c)::kl') F):=
 ⟨λr w s=>by
  subst hw;have s':=(s.fe hk).write (o':=.cells c);refine .jb (qF hg) bU (w.h.set b (.cells c)) (by rw[jT];simp only[ak.run,hx,hy,hm];simp only[IH.storeAt,(s.at_ hk).2,hv];rfl) (λq hq hne=>?_) (r _ s');exact absurd (Rs (hs q hq)) hne⟩
theorem acR{op:ak}{v:Value}{re:List fC}(hn:Nat.blt d n=true)(hg:bH l g=true)(hp:Pu P (ev l) op v)(hs:∀r∈re,xZ ((d,v)::l) r.guard=true):
 bT (R (λh=>aB P ds (⟨⟨some d,g,op⟩,re⟩::rest) (act n l D pm ro) h K) B w0 kl F) (R (λh=>aB P ds rest (act n ((d,v)::l) D pm ro) h K) B w0 kl F):=
 ⟨λr w s=>by
  refine .jb (qF hg) v w.h (by rw[jT];exact hp w.h) (λq hq hne=>?_) (by rw[l6 hn];exact r w s);rw[l6 hn]at hne;exact absurd (Rs (hs q hq)) hne⟩
end Go.Ideal
namespace Go.Ideal
inductive Ren(σ:Nat->Nat)(m n:Nat):Value->Value->Prop
 |free {v:Value} (h:bY v=true):Ren σ m n v v
 |sl {i o k c:Nat} {s:Option Nat} (h1:m<=i) (h2:i<n):Ren σ m n (.slice (some ⟨i,o,s⟩) k c) (.slice (some ⟨σ i,o,s⟩) k c)
inductive kP(σ:Nat->Nat)(m n:Nat):List Value->List Value->Prop
 |nil:kP σ m n [] []
 |cons {v v':Value} {l l':List Value} (h:Ren σ m n v v') (hl:kP σ m n l l'):kP σ m n (v::l) (v'::l')
theorem Ren.vr{σ:Nat->Nat}{m n:Nat}{β β':az}{v v' w:Value}(hr:Ren σ m n v v')(hv:VR β v' w)(hβ:∀i,m<=i->i<n->β' i=β (σ i)):VR β' v w:=by
 cases hr with
 |free h=>
  rw[hv.lg h];exact VR.free h
 |sl h1 h2=>
  cases hv with
  |aI h hb hn ha=>exact .aI ((hβ _ h1 h2).trans h) hb hn ha
  |lV h hb hs hn hz hl ht hc ha=>exact .lV ((hβ _ h1 h2).trans h) hb hs hn hz hl ht hc ha
theorem kP.Rv{σ:Nat->Nat}{m n:Nat}{β β':az}(hβ:∀i,m<=i->i<n->β' i=β (σ i)):∀{l l':List Value},kP σ m n l l'->∀{w:List Value},aJ β l' w->aJ β' l w
 |_,_,.nil,_,hv=>by cases hv;exact .nil
 |_,_,.cons h hl,_,hv=>by
  cases hv with
  |cons h1 h2=>exact .cons (h.vr h1 hβ) (kP.Rv hβ hl h2)
theorem kP.len{σ:Nat->Nat}{m n:Nat}:∀{l l':List Value},kP σ m n l l'->l'.length=l.length
 |_,_,.nil=>rfl
 |_,_,.cons _ hl=>by simp[kP.len hl]
theorem kP.get{σ:Nat->Nat}{m n:Nat}:∀{l l':List Value},kP σ m n l l'->∀{j:Nat} {v:Value},l[j]? =some v->∃v',l'[j]? =some v'/\Ren σ m n v v'
 |_,_,.nil,j,v,h=>by simp at h
 |_,_,.cons h hl,0,v,e=>by simp at e;subst e;exact⟨_,rfl,h⟩
 |_,_,.cons h hl,j+1,v,e=>by simpa using kP.get hl (by simpa using e)
theorem Ren.cell{σ:Nat->Nat}{m n:Nat}{v v':Value}(h:Ren σ m n v v')(hc:cellV v'=true):cellV v=true:=by
 cases h with
 |free _=>exact hc
 |sl _ _=>rfl
theorem kP.cells{σ:Nat->Nat}{m n:Nat}:∀{l l':List Value},kP σ m n l l'->l'.all cellV=true->l.all cellV=true
 |_,_,.nil,_=>rfl
 |_,_,.cons h hl,hc=>by
  simp only[xm,eG]at hc⊢;exact⟨h.cell hc.1,kP.cells hl hc.2⟩
theorem acS{P:Program}{q:bQ}{h:IH}{K:KR}(h2:IH)(l:List Value)(hn2:h.next<=h2.next)(hlo2:h2.low=h.low)(uS:∀j,j<h.next->h2.get j=h.get j)(acT:∀j o,h2.get j=some o->j<h2.next)
 (Rw:∀j o,h.next<=j->h2.get j=some o->∃cs,o=.cells cs) (M:KR) (hc:iG P q {h with low:=h.next} M) (hq:q.pm=none)
 (h1:∀r pm h',M r pm h'->pm=none/\h'.low=h.next/\∃(σ:Nat->Nat) (l':List Value),r=.ok (.tuple ⟨l'⟩)/\kP σ h.next h2.next l l'/\(∀j,h.next<=j->j<h2.next->h.next<=σ j)/\
   (∀i j,h.next<=i->h.next<=j->h2.get i≠none->h2.get j≠none->σ i=σ j->i=j)/\∀j cs,h.next<=j->h2.get j=some (.cells cs)->∃cs',h'.get (σ j)=some (.cells cs')/\kP σ h.next h2.next cs cs')
 (hk:K (.ok (.tuple ⟨l⟩)) none h2):iG P q h K:=by
 intro β w fn' args' cap' hG hW hfr ha hcap;obtain⟨nx,F0,n1,n2,n3⟩:=hc β w fn' args' cap' hG (hW.low _) hfr ha hcap;refine⟨nx,F0,n1,n2,λcs0 oz=>?_⟩;obtain⟨r,pm',h',β',w',r',cs1,q1,q2,q3,q4,q5,q6⟩:=n3 cs0 oz;obtain⟨hpm,hlow,σ,l',rfl,hl,hσ,hinj,hcl⟩:=h1 r pm' h' q1;subst hpm;cases q4 with
 | @ok v v' hv=>
   have hold:∀j,j<h.next->h'.get j=h.get j:=λj hj=>q3.kept j (by rw[hlow];exact hj) hj
   let β2:az:=λj=>if j<h.next then β j else if j<h2.next then β' (σ j)else none
   have hb2:∀j k,β2 j=some k->(j<h.next/\β j=some k/\β' j=some k)\/(h.next<=j/\j<h2.next/\β' (σ j)=some k):=λj k hk=>by
    simp only[β2]at hk;split at hk
    ·rename_i hj;exact .inl ⟨hj,hk,(q3.agree j hj).trans hk⟩
    ·split at hk
     ·rename_i hj1 hj;exact .inr ⟨by omega,hj,hk⟩
     ·cases hk
   have hβ2:∀i,h.next<=i->i<h2.next->β2 i=β' (σ i):=λi hi hi2=>by
    simp only[β2];rw[if_neg (by omega),if_pos hi2]
   have hle2:β.le β2:=λj k hk=>by
    have:=hW.dom j k hk;simp only[β2];rw[if_pos this];exact hk
   have hσl:∀j x,h.next<=j->h2.get j=some x->∃cs',h'.get (σ j)=some (.cells cs'):=λj x hj hx=>by
    obtain⟨cs,rfl⟩:=Rw j x hj hx;obtain⟨cs',e,_⟩:=hcl j cs hj hx;exact⟨cs',e⟩
   have hW2:WR P β2 h2 w':=by
    refine⟨?_,acT,?_,?_⟩
    ·intro j k hk;rcases hb2 j k hk with⟨hj,_⟩|⟨_,hj,_⟩<;>omega
    ·intro j k x hk hx;rcases hb2 j k hk with⟨hj,hb,hb'⟩|⟨hj,hj2,hb'⟩
     ·rw[uS j hj]at hx;have hx':h'.get j=some x:=by rw[hold j hj];exact hx
      exact((hW.obj j k x hb hx).restrict (q3.le hW.dom) (q2.obj j k x hb' hx')).mono hle2
     ·obtain⟨cs,rfl⟩:=Rw j x hj hx;obtain⟨cs',e,hr⟩:=hcl j cs hj hx;obtain⟨o1,o2,o3,o4,o5,o6⟩:=q2.obj (σ j) k _ hb' e;refine⟨o1,by rw[<- hr.len];exact o2,o3,o4,hr.cells o5,λi v hi=>?_⟩;obtain⟨v',e1,hrv⟩:=hr.get hi;obtain⟨u,e2,kL⟩:=o6 i v' e1;exact⟨u,e2,hrv.vr kL hβ2⟩
    ·intro i j g k hg hk hi hj acV he;rcases hb2 i g hg with⟨hin,_,hb'⟩|⟨hin,hin2,hb'⟩
     ·rw[uS i hin]at hi;rcases hb2 j k hk with⟨hjn,_,yB⟩|⟨hjn,Rx,yB⟩
      ·rw[uS j hjn]at hj;exact q2.inj i j g k hb' yB (by rw[hold i hin];exact hi) (by rw[hold j hjn];exact hj) (acV.imp (λq cs e=>q cs (by rw[uS i hin,<- hold i hin];exact e)) (λq cs e=>q cs (by rw[uS j hjn,<- hold j hjn];exact e))) he
      ·obtain⟨x,hx⟩:=V4.1 hj;obtain⟨cs',e⟩:=hσl j x hjn hx;have:=q2.inj i (σ j) g k hb' yB (by rw[hold i hin];exact hi) (by rw[e];simp) (.inr (by rw[e];intro cs e;cases e)) he;have:=hσ j hjn Rx;omega
     ·obtain⟨x,hx⟩:=V4.1 hi;obtain⟨cs',e⟩:=hσl i x hin hx;rcases hb2 j k hk with⟨hjn,_,yB⟩|⟨hjn,Rx,yB⟩
      ·rw[uS j hjn]at hj;have:=q2.inj (σ i) j g k hb' yB (by rw[e];simp) (by rw[hold j hjn];exact hj) (.inl (by rw[e];intro cs e;cases e)) he;have:=hσ i hin hin2;omega
      ·obtain⟨y,hy⟩:=V4.1 hj;obtain⟨cs2,e2⟩:=hσl j y hjn hy;have:=q2.inj (σ i) (σ j) g k hb' yB (by rw[e];simp) (by rw[e2];simp) (.inl (by rw[e];intro cs e;cases e)) he;exact hinj i j hin hjn hi hj this
   have hE:Eff β h w β2 h2 w':=
    {agree:=λj hj=>by simp only[β2];rw[if_pos hj]
     next:=hn2
     alive:=λj hj hn=>by rw[uS j hj]at hn;exact hn
     hid:=λj hj _=>uS j hj
     low:=Nat.le_of_eq hlo2
     kept:=λj _ hj=>uS j hj
     os:=q3.os,tape:=q3.tape,output:=q3.output,drawn:=q3.drawn,size:=q3.size,keep:=q3.keep
     lW:=λj k _ hj hk hn hb=>q3.lW j k (by rw[hlow];exact hj) hj hk hn hb
     fresh:=λj k hk hj=>by
      rcases hb2 j k hk with⟨hjn,_⟩|⟨_,hj2,hb'⟩
      ·omega
      ·exact q3.fresh (σ j) k hb' (hσ j hj hj2)}
   have hfin:VR β2 (.tuple ⟨l⟩) v':=by
    cases hv with
    |bU v=>cases hl;exact .bU _
    |tuple hvs=>exact .tuple (hl.Rv hβ2 hvs)
   exact⟨_,none,h2,β2,w',.returned _,cs1,hk,hW2,hE,.ok hfin,by rw[hq]at q5⊢;cases q5;exact .none _,by
    rcases q6 with h6|h6
    ·exact .inl h6
    ·exact .inr h6⟩
noncomputable def Gf(i:Nat)(l:List (Nat×bB)):Bool:=not (xD (λp=>not (Nat.beq p.1 i)) l)
theorem acW{i:Nat}{l:List (Nat×bB)}(h:Gf i l=true):∃o,(i,o)∈l:=by
 unfold Gf at h;rw[BM,zh,List.all_eq_false]at h;obtain⟨p,hp,hn⟩:=h;have:Nat.beq p.1 i=true:=by simpa using hn
 exact⟨p.2,by rw[<- fZ this];exact hp⟩
noncomputable def Dk(m low:Nat)(l:List (Nat×bB))(n:Nat)(v:Value):BR:=λr pm h=>
 match pm with
 |some _=>false
 |none=>match r with
  | .ok v'=>j4 50 v v'&&(Nat.beq h.next n&&(Nat.beq h.low low&&(xW l h&&xD (λi=>cond (Gf i l) true (h.get i).isNone) (List.range m))))
  | .fI _=>false
noncomputable def wI(l0:List (Nat×bB))(n0 low:Nat)(l:List (Nat×bB))(n:Nat)(fn:Nat)(args:List Value)(v:Value):bQ->IH->Option (Value×IH):=λq h=>
 match q with
 |⟨.func f,Al,[],none⟩=>cond (Nat.beq f fn&&(j4 5 (.tuple ⟨args⟩) (.tuple ⟨Al⟩)&&(Nat.beq n0 h.next&&(Nat.beq low h.low&&yh 30 (heapT l0) h.t)))) (some (v,⟨heapT l,n,low⟩)) none
 |_=>none
theorem acX{l:List (Nat×bB)}{i:Nat}{o:bB}(h:(i,o)∈l):∃o',(heapT l).get i=some o':=by
 induction l with
 |nil=>cases h
 |cons p l ih=>
  obtain⟨j,x⟩:=p;simp only[heapT,T.jC];by_cases e:i=j
  ·rw[if_pos e];exact⟨x,rfl⟩
  ·rw[if_neg e];rcases aU.1 h with h|h
   ·cases h;exact absurd rfl e
   ·exact ih h
theorem LA{P:Program}{l0:List (Nat×bB)}{n0 low:Nat}{l:List (Nat×bB)}{n fn:Nat}{args:List Value}{v:Value}
 (hc:CALL P ⟨.func fn,args,[],none⟩ ⟨heapT l0,n0,low⟩ (λr pm h'=>Dk n0 low l n v r pm h'=true))
 {q:bQ} {h:IH} {v':Value} {h':IH} (hk:wI l0 n0 low l n fn args v q h=some (v',h')):CALL P q h (λr pm h2=>r=.ok v'/\pm=none/\h2=h'):=by
 unfold wI at hk;split at hk
 ·rename_i f Al;cases hcd:(Nat.beq f fn&&(j4 5 (.tuple ⟨args⟩) (.tuple ⟨Al⟩)&&(Nat.beq n0 h.next&&(Nat.beq low h.low&&yh 30 (heapT l0) h.t))))with
  |false=>rw[hcd]at hk;cases hk
  |true=>
   rw[hcd]at hk;simp only[cond,aA,bM]at hk;obtain⟨rfl,rfl⟩:=hk;simp only[eG]at hcd;obtain⟨h1,h2,h3,h4,h5⟩:=hcd;have h1:=fZ h1;subst h1;have h2:=sS _ _ _ h2;injection h2 with h2;injection h2 with h2;subst h2;have e3:=fZ h3;have e4:=fZ h4;have e5:=FW _ h5;clear h3 h4 h5;obtain⟨t1,n1,l1⟩:=h;dsimp only at e3 e4 e5;subst e3 e4 e5;refine .forget _ hc ?_;intro r pm h' hl;unfold Dk at hl;split at hl
   ·cases hl
   ·split at hl
    ·rename_i v';simp only[eG]at hl;obtain⟨h1,h2,h3,h4,h5⟩:=hl;rw[BM,iB]at h5;refine⟨⟨heapT l,n,low⟩,(fZ h2).symm,(fZ h3).symm,?_,?_,rfl,rfl⟩
     ·intro i;rcases xX l i with e|⟨o,e1,e2⟩
      ·by_cases hin:i<n0
       ·left;have:=h5 i (List.mem_range.2 hin);cases hi:Gf i l with
        |true=>
         obtain⟨o,ho⟩:=acW hi;obtain⟨o',ho'⟩:=acX ho;rw[e]at ho';cases ho'
        |false=>
         rw[hi]at this;have hn:h'.get i=none:=by
          cases hg:h'.get i with
          |none=>rfl
          |some o=>rw[hg]at this;cases this
         rw[hn];exact e
       ·exact .inr ⟨Nat.le_of_not_lt hin,e⟩
      ·left;exact e2.trans (JR h4 i o e1).symm
     ·rw[sS _ _ _ h1]
    ·cases hl
 ·cases hk
noncomputable def LB(n0:Nat)(ends:List (List Value×List (Nat×bB))):BR:=λr pm h=>
 match pm with
 |some _=>false
 |none=>match r with
  | .ok v'=>Nat.beq h.low n0&&not (xD (λe=>not (j4 50 (.tuple ⟨e.1⟩) v'&&xW e.2 h)) ends)
  | .fI _=>false
structure LC(n0 n2:Nat)(lv:List Value)(l2:List (Nat×bB))(e:List Value×List (Nat×bB))(σ:Nat->Nat):Prop where
 val:kP σ n0 n2 lv e.1
 up:∀j,n0<=j->j<n2->n0<=σ j
 inj:∀i j,n0<=i->n0<=j->i<n2->j<n2->σ i=σ j->i=j
 get:∀p∈l2,n0<=p.1->∃cs cs',p.2=.cells cs/\(σ p.1,.cells cs')∈e.2/\kP σ n0 n2 cs cs'
theorem acY{P:Program}(l5:P.follows .mixedOrders=true){l0:List (Nat×bB)}{n0 low:Nat}{l2:List (Nat×bB)}{n2 fn:Nat}{args lv:List Value}{ends:List (List Value×List (Nat×bB))}
 (hc:CALL P ⟨.func fn,args,[],none⟩ ⟨heapT l0,n0,n0⟩ (λr pm h'=>LB n0 ends r pm h'=true)) (hE:∀e∈ends,∃σ,LC n0 n2 lv l2 e σ) (hn:n0<=n2) (hl2:∀p∈l2,p.1<n2/\∃cs,p.2=.cells cs) (hold:∀j,j<n0->(heapT l2).get j=(heapT l0).get j)
 {q:bQ} {h:IH} {v':Value} {h':IH} (hk:wI l0 n0 low l2 n2 fn args (.tuple ⟨lv⟩) q h=some (v',h')):CALL P q h (λr pm h2=>r=.ok v'/\pm=none/\h2=h'):=by
 unfold wI at hk;split at hk
 ·rename_i f Al;cases hcd:(Nat.beq f fn&&(j4 5 (.tuple ⟨args⟩) (.tuple ⟨Al⟩)&&(Nat.beq n0 h.next&&(Nat.beq low h.low&&yh 30 (heapT l0) h.t))))with
  |false=>rw[hcd]at hk;cases hk
  |true=>
   rw[hcd]at hk;simp only[cond,aA,bM]at hk;obtain⟨rfl,rfl⟩:=hk;simp only[eG]at hcd;obtain⟨h1,h2,h3,h4,h5⟩:=hcd;have h1:=fZ h1;subst h1;have h2:=sS _ _ _ h2;injection h2 with h2;injection h2 with h2;subst h2;have e3:=fZ h3;have e4:=fZ h4;have e5:=FW _ h5;clear h3 h4 h5;obtain⟨t1,n1,l1⟩:=h;dsimp only at e3 e4 e5;subst e3 e4 e5;refine .real (acS (h:=⟨heapT l0,n0,low⟩) ⟨heapT l2,n2,low⟩ lv hn rfl hold (λj o ho=>?_) (λj o hj ho=>?_) _ (Fh l5 hc) rfl ?_ ⟨rfl,rfl,rfl⟩)
   ·rcases xX l2 j with e|⟨o',e1,e2⟩
    ·exact absurd (e.symm.trans ho) (by simp)
    ·exact(hl2 _ e1).1
   ·rcases xX l2 j with e|⟨o',e1,e2⟩
    ·exact absurd (e.symm.trans ho) (by simp)
    ·have:o'=o:=Option.some.inj (e2.symm.trans ho);subst this;exact(hl2 _ e1).2
   ·intro r pm h' hl;unfold LB at hl;split at hl
    ·cases hl
    ·split at hl
     ·rename_i v';rw[eG]at hl;obtain⟨g1,g2⟩:=hl;rw[BM,zh,List.all_eq_false]at g2;obtain⟨e,he,g3⟩:=g2;have g3:j4 50 (.tuple ⟨e.1⟩) v'=true/\xW e.2 h'=true:=by simpa using g3
      obtain⟨σ,hσ⟩:=hE e he;have hv:=sS _ _ _ g3.1;subst hv;refine⟨rfl,fZ g1,σ,e.1,rfl,hσ.val,hσ.up,λi j hi hj gi gj=>?_,λj cs hj hcs=>?_⟩
      ·have hb:∀{i:Nat},(heapT l2).get i≠none->i<n2:=λ{i} gi=>by
        rcases xX l2 i with e|⟨o',e1,e2⟩
        ·exact absurd e gi
        ·exact(hl2 _ e1).1
       exact hσ.inj i j hi hj (hb gi) (hb gj)
      ·rcases xX l2 j with e'|⟨o',e1,e2⟩
       ·exact absurd (e'.symm.trans hcs) (by simp)
       ·have:o'=.cells cs:=Option.some.inj (e2.symm.trans hcs);subst this;obtain⟨cs1,cs',q1,q2,q3⟩:=hσ.get _ e1 hj;cases q1;exact⟨cs',JR g3.2 _ _ q2,q3⟩
     ·cases hl
 ·cases hk
