/-
  The ideal machine, 82: a call from a heap that is known to the letter, over package variables.
-/
import Derived.Test.YtbdaaopebgcnaaaGreatDoorIdealOM
import Derived.Lib.Bytealg
import Derived.Lib.Atoi
import Derived.Lib.ConvBytes
import Derived.Shelf.SlSortCmp.WholeK
import Derived.Shelf.SlSortCmp.Whole1
import Derived.Sort.EncStr
import Derived.Test.YtbdaaopebgcnaaaGreatDoorIdealPM
import Derived.Deep.Draws
import Derived.Lib.LaidTab
import Derived.Lib.ItoaNum
import Derived.Lib.Itoa
import Derived.Lib.Join
set_option linter.all false
namespace Go.Ideal
theorem acN{P:Program}{f:FuncId}{fn:Func}(hfn:P.funcs[f]? =some fn){body:Code}(hb:fn.body=some body)(hname:fn.name≠ "runtime.NumGoroutine"){args:List Value}{v:Value}(hv:bM v=true)(ha:args.all bM=true)
 (hC:∀w,Calls P f ⟨args⟩ w λe w'=>e=.returned v/\w'=w) {h:IH}:jc P ⟨.func f,args,[],none⟩ h (λr pm h2=>pm=none/\r=.ok v/\h2=h):=by
 intro β w fn' args' cap' hG hW hf ha' hcap;obtain⟨iK,t1,t2⟩:=Aa (P:=P) (q:=⟨.func f,args,[],none⟩) (f:=f) (args:=args) (by simp only[target,iI,fU]) hf ha' hcap hfn hb hname w;have e2:=aH.Hf t2 ha;subst e2;refine⟨_,Frame.enter P f ⟨_⟩ .normal,t1,rfl,λcs0 ry=>?_⟩;obtain⟨e,w',fr,⟨he,hw'⟩,hcomes,hfr,hlv⟩:=hC w cs0;subst he hw';exact⟨.ok v,none,h,β,_,.returned v,cs0,⟨rfl,rfl,rfl⟩,hW,Eff.refl _ _ _ hW.dom,.ok (VR.free hv),.none cs0,.inl ⟨f,_,fr,rfl,hcomes,hfr,hlv.2.2.1,hlv.1,hlv.2.1,hlv.2.2.2⟩⟩
noncomputable def Ho(fn:Nat):eH->IH->Option (Value×IH):=λq h=>
 match q with
 |⟨.func f,[.string s,.int .u8 c],[],none⟩=>cond (Nat.beq f fn) (some (.int .i64 (Lib.indexByte s.data.toList c.toNat.toUInt8),h)) none
 |_=>none
theorem acO{P:Program}{f:FuncId}{fn:Func}(hfn:P.funcs[f]? =some fn){body:Code}(hb:fn.body=some body)(hname:fn.name≠ "runtime.NumGoroutine")
 (hC:∀s c w,Calls P f #[.string s,.int .u8 c] w λe w'=>e=.returned (.int .i64 (Lib.indexByte s.data.toList c.toNat.toUInt8))/\w'=w)
 {q:eH} {h:IH} {v':Value} {h':IH} (hk:Ho f q h=some (v',h')):CALL P q h (λr pm h2=>r=.ok v'/\pm=none/\h2=h'):=by
 unfold Ho at hk;split at hk
 ·rename_i g s c;cases hcd:Nat.beq g f with
  |false=>rw[hcd]at hk;cases hk
  |true=>
   rw[hcd]at hk;have e:=jR hcd;subst e;injection hk with hk;injection hk with h1 h2;subst h1 h2;refine .wX _ (.real (acN hfn hb hname rfl rfl λw=>hC s c w)) ?_;rintro r pm h2 ⟨a,b,c⟩;exact⟨b,a,c⟩
 ·cases hk
structure Beyond(w w':World):Prop where
 heap:∀b,b<w.heap.size->w'.heap[b]? =w.heap[b]?
 size:w.heap.size<=w'.heap.size
 os:w'.os=w.os
 tape:w'.tape=w.tape
 output:w'.output=w.output
 drawn:w.drawn<=w'.drawn
theorem WR.beyond{P:Program}{β:ax}{h:IH}{w w':World}(hW:WR P β h w)(hb:Beyond w w'):WR P β h w'/\Eff β h w β h w':=
 ⟨⟨hW.dom,hW.live,λi g o h1 h2=>(hW.obj i g o h1 h2).congr (hb.heap _ (hW.obj i g o h1 h2).lt),hW.inj⟩,
  ⟨λ_ _=>rfl,aG _,λ_ _ h=>h,λ_ _ _=>rfl,aG _,λ_ _ _=>rfl,hb.os,hb.tape,hb.output,hb.size,λb hb' _=>hb.heap b hb',λi g hg hi=>absurd (hW.dom _ _ hg) (by omega),λi g _ _ _ _ hb'=>hb.heap _ hb',hb.drawn⟩⟩
end Go.Ideal
namespace Go.Ideal
open Go.Sort Go.Proofs Go.RowKit Go.Lib Go.Shelf
variable {P:Program}
theorem Beyond.grown{w w':World}(h:Beyond w w'):∃q os,w'=Go.Sort.grow (w.drewN q) os:=by
 refine⟨w'.drawn - w.drawn,w'.heap.extract w.heap.size w'.heap.size,?_⟩;obtain⟨heap,tape,drawn,os,output⟩:=w;obtain⟨heap',tape',drawn',os',output'⟩:=w';obtain⟨h1,h2,h3,h4,h5,h6⟩:=h;dsimp only at h1 h2 h3 h4 h5 h6;subst h3 h4 h5;have e1:heap'=heap++heap'.extract heap.size heap'.size:=by
  apply Ow;intro i;rw[Array.getElem?_append];split
  ·rename_i hi;exact h1 i hi
  ·rename_i hi;rw[Array.getElem?_extract];by_cases hl:i<heap'.size
   ·rw[if_pos (by omega),show heap.size+(i - heap.size)=i by omega]
   ·rw[if_neg (by omega),qa (by omega)]
 have e2:drawn'=drawn+(drawn' - drawn):=by omega
 show World.mk heap' tape' drawn' os' output'=World.mk (heap++heap'.extract heap.size heap'.size) tape' (drawn+(drawn' - drawn)) os' output';rw[<- e1,<- e2]
theorem Eff.beyond{β β':ax}{h h':IH}{w w':World}(hW:WR P β h w)(he:Eff β h w β' h' w')(hl:h'.low=h.next):Beyond w w':=by
 refine⟨λk hk=>?_,he.size,he.os,he.tape,he.output,he.drawn⟩;by_cases hx:∀i g,β i=some g->h.get i≠none->g.b≠k
 ·exact he.keep k hk hx
 ·have hx:∃i g,β i=some g/\h.get i≠none/\g.b=k:=by
   apply Classical.byContradiction;intro hc;exact hx λi g hi hg hb=>hc ⟨i,g,hi,hg,hb⟩
  obtain⟨i,g,hi,hg,rfl⟩:=hx;have hin:=hW.dom i g hi;exact he.nU i g (by rw[hl];exact hin) hin hi hg hk
theorem Sa{f:FuncId}{fn:Func}(hfn:P.funcs[f]? =some fn){body:Code}(hb:fn.body=some body)(hname:fn.name≠ "runtime.NumGoroutine")(xs:Array Value)(w:World):(callFunc f xs).run P w=.ok (.enter f xs) w:=by
 have hn:(fn.name== "runtime.NumGoroutine")=false:=by simpa using hname
 simp only[callFunc,bQ,run_program,bT,hfn,hn,hb,Option.isNone_some,qJ,if_false,dD]
theorem acP(nX:P.follows .mixedOrders=true){g:FuncId}{fn:Func}(hfn:P.funcs[g]? =some fn){body:Code}(hb:fn.body=some body)(hname:fn.name≠ "runtime.NumGoroutine"){args args' cap cap':List Value}{F:List aD}{n:Int}
 (hC:aX P (.func g) args cap [] F (λ_:Unit=>.int .i64 n) (λ_=>[]) (λ_=>[]) (λ_=>True)) {β:ax} {w:World} {d:Wd} (hlow:d.h.low=d.h.next) (hF:∀f∈F,f.p d) (hG:jy P β) (hW:WR P β d.h w) (ha:aH β args args') (hc:aH β cap cap'):
 Calls P g ((⟨args'⟩:Array Value)++(⟨cap'⟩:Array Value)) w λe w'=>e=.returned (.int .i64 n)/\∃q os,w'=Go.Sort.grow (w.drewN q) os:=by
 have hst:St [] d [] F d:=⟨⟨aG _,λ_ _ _=>rfl,λ_ _=>rfl⟩,Wd.Le.refl d,λi hi hz=>.inl hz,⟨[],rfl,Js,by simp⟩,hF⟩
 have hM:=KQ nX (hC [] d hst);obtain⟨nx,F0,n1,n2,n3⟩:=hM β w (.func g) args' cap' hG hW (.func g) ha hc;have hnx:nx=.enter g ((⟨args'⟩:Array Value)++(⟨cap'⟩:Array Value)):=by
  have n1:(invoke (.fn (.func g) ⟨cap'⟩) ⟨args'⟩).run P w=.ok nx w:=n1;simp only[invoke]at n1;rw[Sa hfn hb hname]at n1;cases n1;rfl
 subst hnx;have uz:F0=Frame.enter P g ((⟨args'⟩:Array Value)++(⟨cap'⟩:Array Value)) .normal:=by
  have:entry P .normal (.enter g ((⟨args'⟩:Array Value)++(⟨cap'⟩:Array Value)))=some (Frame.enter P g ((⟨args'⟩:Array Value)++(⟨cap'⟩:Array Value)) .normal):=rfl;have n2:entry P .normal (.enter g ((⟨args'⟩:Array Value)++(⟨cap'⟩:Array Value)))=some F0:=n2;rw[this]at n2;exact(Option.some.inj n2).symm
 subst uz;intro cs;obtain⟨r,pm',h',β',w',r',cs1,q1,q2,q3,q4,q5,q6⟩:=n3 cs (by intro m hm;cases hm);obtain⟨hp,d2,_,rfl,hs2,rfl,_⟩:=q1;have acQ:=hs2.agree.low (by rw[hlow];exact aG _) (by simp);cases q5;cases q4 with
 | @ok v v' mK=>
   have:=mK.kJ;subst this;rcases q6 with⟨f1,a1,F1,e1,e2,e3,e4,e5⟩|⟨⟨_,l,e1⟩,_⟩
   ·cases e1;refine⟨.returned _,w',F1,⟨rfl,(q3.beyond hW (acQ.trans hlow)).grown⟩,e2,e3,?_⟩;obtain⟨t1,t2,fn,t3,t4⟩:=e5;exact⟨t1,t2,e4,fn,t3,t4⟩
   ·cases e1
def Hq(P:Program)(f:FuncId)(k:Nat)(wr:List Value->Value):Prop:=∀(α:Type) [Inhabited α] (enc:α->List Value) (cf:α->α->Int) (g:FuncId) (cb:Array Value) (blk off cap:Nat) (d:Array α) (w:World),
 (∀x,(enc x).length=k)->(∀x,∀v∈enc x,v.oneCell'=true)->SWO (ltOf cf)->(∀args w,(callFunc g args).run P w=.ok (.enter g args) w)->
 (∀(m:Nat) (os:Array Obj) (dk:Array α),dk.size=d.size->∀x y:α,Calls P g (#[wr (enc x),wr (enc y)]++cb) (sortWorldK enc k w blk off m dk os) λe w'=>e=.returned (.int .i64 (cf x y))/\∃q os',w'=Go.Sort.grow ((sortWorldK enc k w blk off m dk os).drewN q) os')->
 HoldsK enc k w blk off d->blk<w.heap.size->d.size<4611686018427387904->
 Calls P f #[.slice (some ⟨blk,off,none⟩) d.size cap,.func (.func g) #[] cb] w λe w'=>e=.returned (.tuple #[])/\∃d' n os,PermIn 0 d.size d d'/\SortedIn (ltOf cf) 0 d.size d'/\w'=sortWorldK enc k w blk off n d' os
def rM(l:List Value):Value:=l.headD .nilFunc
structure El{X:Type}(β:ax)(E:Enc X)(xs:List X)(d:Wd) where
 x:X
 y:E.Y
 v:List Value
 mem:x∈xs
 rel:aH β (E.pat x y) v
 cell:(E.pat x y).all cellV=true
 fs:∀f∈E.fs x y,f.p d
theorem aH.oneCell{β:ax}{vs vs':List Value}(hv:aH β vs vs')(hall:vs.all cellV=true):∀v∈vs',v.oneCell'=true:=λv hv'=>by
 obtain⟨j,hj⟩:=qI hv';have hjl:j<vs.length:=by
  have:=(dU.1 hj).1;rw[hv.length]at this;exact this
 obtain⟨v2,hv2,hr⟩:=hv.get (bB hjl);rw[hv2]at hj;cases hj;have hc:=(jE.1 hall) _ (List.getElem_mem hjl);obtain⟨a,b⟩:=hr.cellV hc;cases v<;>first|rfl|exact absurd rfl (a _)|exact absurd rfl (b _)
noncomputable def Wd.but(d:Wd)(b:Nat):Wd:=⟨⟨(d.h.kill b).t,d.h.next,d.h.next⟩,d.z,d.iR⟩
theorem Wd.AZ(d:Wd)(b i:Nat):(d.but b).h.get i=if i=b then none else d.h.get i:=by
 show(d.h.kill b).get i=_;exact IH.qX _ _ _
theorem Wd.acR{d:Wd}{b:Nat}(hz:¬d.z b):d.Le (d.but b):=⟨aG _,λ_ h=>h,λi hi=>by rw[Wd.AZ,if_neg (λe:i=b=>hz (e▸hi))]⟩
theorem acS{α:Type}[Inhabited α](enc:α->List Value)(k:Nat)(w:World)(blk off m:Nat)(dk:Array α)(os:Array Obj){b:Nat}(hb:b<w.heap.size)(hne:b≠blk):(sortWorldK enc k w blk off m dk os).heap[b]? =w.heap[b]?:=by
 show((w.heap.modify blk _)++os)[b]? =_;rw[Oz (by rw[Array.size_modify];exact hb),Array.getElem?_modify,if_neg (λe=>hne e.symm)]
theorem WR.acT{α:Type}[Inhabited α]{β:ax}{d:Wd}{w:World}(hW:WR P β d.h w){b:Nat}{g:fZ}{cs:List Value}(hi:β b=some g)(hg:d.h.get b=some (.cells cs))(enc:α->List Value)(k off m:Nat)(dk:Array α)(os:Array Obj):
 WR P β (d.but b).h (sortWorldK enc k w g.b off m dk os):=by
 refine⟨hW.dom,λi o h=>?_,λi g' o h1 h2=>?_,λi j g1 g2 h1 h2 h3 h4 h5 h6=>?_⟩
 ·rw[Wd.AZ]at h;split at h
  ·cases h
  ·exact hW.live i o h
 ·rw[Wd.AZ]at h2;split at h2
  ·cases h2
  ·rename_i hib;have hO:=hW.obj i g' o h1 h2;refine hO.congr (acS enc k w g.b off m dk os hO.lt λe=>hib ?_);exact hW.inj i b g' g h1 hi (by rw[h2];simp) (by rw[hg];simp) (.inr λcs2=>by rw[hg];simp) e
 ·rw[Wd.AZ]at h3 h4;rw[Wd.AZ,Wd.AZ]at h5;split at h3
  ·exact absurd rfl h3
  split at h4
  ·exact absurd rfl h4
  rename_i n1 n2;rw[if_neg n1,if_neg n2]at h5;exact hW.inj i j g1 g2 h1 h2 h3 h4 h5 h6
theorem List.acU{α:Type}{R:α->α->Prop}{l:List α}(h:∀(i j:Nat) x y,i<j->l[i]? =some x->l[j]? =some y->R x y):l.Pairwise R:=
 List.pairwise_iff_getElem.2 λi j hi hj hij=>h i j _ _ hij (bB hi) (bB hj)
theorem acV(nX:P.follows .mixedOrders=true){f g:FuncId}{k:Nat}{wr:List Value->Value}(hwr:∀{β:ax} {vs vs':List Value},vs.length=k->vs.all cellV=true->aH β vs vs'->VR β (wr vs) (wr vs'))(hS:Hq P f k wr){fn:Func}(hfn:P.funcs[f]? =some fn){body:Code}(hb:fn.body=some body)(hname:fn.name≠ "runtime.NumGoroutine"){gn:Func}(hgn:P.funcs[g]? =some gn){Hr:Code}(hgb:gn.body=some Hr)(Ht:gn.name≠ "runtime.NumGoroutine")
 {X:Type} {E:Enc X} (hE:E.n=k) (hk0:0<k) {xs:List X} {cf:X->X->Int} (hO:SWO (ltOf cf)) {cap:List Value} {F:List aD}
 (hC:∀x∈xs,∀y∈xs,∀a b,aX P (.func g) [wr (E.pat x a),wr (E.pat y b)] cap [] (E.fs x a++(E.fs y b++F)) (λ_:Unit=>.int .i64 (cf x y)) (λ_=>[]) (λ_=>[]) (λ_=>True))
 {d:Wd} {b o c:Nat} {fl:Option Nat} {cs:List Value} (hg:d.h.get b=some (.cells cs)) (hz:¬d.z b) (hF:∀f∈F,f.p d)
 (hel:∀(j:Nat) x,xs[j]? =some x->∃y,(∀(t:Nat) u,(E.pat x y)[t]? =some u->cs[o+j*E.n+t]? =some u)/\∀f∈E.fs x y,f.p d) (hcs:cs.length=o+xs.length*E.n) (hne:0<xs.length) (hlen:xs.length<4611686018427387904):
 jc P ⟨.func f,[.slice (some ⟨b,o,fl⟩) xs.length c,.func (.func g) ⟨[]⟩ ⟨cap⟩],[],none⟩ d.h (λr pm h2=>pm=none/\r=.ok (.tuple ⟨[]⟩)/\∃(zs:List (X×E.Y)) (cs2:List Value),(zs.map (·.1)).Perm xs/\(zs.map (·.1)).Pairwise (λx y=>¬cf y x<0)/\cs2.length=cs.length/\
  (∀(j:Nat) p,zs[j]? =some p->(∀(t:Nat) u,(E.pat p.1 p.2)[t]? =some u->cs2[o+j*E.n+t]? =some u)/\∀f∈E.fs p.1 p.2,f.p d)/\h2=d.h.set b (.cells cs2)):=by
 subst hE;intro β w fn' args' cap' hG hW hf ha hcap;obtain⟨iK,t1,t2⟩:=Aa (P:=P) (q:=⟨.func f,[.slice (some ⟨b,o,fl⟩) xs.length c,.func (.func g) ⟨[]⟩ ⟨cap⟩],[],none⟩) (f:=f) (args:=[.slice (some ⟨b,o,fl⟩) xs.length c,.func (.func g) ⟨[]⟩ ⟨cap⟩]) (by simp only[target,iI,fU]) hf ha hcap hfn hb hname w;cases t2 with|cons hv tl=>
 cases tl with|cons hv2 tl=>
 cases tl;obtain⟨gi,a,c',hi,rfl,hab,_,hn,hcc,hao,_⟩:=hv.lV;obtain⟨fn2,f2,cb,hfr2,hf2,hcb,rfl⟩:=hv2.wS;cases hfr2;cases hf2;have hao:a.off=gi.off+o/\a.spot=none:=by
  rcases hao with e|e
  ·omega
  ·exact e
 obtain⟨⟨c0,t0,fz0,hh⟩,q2,q3,q4,q5,q6⟩:=hW.obj b gi _ hi hg;have ea:a=⟨gi.b,gi.off+o,none⟩:=by
  obtain⟨ab,ao,asp⟩:=a;simp only at hab hao;rw[hab,hao.1,hao.2]
 subst ea;have hlt:gi.b<w.heap.size:=(Ox.1 hh).1;have acW:∀j t,j<xs.length->t<E.n->o+j*E.n+t<cs.length:=λj t hj ht=>by
  have:=Nat.mul_le_mul_right E.n (show j+1<=xs.length from hj);rw[lN,zx]at this;omega
 let cellOf:Nat->Value:=λt=>(w.cell? ⟨gi.b,gi.off+o+t,none⟩).getD .nilFunc
 have hcell:∀t,t<xs.length*E.n->w.cell? ⟨gi.b,gi.off+o+t,none⟩=some (cellOf t)/\w.frozen? ⟨gi.b,gi.off+o+t,none⟩=false:=λt ht=>by
  obtain⟨r1,r2⟩:=q4 (gi.off+o+t) (by omega);refine⟨?_,r2⟩;obtain⟨v,hv⟩:=Ou.1 r1;show _=some ((w.cell? ⟨gi.b,gi.off+o+t,none⟩).getD .nilFunc);rw[hv];rfl
 have hex:∀j,j<xs.length->∃e:El β E xs d,xs[j]? =some e.x/\e.v=(List.range E.n).map λt=>cellOf (j*E.n+t):=λj hj=>by
  have hx:xs[j]? =some xs[j]:=bB hj;obtain⟨y,h1,h2⟩:=hel j _ hx;refine⟨⟨xs[j],y,(List.range E.n).map λt=>cellOf (j*E.n+t),List.getElem_mem hj,?_,?_,h2⟩,hx,rfl⟩
  ·refine aH.JN (by rw[bI,OD,E.len]) λt v ht=>?_;have htn:t<E.n:=by have:=(dU.1 ht).1;rw[E.len]at this;exact this
   obtain⟨v',r1,r2⟩:=q6 _ v (h1 t v ht);refine⟨v',?_,r2⟩;rw[bU,BF htn,jh];show some ((w.cell? ⟨gi.b,gi.off+o+(j*E.n+t),none⟩).getD .nilFunc)=_;rw[show gi.off+o+(j*E.n+t)=gi.off+(o+j*E.n+t)by omega,r1];rfl
  ·rw[jE]at q5⊢;intro v hv;obtain⟨t,ht⟩:=qI hv;exact q5 v (dA (h1 t v ht))
 have e0:El β E xs d:=Classical.choice (by obtain⟨e,_⟩:=hex 0 hne;exact⟨e⟩)
 haveI:Inhabited (El β E xs d):=⟨e0⟩
 obtain⟨el,Sb⟩:∃el:Nat->El β E xs d,∀j,j<xs.length->xs[j]? =some (el j).x/\(el j).v=(List.range E.n).map λt=>cellOf (j*E.n+t):=
  ⟨λj=>if h:j<xs.length then Classical.choose (hex j h)else e0,λj hj=>by dsimp only;rw[dif_pos hj];exact Classical.choose_spec (hex j hj)⟩
 let D:Array (El β E xs d):=((List.range xs.length).map el).toArray
 have hDs:D.size=xs.length:=by simp[D]
 have hDg:∀j,j<xs.length->D[j]! =el j:=λj hj=>by
  rw[getElem!_pos D j (by rw[hDs];exact hj)];simp[D]
 have hDx:D.toList.map (·.x)=xs:=by
  apply kz;intro j;by_cases hj:j<xs.length
  ·rw[(Sb j hj).1];simp[D,hj]
  ·rw[jg (l:=xs) (by omega),jg (by simp[D];omega)]
 have hlv:∀e:El β E xs d,e.v.length=E.n:=λe=>by rw[e.rel.length,E.len]
 have hH:HoldsK (λe:El β E xs d=>e.v) E.n w gi.b (gi.off+o) D:=λt ht=>by
  have ht:t<xs.length*E.n:=by rw[size_flatK,hDs]at ht;exact ht
  rw[get_flatK _ _ _ _ (by rw[hDs];exact ht)];have hq:t/E.n<xs.length:=(OE hk0).2 ht;have hr:t%E.n<E.n:=uU _ hk0;rw[hDg _ hq,(Sb _ hq).2];have:((List.range E.n).map λt'=>cellOf (t/E.n*E.n+t'))[t%E.n]! =cellOf t:=by
   rw[getElem!_pos _ _ (by simpa using hr)];simp only[List.getElem_map,List.getElem_range];rw[zo,Nat.div_add_mod]
  rw[this];exact hcell t ht
 have hO2:SWO (ltOf λa b:El β E xs d=>cf a.x b.x):=⟨λa=>hO.irrefl a.x,λa b c=>hO.trans a.x b.x c.x,λa b c=>hO.ntrans a.x b.x c.x⟩
 have hcmp:∀(m:Nat) (os:Array Obj) (dk:Array (El β E xs d)),dk.size=D.size->∀x y:El β E xs d,Calls P g (#[wr x.v,wr y.v]++⟨cb⟩) (sortWorldK (λe:El β E xs d=>e.v) E.n w gi.b (gi.off+o) m dk os) λe w'=>e=.returned (.int .i64 (cf x.x y.x))/\∃q os',w'=Go.Sort.grow ((sortWorldK (λe:El β E xs d=>e.v) E.n w gi.b (gi.off+o) m dk os).drewN q) os':=λm os dk _ x y=>by
  have hle:=Wd.acR hz;exact acP nX hgn hgb Ht (hC x.x x.mem y.x y.mem x.y y.y) (d:=d.but b) rfl (λfa hfa=>by
   rcases gF.1 hfa with h|h
   ·exact fa.mono hle (x.fs fa h)
   ·rcases gF.1 h with h|h
    ·exact fa.mono hle (y.fs fa h)
    ·exact fa.mono hle (hF fa h)) hG (hW.acT hi hg _ _ _ m dk os) (.cons (hwr (E.len _ _) x.cell x.rel) (.cons (hwr (E.len _ _) y.cell y.rel) .nil)) hcb
 have hK:=hS (El β E xs d) (λe=>e.v) (λa b=>cf a.x b.x) g ⟨cb⟩ gi.b (gi.off+o) c' D w hlv (λe=>aH.oneCell e.rel e.cell) hO2 (λxs w=>Sa hgn hgb Ht xs w) hcmp hH hlt (by rw[hDs];exact hlen);refine⟨_,Frame.enter P f ⟨_⟩ .normal,t1,rfl,λcs0 ry=>?_⟩;rw[hDs]at hK;obtain⟨e,w',fr,⟨he,d2,n2,os,hpm,hsd,hw'⟩,hcomes,hfr,hlv2⟩:=hK cs0;subst he;have hd2:d2.size=xs.length:=hpm.1.trans hDs;have hdg:∀(j:Nat) e,d2.toList[j]? =some e->j<xs.length/\d2[j]! =e:=λj e h=>by
  rw[uT]at h;obtain⟨hj,he⟩:=Ox.1 h;exact⟨by omega,by rw[getElem!_pos d2 j hj];exact he⟩
 let zs:List (X×E.Y):=d2.toList.map λe=>(e.x,e.y)
 let L:List Value:=(List.range (xs.length*E.n)).map λt=>(E.pat (d2[t/E.n]!).x (d2[t/E.n]!).y).getD (t%E.n) .nilFunc
 let L':List Value:=(flatK (λe:El β E xs d=>e.v) E.n d2).toList
 have yQ:L.length=xs.length*E.n:=by simp[L]
 have LX:∀t,t<xs.length*E.n->L[t]? =some ((E.pat (d2[t/E.n]!).x (d2[t/E.n]!).y).getD (t%E.n) .nilFunc):=λt ht=>by
  show((List.range (xs.length*E.n)).map _)[t]? =_;rw[bU,BF ht];rfl
 have acZ:L'.length=xs.length*E.n:=by simp[L',hd2]
 have LY:∀(e:El β E xs d) t,t<E.n->(E.pat e.x e.y)[t]? =some ((E.pat e.x e.y).getD t .nilFunc):=λe t ht=>by
  rw[iA,bB (by rw[E.len];exact ht)];rfl
 have Sc:∀(t:Nat) v,L[t]? =some v->t<xs.length*E.n:=λt v ht=>by
  have:=(dU.1 ht).1
  rwa [yQ]at this
 have hrel:aH β L L':=aH.JN (by rw[acZ,yQ]) λt v ht=>by
  have htn:=Sc t v ht;rw[LX t htn]at ht;cases ht;have hr:=uU t hk0;obtain⟨v',r1,r2⟩:=(d2[t/E.n]!).rel.get (LY _ _ hr);refine⟨v',?_,r2⟩;have h1:L'[t]? =some (flatK (λe:El β E xs d=>e.v) E.n d2)[t]!:=by
   show(flatK (λe:El β E xs d=>e.v) E.n d2).toList[t]? =_;rw[uT,OH (by rw[size_flatK,hd2];exact htn),getElem!_pos _ _ (by rw[size_flatK,hd2];exact htn)]
  rw[h1,get_flatK _ _ _ _ (by rw[hd2];exact htn)];show some ((d2[t/E.n]!).v)[t%E.n]! =_;rw[getElem!_pos _ _ (by rw[hlv];exact hr),<- bB];exact r1
 have hall:L.all cellV=true:=by
  rw[jE];intro v hv;obtain⟨t,ht⟩:=qI hv;have htn:=Sc t v ht;rw[LX t htn]at ht;cases ht;exact jE.1 (d2[t/E.n]!).cell _ (dA (LY _ _ (uU t hk0)))
 obtain⟨cs2,hl⟩:=GX cs o L (by rw[yQ];omega);obtain⟨l1,l2,l3⟩:=Fg hl;have hs:d.h.storeAt b o L=some (d.h.set b (.cells cs2)):=by unfold IH.storeAt;simp only[hg,hl]
 obtain⟨_,w1,w2⟩:=JQ hW hi hs hrel hall;have hw1:sortWorldK (λe:El β E xs d=>e.v) E.n w gi.b (gi.off+o) n2 d2 os=Go.Sort.grow (Sort.ahead (w.setCells gi.b (gi.off+o) L') n2) os:=by
  have:=Go.Ideal.setCells_putRow (id:Value->Value) w gi.b (gi.off+o) (flatK (λe:El β E xs d=>e.v) E.n d2);rw[EL]at this;rw[show w.setCells gi.b (gi.off+o) L'=_ from this];rfl
 rw[hw1]at hw';have w3:WR P β (d.h.set b (.cells cs2)) (Sort.ahead (w.setCells gi.b (gi.off+o) L') n2):=w1.sK rfl;have w4:=w2.trans (Eff.sK (w':=Sort.ahead (w.setCells gi.b (gi.off+o) L') n2) w1.dom rfl rfl rfl rfl (Nat.le_add_right _ _));obtain⟨w5,w6⟩:=w3.grow os;rw[<- hw']at w5 w6;refine⟨.ok (.tuple ⟨[]⟩),none,_,β,w',.returned (.tuple #[]),cs0,⟨rfl,rfl,zs,cs2,?_,?_,l2,?_,rfl⟩,w5,w4.trans w6,.ok (.cK _),.none cs0,.inl ⟨f,_,fr,rfl,hcomes,hfr,hlv2.2.2.1,hlv2.1,hlv2.2.1,hlv2.2.2.2⟩⟩
 ·have hp:=hpm.2.2;rw[show d2.extract 0 xs.length=d2 by rw[<- hd2];simp,show D.extract 0 xs.length=D by rw[<- hDs];simp]at hp;have h1:=hp.map (·.x);rw[hDx]at h1;show((d2.toList.map λe=>(e.x,e.y)).map (·.1)).Perm xs;rw[BM];exact h1
 ·show((d2.toList.map λe=>(e.x,e.y)).map (·.1)).Pairwise _;rw[BM];refine List.acU λi j x y hij hx hy=>?_;rw[bU,lQ]at hx hy;obtain⟨e1,hx,rfl⟩:=hx;obtain⟨e2,hy,rfl⟩:=hy;have h1:=hdg i e1 hx;have h2:=hdg j e2 hy;have:=hsd i j (cu _) hij h2.1;rw[h1.2,h2.2]at this;exact Jr this
 ·intro j p hj;have hj:(d2.toList.map λe=>(e.x,e.y))[j]? =some p:=hj;rw[bU,lQ]at hj;obtain⟨e,he0,rfl⟩:=hj;obtain⟨hjn,he⟩:=hdg j e he0;refine⟨λt u ht=>?_,e.fs⟩;have htn:t<E.n:=by have:=(dU.1 ht).1;rw[E.len]at this;exact this
  have hb2:=acW j t hjn htn;rw[l3,if_pos ⟨by omega,by rw[yQ];omega⟩,show o+j*E.n+t - o=j*E.n+t by omega,LX _ (by omega)];have d1:(j*E.n+t)/E.n=j:=by rw[zo,Nat.mul_add_div hk0,Nat.div_eq_of_lt htn,jG]
  have d3:(j*E.n+t)%E.n=t:=by rw[zo,Nat.mul_add_mod,Nat.mod_eq_of_lt htn]
  rw[d1,d3,he,<- LY e t htn];exact ht
def LZ(P:Program)(f:FuncId):Prop:=∀(p:Option Addr) (cap:Nat) (fv:Value) (w:World),Calls P f #[.slice p 0 cap,fv] w λe w'=>e=.returned (.tuple #[])/\w'=w
theorem VR.ac0{β:ax}{a:Option Addr}{n c:Nat}{v:Value}(h:VR β (.slice a n c) v):∃p c',v=.slice p n c':=by
 cases h<;>exact⟨_,_,rfl⟩
theorem ac1{f:FuncId}(hS:LZ P f){fn:Func}(hfn:P.funcs[f]? =some fn){body:Code}(hb:fn.body=some body)(hname:fn.name≠ "runtime.NumGoroutine"){a:Option Addr}{c:Nat}{fv:Value}{h:IH}:
 jc P ⟨.func f,[.slice a 0 c,fv],[],none⟩ h (λr pm h2=>pm=none/\r=.ok (.tuple ⟨[]⟩)/\h2=h):=by
 intro β w fn' args' cap' hG hW hf ha' hcap;obtain⟨iK,t1,t2⟩:=Aa (P:=P) (q:=⟨.func f,[.slice a 0 c,fv],[],none⟩) (f:=f) (args:=[.slice a 0 c,fv]) (by simp only[target,iI,fU]) hf ha' hcap hfn hb hname w;cases t2 with|cons hv tl=>
 cases tl with|cons hv2 tl=>
 cases tl;obtain⟨p,c',rfl⟩:=hv.ac0;refine⟨_,Frame.enter P f ⟨_⟩ .normal,t1,rfl,λcs0 ry=>?_⟩;obtain⟨e,w',fr,⟨he,hw'⟩,hcomes,hfr,hlv⟩:=hS p c' _ w cs0;subst he hw';exact⟨.ok (.tuple ⟨[]⟩),none,h,β,_,.returned (.tuple #[]),cs0,⟨rfl,rfl,rfl⟩,hW,Eff.refl _ _ _ hW.dom,.ok (.cK _),.none cs0,.inl ⟨f,_,fr,rfl,hcomes,hfr,hlv.2.2.1,hlv.1,hlv.2.1,hlv.2.2.2⟩⟩
theorem ac2(nX:P.follows .mixedOrders=true){f g:FuncId}{k:Nat}{wr:List Value->Value}(hwr:∀{β:ax} {vs vs':List Value},vs.length=k->vs.all cellV=true->aH β vs vs'->VR β (wr vs) (wr vs'))(hS:Hq P f k wr)(hN:LZ P f){fn:Func}(hfn:P.funcs[f]? =some fn){body:Code}(hb:fn.body=some body)(hname:fn.name≠ "runtime.NumGoroutine"){gn:Func}(hgn:P.funcs[g]? =some gn){Hr:Code}(hgb:gn.body=some Hr)(Ht:gn.name≠ "runtime.NumGoroutine")
 {X:Type} {E:Enc X} (hE:E.n=k) (hk0:0<k) {xs:List X} {cf:X->X->Int} (hO:SWO (ltOf cf)) {cap:List Value} {F:List aD} {a:Option Addr}
 (hC:∀x∈xs,∀y∈xs,∀a b,aX P (.func g) [wr (E.pat x a),wr (E.pat y b)] cap [] (E.fs x a++(E.fs y b++F)) (λ_:Unit=>.int .i64 (cf x y)) (λ_=>[]) (λ_=>[]) (λ_=>True))
 (hlen:xs.length<4611686018427387904):
 aX P (.func f) [.slice a xs.length xs.length,.func (.func g) ⟨[]⟩ ⟨cap⟩] [] [ap E (.slice a xs.length xs.length) xs] F (λ_:List X=>.tuple ⟨[]⟩) (λys=>[ap E (.slice a xs.length xs.length) ys]) (λ_=>[]) (λys=>ys.Perm xs/\ys.Pairwise λx y=>¬cf y x<0):=by
 intro B w s;by_cases hx:xs=[]
 ·subst hx;refine .real (CS _ (ac1 hN hfn hb hname) ?_);rintro r pm h' ⟨rfl,rfl,rfl⟩;exact⟨rfl,w,[],rfl,⟨s.agree,s.le,s.fw,s.own,λf hf=>by cases hf⟩,rfl,.refl _,.nil⟩
 have hne:0<xs.length:=uh.2 hx;obtain⟨S,⟨S1,S2,q1,q2,e⟩,h2,h3⟩:=s.own;rcases q1 with⟨h,_⟩|⟨b,o,fl,cells,e1,hf,e2,hb',hcl,hel⟩
 ·exact absurd h hx
 injection e1 with e1 Sd;subst e1 e2 e;have hzb:¬w.z b:=(h3 b (by simp)).2.2;refine .real (CS _ (acV nX hwr hS hfn hb hname hgn hgb Ht hE hk0 hO hC hb' hzb s.facts hel hcl hne hlen) ?_);rintro r pm h' ⟨rfl,rfl,zs,cs2,hp,hpw,hl2,ac3,rfl⟩;have s1:St B w [pt b (.cells cells)] [] w:=⟨s.agree,s.le,s.fw,⟨[b]++S2,⟨[b],S2,⟨rfl,hb'⟩,q2,rfl⟩,h2,h3⟩,λf hf=>by cases hf⟩
 have s2:=s1.write (o':=.cells cs2);have hle:w.Le ⟨w.h.set b (.cells cs2),w.z,λi hi=>w.iR i hi⟩:=s2.le;have hzl:zs.length=xs.length:=by have:=hp.length_eq;rwa [bI]at this
 refine⟨rfl,⟨w.h.set b (.cells cs2),w.z,λi hi=>w.iR i hi⟩,zs.map (·.1),rfl,?_,rfl,hp,hpw⟩;refine s2.pE (A':=ap E (.slice (some ⟨b,o,some fl⟩) xs.length xs.length) (zs.map (·.1))) λS' hp'=>?_;refine .inr ⟨b,o,fl,cs2,by rw[bI,hzl],hf,hp'.1,hp'.2,by rw[hl2,hcl,bI,hzl],λj x hj=>?_⟩;rw[bU,lQ]at hj;obtain⟨p,hj,rfl⟩:=hj;obtain⟨r1,r2⟩:=ac3 j p hj;exact⟨p.2,r1,λf hf=>f.mono hle (r2 f hf)⟩
theorem ac4{f:FuncId}(h:∀(α:Type) [Inhabited α] (enc:α->Value) (cf:α->α->Int) (g:FuncId) (cb:Array Value) (blk off cap:Nat) (d:Array α) (w:World),OneCell enc->SWO (ltOf cf)->(∀args w,(callFunc g args).run P w=.ok (.enter g args) w)->CmpLays1 P g cb enc cf blk off d.size w->Holds enc w blk off d->blk<w.heap.size->d.size<4611686018427387904->
 Calls P f #[.slice (some ⟨blk,off,none⟩) d.size cap,.func (.func g) #[] cb] w λe w'=>e=.returned (.tuple #[])/\∃d' n os,PermIn 0 d.size d d'/\SortedIn (ltOf cf) 0 d.size d'/\w'=sortWorld enc w blk off n d' os):Hq P f 1 rM:=by
 intro α _ enc cf g cb blk off cap d w hk h1 hO eg hcmp hH hblk hsz;have he:∀x,enc x=[rM (enc x)]:=λx=>by
  have:=hk x;match h2:enc x,this with
  |[v],_=>rfl
 have hfl:∀dk:Array α,flatK enc 1 dk=dk.map λx=>rM (enc x):=λdk=>by
  refine ext_get! (by simp) λt ht=>?_;rw[size_flatK,fV]at ht;rw[get_flatK _ _ _ _ (by omega),Nat.div_one,Nat.mod_one,he];rw[getElem!_pos (dk.map _) t (by simpa using ht),Array.getElem_map,getElem!_pos dk t ht];rfl
 have hpc:∀(dk:Array α) (c:Array Value),putCells id off (dk.map λx=>rM (enc x)) c=putCells (λx=>rM (enc x)) off dk c:=λdk c=>by
  unfold putCells;congr 1;funext t x
  rw[Array.size_map];split
  ·rename_i hr;rw[getElem!_pos (dk.map _) _ (by simp;omega),Array.getElem_map,getElem!_pos dk _ (by omega)];rfl
  ·rfl
 have hsw:∀(m:Nat) (dk:Array α) (os:Array Obj),sortWorldK enc 1 w blk off m dk os=sortWorld (λx=>rM (enc x)) w blk off m dk os:=λm dk os=>by
  unfold sortWorldK sortWorld putRowK putRow;rw[hfl,show putCells id off (dk.map λx=>rM (enc x))=putCells (λx=>rM (enc x)) off dk from funext (hpc dk)]
 have:=h α (λx=>rM (enc x)) cf g cb blk off cap d w (λx=>h1 x _ (by rw[he x];exact cz.2 rfl)) hO eg (λm os dk hs x y=>by
  have:=hcmp m os dk hs x y;rw[hsw]at this;exact this) (λj hj=>by
  have:=hH j (by rw[size_flatK];omega);rw[get_flatK _ _ _ _ (by omega),Nat.div_one,Nat.mod_one,he]at this;exact this) hblk hsz
 refine this.mono ?_;rintro e w' ⟨h1,d',n,os,h2,h3,h4⟩;exact⟨h1,d',n,os,h2,h3,by rw[hsw];exact h4⟩
theorem ac5{β:ax}{vs vs':List Value}(h1:vs.length=1)(h2:vs.all cellV=true)(h:aH β vs vs'):VR β (rM vs) (rM vs'):=by
 match vs,h1 with
 |[v],_=>
  cases h with|cons a b=>
  cases b;exact a
end Go.Ideal
namespace Go.Ideal
open Go.Sort Go.RowKit Go.Proofs
variable {P:Program}
def uH(zs:List ByteArray):List (List UInt8):=(zs.map λz=>z.data.toList).mergeSort λx y=>decide (x<=y)
end Go.Ideal
namespace Go.Ideal
variable {P:Program}
section
variable {B:List Nat} {w0:Wd} {kl kl':List OA} {F:List aD} {K:KO} {ds:List Tmp} {rest:List aW} {n:Nat} {l:List (Nat×Value)} {D:List Deferred} {pm:Option FrameMode} {ro:Option Nat} {d:Nat} {g:Option (Tmp×Bool)}
theorem ac6{α:Type}{E:Enc α}{e:TypeId}{size bytes b':Nat}{s x:Operand}{v:Value}{xs:List α}{a:α}{y:E.Y}{cs:List Value}{k1 k2:List OA}(hn:Nat.blt d n=true)(hg:bH l g=true)
 (hs:ev l s=v) (hx:ev l x=.slice (some ⟨b',0,some 0⟩) 1 1) (hk:ai (ap E v xs) kl k1) (hc:ai (pt b' (.cells cs)) k1 k2) (hp:cs=E.pat a y) (hF:Sub (E.fs a y) F) (hz:E.n=size)
 (hm:(xs.length+1)*bytes<=1073741824/\(xs.length+1)*size<=1073741824/\xs.length+1<=1073741824):
 bY (R (λh=>aA P ds (⟨⟨some d,g,.append e size bytes s x⟩,[]⟩::rest) (act n l D pm ro) h K) B w0 kl F)
  (∀c,R (λh=>aA P ds rest (act n ((d,.slice (some ⟨c,0,some E.n⟩) (xs.length+1) (xs.length+1))::l) D pm ro) h K) B w0 (ap E (.slice (some ⟨c,0,some E.n⟩) (xs.length+1) (xs.length+1)) (xs++[a])::k2) F):=by
 refine⟨λr w st=>?_⟩;subst hp hz;have hlen:=E.len a y;have st2:St B w0 (ap E v xs::pt b' (.cells (E.pat a y))::k2) F w:=st.jJ (.cons hk (.cons hc .nil));have hat:At w.h b' (.cells (E.pat a y)):=st2.at_ (.there .here);have kL:St B w0 (ap E v xs::k2) F w:=(st2.fC (.there .here)).tail;have hfs:∀f∈E.fs a y,f.p w:=λf hf=>st.facts f (hF.mem f hf);have hread:w.h.dV b' 0 (1*E.n)=some (E.pat a y):=by
  rw[hat.c.dV,jO,jP,zx,sj,if_pos (by omega),<- hlen,gV]
 have hx1:kY (ev l x)=some (0+1):=by rw[hx];rfl
 have hx2:j5 E.n (0+1) (ev l x) w.h=some (E.pat a y):=by rw[hx];exact hread
 -- what lies there afterwards
 have put:∀(w':Wd) (c:Nat) (f:Nat) (cells:List Value),cells.length=xs.length*E.n->(∀(k:Nat) z,xs[k]? =some z->∃y,(∀(j:Nat) u,(E.pat z y)[j]? =some u->cells[k*E.n+j]? =some u)/\∀f∈E.fs z y,f.p w')->(∀f∈E.fs a y,f.p w')->
  (f=0\/f=E.n)->∀S,(pt c (.cells (cells++E.pat a y))).p w' S->(ap E (.slice (some ⟨c,0,some f⟩) (xs.length+1) (xs.length+1)) (xs++[a])).p w' S:=by
  intro w' c f cells h1 h2 h3 h4 S hp;refine .inr ⟨c,0,f,_,by rw[dN];rfl,h4,hp.1,hp.2,by rw[dN,dN,h1,hlen,su,lN,zx,bG],λk z hk=>?_⟩;by_cases hlt:k<xs.length
  ·rw[jF hlt]at hk;obtain⟨y',q1,q2⟩:=h2 k z hk;refine⟨y',λj u hj=>?_,q2⟩;rw[bG];have:=q1 j u hj;rw[jF (dU.1 this).1];exact this
  ·rw[lM (by omega)]at hk;have hk0:k=xs.length:=by
    have:=(dU.1 hk).1;simp at this;omega
   subst hk0;simp at hk;subst hk;refine⟨y,λj u hj=>?_,h3⟩;rw[bG,lM (by omega),h1,Nat.add_sub_cancel_left];exact hj
 obtain⟨S,⟨S1,S2,q,q2,e1⟩,hnd,hown⟩:=kL.own;rcases q with⟨rfl,rfl,rfl⟩|⟨b,o,f,cells,rfl,hf,rfl,hb,hcl,hel⟩
 ·refine K5 (c:=0) hn hg hs hx1 hx2 (by simpa using hm) λh' ag mP hnx=>?_;obtain⟨w',rfl,dO⟩:=kL.tail.fresh ag mP hnx;refine r _ w' (dO.pE λS hp=>?_);have hle:∀f∈E.fs a y,f.p w':=λf hf=>dO.facts f (hF.mem f hf);exact put w' _ E.n [] (by simp) (λk z hk=>by cases hk) hle (.inr rfl) S hp
 ·have mQ:St B w0 (pt b (.cells cells)::k2) F w:=⟨kL.agree,kL.le,kL.fw,⟨S,⟨_,S2,⟨rfl,hb⟩,q2,e1⟩,hnd,hown⟩,kL.facts⟩
  have Al:At w.h b (.cells cells):=mQ.at_ .here;refine C9 (old:=cells.drop o) (xs:=E.pat a y) hn hg hs hx1 hx2 ?_ (hf.elim (λe=>.inl (by rw[e])) λe=>.inr (by rw[e])) hm λh' mv=>?_
  ·have hdl:(cells.drop o).length=xs.length*E.n:=by rw[iZ];omega
   rw[Al.c.dV,jO,jP,if_pos (by omega),<- hdl,gV]
  obtain⟨w',rfl,dO,pG⟩:=mQ.move mv;refine r _ w' (dO.pE λS hp=>?_);have hle:∀f∈E.fs a y,f.p w':=λf hf=>dO.facts f (hF.mem f hf);refine put w' _ E.n (cells.drop o) (by rw[iZ];omega) (λk z hk=>?_) hle (.inr rfl) S hp;obtain⟨y',u1,u2⟩:=hel k z hk;exact⟨y',λj u hj=>by rw[jf,<- kX];exact u1 j u hj,λf hf=>f.mono pG (u2 f hf)⟩
theorem ac7{α:Type}(E:Enc α){e:TypeId}{size bytes b':Nat}{s x:Operand}{v:Value}{xs:List α}(a:α)(y:E.Y){cs:List Value}{k1 k2:List OA}
 (hm:(xs.length+1)*bytes<=1073741824/\(xs.length+1)*size<=1073741824/\xs.length+1<=1073741824)
 (next:∀c,R (λh=>aA P ds rest (act n ((d,.slice (some ⟨c,0,some E.n⟩) (xs.length+1) (xs.length+1))::l) D pm ro) h K) B w0 (ap E (.slice (some ⟨c,0,some E.n⟩) (xs.length+1) (xs.length+1)) (xs++[a])::k2) F)
 (hn:Nat.blt d n=true:=by rfl) (hg:bH l g=true:=by rfl)
 (hs:ev l s=v:=by conv=>lhs;whnf) (hx:ev l x=.slice (some ⟨b',0,some 0⟩) 1 1:=by rfl) (hk:ai (ap E v xs) kl k1:=by exact gQ) (hc:ai (pt b' (.cells cs)) k1 k2:=by exact gQ) (hp:cs=E.pat a y:=by rfl) (hF:Sub (E.fs a y) F:=by exact nZ) (hz:E.n=size:=by rfl):
 R (λh=>aA P ds (⟨⟨some d,g,.append e size bytes s x⟩,[]⟩::rest) (act n l D pm ro) h K) B w0 kl F:=
 (ac6 hn hg hs hx hk hc hp hF hz hm).h next
def gv(f:Nat):Option Nat->Nat->Value
 |none,_=>.slice none 0 0
 |some c,n=>.slice (some ⟨c,0,some f⟩) n n
theorem ac8{α:Type}{E:Enc α}{c:Option Nat}{xs:List α}{w:Wd}{S:List Nat}(h:(ap E (gv E.n c xs.length) xs).p w S)(h0:0<xs.length):∃b cells,gv E.n c xs.length=.slice (some ⟨b,0,some E.n⟩) xs.length xs.length/\S=[b]/\w.h.get b=some (.cells cells)/\cells.length=xs.length*E.n/\
 ∀(k:Nat) x,xs[k]? =some x->∃y,(∀(j:Nat) u,(E.pat x y)[j]? =some u->cells[k*E.n+j]? =some u)/\∀f∈E.fs x y,f.p w:=by
 rcases h with⟨h,_⟩|⟨b,o,f,cells,h1,h2,h3,h4,h5,h6⟩
 ·rw[h]at h0;simp at h0
 ·cases c with
  |none=>simp[gv]at h1
  |some c=>
   simp only[gv,Value.slice.injEq,az,Addr.mk.injEq]at h1;obtain⟨⟨rfl,rfl,h1⟩,_⟩:=h1;refine⟨c,cells,rfl,h3,h4,by rw[h5,bG],λk x hk=>?_⟩;obtain⟨y,q1,q2⟩:=h6 k x hk;exact⟨y,λj u hj=>by have:=q1 j u hj;rwa [bG]at this,q2⟩
theorem ac9{α:Type}{E:Enc α}{xs:List α}{Q:IH->Prop}(h0:0<xs.length)(hk:ai (ap E (.slice none 0 0) xs) kl kl':=by exact gQ):R Q B w0 kl F:=λw s=>by
 obtain⟨S,⟨S1,S2,q1,q2,e⟩,h2,h3⟩:=(s.fC hk).own;obtain⟨b,cells,h,_⟩:=ac8 (c:=none) q1 h0;simp[gv]at h
end
end Go.Ideal
namespace Go.Ideal
variable {P:Program} {B:List Nat} {w0:Wd} {kl kl' bE:List OA} {F:List aD} {K:KO} {ds:List Tmp} {rest:List aW} {n:Nat} {l:List (Nat×Value)} {D:List Deferred} {pm:Option FrameMode} {ro:Option Nat} {d:Nat} {g:Option (Tmp×Bool)}
theorem yR{α:Type}{E:Enc α}(a b:List (α×E.Y)):aP E (a++b)=aP E a++aP E b:=by unfold aP;rw[List.flatMap_append]
theorem Dn{ρ:Operand->Value}{x:Operand}{uE uF:Option Operand}{b o f m c lo hi:Nat}{size:Nat}(hx:ρ x=.slice (some ⟨b,o,some f⟩) m c)(hf:f=0\/f=size)(hs:0<size)(hlo:uE=none/\lo=0\/∃t,uE=some t/\ρ t=.int .i64 (lo:Int))(hhi:uF=none/\hi=m\/∃t,uF=some t/\ρ t=.int .i64 (hi:Int))(h1:lo<=hi)(h2:hi<=c):
 Pu P ρ (.nQ size x uE uF none) (.slice (some ⟨b,o+lo*size,some f⟩) (hi - lo) (c - lo)):=λh=>by
 have e3:upTo c (.int .i64 (hi:Int))=some hi:=Dj h2;have e4:upTo hi (.int .i64 (lo:Int))=some lo:=Dj h1;have hbd:bounds? m c (fF ρ uE) (fF ρ uF) none=some (lo,hi,c):=by
  rcases hlo with⟨rfl,rfl⟩|⟨t,rfl,ht⟩<;>rcases hhi with⟨rfl,hm⟩|⟨t',rfl,ht'⟩
  ·rw[hm];rfl
  ·show bounds? m c none (some (ρ t')) none=_;rw[ht'];show(match upTo c (.int .i64 (hi:Int))with|none=>none|some h=>match some 0 with|none=>none|some l=>some (l,h,c))=_;rw[e3]
  ·rw[hm]at e4⊢;show bounds? m c (some (ρ t)) none none=_;rw[ht];show(match upTo m (.int .i64 (lo:Int))with|none=>none|some l=>some (l,m,c))=_;rw[e4]
  ·show bounds? m c (some (ρ t)) (some (ρ t')) none=_;rw[ht,ht'];show(match upTo c (.int .i64 (hi:Int))with|none=>none|some h=>match upTo h (.int .i64 (lo:Int))with|none=>none|some l=>some (l,h,c))=_;rw[e3];show(match upTo hi (.int .i64 (lo:Int))with|none=>none|some l=>some (l,hi,c))=_;rw[e4]
 have h3:fF ρ none=none:=rfl;simp only[au.run,hx,h3,hbd];match f,hf with
 |0,_=>rfl
 |k+1,hf=>
  have hk:k+1=size:=by
   rcases hf with h|h
   ·cases h
   ·exact h
  show cond (Nat.beq (Nat.succ k) size) (some (Value.slice (some ⟨b,Nat.add o (Nat.mul lo size),some (Nat.succ k)⟩) (hi - lo) (c - lo),h)) none=_;rw[show Nat.beq (Nat.succ k) size=true by rw[show Nat.succ k=size from hk];exact wF _];rfl
theorem Sg(cs:List Value):gW cs cs.length []=some cs:=by
 have:=G9 (cs1:=cs) (cs2:=[]) (xs:=[]) (cu _);simpa using this
theorem Si{re:List eZ}{α:Type}{e:TypeId}{size bytes b f m:Nat}{s x:Operand}{v:Value}(E:Enc α)(aa bZ:List (α×E.Y))(hmx:m=aa.length)(hf0:f=0\/f=E.n)(hm:(m+bZ.length)*bytes<=1073741824/\(m+bZ.length)*size<=1073741824/\m+bZ.length<=1073741824)
 (next:∀b' f' m',m'=(aa++bZ).length->(f'=0\/f'=E.n)->R (λh=>aA P ds rest (act n ((d,.slice (some ⟨b',0,some f'⟩) m' m')::l) D pm ro) h K) B w0 (pt b' (.cells (aP E (aa++bZ)))::kl') F)
 (hs:ev l s=.slice (some ⟨b,0,some f⟩) m m:=by rfl) (hx:ev l x=v:=by conv=>lhs;whnf) (hf:qo E v bZ∈F:=by exact nA) (hz:E.n=size:=by rfl) (hk:ai (pt b (.cells (aP E aa))) kl kl':=by exact gQ) (hn:Nat.blt d n=true:=by rfl) (hg:bH l g=true:=by rfl)
 (hsm:∀b' f' m',Same P re (ev ((d,.slice (some ⟨b',0,some f'⟩) m' m')::l)) ((d,.slice (some ⟨b',0,some f'⟩) m' m')::l) B w0 (pt b' (.cells (aP E (aa++bZ)))::kl') F:=by intro _ _ _;repeat (first|exact tu|refine rF rfl (by repeat (first|with_reducible exact ai.here|with_reducible apply ai.there|with_reducible apply ai.app)) (by first|exact rfl|(conv=>lhs;whnf)) rfl ?_|refine Aq rfl (by(repeat (first|with_reducible exact aR .. |with_reducible apply dw));first|done|fail) (by first|exact rfl|(conv=>lhs;whnf)) rfl ?_|refine Ar rfl (by(repeat (first|with_reducible exact aR .. |with_reducible apply dw));first|done|fail) (by first|exact rfl|(conv=>lhs;whnf)) rfl ?_|refine Au rfl (by repeat (first|with_reducible exact ai.here|with_reducible apply ai.there|with_reducible apply ai.app)) (by first|exact rfl|(conv=>lhs;whnf)) rfl ?_|refine Av rfl (by(repeat (first|with_reducible exact aR .. |with_reducible apply dw));first|done|fail) (by first|exact rfl|(conv=>lhs;whnf)) rfl ?_|refine Aw rfl (by(repeat (first|with_reducible exact aR .. |with_reducible apply dw));first|done|fail) (by first|exact rfl|(conv=>lhs;whnf)) rfl ?_|refine Q0 (by first|((with_reducible apply FX);(focus ((conv=>lhs;whnf);(first|done|fail))))|((with_reducible apply Dc);(focus ((conv=>lhs;whnf);(first|done|fail))))|((with_reducible apply De);(focus exact rfl))|((with_reducible apply F5);(focus exact rfl);(focus exact rfl))|((with_reducible apply F6);(focus exact rfl);(focus exact rfl))|((with_reducible apply F7);(focus exact rfl);(focus exact rfl))|((with_reducible apply F8);(focus exact rfl);(focus exact rfl))|((with_reducible apply F9);(focus exact rfl);(focus exact rfl))|((with_reducible apply Ga);(focus exact rfl);(focus exact rfl))|((with_reducible apply F3);(focus exact rfl))|((with_reducible apply FY);(focus exact rfl);(focus ((conv=>lhs;whnf);(first|done|fail))))|((with_reducible apply FZ);(focus exact rfl);(focus ((conv=>lhs;whnf);(first|done|fail))))|((with_reducible apply Gd);(focus exact rfl);(focus ((conv=>lhs;whnf);(first|done|fail))))|((with_reducible apply Gf);(focus exact rfl))|((with_reducible apply Gg);(focus exact rfl);(focus ((conv=>lhs;whnf);(first|done|fail))))|((with_reducible apply Gh);(focus exact rfl);(focus ((conv=>lhs;whnf);(first|done|fail))))|((with_reducible apply Gi);(focus ((conv=>lhs;whnf);(first|done|fail))))|((with_reducible apply Gj);(focus exact rfl))|((with_reducible apply Gl);(focus exact rfl))|((with_reducible apply Gm);(focus exact rfl))|with_reducible exact F4|((with_reducible apply Gn);(focus exact rfl);(focus exact rfl);(focus exact rfl))|((with_reducible apply Gx);(focus exact rfl);(focus exact rfl);(focus ((omega);(first|done|fail))))|((with_reducible apply Df);(focus exact rfl);(focus exact rfl);(focus ((omega);(first|done|fail)));(focus ((omega);(first|done|fail))))|((with_reducible apply Gp);(focus exact rfl);(focus exact rfl);(focus ((omega);(first|done|fail)));(focus ((omega);(first|done|fail))))|((with_reducible apply Gb);(focus exact rfl);(focus exact rfl);(focus ((omega);(first|done|fail)));(focus ((omega);(first|done|fail))))|((with_reducible apply Gc);(focus exact rfl);(focus exact rfl);(focus ((omega);(first|done|fail)));(focus ((omega);(first|done|fail))))|((with_reducible apply Gs);(focus exact rfl);(focus exact rfl);(focus ((first|assumption|kernel_rfl);(first|done|fail))))|((with_reducible apply Gt);(focus exact rfl);(focus exact rfl);(focus ((first|assumption|kernel_rfl);(first|done|fail))))|((with_reducible apply Gu);(focus exact rfl);(focus exact rfl))|((with_reducible apply Gv);(focus exact rfl);(focus exact rfl))|((with_reducible apply Gw);(focus exact rfl);(focus exact rfl);(focus ((omega);(first|done|fail)));(focus ((omega);(first|done|fail))))) rfl ?_)):
 R (λh=>aA P ds (⟨⟨some d,g,.append e size bytes s x⟩,re⟩::rest) (act n l D pm ro) h K) B w0 kl F:=λw st=>by
 subst hz hmx;have st1:=st.fC hk;have hat:At w.h b (.cells (aP E aa)):=st.at_ hk;have hfl:=rH aa;obtain⟨r1,r2⟩:=He (st.facts _ hf);by_cases hne:bZ=[]
 ·subst hne;rw[fU]at next
  rw[rZ,jG]at hm;have hle:∀{a b:Nat},a<=b->Nat.ble a b=true:=λh=>by rw[nM];exact h
  rw[fU]at hsm;refine AX hn hg (v:=.slice (some ⟨b,0,some f⟩) aa.length aa.length) (h':=w.h.set b (.cells (aP E aa))) ?_ (hsm b f _ ⟨w.h.set b (.cells (aP E aa)),w.z,λi hi=>w.iR i hi⟩ st1.write) (next b f _ rfl hf0 ⟨w.h.set b (.cells (aP E aa)),w.z,λi hi=>w.iR i hi⟩ st1.write);have e1:w.h.storeAt b (Nat.add 0 (Nat.mul aa.length E.n)) []=some (w.h.set b (.cells (aP E aa))):=by
   have e2:gW (aP E aa) (Nat.add 0 (Nat.mul aa.length E.n)) []=some (aP E aa):=by
    rw[show Nat.add 0 (Nat.mul aa.length E.n)=(aP E aa).length by rw[hfl];exact bG _];exact Sg _
   unfold IH.storeAt;simp only[st1.get.1,e2]
  simp only[au.run,hx,hs,r1,r2,nR];rw[show Nat.add aa.length (List.length ([]:List (α×E.Y)))=aa.length from rfl,show aP E ([]:List (α×E.Y))=[]from rfl];rw[hle (show Nat.mul aa.length bytes<=small from hm.1),hle (show Nat.mul aa.length E.n<=small from hm.2.1),hle (show aa.length<=small from hm.2.2),hle (aG aa.length)];simp only[BJ,cond_true,e1]
 ·obtain⟨k,hk'⟩:∃k,bZ.length=k+1:=⟨bZ.length - 1,by have:=uh.2 hne;omega⟩
  rw[hk']at r1 r2 hm;refine LM (b:=b) (o:=0) (m:=aa.length) (k:=k) (f:=some f) (old:=aP E aa) (xs:=aP E bZ) hn hg hs (by rw[hx];exact r1) (by rw[hx];exact r2) ?_ (by rcases hf0 with h|h<;>rw[h];exact .inl rfl;exact .inr rfl) hm (λh' mv=>?_) λh' mv=>?_
  ·rw[hat.c.dV,jO,sj,jP,if_pos (by omega),nO (by omega)]
  ·obtain⟨w',rfl,dO,pG⟩:=st1.move mv;have:=hsm w.h.next E.n (aa.length+(k+1))
   rw[yR]at this;exact this w' dO
  obtain⟨w',rfl,dO,pG⟩:=st1.move mv;have:=next w.h.next E.n (aa.length+(k+1)) (by rw[dN,hk']) (.inr rfl)
  rw[yR]at this;exact this w' dO
theorem Sj{α:Type}(E:Enc α){aa:List (α×E.Y)}{rest':List Value}{b f c:Nat}{Q:IH->Prop}(hf:f=0\/f=E.n)(hc:aa.length<=c)(h:R Q B w0 kl' (ae E (.slice (some ⟨b,0,some f⟩) aa.length c) (aa.map (·.1))::F))
 (ha:∀w,(∀f∈F,f.p w)->(og E aa).p w) (hk:ai (pt b (.cells (aP E aa++rest'))) kl kl':=by exact gQ):R Q B w0 kl F:=λw s=>by
 have hall:=ha w s.facts;obtain⟨w',hw,s'⟩:=(s.fC hk).freeze (fs:=[⟨λw=>Fz w b (aP E aa++rest'),λa h=>h.mono a⟩]) (λw w' S hp hle hh hz g hg=>by
  rw[cz.1 hg];exact⟨hz b (by rw[hp.1];exact cz.2 rfl),.inl (by rw[hh];exact hp.2)⟩)
 have hfz:Fz w' b (aP E aa++rest'):=s'.facts _ (aR ..);have FC:=ha w' λf hf=>s'.facts f (oO _ hf);rw[<- hw];refine h w' ⟨s'.agree,s'.le,s'.fw,s'.own,λg hg=>?_⟩;rcases bD.1 hg with rfl|hg
 ·refine .inr ⟨b,0,f,c,_,⟨by rw[bI],by rw[bI];exact hc,hf⟩,hfz,λk x hk=>?_⟩;rw[bU]at hk;cases hp:aa[k]? with
  |none=>rw[hp]at hk;cases hk
  |some p=>
   rw[hp]at hk;cases hk;refine⟨p.2,λj u hj=>?_,FC p (dA hp)⟩;have:=yP hp hj;rw[bG,jF (dU.1 this).1];exact this
 ·exact s'.facts g (oO _ hg)
theorem ada{α:Type}(E:Enc α){v:Value}{aa:List (α×E.Y)}{Q:IH->Prop}(h0:aa=[]->∀c,v=.slice none 0 c->R Q B w0 kl F)(h1:aa=[]->∀i o f c,v=.slice (some ⟨i,o,some f⟩) 0 c->R Q B w0 kl F)
 (h2:0<aa.length->∀i o f c,v=.slice (some ⟨i,o,some f⟩) aa.length c->R Q B w0 kl F) (hf:qo E v aa∈F:=by exact nA):R Q B w0 kl F:=λw s=>by
 rcases s.facts _ hf with⟨e,a,c,hv,hg⟩|⟨i,o,f,c,cells,⟨hv,_⟩,_⟩
 ·match a,hv,hg with
  |none,hv,_=>exact h0 e c hv w s
  |some ⟨i,o,some f⟩,hv,_=>exact h1 e i o f c hv w s
 ·by_cases hx:aa=[]
  ·subst hx;exact h1 rfl i o f c hv w s
  ·exact h2 (uh.2 hx) i o f c hv w s
theorem adb{ρ:Operand->Value}{x y:Operand}{t:TypeId}{a b:Nat}(hx:ρ x=.int .u64 (a:Int))(hy:ρ y=.int .u64 (b:Int))(hb:0<b):Pu P ρ (.bin .rem t x y) (.int .u64 ((a%b:Nat):Int)):=λh=>by
 have hv:dz P (binOp .rem t (.int .u64 (a:Int)) (.int .u64 (b:Int)))=some (.int .u64 ((a%b:Nat):Int)):=by
  show dz P (Op.intDiv .rem .u64 a b)=_;unfold Op.intDiv;rw[if_neg (by omega)];show some (Value.int .u64 ((a:Int).tmod (b:Int)))=_;rw[show(a:Int).tmod (b:Int)=((a%b:Nat):Int)from(Int.ofNat_tmod a b).symm]
 have h1:ji P (do eqGuard .rem t x y (.int .u64 (a:Int)) (.int .u64 (b:Int));binOp .rem t (.int .u64 (a:Int)) (.int .u64 (b:Int)))=some (.int .u64 ((a%b:Nat):Int)):=by
  unfold ji;rw[gu,Am (by intro c e;cases e) (by intro e;cases e)];simp only[gJ,hv];rfl
 have h2:nk P .rem t x y (.int .u64 (a:Int)) (.int .u64 (b:Int))=some (.int .u64 ((a%b:Nat):Int)):=by
  unfold nk;have:(match qU .u64 .u64 with|true=>nS .rem .u64 (a:Int) (b:Int)|false=>none)=none:=rfl;simp only[qU,bM,BJ,cond];exact h1
 simp only[au.run,hx,hy,h2]
end Go.Ideal
namespace Go.Ideal
open Go.RowKit Go.WideShapes Go.ChangeShapes
variable {P:Program}
theorem ade{f:FuncId}{fn:Func}(hfn:P.funcs[f]? =some fn){body:Code}(hb:fn.body=some body)(hname:fn.name≠ "runtime.NumGoroutine"){args:List Value}{v:Value}(hv:vN v=true)(ha:args.all bM=true){h:IH}
 (hC:∀β w,jy P β->WR P β h w->Calls P f ⟨args⟩ w λe w'=>e=.returned v/\Beyond w w'):jc P ⟨.func f,args,[],none⟩ h (λr pm h2=>pm=none/\r=.ok v/\h2=h):=by
 intro β w fn' args' cap' hG hW hf ha' hcap;obtain⟨iK,t1,t2⟩:=Aa (P:=P) (q:=⟨.func f,args,[],none⟩) (f:=f) (args:=args) (by simp only[target,iI,fU]) hf ha' hcap hfn hb hname w;have e2:=aH.Hf t2 ha;subst e2;refine⟨_,Frame.enter P f ⟨_⟩ .normal,t1,rfl,λcs0 ry=>?_⟩;obtain⟨e,w',fr,⟨he,hw'⟩,hcomes,hfr,hlv⟩:=hC β w hG hW cs0;subst he;obtain⟨w1,w2⟩:=hW.beyond hw';exact⟨.ok v,none,h,β,_,.returned v,cs0,⟨rfl,rfl,rfl⟩,w1,w2,.ok (VR.RV hv),.none cs0,.inl ⟨f,_,fr,rfl,hcomes,hfr,hlv.2.2.1,hlv.1,hlv.2.1,hlv.2.2.2⟩⟩
theorem adf(w:World)(k:Nat)(os:Array Obj):Beyond w (Go.Sort.grow (w.drewN k) os):=by
 refine⟨λb hb=>?_,?_,rfl,rfl,rfl,Nat.le_add_right _ _⟩
 ·show(w.heap++os)[b]? =_;rw[Oz hb]
 ·show w.heap.size<=(w.heap++os).size;rw[Array.size_append];omega
def l6(g:Nat)(cs:List Value):aD:=⟨λw=>w.z g/\w.h.get g=some (.gK cs),λa h=>⟨a.z g h.1,(a.get g h.1).trans h.2⟩⟩
theorem adg{β:ax}{h:IH}{w:World}(hG:jy P β)(hW:WR P β h w){name:String}{g:Nat}(hg:P.globalNamed name=some g)(hlt:g<P.globals.size){k:IntKind}{zs:List Int}(hsz:vD P g=zs.length)(h0:0<zs.length)
 (hr:h.get g=some (.gK (zs.map λz=>Value.int k z))):Lib.TabIs P w name k zs:=by
 obtain⟨i,h1,h2,h3,h4⟩:=hG g hlt;obtain⟨⟨c,t,fz,hh,hs⟩,_,_,hc⟩:=hW.obj g i _ h1 hr;rw[h2]at hh hc;unfold Lib.TabIs World.var?;rw[hg,gJ,hh];show some c=_;congr 1;have hcs:c.size=zs.length:=by
  rcases hs with hs|hs<;>omega
 apply Ow;intro j;by_cases hj:j<zs.length
 ·have hz:(zs.map λz=>Value.int k z)[j]? =some (.int k zs[j]):=by rw[bU,bB hj];rfl
  obtain⟨v',q1,q2⟩:=hc j _ hz;have:=q2.kJ;subst this;rw[BI (xs:=zs.map λz=>Value.int k z),hz];rw[h3,bG]at q1;simpa[World.cell?,hh]using q1
 ·rw[qa (by omega),BI (xs:=zs.map λz=>Value.int k z),jg (by rw[bI];omega)]
def Sk(P:Program)(f:FuncId):Prop:=∀n:Int, -9223372036854775808<=n->n<=9223372036854775807->∀w,Lib.TabIs P w "internal\x2fstrconv.uint64pow10" .u64 Lib.pow10Tab->
 Calls P f #[.int .i64 n] w λe w'=>e=.returned (.string ⟨(Lib.itoa n).toArray⟩)/\∃k os,w'=Go.Sort.grow (w.drewN k) os
def mU:List Value:=Lib.pow10Tab.map λz=>Value.int .u64 z
theorem adh{f:FuncId}(hI:Sk P f){fn:Func}(hfn:P.funcs[f]? =some fn){body:Code}(hb:fn.body=some body)(hname:fn.name≠ "runtime.NumGoroutine"){g:Nat}(hg:P.globalNamed "internal\x2fstrconv.uint64pow10" =some g)
 (hlt:g<P.globals.size) (hsz:vD P g=20) {n:Int} (h0: -9223372036854775808<=n) (h1:n<=9223372036854775807):aX P (.func f) [.int .i64 n] [] [] [l6 g mU] (λ_:Unit=>.string ⟨(Lib.itoa n).toArray⟩) (λ_=>[]) (λ_=>[]) (λ_=>True):=by
 intro B w s;have hf:=(s.facts _ (cz.2 rfl)).2;refine .real (CS _ (ade hfn hb hname (v:=.string ⟨(Lib.itoa n).toArray⟩) rfl rfl λβ wr hG hW=>?_) ?_)
 ·refine(hI n h0 h1 wr (adg hG hW hg hlt (by rw[hsz,Lib.pow10Tab_length]) (by rw[Lib.pow10Tab_length];decide) hf)).mono ?_;rintro e w' ⟨rfl,k,os,rfl⟩;exact⟨rfl,adf _ _ _⟩
 ·rintro r pm h' ⟨rfl,rfl,rfl⟩;exact⟨rfl,w,(),rfl,⟨s.agree,s.le,s.fw,s.own,λf h=>by cases h⟩,rfl,trivial⟩
def Joins(P:Program)(f:FuncId):Prop:=∀(bk o c:Nat) (xs:List ByteArray) (sep:ByteArray) (w:World),(∀(j:Nat) x,xs[j]? =some x->w.cell? ⟨bk,o+j,none⟩=some (.string x))->bk<w.heap.size->xs.length<=140737488355328->xs.length<=c->
 (Lib.join (xs.map (·.data.toList)) sep.data.toList).length<=140737488355328->
 Calls P f #[.slice (some ⟨bk,o,none⟩) xs.length c,.string sep] w λe w'=>e=.returned (.string ⟨(Lib.join (xs.map (·.data.toList)) sep.data.toList).toArray⟩)/\Below w.heap.size w w'
def tH(xs:List ByteArray)(sep:ByteArray):ByteArray:=⟨(Lib.join (xs.map (·.data.toList)) sep.data.toList).toArray⟩
theorem adi{f:FuncId}(hJ:Joins P f){fn:Func}(hfn:P.funcs[f]? =some fn){body:Code}(hb:fn.body=some body)(hname:fn.name≠ "runtime.NumGoroutine"){b o c:Nat}{fl:Option Nat}{xs:List ByteArray}{sep:ByteArray}{h:IH}{cs:List Value}
 (hg:h.get b=some (.cells cs)\/h.get b=some (.gK cs)) (hz:∀(j:Nat) z,xs[j]? =some z->cs[o+j]? =some (.string z)) (hne:0<xs.length) (hn:xs.length<=140737488355328) (hlen:(tH xs sep).data.size<=140737488355328):
 jc P ⟨.func f,[.slice (some ⟨b,o,fl⟩) xs.length c,.string sep],[],none⟩ h (λr pm h2=>pm=none/\r=.ok (.string (tH xs sep))/\h2=h):=by
 intro β w fn' args' cap' hG hW hf ha hcap;obtain⟨iK,t1,t2⟩:=Aa (P:=P) (q:=⟨.func f,[.slice (some ⟨b,o,fl⟩) xs.length c,.string sep],[],none⟩) (f:=f) (args:=[.slice (some ⟨b,o,fl⟩) xs.length c,.string sep]) (by simp only[target,iI,fU]) hf ha hcap hfn hb hname w;cases t2 with|cons hv tl=>
 cases tl with|cons hv2 tl=>
 cases tl;have:=hv2.wR;subst this;obtain⟨g,a,c',hi,rfl,hab,_,hn1,hcc,hao,_⟩:=hv.lV;have hao:a.off=g.off+o/\a.spot=none:=by
  rcases hao with e|e
  ·omega
  ·exact e
 have ea:a=⟨g.b,g.off+o,none⟩:=by
  obtain⟨ab,ao,ags⟩:=a;simp only at hab hao;rw[hab,hao.1,hao.2]
 subst ea;obtain⟨hlt,q6⟩:g.b<w.heap.size/\∀(j:Nat) v,cs[j]? =some v->∃v',w.cell? ⟨g.b,g.off+j,none⟩=some v'/\VR β v v':=by
  rcases hg with hg|hg
  ·have k:=hW.obj b g _ hi hg;exact⟨k.lt,k.2.2.2.2.2⟩
  ·have k:=hW.obj b g _ hi hg;exact⟨k.lt,k.2.2.2⟩
 have hC:=acM (hJ g.b (g.off+o) c' xs sep w (λj x hj=>by
  obtain⟨v',h1,h2⟩:=q6 (o+j) _ (hz j x hj);have:=h2.wR;subst this;rw[kX];exact h1) hlt hn (by omega) (by simpa[tH]using hlen)) (by rintro e w' ⟨rfl,_⟩ h;cases h)
 refine⟨_,Frame.enter P f ⟨_⟩ .normal,t1,rfl,λcs0 ry=>?_⟩;obtain⟨e,w',fr,⟨⟨he,hw'⟩,hd⟩,hcomes,hfr,hlv⟩:=hC cs0;subst he;obtain⟨w1,w2⟩:=hW.beyond ⟨λk hk=>hw'.block k hk,hw'.size,hw'.os,hw'.tape,hw'.output,hd⟩;exact⟨.ok (.string (tH xs sep)),none,h,β,_,.returned (.string (tH xs sep)),cs0,⟨rfl,rfl,rfl⟩,w1,w2,.ok (VR.free rfl),.none cs0,.inl ⟨f,_,fr,rfl,hcomes,hfr,hlv.2.2.1,hlv.1,hlv.2.1,hlv.2.2.2⟩⟩
theorem adj{f:FuncId}(hJ:Joins P f){fn:Func}(hfn:P.funcs[f]? =some fn){body:Code}(hb:fn.body=some body)(hname:fn.name≠ "runtime.NumGoroutine"){v:Value}{xs:List ByteArray}{sep:ByteArray}(hne:0<xs.length)(hn:xs.length<=140737488355328)
 (hlen:(tH xs sep).data.size<=140737488355328):aX P (.func f) [v,.string sep] [] [] [ae fG v xs] (λ_:Unit=>.string (tH xs sep)) (λ_=>[]) (λ_=>[]) (λ_=>True):=by
 intro B w s;rcases s.facts _ (cz.2 rfl)with⟨h,_⟩|⟨b,o,fl,c,cells,⟨e1,_,_⟩,h2,h3⟩
 ·rw[h]at hne;simp at hne
 subst e1;refine .real (CS _ (adi hJ hfn hb hname h2.2 (λj z hj=>?_) hne hn hlen) ?_)
 ·obtain⟨y,u1,_⟩:=h3 j z hj;have:=u1 0 (.string z) rfl;simpa[fG]using this
 ·rintro r pm h' ⟨rfl,rfl,rfl⟩;exact⟨rfl,w,(),rfl,⟨s.agree,s.le,s.fw,s.own,λf h=>by cases h⟩,rfl,trivial⟩
def pJ(P:Program)(n g0:Nat)(cs:List Value):Lay:=(List.range n).map λg=>(some ⟨g,0,0,vD P g,0⟩,if g=g0 then some cs else none)
theorem L6{n i g0:Nat}{cs:List Value}(h:i<n):(pJ P n g0 cs)[i]? =some (some ⟨i,0,0,vD P i,0⟩,if i=g0 then some cs else none):=by
 unfold pJ;rw[bU,BF h];rfl
theorem adk(n g0:Nat)(cs:List Value):(pJ P n g0 cs).length=n:=by unfold pJ;rw[bI,OD]
section
variable {H:Type} {enc:TypeId×Value->H} {W:World}
theorem L8(nX:P.follows .mixedOrders=true){f:FuncId}(fn:Func)(hfn:P.funcs[f]? =some fn)(hbody:fn.body.isNone=false)(hname:(fn.name== "runtime.NumGoroutine")=false){K:TypeId->Prop}
 (hK:∀t,K t->PlainT P K t) {ts:List TypeId} {vs:List Value} {ds:List (DataW H)} {ps:List MemPlace} (hT:∀t∈ts,K t) (hok:∀(j:Nat) t v,ts[j]? =some t->vs[j]? =some v->Value.okWide P W .any 0 t v)
 (hA:DataW.TrodAll enc P W 0 (λ_=>true) true ts vs ds ps) {name:String} {g0:Nat} {k:IntKind} {zs:List Int} (hg:P.globalNamed name=some g0) (hlt:g0<P.globals.size) (hsz:vD P g0=zs.length) (htab:Lib.TabIs P W name k zs)
 (adl:∀(w:Wd) (vs':List Value),P.globals.size<=w.h.next->(∀i,i<w.h.next->w.z i)->(l6 g0 (zs.map λz=>Value.int k z)).p w->vs'.length=vs.length->(∀(j:Nat) t v d,ts[j]? =some t->vs'[j]? =some v->ds[j]? =some d->uA P w t v d)->∃F,(∀f∈F,f.p w)/\gy P f vs' F (.bool true)):
 Calls P f ⟨vs⟩ W (λe w'=>e=.returned (.bool true)/\Below W.heap.size W w'):=by
 have tcs:=zs.map λz=>Value.int k z;obtain⟨M,vs',h1,h2,h3⟩:=QO hK hT hok hA (pJ P P.globals.size g0 (zs.map λz=>Value.int k z));have hlG:=adk (P:=P) P.globals.size g0 (zs.map λz=>Value.int k z);have hL0:(pJ P P.globals.size g0 (zs.map λz=>Value.int k z)++M)[g0]? =some (some ⟨g0,0,0,vD P g0,0⟩,some (zs.map λz=>Value.int k z)):=by
  rw[jF (by omega),L6 hlt,if_pos rfl]
 have hblk:∃t fz,W.heap[g0]? =some (.cells (zs.map λz=>Value.int k z).toArray t fz):=by
  unfold Lib.TabIs World.var? at htab;rw[hg,gJ]at htab;split at htab
  ·rename_i e;cases htab;exact⟨_,_,e⟩
  ·cases htab
 refine ack nX fn hfn hbody hname (L:=pJ P P.globals.size g0 (zs.map λz=>Value.int k z)++M) (args:=vs') (λg hg=>⟨⟨g,0,0,vD P g,0⟩,?_,rfl,rfl,rfl⟩) (λi g cs hi=>?_) h1 rfl ?_
 ·unfold iV;rw[jF (by omega),L6 hg];rfl
 ·by_cases hlt':i<P.globals.size
  ·rw[jF (by omega),L6 hlt']at hi;by_cases hi0:i=g0
   ·subst hi0;rw[if_pos rfl]at hi;cases hi;obtain⟨t,fz,hb⟩:=hblk;refine⟨⟨_,t,fz,hb,.inr (by rw[hsz];simp)⟩,rfl,?_,λj v hj=>⟨v,?_,VR.free ?_⟩⟩
    ·rw[jE];intro v hv;obtain⟨z,_,rfl⟩:=gD.1 hv;rfl
    ·simp only[World.cell?,bG];rw[hb];simpa using hj
    ·rw[bU]at hj;cases e:zs[j]? with
     |none=>rw[e]at hj;cases hj
     |some z=>rw[e]at hj;cases hj;rfl
   ·rw[if_neg hi0]at hi;cases hi
  ·exact h3 i g cs (by omega) hi
 have hlen:vs'.length=vs.length:=by
  have:∀{a b:List Value},aH (iV (pJ P P.globals.size g0 (zs.map λz=>Value.int k z)++M)) a b->a.length=b.length:=by
   intro a;induction a with
   |nil=>intro b h;cases h;rfl
   |cons x a ih=>intro b h;cases h with|cons q r=>simp[ih r]
  exact this h1
 obtain⟨F,hF,hfn'⟩:=adl (Gz (pJ P P.globals.size g0 (zs.map λz=>Value.int k z)++M)) vs' (by show _<=(pJ P P.globals.size g0 (zs.map λz=>Value.int k z)++M).length;rw[dN];omega) (λi hi=>hi)
  ⟨by show _<(pJ P P.globals.size g0 (zs.map λz=>Value.int k z)++M).length;rw[dN];omega,by show(jd _).get g0=_;rw[FQ,hL0];rfl⟩ hlen (λj t v d ht hv hd=>by
  obtain⟨v0,e,mK⟩:=abx (ts:=ts) h1 j v hv;exact abw rfl (h2 j t v d ht hv hd) mK (hok j t v0 ht e))
 have st:St [] (Gz (pJ P P.globals.size g0 (zs.map λz=>Value.int k z)++M)) [] F (Gz (pJ P P.globals.size g0 (zs.map λz=>Value.int k z)++M)):=⟨⟨aG _,λ_ _ _=>rfl,λ_ _=>rfl⟩,Wd.Le.refl _,λi _ hz=>.inl hz,⟨[],rfl,Js,λi hi=>by cases hi⟩,hF⟩
 refine .wX _ (hfn' [] (Gz (pJ P P.globals.size g0 (zs.map λz=>Value.int k z)++M)) st) ?_;rintro r pm h' ⟨rfl,w',y,rfl,s,rfl,_⟩;exact⟨rfl,rfl,⟨s.agree.next,λi hi=>s.agree.get i hi (by simp),λhl=>s.agree.low hl (by simp)⟩⟩
end
end Go.Ideal
namespace Go.Ideal
variable {P:Program} {B:List Nat} {w0:Wd} {kl kl' bE:List OA} {F:List aD} {K:KO} {ds:List Tmp} {rest:List aW} {n:Nat} {l:List (Nat×Value)} {D:List Deferred} {pm:Option FrameMode} {ro:Option Nat} {d:Nat} {g:Option (Tmp×Bool)}
def sk{α:Type}(E:Enc α)(v:Value)(aa:List (α×E.Y)):OA:=
 ⟨λw S=>(aa=[]/\v=.slice none 0 0/\S=[])\/∃b f c r,v=.slice (some ⟨b,0,some f⟩) aa.length c/\(f=0\/f=E.n)/\S=[b]/\w.h.get b=some (.cells (aP E aa++r))/\aa.length*E.n+r.length=c*E.n/\aa.length<=c/\
  ∀p∈aa,∀q∈E.fs p.1 p.2,q.p w,
  λa h hp=>by
   rcases hp with hp|⟨b,f,c,r,h1,h2,h3,h4,h5,h6,h7⟩
   ·exact .inl hp
   ·exact .inr ⟨b,f,c,r,h1,h2,h3,by rw[h b (by rw[h3];exact cz.2 rfl)];exact h4,h5,h6,λp hp q hq=>q.mono a (h7 p hp q hq)⟩⟩
section
variable {α:Type} {v:Value}
theorem L9(E:Enc α){Q:IH->Prop}(h:R Q B w0 (sk E (.slice none 0 0) []::kl) F):R Q B w0 kl F:=λw s=>by
 obtain⟨S,h1,h2,h3⟩:=s.own;exact h w ⟨s.agree,s.le,s.fw,⟨S,⟨[],S,.inl ⟨rfl,rfl,rfl⟩,h1,rfl⟩,h2,h3⟩,s.facts⟩
theorem mV(E:Enc α){aa:List (α×E.Y)}{Q:IH->Prop}(h:∀a c,v=.slice a aa.length c->R Q B w0 kl F)(hk:ai (sk E v aa) kl kl':=by exact gQ):R Q B w0 kl F:=λw s=>by
 obtain⟨S,⟨S1,S2,q1,q2,e⟩,h2,h3⟩:=(s.fC hk).own;rcases q1 with⟨rfl,h1,_⟩|⟨b,f,c,r,h4,_⟩
 ·exact h _ _ h1 w s
 ·exact h _ _ h4 w s
theorem Dp(E:Enc α){aa:List (α×E.Y)}{x:Operand}(next:R (λh=>aA P ds rest (act n ((d,.int .i64 (aa.length:Int))::l) D pm ro) h K) B w0 kl F)(hx:ev l x=v:=by conv=>lhs;whnf)(hk:ai (sk E v aa) kl kl':=by exact gQ)(hn:Nat.blt d n=true:=by rfl)(hg:bH l g=true:=by rfl):
 R (λh=>aA P ds (⟨⟨some d,g,.jw x⟩,[]⟩::rest) (act n l D pm ro) h K) B w0 kl F:=
 mV E (v:=v) (aa:=aa) (λa c e=>(bC hn hg (De (hx.trans e))).h next) hk
theorem uI(E:Enc α){aa:List (α×E.Y)}{Q:IH->Prop}(hne:0<aa.length)(h:∀b f c r,(f=0\/f=E.n)->aa.length*E.n+r.length=c*E.n->aa.length<=c->v=.slice (some ⟨b,0,some f⟩) aa.length c->R Q B w0 (pt b (.cells (aP E aa++r))::kl') (og E aa::F))(hk:ai (sk E v aa) kl kl':=by exact gQ):
 R Q B w0 kl F:=λw s=>by
 have s1:=s.fC hk;obtain⟨S,⟨S1,S2,q1,q2,e⟩,h2,h3⟩:=s1.own;rcases q1 with⟨h0,_⟩|⟨b,f,c,r,e1,e2,e3,e4,e5,e6,e7⟩
 ·rw[h0]at hne;simp at hne
 ·refine h b f c r e2 e5 e6 e1 w ⟨s1.agree,s1.le,s1.fw,⟨S,⟨S1,S2,⟨e3,e4⟩,q2,e⟩,h2,h3⟩,λq hq=>?_⟩;rcases bD.1 hq with rfl|hq
  ·exact e7
  ·exact s1.facts q hq
theorem A7(E:Enc α){aa:List (α×E.Y)}{Q:IH->Prop}{b f c m:Nat}{r:List Value}(hm:m=aa.length)(hf:f=0\/f=E.n)(hr:aa.length*E.n+r.length=c*E.n)(hc:aa.length<=c)(h:R Q B w0 (sk E (.slice (some ⟨b,0,some f⟩) m c) aa::kl') F)
 (hk:ai (pt b (.cells (aP E aa++r))) kl kl':=by exact gQ) (ha:og E aa∈F:=by exact nA):R Q B w0 kl F:=λw s=>by
 have hall:=s.facts _ ha;refine h w ((s.fC hk).pE (A:=pt b (.cells (aP E aa++r))) λS hp=>.inr ⟨b,f,c,r,by rw[hm],hf,hp.1,hp.2,hr,hc,hall⟩)
theorem Dq(E:Enc α){aa:List (α×E.Y)}{k:Nat}{p:α×E.Y}{Q:IH->Prop}{F2:List aD}(hp:aa[k]? =some p)(h:R Q B w0 kl F2)(hf:og E aa∈F:=by exact nA)(ha:cO (E.fs p.1 p.2) F F2:=by repeat (first|exact cO.nil|apply cO.cons|exact cO.self|exact cO.app)):R Q B w0 kl F:=λw s=>
 h w ⟨s.agree,s.le,s.fw,s.own,λq hq=>by
  rw[<- ha.eq]at hq;rcases gF.1 hq with hq|hq
  ·exact s.facts _ hf p (dA hp) q hq
  ·exact s.facts q hq⟩
theorem mW{E:Enc α}{aa:List (α×E.Y)}{k j o:Nat}{p:α×E.Y}{u:Value}{r:List Value}(hp:aa[k]? =some p)(hu:(E.pat p.1 p.2)[j]? =some u)(ho:o=k*E.n+j):(aP E aa++r)[o]? =some u:=by
 subst ho;have h:=yP hp hu;rw[jF (dU.1 h).1];exact h
theorem Ma(E:Enc α){x hi:Operand}{aa:List (α×E.Y)}{size:Nat}(k:Nat)(hkl:k<=aa.length)(next:∀v',R (λh=>aA P ds rest (act n ((d,v')::l) D pm ro) h K) B w0 (sk E v' (aa.take k)::kl') F)
 (hx:ev l x=v:=by conv=>lhs;whnf) (hh:ev l hi=.int .i64 (k:Int):=by rfl) (hk:ai (sk E v aa) kl kl':=by exact gQ) (hz:E.n=size:=by rfl) (h0:0<size:=by decide) (hn:Nat.blt d n=true:=by rfl) (hg:bH l g=true:=by rfl):
 R (λh=>aA P ds (⟨⟨some d,g,.nQ size x none (some hi) none⟩,[]⟩::rest) (act n l D pm ro) h K) B w0 kl F:=λw s=>by
 subst hz;have s1:=s.fC hk;obtain⟨S,⟨S1,S2,q1,q2,e⟩,h2,h3⟩:=s1.own;rcases q1 with⟨h0',e1,e2⟩|⟨b,f,c,r,e1,e2,e3,e4,e5,e6,e7⟩
 ·subst h0';have hk0:k=0:=by simpa using hkl
  subst hk0;refine iQ hn hg (RP (hx.trans e1) hh w.h) (next _ w ⟨s1.agree,s1.le,s1.fw,⟨S,⟨S1,S2,.inl ⟨rfl,rfl,e2⟩,q2,e⟩,h2,h3⟩,s1.facts⟩)
 ·have hrun:=Dn (P:=P) (x:=x) (uE:=none) (uF:=some hi) (lo:=0) (hi:=k) (hx.trans e1) e2 h0 (.inl ⟨rfl,rfl⟩) (.inr ⟨hi,rfl,hh⟩) (cu _) (by omega) w.h;rw[oQ,qb,qb]at hrun;refine iQ hn hg hrun (next _ w ⟨s1.agree,s1.le,s1.fw,⟨S,⟨S1,S2,.inr ⟨b,f,c,aP E (aa.drop k)++r,?_,e2,e3,?_,?_,?_,λp hp=>e7 p (uS hp)⟩,q2,e⟩,h2,h3⟩,s1.facts⟩)
  ·rw[cB,wI hkl]
  ·rw[e4,<- ig,<- yR,yl]
  ·rw[dN,rH,cB,iZ,wI hkl,<- e5,<- kX,<- lN];congr 2;omega
  ·rw[cB];omega
theorem kv{re:List eZ}(E:Enc α){e:TypeId}{size bytes b':Nat}{s x:Operand}{aa:List (α×E.Y)}(a:α)(y:E.Y){cs:List Value}{k1 k2:List OA}
 (hm:(aa.length+1)*bytes<=1073741824/\(aa.length+1)*size<=1073741824/\aa.length+1<=1073741824)
 (next:∀v',R (λh=>aA P ds rest (act n ((d,v')::l) D pm ro) h K) B w0 (sk E v' (aa++[(a,y)])::k2) F)
 (hn:Nat.blt d n=true:=by rfl) (hg:bH l g=true:=by rfl)
 (hs:ev l s=v:=by conv=>lhs;whnf) (hx:ev l x=.slice (some ⟨b',0,some 0⟩) 1 1:=by rfl) (hk:ai (sk E v aa) kl k1:=by exact gQ) (hc:ai (pt b' (.cells cs)) k1 k2:=by exact gQ) (hp:cs=E.pat a y:=by rfl) (hF:Sub (E.fs a y) F:=by exact nZ) (hz:E.n=size:=by rfl)
 (hsm:∀v',Same P re (ev ((d,v')::l)) ((d,v')::l) B w0 (sk E v' (aa++[(a,y)])::k2) F:=by intro _;repeat (first|exact tu|refine rF rfl (by repeat (first|with_reducible exact ai.here|with_reducible apply ai.there|with_reducible apply ai.app)) (by first|exact rfl|(conv=>lhs;whnf)) rfl ?_|refine Aq rfl (by(repeat (first|with_reducible exact aR .. |with_reducible apply dw));first|done|fail) (by first|exact rfl|(conv=>lhs;whnf)) rfl ?_|refine Ar rfl (by(repeat (first|with_reducible exact aR .. |with_reducible apply dw));first|done|fail) (by first|exact rfl|(conv=>lhs;whnf)) rfl ?_|refine Au rfl (by repeat (first|with_reducible exact ai.here|with_reducible apply ai.there|with_reducible apply ai.app)) (by first|exact rfl|(conv=>lhs;whnf)) rfl ?_|refine Av rfl (by(repeat (first|with_reducible exact aR .. |with_reducible apply dw));first|done|fail) (by first|exact rfl|(conv=>lhs;whnf)) rfl ?_|refine Aw rfl (by(repeat (first|with_reducible exact aR .. |with_reducible apply dw));first|done|fail) (by first|exact rfl|(conv=>lhs;whnf)) rfl ?_)):
 R (λh=>aA P ds (⟨⟨some d,g,.append e size bytes s x⟩,re⟩::rest) (act n l D pm ro) h K) B w0 kl F:=λw st=>by
 subst hp hz;have hlen:=E.len a y;have st2:St B w0 (sk E v aa::pt b' (.cells (E.pat a y))::k2) F w:=st.jJ (.cons hk (.cons hc .nil));have hat:At w.h b' (.cells (E.pat a y)):=st2.at_ (.there .here);have kL:St B w0 (sk E v aa::k2) F w:=(st2.fC (.there .here)).tail;have hfs:∀f∈E.fs a y,f.p w:=λf hf=>st.facts f (hF.mem f hf);have hread:w.h.dV b' 0 (1*E.n)=some (E.pat a y):=by
  rw[hat.c.dV,jO,jP,zx,sj,if_pos (by omega),<- hlen,gV]
 have hx1:kY (ev l x)=some (0+1):=by rw[hx];rfl
 have hx2:j5 E.n (0+1) (ev l x) w.h=some (E.pat a y):=by rw[hx];exact hread
 have hone:aP E [(a,y)]=E.pat a y:=by simp[aP]
 have put:∀(w':Wd) (c:Nat) (f cc:Nat) (r:List Value),(f=0\/f=E.n)->(∀p∈aa,∀q∈E.fs p.1 p.2,q.p w')->(∀q∈E.fs a y,q.p w')->(aa.length+1)*E.n+r.length=cc*E.n->aa.length+1<=cc->
  ∀S,(pt c (.cells (aP E aa++(E.pat a y++r)))).p w' S->(sk E (.slice (some ⟨c,0,some f⟩) (aa.length+1) cc) (aa++[(a,y)])).p w' S:=by
  intro w' c f cc r h1 h2 h3 h4 h5 S hp;refine .inr ⟨c,f,cc,r,by rw[dN];rfl,h1,hp.1,?_,by rw[dN];exact h4,by rw[dN];exact h5,λp hp=>?_⟩
  ·rw[yR,hone,ig];exact hp.2
  ·rcases gF.1 hp with hp|hp
   ·exact h2 p hp
   ·rw[cz.1 hp];exact h3
 obtain⟨S,⟨S1,S2,q,q2,e1⟩,hnd,hown⟩:=kL.own;rcases q with⟨rfl,rfl,rfl⟩|⟨b,f,c,r,rfl,hf,rfl,hb,hrl,hcl,hel⟩
 ·have key:∀h',Agree w.h h'->At h' w.h.next (.cells (E.pat a y))->h'.next=w.h.next+1->∃w':Wd,w'.h=h'/\St B w0 (sk E (.slice (some ⟨w.h.next,0,some E.n⟩) 1 1) ([]++[(a,y)])::k2) F w':=λh' ag mP hnx=>by
   obtain⟨w',e1,dO⟩:=kL.tail.fresh ag mP hnx;refine⟨w',e1,dO.pE λS hp=>?_⟩;exact put w' _ E.n 1 [] (.inr rfl) (λp hp=>by cases hp) (λf hf=>dO.facts f (hF.mem f hf)) (by simp) (by simp) S (by simpa[aP]using hp)
  refine RN (c:=0) hn hg hs hx1 hx2 (by simpa using hm) (λh' ag mP hnx=>?_) λh' ag mP hnx=>?_
  ·obtain⟨w',rfl,dO⟩:=key h' ag mP hnx;exact hsm _ w' dO
  ·obtain⟨w',rfl,dO⟩:=key h' ag mP hnx;exact next _ w' dO
 ·have mQ:St B w0 (pt b (.cells (aP E aa++r))::k2) F w:=⟨kL.agree,kL.le,kL.fw,⟨S,⟨_,S2,⟨rfl,hb⟩,q2,e1⟩,hnd,hown⟩,kL.facts⟩
  have Al:At w.h b (.cells (aP E aa++r)):=mQ.at_ .here;have hfl:=rH aa;by_cases hlt:aa.length<c
  · -- in place
    have hle:∀{a b:Nat},a<=b->Nat.ble a b=true:=λh=>by rw[nM];exact h
    have hroom:E.n<=r.length:=by
     have h1:(aa.length+1)*E.n<=c*E.n:=Nat.mul_le_mul_right _ hlt;rw[lN,zx]at h1;omega
    have hlv:gW (aP E aa++r) (aP E aa).length (E.pat a y)=some (aP E aa++(E.pat a y++r.drop E.n)):=by
     rw[G9 (by omega),hlen]
    have xA:St B w0 (sk E (.slice (some ⟨b,0,some f⟩) (aa.length+1) c) (aa++[(a,y)])::k2) F ⟨w.h.set b (.cells (aP E aa++(E.pat a y++r.drop E.n))),w.z,λi hi=>w.iR i hi⟩:=by
     have Hu:=mQ.write (o':=.cells (aP E aa++(E.pat a y++r.drop E.n)));have pG:w.Le ⟨w.h.set b (.cells (aP E aa++(E.pat a y++r.drop E.n))),w.z,λi hi=>w.iR i hi⟩:=by
      refine⟨aG _,λ_ h=>h,λi hi=>?_⟩;have:i≠b:=λe=>(hown b (by rw[e1];simp)).2.2 (e▸hi);show(w.h.set b _).get i=_;rw[IH.kD,if_neg this]
     refine Hu.pE λS hp=>put _ b f c (r.drop E.n) hf (λp hp q hq=>q.mono pG (hel p hp q hq)) (λq hq=>q.mono pG (hfs q hq)) ?_ hlt S hp;rw[iZ,lN,zx];omega
    refine AX hn hg (v:=.slice (some ⟨b,0,some f⟩) (aa.length+1) c) (h':=w.h.set b (.cells (aP E aa++(E.pat a y++r.drop E.n)))) ?_ (hsm _ ⟨w.h.set b _,w.z,λi hi=>w.iR i hi⟩ xA) (next _ ⟨w.h.set b _,w.z,λi hi=>w.iR i hi⟩ xA)
    ·have e2:w.h.storeAt b (Nat.add 0 (Nat.mul aa.length E.n)) (E.pat a y)=some (w.h.set b (.cells (aP E aa++(E.pat a y++r.drop E.n)))):=by
      unfold IH.storeAt;simp only[hb];rw[show Nat.add 0 (Nat.mul aa.length E.n)=(aP E aa).length by rw[hfl];exact bG _,hlv]
     have adm:kY (ev l x)=some 1:=hx1;have adn:um E.n 1 (ev l x) w.h=some (E.pat a y):=hx2;simp only[au.run,adm,adn,hs,nR];show cond (Nat.ble (Nat.mul (aa.length+1) bytes) small&&Nat.ble (Nat.mul (aa.length+1) E.n) small&&Nat.ble (aa.length+1) small) (cond (Nat.ble (aa.length+1) c) (match w.h.storeAt b (Nat.add 0 (Nat.mul aa.length E.n)) (E.pat a y)with|some h=>some (Value.slice (some ⟨b,0,some f⟩) (aa.length+1) c,h)|none=>none) _) none=_;rw[hle (show Nat.mul (aa.length+1) bytes<=small from hm.1),hle (show Nat.mul (aa.length+1) E.n<=small from hm.2.1),hle (show aa.length+1<=small from hm.2.2),hle hlt,e2];rfl
  ·have hc:c=aa.length:=by omega
   subst hc;have hr0:r=[]:=qM.1 (by omega);subst hr0;rw[fU]at hb Al mQ;have key:∀h',xe w.h h' b (.cells (aP E aa++E.pat a y))->∃w':Wd,w'.h=h'/\St B w0 (sk E (.slice (some ⟨w.h.next,0,some E.n⟩) (aa.length+1) (aa.length+1)) (aa++[(a,y)])::k2) F w':=λh' mv=>by
    obtain⟨w',e1,dO,pG⟩:=mQ.move mv;refine⟨w',e1,dO.pE λS hp=>?_⟩;exact put w' _ E.n (aa.length+1) [] (.inr rfl) (λp hp q hq=>q.mono pG (hel p hp q hq)) (λf hf=>dO.facts f (hF.mem f hf)) (by simp) (aG _) S (by rw[fU];exact hp)
   refine LM (old:=aP E aa) (xs:=E.pat a y) hn hg hs hx1 hx2 ?_ (hf.elim (λe=>.inl (by rw[e])) λe=>.inr (by rw[e])) hm (λh' mv=>?_) λh' mv=>?_
   ·rw[Al.c.dV,jO,jP,sj,if_pos (by omega),<- hfl,gV]
   ·obtain⟨w',rfl,dO⟩:=key h' mv;exact hsm _ w' dO
   ·obtain⟨w',rfl,dO⟩:=key h' mv;exact next _ w' dO
end
theorem Mc{α:Type}(E:Enc α){aa:List (α×E.Y)}{Q:IH->Prop}{b f c m:Nat}{r:List Value}(hm:m<=aa.length)(hf:f=0\/f=E.n)(hr:aa.length*E.n+r.length=c*E.n)(hc:aa.length<=c)(h:R Q B w0 (sk E (.slice (some ⟨b,0,some f⟩) m c) (aa.take m)::kl') F)
 (hk:ai (pt b (.cells (aP E aa++r))) kl kl':=by exact gQ) (ha:og E aa∈F:=by exact nA):R Q B w0 kl F:=λw s=>by
 have hall:=s.facts _ ha;refine h w ((s.fC hk).pE (A:=pt b (.cells (aP E aa++r))) λS hp=>.inr ⟨b,f,c,aP E (aa.drop m)++r,by rw[cB,wI hm],hf,hp.1,?_,?_,?_,λp hp=>hall p (uS hp)⟩)
 ·rw[<- ig,<- yR,yl];exact hp.2
 ·rw[dN,rH,cB,iZ,wI hm,<- hr,<- kX,<- lN];congr 2;omega
 ·rw[cB];omega
theorem vO{α:Type}(E:Enc α){v:Value}{aa:List (α×E.Y)}:xm (sk E v aa) [ae E v (aa.map (·.1))]:=λw w' S hp hle hh hz f hf=>by
 rw[cz.1 hf];rcases hp with⟨rfl,rfl,_⟩|⟨b,f,c,r,e1,e2,e3,e4,e5,e6,e7⟩
 ·exact .inl ⟨rfl,none,0,rfl,trivial⟩
 ·refine .inr ⟨b,0,f,c,aP E aa++r,⟨by rw[bI];exact e1,by rw[bI];exact e6,e2⟩,⟨hz b (by rw[e3];exact cz.2 rfl),.inl (by rw[hh];exact e4)⟩,λk x hx=>?_⟩;rw[bU]at hx;cases e:aa[k]? with
  |none=>rw[e]at hx;cases hx
  |some p=>
   rw[e]at hx;cases hx;exact⟨p.2,λj u hj=>mW e hj (by omega),λq hq=>q.mono hle (e7 p (dA e) q hq)⟩
theorem oh{re:List eZ}{x:Operand}{b o:Nat}{cs:List Value}{v:Value}{l':List (Nat×Value)}(hx:ev l' x=.pointer (some ⟨b,o,none⟩))(hk:ai (pt b (.cells cs)) kl kl')(hv:cs[o]? =some v)(hd:lk l' d=v)
 (t:Same P re (ev l') l' B w0 kl F):Same P (⟨some d,g,.aM x⟩::re) (ev l') l' B w0 kl F:=
 rF hx hk (by rw[nT];exact hv) hd t
theorem Sl(hg:rz l g=true):(act n l D pm ro).wants g=some false:=by
 cases g with
 |none=>cases hg
 |some p=>
  obtain⟨t,w⟩:=p;rw[Ag];simp only[rz]at hg;split at hg
  ·rename_i b hb;rw[hb];cases w<;>cases b<;>simp_all
  ·rename_i b hb;rw[hb]
  ·cases hg
def aq{α:Type}(E:Enc α)(v:Value)(aa:List (α×E.Y)):OA:=
 ⟨λw S=>(aa=[]/\v=.slice none 0 0/\S=[])\/∃b f,v=.slice (some ⟨b,0,some f⟩) aa.length aa.length/\(f=0\/f=E.n)/\S=[b]/\w.h.get b=some (.cells (aP E aa))/\∀p∈aa,∀q∈E.fs p.1 p.2,q.p w,
  λa h hp=>by
   rcases hp with hp|⟨b,f,h1,h2,h3,h4,h7⟩
   ·exact .inl hp
   ·exact .inr ⟨b,f,h1,h2,h3,by rw[h b (by rw[h3];exact cz.2 rfl)];exact h4,λp hp q hq=>q.mono a (h7 p hp q hq)⟩⟩
section
variable {α:Type} {v:Value}
theorem ado(E:Enc α){Q:IH->Prop}(h:R Q B w0 (aq E (.slice none 0 0) []::kl) F):R Q B w0 kl F:=λw s=>by
 obtain⟨S,h1,h2,h3⟩:=s.own;exact h w ⟨s.agree,s.le,s.fw,⟨S,⟨[],S,.inl ⟨rfl,rfl,rfl⟩,h1,rfl⟩,h2,h3⟩,s.facts⟩
theorem yS(E:Enc α){b:Nat}{Q:IH->Prop}(h:R Q B w0 (aq E (.slice (some ⟨b,0,some 0⟩) 0 0) []::kl') F)(hk:ai (pt b (.cells [])) kl kl':=by exact gQ):R Q B w0 kl F:=λw s=>
 h w ((s.fC hk).Ak (A:=pt b (.cells [])) λw S hp=>.inr ⟨b,0,rfl,.inl rfl,hp.1,hp.2,λp hp=>by cases hp⟩)
theorem xB(E:Enc α){aa:List (α×E.Y)}{Q:IH->Prop}(h:R Q B w0 (sk E v aa::kl') F)(hk:ai (aq E v aa) kl kl':=by exact gQ):R Q B w0 kl F:=λw s=>
 h w ((s.fC hk).Ak (A:=aq E v aa) λw S hp=>by
  rcases hp with hp|⟨b,f,h1,h2,h3,h4,h7⟩
  ·exact .inl hp
  ·exact .inr ⟨b,f,aa.length,[],h1,h2,h3,by rw[fU];exact h4,by simp,aG _,h7⟩)
theorem xC{re:List eZ}(E:Enc α){e:TypeId}{size bytes:Nat}{s x:Operand}{vx:Value}{aa:List (α×E.Y)}(bZ:List (α×E.Y))(hm:(aa.length+bZ.length)*bytes<=1073741824/\(aa.length+bZ.length)*size<=1073741824/\aa.length+bZ.length<=1073741824)
 (next:∀v',R (λh=>aA P ds rest (act n ((d,v')::l) D pm ro) h K) B w0 (aq E v' (aa++bZ)::kl') F)
 (hs:ev l s=v:=by conv=>lhs;whnf) (hx:ev l x=vx:=by conv=>lhs;whnf) (hf:qo E vx bZ∈F:=by exact nA) (hz:E.n=size:=by rfl) (hk:ai (aq E v aa) kl kl':=by exact gQ) (hn:Nat.blt d n=true:=by rfl) (hg:bH l g=true:=by rfl)
 (hsm:∀v',Same P re (ev ((d,v')::l)) ((d,v')::l) B w0 (aq E v' (aa++bZ)::kl') F:=by intro _;repeat (first|exact tu|refine rF rfl (by repeat (first|with_reducible exact ai.here|with_reducible apply ai.there|with_reducible apply ai.app)) (by first|exact rfl|(conv=>lhs;whnf)) rfl ?_|refine Aq rfl (by(repeat (first|with_reducible exact aR .. |with_reducible apply dw));first|done|fail) (by first|exact rfl|(conv=>lhs;whnf)) rfl ?_|refine Ar rfl (by(repeat (first|with_reducible exact aR .. |with_reducible apply dw));first|done|fail) (by first|exact rfl|(conv=>lhs;whnf)) rfl ?_|refine Au rfl (by repeat (first|with_reducible exact ai.here|with_reducible apply ai.there|with_reducible apply ai.app)) (by first|exact rfl|(conv=>lhs;whnf)) rfl ?_|refine Av rfl (by(repeat (first|with_reducible exact aR .. |with_reducible apply dw));first|done|fail) (by first|exact rfl|(conv=>lhs;whnf)) rfl ?_|refine Aw rfl (by(repeat (first|with_reducible exact aR .. |with_reducible apply dw));first|done|fail) (by first|exact rfl|(conv=>lhs;whnf)) rfl ?_)):
 R (λh=>aA P ds (⟨⟨some d,g,.append e size bytes s x⟩,re⟩::rest) (act n l D pm ro) h K) B w0 kl F:=λw st=>by
 subst hz;have st1:=st.fC hk;have hel:=st.facts _ hf;have hall:=G5 hel;obtain⟨r1,r2⟩:=He hel;obtain⟨S,⟨S1,S2,q,q2,e1⟩,hnd,hown⟩:=st1.own;rcases q with⟨rfl,rfl,rfl⟩|⟨b,f,rfl,hf0,rfl,hb,hal⟩
 ·by_cases hne:bZ=[]
  ·subst hne;obtain⟨a,c,Sm⟩:∃a c,vx=.slice a 0 c:=by
    rcases hel with⟨_,a,c,h,_⟩|⟨i,o,f,c,cells,⟨h,_⟩,_⟩
    ·exact⟨a,c,h⟩
    ·exact⟨_,c,h⟩
   have xA:St B w0 (aq E (.slice none 0 0) ([]++[])::kl') F w:=⟨st1.agree,st1.le,st1.fw,⟨S,⟨[],S2,.inl ⟨rfl,rfl,rfl⟩,q2,e1⟩,hnd,hown⟩,st1.facts⟩
   exact AX hn hg (acj hs (hx.trans Sm) w.h) (hsm _ w xA) (next _ w xA)
  ·obtain⟨k,hk'⟩:∃k,bZ.length=k+1:=⟨bZ.length - 1,by have:=uh.2 hne;omega⟩
   rw[hk']at r1 r2;have key:∀h',Agree w.h h'->At h' w.h.next (.cells (aP E bZ))->h'.next=w.h.next+1->∃w':Wd,w'.h=h'/\St B w0 (aq E (.slice (some ⟨w.h.next,0,some E.n⟩) (k+1) (k+1)) ([]++bZ)::kl') F w':=λh' ag mP hnx=>by
    obtain⟨w',e1,dO⟩:=st1.tail.fresh ag mP hnx;refine⟨w',e1,dO.pE λS hp=>.inr ⟨w.h.next,E.n,by rw[dI,hk'],.inr rfl,hp.1,by rw[dI];exact hp.2,λp hp q hq=>?_⟩⟩;rw[dI]at hp;exact G5 (dO.facts _ hf) p hp q hq
   refine RN (c:=0) (k:=k) hn hg hs (by rw[hx];exact r1) (by rw[hx];exact r2) (by rw[hk']at hm;simpa using hm) (λh' ag mP hnx=>?_) λh' ag mP hnx=>?_
   ·obtain⟨w',rfl,dO⟩:=key h' ag mP hnx;exact hsm _ w' dO
   ·obtain⟨w',rfl,dO⟩:=key h' ag mP hnx;exact next _ w' dO
 ·have mQ:St B w0 (pt b (.cells (aP E aa))::kl') F w:=⟨st1.agree,st1.le,st1.fw,⟨S,⟨_,S2,⟨rfl,hb⟩,q2,e1⟩,hnd,hown⟩,st1.facts⟩
  have Hu:St B w0 (pt b (.cells (aP E aa))::kl') (og E aa::F) w:=⟨mQ.agree,mQ.le,mQ.fw,mQ.own,λq hq=>by
   rcases bD.1 hq with rfl|hq
   ·exact hal
   ·exact mQ.facts q hq⟩
  have key:∀(b' f' m':Nat),m'=(aa++bZ).length->(f'=0\/f'=E.n)->∀w2,St B w0 (pt b' (.cells (aP E (aa++bZ)))::kl') (og E aa::F) w2->St B w0 (aq E (.slice (some ⟨b',0,some f'⟩) m' m') (aa++bZ)::kl') F w2:=λb' f' m' hm' hf' w2 s2=>by
   have hA1:=s2.facts (og E aa) (aR ..);have hA2:=G5 (s2.facts _ (dw _ hf));have s3:St B w0 (pt b' (.cells (aP E (aa++bZ)))::kl') F w2:=s2.sub (jB.sub (.cons .here));exact s3.pE λS hp=>.inr ⟨b',f',by rw[hm'],hf',hp.1,hp.2,λp hp q hq=>(gF.1 hp).elim (λh=>hA1 p h q hq) (λh=>hA2 p h q hq)⟩
  by_cases hne:bZ=[]
  ·subst hne;obtain⟨a,c,Sm⟩:∃a c,vx=.slice a 0 c:=by
    rcases hel with⟨_,a,c,h,_⟩|⟨i,o,f,c,cells,⟨h,_⟩,_⟩
    ·exact⟨a,c,h⟩
    ·exact⟨_,c,h⟩
   have st7:St B w0 (pt b (.cells (aP E (aa++[])))::kl') (og E aa::F) ⟨w.h.set b (.cells (aP E aa)),w.z,λi hi=>w.iR i hi⟩:=by rw[fU];exact Hu.write
   have xA:=key b f aa.length (by rw[fU]) hf0 _ st7;have hle:∀{a b:Nat},a<=b->Nat.ble a b=true:=λh=>by rw[nM];exact h
   rw[rZ,jG]at hm;refine AX hn hg (v:=.slice (some ⟨b,0,some f⟩) aa.length aa.length) (h':=w.h.set b (.cells (aP E aa))) ?_ (hsm _ _ xA) (next _ _ xA);have hfl:=rH aa;have e1:w.h.storeAt b (Nat.add 0 (Nat.mul aa.length E.n)) []=some (w.h.set b (.cells (aP E aa))):=by
    have e2:gW (aP E aa) (Nat.add 0 (Nat.mul aa.length E.n)) []=some (aP E aa):=by
     rw[show Nat.add 0 (Nat.mul aa.length E.n)=(aP E aa).length by rw[hfl];exact bG _];exact Sg _
    unfold IH.storeAt;simp only[hb,e2]
   simp only[au.run,hx,hs,r1,r2,nR];rw[show Nat.add aa.length (List.length ([]:List (α×E.Y)))=aa.length from rfl,show aP E ([]:List (α×E.Y))=[]from rfl];rw[hle (show Nat.mul aa.length bytes<=small from hm.1),hle (show Nat.mul aa.length E.n<=small from hm.2.1),hle (show aa.length<=small from hm.2.2),hle (aG aa.length)];simp only[BJ,cond_true,e1]
  ·obtain⟨k,hk'⟩:∃k,bZ.length=k+1:=⟨bZ.length - 1,by have:=uh.2 hne;omega⟩
   have hat:At w.h b (.cells (aP E aa)):=mQ.at_ .here;have hfl:=rH aa;have Sn:∀h',xe w.h h' b (.cells (aP E aa++aP E bZ))->∃w':Wd,w'.h=h'/\St B w0 (aq E (.slice (some ⟨w.h.next,0,some E.n⟩) (aa.length+(k+1)) (aa.length+(k+1))) (aa++bZ)::kl') F w':=λh' mv=>by
    obtain⟨w',e1,dO,pG⟩:=Hu.move mv;rw[<- yR]at dO;exact⟨w',e1,key _ _ _ (by rw[dN,hk']) (.inr rfl) w' dO⟩
   rw[hk']at r1 r2 hm;refine LM (b:=b) (o:=0) (m:=aa.length) (k:=k) (f:=some f) (old:=aP E aa) (xs:=aP E bZ) hn hg hs (by rw[hx];exact r1) (by rw[hx];exact r2) ?_ (by rcases hf0 with h|h<;>rw[h];exact .inl rfl;exact .inr rfl) hm (λh' mv=>?_) λh' mv=>?_
   ·rw[hat.c.dV,jO,sj,jP,if_pos (by omega),nO (by omega)]
   ·obtain⟨w',rfl,dO⟩:=Sn h' mv;exact hsm _ w' dO
   ·obtain⟨w',rfl,dO⟩:=Sn h' mv;exact next _ w' dO
end
theorem adq{x y:Operand}{b o m:Nat}{cs vs c:List Value}{v:Value}{re:List eZ}(hg:bH l g=true)(hx:ev l x=.pointer (some ⟨b,o,none⟩))(hw:ev l y=v)(hy:cellsOf v=some vs)(hm:Nat.beq (gX vs) m=true)
 (hk:ai (pt b (.cells cs)) kl kl') (hv:gW cs o vs=some c) (hs:∀r∈re,rz l r.guard=true):
 bY (R (λh=>aA P ds (⟨⟨none,g,.store m x y⟩,re⟩::rest) (act n l D pm ro) h K) B w0 kl F) (R (λh=>aA P ds rest (act n l D pm ro) h K) B w0 (pt b (.cells c)::kl') F):=
 ⟨λr w s=>by
  subst hw;have s':=(s.fC hk).write (o':=.cells c);refine .iP (rA hg) cK (w.h.set b (.cells c)) (by rw[kg];simp only[au.run,hx,hy,hm];simp only[IH.storeAt,(s.at_ hk).2,hv];rfl) (λq hq hne=>?_) (r _ s');exact absurd (Sl (hs q hq)) hne⟩
theorem adr{op:au}{v:Value}{re:List eZ}(hn:Nat.blt d n=true)(hg:bH l g=true)(hp:Pu P (ev l) op v)(hs:∀r∈re,rz ((d,v)::l) r.guard=true):
 bY (R (λh=>aA P ds (⟨⟨some d,g,op⟩,re⟩::rest) (act n l D pm ro) h K) B w0 kl F) (R (λh=>aA P ds rest (act n ((d,v)::l) D pm ro) h K) B w0 kl F):=
 ⟨λr w s=>by
  refine .iP (rA hg) v w.h (by rw[kg];exact hp w.h) (λq hq hne=>?_) (by rw[lg hn];exact r w s);rw[lg hn]at hne;exact absurd (Sl (hs q hq)) hne⟩
end Go.Ideal
namespace Go.Ideal
inductive Ren(σ:Nat->Nat)(m n:Nat):Value->Value->Prop
 |free {v:Value} (h:bM v=true):Ren σ m n v v
 |sl {i o k c:Nat} {s:Option Nat} (h1:m<=i) (h2:i<n):Ren σ m n (.slice (some ⟨i,o,s⟩) k c) (.slice (some ⟨σ i,o,s⟩) k c)
inductive pK(σ:Nat->Nat)(m n:Nat):List Value->List Value->Prop
 |nil:pK σ m n [] []
 |cons {v v':Value} {l l':List Value} (h:Ren σ m n v v') (hl:pK σ m n l l'):pK σ m n (v::l) (v'::l')
theorem Ren.vr{σ:Nat->Nat}{m n:Nat}{β β':ax}{v v' w:Value}(hr:Ren σ m n v v')(hv:VR β v' w)(hβ:∀i,m<=i->i<n->β' i=β (σ i)):VR β' v w:=by
 cases hr with
 |free h=>
  rw[hv.lU h];exact VR.free h
 |sl h1 h2=>
  cases hv with
  |bN h hb hn ha=>exact .bN ((hβ _ h1 h2).trans h) hb hn ha
  |mH h hb hs hn hz hl ht hc ha=>exact .mH ((hβ _ h1 h2).trans h) hb hs hn hz hl ht hc ha
theorem pK.len{σ:Nat->Nat}{m n:Nat}:∀{l l':List Value},pK σ m n l l'->l'.length=l.length
 |_,_,.nil=>rfl
 |_,_,.cons _ hl=>by simp[pK.len hl]
theorem pK.get{σ:Nat->Nat}{m n:Nat}:∀{l l':List Value},pK σ m n l l'->∀{j:Nat} {v:Value},l[j]? =some v->∃v',l'[j]? =some v'/\Ren σ m n v v'
 |_,_,.nil,j,v,h=>by simp at h
 |_,_,.cons h hl,0,v,e=>by simp at e;subst e;exact⟨_,rfl,h⟩
 |_,_,.cons h hl,j+1,v,e=>by simpa using pK.get hl (by simpa using e)
theorem Ren.cell{σ:Nat->Nat}{m n:Nat}{v v':Value}(h:Ren σ m n v v')(hc:cellV v'=true):cellV v=true:=by
 cases h with
 |free _=>exact hc
 |sl _ _=>rfl
theorem pK.cells{σ:Nat->Nat}{m n:Nat}:∀{l l':List Value},pK σ m n l l'->l'.all cellV=true->l.all cellV=true
 |_,_,.nil,_=>rfl
 |_,_,.cons h hl,hc=>by
  simp only[yg,fD]at hc⊢;exact⟨h.cell hc.1,pK.cells hl hc.2⟩
structure aju(n0 n2:Nat)(lv:List Value)(l2:List (Nat×di))(e:List Value×List (Nat×di))(σ:Nat->Nat):Prop where
 val:pK σ n0 n2 lv e.1
 up:∀j,n0<=j->j<n2->n0<=σ j
 inj:∀i j,n0<=i->n0<=j->i<n2->j<n2->σ i=σ j->i=j
 get:∀p∈l2,n0<=p.1->∃cs cs',p.2=.cells cs/\(σ p.1,.cells cs')∈e.2/\pK σ n0 n2 cs cs'
