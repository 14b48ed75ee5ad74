/-
  The ideal machine, 82: a call from a heap that is known to the letter, over package variables.
-/
import Derived.Test.YtoohgkkmdnbnfaaGreatDoorIdealOG
import Derived.Lib.Bytealg
import Derived.Lib.Atoi
import Derived.Lib.ConvBytes
import Derived.Shelf.SlSortCmp.WholeK
import Derived.Sort.EncStr
set_option linter.all false
namespace Go.Ideal
noncomputable def Au(g:Nat)(h:IH):Bool:=rq (λi=>(h.get i).isNone) (List.range g)
theorem NN{g:Nat}{h:IH}(hh:Au g h=true){i:Nat}(hi:i<g):h.get i=none:=by
 unfold Au at hh;rw[yE,dR]at hh;have:=hh i (uo.2 hi);cases e:h.get i with
 |none=>rfl
 |some o=>rw[e]at this;cases this
noncomputable def xq(g:Nat)(l:List (Nat×aH))(n:Nat)(v:Value):BR:=λr pm h=>
 match pm with
 |some _=>false
 |none=>match r with
  | .ok v'=>fG 50 v v'&&(Nat.beq h.next n&&(Nat.beq h.low g&&(sW l h&&Au g h)))
  | .bP _=>false
noncomputable def qJ(g:Nat)(h0:IH)(l:List (Nat×aH))(n:Nat)(fn:Nat)(args:List Value)(v:Value):aK->IH->Option (Value×IH):=λq h=>
 match q with
 |⟨.func f,xu,[],none⟩=>cond (Nat.beq f fn&&(fG 5 (.tuple ⟨args⟩) (.tuple ⟨xu⟩)&&(Nat.beq h0.next h.next&&(Nat.beq h0.low h.low&&qF 30 h0.t h.t)))) (some (v,⟨heapT l,n,g⟩)) none
 |_=>none
theorem Fg{P:Program}{g:Nat}{h0:IH}{l:List (Nat×aH)}{n fn:Nat}{args:List Value}{v:Value}(hall:(List.range h0.next).all (λi=>Nat.blt i g||((heapT l).get i).isSome)=true)
 (hc:CALL P ⟨.func fn,args,[],none⟩ h0 (λr pm h'=>xq g l n v r pm h'=true))
 {q:aK} {h:IH} {v':Value} {h':IH} (hk:qJ g h0 l n fn args v q h=some (v',h')):CALL P q h (λr pm h2=>r=.ok v'/\pm=none/\h2=h'):=by
 unfold qJ at hk;split at hk
 ·rename_i f xu;cases hcd:(Nat.beq f fn&&(fG 5 (.tuple ⟨args⟩) (.tuple ⟨xu⟩)&&(Nat.beq h0.next h.next&&(Nat.beq h0.low h.low&&qF 30 h0.t h.t))))with
  |false=>rw[hcd]at hk;cases hk
  |true=>
   rw[hcd]at hk;simp only[cond,ah,aD]at hk;obtain⟨rfl,rfl⟩:=hk;simp only[bE]at hcd;obtain⟨h1,h2,h3,h4,h5⟩:=hcd;have h1:=cz h1;subst h1;have h2:=kU _ _ _ h2;injection h2 with h2;injection h2 with h2;subst h2;have e3:=cz h3;have e4:=cz h4;have e5:=Ai _ h5;clear h3 h4 h5;obtain⟨t0,n0,l0⟩:=h0;obtain⟨t1,n1,l1⟩:=h;dsimp only at e3 e4 e5;subst e3 e4 e5;refine .forget _ hc ?_;intro r pm h' hl;unfold xq at hl;split at hl
   ·cases hl
   ·split at hl
    ·rename_i v';simp only[bE]at hl;obtain⟨h1,h2,h3,h4,h5⟩:=hl;refine⟨⟨heapT l,n,g⟩,(cz h2).symm,(cz h3).symm,?_,?_,rfl,rfl⟩
     ·intro i;rcases zL l i with e|⟨o,e1,e2⟩
      ·by_cases hig:i<g
       ·left;rw[NN h5 hig];exact e
       refine .inr ⟨?_,e⟩;apply Classical.byContradiction;intro hno;rw[dR]at hall;have:=hall i (uo.2 (Nat.lt_of_not_le hno));rw[e,nP]at this;rcases this with h|h
       ·exact hig (dN h)
       ·cases h
      ·left;exact e2.trans (DY h4 i o e1).symm
     ·rw[kU _ _ _ h1]
    ·cases hl
 ·cases hk
theorem NP{P:Program}{f:FuncId}{fn:Func}(hfn:P.funcs[f]? =some fn){body:Code}(hb:fn.body=some body)(hname:fn.name≠ "runtime.NumGoroutine"){args:List Value}{v:Value}(hv:aG v=true)(ha:args.all aG=true)
 (hC:∀w,Calls P f ⟨args⟩ w λe w'=>e=.returned v/\w'=w) {h:IH}:dW P ⟨.func f,args,[],none⟩ h (λr pm h2=>pm=none/\r=.ok v/\h2=h):=by
 intro β w fn' args' cap' hG hW hf ha' hcap;obtain⟨dm,t1,t2⟩:=qj (P:=P) (q:=⟨.func f,args,[],none⟩) (f:=f) (args:=args) (by simp only[target,dH,fu]) hf ha' hcap hfn hb hname w;have e2:=ak.Ar t2 ha;subst e2;refine⟨_,Frame.enter P f ⟨_⟩ .normal,t1,rfl,λcs0 kg=>?_⟩;obtain⟨e,w',fr,⟨he,hw'⟩,hcomes,hfr,hlv⟩:=hC w cs0;subst he hw';exact⟨.ok v,none,h,β,_,.returned v,cs0,⟨rfl,rfl,rfl⟩,hW,Eff.refl _ _ _ hW.dom,.ok (VR.free hv),.none cs0,.inl ⟨f,_,fr,rfl,hcomes,hfr,hlv.2.2.1,hlv.1,hlv.2.1,hlv.2.2.2⟩⟩
noncomputable def xw(fn:Nat):aK->IH->Option (Value×IH):=λq h=>
 match q with
 |⟨.func f,[.string s,.int .u8 c],[],none⟩=>cond (Nat.beq f fn) (some (.int .i64 (Lib.indexByte s.data.toList c.toNat.toUInt8),h)) none
 |_=>none
theorem NQ{P:Program}{f:FuncId}{fn:Func}(hfn:P.funcs[f]? =some fn){body:Code}(hb:fn.body=some body)(hname:fn.name≠ "runtime.NumGoroutine")
 (hC:∀s c w,Calls P f #[.string s,.int .u8 c] w λe w'=>e=.returned (.int .i64 (Lib.indexByte s.data.toList c.toNat.toUInt8))/\w'=w)
 {q:aK} {h:IH} {v':Value} {h':IH} (hk:xw f q h=some (v',h')):CALL P q h (λr pm h2=>r=.ok v'/\pm=none/\h2=h'):=by
 unfold xw at hk;split at hk
 ·rename_i g s c;cases hcd:Nat.beq g f with
  |false=>rw[hcd]at hk;cases hk
  |true=>
   rw[hcd]at hk;have e:=cz hcd;subst e;injection hk with hk;injection hk with h1 h2;subst h1 h2;refine .oI _ (.real (NP hfn hb hname rfl rfl λw=>hC s c w)) ?_;rintro r pm h2 ⟨a,b,c⟩;exact⟨b,a,c⟩
 ·cases hk
structure Beyond(w w':World):Prop where
 heap:∀b,b<w.heap.size->w'.heap[b]? =w.heap[b]?
 size:w.heap.size<=w'.heap.size
 os:w'.os=w.os
 tape:w'.tape=w.tape
 output:w'.output=w.output
 drawn:w.drawn<=w'.drawn
theorem WR.beyond{P:Program}{β:ae}{h:IH}{w w':World}(hW:WR P β h w)(hb:Beyond w w'):WR P β h w'/\Eff β h w β h w':=
 ⟨⟨hW.dom,hW.live,λi g o h1 h2=>(hW.obj i g o h1 h2).congr (hb.heap _ (hW.obj i g o h1 h2).lt),hW.inj⟩,
  ⟨λ_ _=>rfl,aB _,λ_ _ h=>h,λ_ _ _=>rfl,aB _,λ_ _ _=>rfl,hb.os,hb.tape,hb.output,hb.size,λb hb' _=>hb.heap b hb',λi g hg hi=>absurd (hW.dom _ _ hg) (by omega),λi g _ _ _ _ hb'=>hb.heap _ hb',hb.drawn⟩⟩
theorem NR(w:World)(e:TypeId)(s:ByteArray):Beyond w (Lib.bytesWorld w e s):=by
 refine⟨λb hb=>?_,?_,rfl,rfl,rfl,nO _⟩
 ·show((w.heap.push _).modify w.heap.size _)[b]? =_;rw[Bo,if_neg (by omega),qR,if_neg (by omega)]
 ·show w.heap.size<=((w.heap.push _).modify w.heap.size _).size;rw[Array.size_modify,Array.size_push];omega
theorem NS{P:Program}{f:FuncId}{fn:Func}(hfn:P.funcs[f]? =some fn){body:Code}(hb:fn.body=some body)(hname:fn.name≠ "runtime.NumGoroutine"){args:List Value}{v:Value}(hv:Aq v=true)(ha:args.all aG=true)
 (hC:∀w,Calls P f ⟨args⟩ w λe w'=>e=.returned v/\Beyond w w') {h:IH}:dW P ⟨.func f,args,[],none⟩ h (λr pm h2=>pm=none/\r=.ok v/\h2=h):=by
 intro β w fn' args' cap' hG hW hf ha' hcap;obtain⟨dm,t1,t2⟩:=qj (P:=P) (q:=⟨.func f,args,[],none⟩) (f:=f) (args:=args) (by simp only[target,dH,fu]) hf ha' hcap hfn hb hname w;have e2:=ak.Ar t2 ha;subst e2;refine⟨_,Frame.enter P f ⟨_⟩ .normal,t1,rfl,λcs0 kg=>?_⟩;obtain⟨e,w',fr,⟨he,hw'⟩,hcomes,hfr,hlv⟩:=hC w cs0;subst he;obtain⟨w1,w2⟩:=hW.beyond hw';exact⟨.ok v,none,h,β,_,.returned v,cs0,⟨rfl,rfl,rfl⟩,w1,w2,.ok (VR.NM hv),.none cs0,.inl ⟨f,_,fr,rfl,hcomes,hfr,hlv.2.2.1,hlv.1,hlv.2.1,hlv.2.2.2⟩⟩
noncomputable def xy(fn:Nat):aK->IH->Option (Value×IH):=λq h=>
 match q with
 |⟨.func f,[.string s],[],none⟩=>cond (Nat.beq f fn&&Nat.ble s.data.toList.length 18) (match Lib.atoi s.data.toList with
  |some n=>some (.tuple ⟨[.int .i64 n,.nilIface]⟩,h)
  |none=>none) none
 |_=>none
theorem NT{P:Program}{f:FuncId}{fn:Func}(hfn:P.funcs[f]? =some fn){body:Code}(hb:fn.body=some body)(hname:fn.name≠ "runtime.NumGoroutine")
 (hC:∀(s:ByteArray) (n:Int),s.size<=18->Lib.atoi s.data.toList=some n->∀w,Calls P f #[.string s] w λe w'=>e=.returned (.tuple #[.int .i64 n,.nilIface])/\Beyond w w')
 {q:aK} {h:IH} {v':Value} {h':IH} (hk:xy f q h=some (v',h')):CALL P q h (λr pm h2=>r=.ok v'/\pm=none/\h2=h'):=by
 unfold xy at hk;split at hk
 ·rename_i g s;cases hcd:(Nat.beq g f&&Nat.ble s.data.toList.length 18)with
  |false=>rw[hcd]at hk;cases hk
  |true=>
   rw[hcd]at hk;rw[bE]at hcd;have e:=cz hcd.1;have hl:s.size<=18:=by
    have h2:=dN hcd.2;rw[Bw]at h2;exact h2
   subst e;dsimp only[cond]at hk;split at hk
   ·rename_i n hn;injection hk with hk;injection hk with h1 h2;subst h1 h2;refine .oI _ (.real (NS hfn hb hname rfl rfl λw=>hC s n hl hn w)) ?_;rintro r pm h2 ⟨a,b,c⟩;exact⟨b,a,c⟩
   ·cases hk
 ·cases hk
end Go.Ideal
namespace Go.Ideal
open Go.Sort Go.Proofs Go.RowKit Go.Lib Go.Shelf
variable {P:Program}
theorem Beyond.grown{w w':World}(h:Beyond w w'):∃q os,w'=Go.Sort.grow (w.drewN q) os:=by
 refine⟨w'.drawn - w.drawn,w'.heap.extract w.heap.size w'.heap.size,?_⟩;obtain⟨heap,tape,drawn,os,output⟩:=w;obtain⟨heap',tape',drawn',os',output'⟩:=w';obtain⟨h1,h2,h3,h4,h5,h6⟩:=h;dsimp only at h1 h2 h3 h4 h5 h6;subst h3 h4 h5;have e1:heap'=heap++heap'.extract heap.size heap'.size:=by
  apply Array.ext_getElem?;intro i;rw[Array.getElem?_append];split
  ·rename_i hi;exact h1 i hi
  ·rename_i hi;rw[Array.getElem?_extract];by_cases hl:i<heap'.size
   ·rw[if_pos (by omega),show heap.size+(i - heap.size)=i by omega]
   ·rw[if_neg (by omega),jg (by omega)]
 have e2:drawn'=drawn+(drawn' - drawn):=by omega
 show World.mk heap' tape' drawn' os' output'=World.mk (heap++heap'.extract heap.size heap'.size) tape' (drawn+(drawn' - drawn)) os' output';rw[<- e1,<- e2]
theorem Eff.beyond{β β':ae}{h h':IH}{w w':World}(hW:WR P β h w)(he:Eff β h w β' h' w')(hl:h'.low=h.next):Beyond w w':=by
 refine⟨λk hk=>?_,he.size,he.os,he.tape,he.output,he.drawn⟩;by_cases hx:∀i g,β i=some g->h.get i≠none->g.b≠k
 ·exact he.keep k hk hx
 ·have hx:∃i g,β i=some g/\h.get i≠none/\g.b=k:=by
   apply Classical.byContradiction;intro hc;exact hx λi g hi hg hb=>hc ⟨i,g,hi,hg,hb⟩
  obtain⟨i,g,hi,hg,rfl⟩:=hx;have hin:=hW.dom i g hi;exact he.iW i g (by rw[hl];exact hin) hin hi hg hk
theorem Fh{f:FuncId}{fn:Func}(hfn:P.funcs[f]? =some fn){body:Code}(hb:fn.body=some body)(hname:fn.name≠ "runtime.NumGoroutine")(xs:Array Value)(w:World):(callFunc f xs).run P w=.ok (.enter f xs) w:=by
 have hn:(fn.name== "runtime.NumGoroutine")=false:=by simpa using hname
 simp only[callFunc,aF,run_program,aI,hfn,hn,hb,Option.isNone_some,kI,if_false,aS]
theorem NU(iZ:P.follows .mixedOrders=true){g:FuncId}{fn:Func}(hfn:P.funcs[g]? =some fn){body:Code}(hb:fn.body=some body)(hname:fn.name≠ "runtime.NumGoroutine"){args args' cap cap':List Value}{F:List ay}{n:Int}
 (hC:cB P (.func g) args cap [] F (λ_:Unit=>.int .i64 n) (λ_=>[]) (λ_=>[]) (λ_=>True)) {β:ae} {w:World} {d:Wd} (hlow:d.h.low=d.h.next) (hF:∀f∈F,f.p d) (hG:eO P β) (hW:WR P β d.h w) (ha:ak β args args') (hc:ak β cap cap'):
 Calls P g ((⟨args'⟩:Array Value)++(⟨cap'⟩:Array Value)) w λe w'=>e=.returned (.int .i64 n)/\∃q os,w'=Go.Sort.grow (w.drewN q) os:=by
 have hst:St [] d [] F d:=⟨⟨aB _,λ_ _ _=>rfl,λ_ _=>rfl⟩,Wd.Le.refl d,λi hi hz=>.inl hz,⟨[],rfl,List.nodup_nil,by simp⟩,hF⟩
 have hM:=DJ iZ (hC [] d hst);obtain⟨nx,F0,n1,n2,n3⟩:=hM β w (.func g) args' cap' hG hW (.func g) ha hc;have hnx:nx=.enter g ((⟨args'⟩:Array Value)++(⟨cap'⟩:Array Value)):=by
  have n1:(invoke (.fn (.func g) ⟨cap'⟩) ⟨args'⟩).run P w=.ok nx w:=n1;simp only[invoke]at n1;rw[Fh hfn hb hname]at n1;cases n1;rfl
 subst hnx;have oO:F0=Frame.enter P g ((⟨args'⟩:Array Value)++(⟨cap'⟩:Array Value)) .normal:=by
  have:entry P .normal (.enter g ((⟨args'⟩:Array Value)++(⟨cap'⟩:Array Value)))=some (Frame.enter P g ((⟨args'⟩:Array Value)++(⟨cap'⟩:Array Value)) .normal):=rfl;have n2:entry P .normal (.enter g ((⟨args'⟩:Array Value)++(⟨cap'⟩:Array Value)))=some F0:=n2;rw[this]at n2;exact(Option.some.inj n2).symm
 subst oO;intro cs;obtain⟨r,pm',h',β',w',r',cs1,q1,q2,q3,q4,q5,q6⟩:=n3 cs (by intro m hm;cases hm);obtain⟨hp,d2,_,rfl,hs2,rfl,_⟩:=q1;have NV:=hs2.agree.low (by rw[hlow];exact aB _) (by simp);cases q5;cases q4 with
 | @ok v v' fe=>
   have:=fe.fB;subst this;rcases q6 with⟨f1,a1,F1,e1,e2,e3,e4,e5⟩|⟨⟨_,l,e1⟩,_⟩
   ·cases e1;refine⟨.returned _,w',F1,⟨rfl,(q3.beyond hW (NV.trans hlow)).grown⟩,e2,e3,?_⟩;obtain⟨t1,t2,fn,t3,t4⟩:=e5;exact⟨t1,t2,e4,fn,t3,t4⟩
   ·cases e1
def Av(P:Program)(f:FuncId)(k:Nat):Prop:=∀(α:Type) [Inhabited α] (enc:α->List Value) (cf:α->α->Int) (g:FuncId) (cb:Array Value) (blk off cap:Nat) (d:Array α) (w:World),
 (∀x,(enc x).length=k)->(∀x,∀v∈enc x,v.oneCell'=true)->SWO (ltOf cf)->(∀args w,(callFunc g args).run P w=.ok (.enter g args) w)->CmpLays P g cb enc k cf blk off d.size w->HoldsK enc k w blk off d->blk<w.heap.size->d.size<4611686018427387904->
 Calls P f #[.slice (some ⟨blk,off,none⟩) d.size cap,.func (.func g) #[] cb] w λe w'=>e=.returned (.tuple #[])/\∃d' n os,PermIn 0 d.size d d'/\SortedIn (ltOf cf) 0 d.size d'/\w'=sortWorldK enc k w blk off n d' os
structure El{X:Type}(β:ae)(E:Enc X)(xs:List X)(d:Wd) where
 x:X
 y:E.Y
 v:List Value
 mem:x∈xs
 rel:ak β (E.pat x y) v
 cell:(E.pat x y).all cellV=true
 fs:∀f∈E.fs x y,f.p d
theorem ak.oneCell{β:ae}{vs vs':List Value}(hv:ak β vs vs')(hall:vs.all cellV=true):∀v∈vs',v.oneCell'=true:=λv hv'=>by
 obtain⟨j,hj⟩:=jL hv';have hjl:j<vs.length:=by
  have:=(bH.1 hj).1;rw[hv.length]at this;exact this
 obtain⟨v2,hv2,hr⟩:=hv.get (aU hjl);rw[hv2]at hj;cases hj;have hc:=(dR.1 hall) _ (List.getElem_mem hjl);obtain⟨a,b⟩:=hr.cellV hc;cases v<;>first|rfl|exact absurd rfl (a _)|exact absurd rfl (b _)
noncomputable def Wd.but(d:Wd)(b:Nat):Wd:=⟨⟨(d.h.kill b).t,d.h.next,d.h.next⟩,d.z,d.eH⟩
theorem Wd.qK(d:Wd)(b i:Nat):(d.but b).h.get i=if i=b then none else d.h.get i:=by
 show(d.h.kill b).get i=_;exact IH.jA _ _ _
theorem Wd.NW{d:Wd}{b:Nat}(hz:¬d.z b):d.Le (d.but b):=⟨aB _,λ_ h=>h,λi hi=>by rw[Wd.qK,if_neg (λe:i=b=>hz (e▸hi))]⟩
theorem NY{α:Type}[Inhabited α](enc:α->List Value)(k:Nat)(w:World)(blk off m:Nat)(dk:Array α)(os:Array Obj){b:Nat}(hb:b<w.heap.size)(hne:b≠blk):(sortWorldK enc k w blk off m dk os).heap[b]? =w.heap[b]?:=by
 show((w.heap.modify blk _)++os)[b]? =_;rw[Gp (by rw[Array.size_modify];exact hb),Bo,if_neg (λe=>hne e.symm)]
theorem WR.NZ{α:Type}[Inhabited α]{β:ae}{d:Wd}{w:World}(hW:WR P β d.h w){b:Nat}{g:bJ}{cs:List Value}(hi:β b=some g)(hg:d.h.get b=some (.cells cs))(enc:α->List Value)(k off m:Nat)(dk:Array α)(os:Array Obj):
 WR P β (d.but b).h (sortWorldK enc k w g.b off m dk os):=by
 refine⟨hW.dom,λi o h=>?_,λi g' o h1 h2=>?_,λi j g1 g2 h1 h2 h3 h4 h5 h6=>?_⟩
 ·rw[Wd.qK]at h;split at h
  ·cases h
  ·exact hW.live i o h
 ·rw[Wd.qK]at h2;split at h2
  ·cases h2
  ·rename_i hib;have hO:=hW.obj i g' o h1 h2;refine hO.congr (NY enc k w g.b off m dk os hO.lt λe=>hib ?_);exact hW.inj i b g' g h1 hi (by rw[h2];simp) (by rw[hg];simp) (.inr λcs2=>by rw[hg];simp) e
 ·rw[Wd.qK]at h3 h4;rw[Wd.qK,Wd.qK]at h5;split at h3
  ·exact absurd rfl h3
  split at h4
  ·exact absurd rfl h4
  rename_i n1 n2;rw[if_neg n1,if_neg n2]at h5;exact hW.inj i j g1 g2 h1 h2 h3 h4 h5 h6
theorem List.N7{α:Type}{R:α->α->Prop}{l:List α}(h:∀(i j:Nat) x y,i<j->l[i]? =some x->l[j]? =some y->R x y):l.Pairwise R:=
 Gt.2 λi j hi hj hij=>h i j _ _ hij (aU hi) (aU hj)
theorem N8(iZ:P.follows .mixedOrders=true){f g:FuncId}{k:Nat}(hS:Av P f k){fn:Func}(hfn:P.funcs[f]? =some fn){body:Code}(hb:fn.body=some body)(hname:fn.name≠ "runtime.NumGoroutine"){gn:Func}(hgn:P.funcs[g]? =some gn){Aw:Code}(hgb:gn.body=some Aw)(xz:gn.name≠ "runtime.NumGoroutine")
 {X:Type} {E:Enc X} (hE:E.n=k) (hk0:0<k) {xs:List X} {cf:X->X->Int} (hO:SWO (ltOf cf)) {cap:List Value} {F:List ay}
 (hC:∀x∈xs,∀y∈xs,∀a b,cB P (.func g) [.agg ⟨E.pat x a⟩,.agg ⟨E.pat y b⟩] cap [] (E.fs x a++(E.fs y b++F)) (λ_:Unit=>.int .i64 (cf x y)) (λ_=>[]) (λ_=>[]) (λ_=>True))
 {d:Wd} {b o c:Nat} {fl:Option Nat} {cs:List Value} (hg:d.h.get b=some (.cells cs)) (hz:¬d.z b) (hF:∀f∈F,f.p d)
 (hel:∀(j:Nat) x,xs[j]? =some x->∃y,(∀(t:Nat) u,(E.pat x y)[t]? =some u->cs[o+j*E.n+t]? =some u)/\∀f∈E.fs x y,f.p d) (hcs:cs.length=o+xs.length*E.n) (hne:0<xs.length) (hlen:xs.length<4611686018427387904):
 dW P ⟨.func f,[.slice (some ⟨b,o,fl⟩) xs.length c,.func (.func g) ⟨[]⟩ ⟨cap⟩],[],none⟩ d.h (λr pm h2=>pm=none/\r=.ok (.tuple ⟨[]⟩)/\∃(zs:List (X×E.Y)) (cs2:List Value),(zs.map (·.1)).Perm xs/\(zs.map (·.1)).Pairwise (λx y=>¬cf y x<0)/\cs2.length=cs.length/\
  (∀(j:Nat) p,zs[j]? =some p->(∀(t:Nat) u,(E.pat p.1 p.2)[t]? =some u->cs2[o+j*E.n+t]? =some u)/\∀f∈E.fs p.1 p.2,f.p d)/\h2=d.h.set b (.cells cs2)):=by
 subst hE;intro β w fn' args' cap' hG hW hf ha hcap;obtain⟨dm,t1,t2⟩:=qj (P:=P) (q:=⟨.func f,[.slice (some ⟨b,o,fl⟩) xs.length c,.func (.func g) ⟨[]⟩ ⟨cap⟩],[],none⟩) (f:=f) (args:=[.slice (some ⟨b,o,fl⟩) xs.length c,.func (.func g) ⟨[]⟩ ⟨cap⟩]) (by simp only[target,dH,fu]) hf ha hcap hfn hb hname w;cases t2 with|cons hv tl=>
 cases tl with|cons hv2 tl=>
 cases tl;obtain⟨gi,a,c',hi,rfl,hab,_,hn,hcc,hao,_⟩:=hv.fI;obtain⟨Ra,f2,cb,hfr2,hf2,hcb,rfl⟩:=hv2.nk;cases hfr2;cases hf2;have hao:a.off=gi.off+o/\a.spot=none:=by
  rcases hao with e|e
  ·omega
  ·exact e
 obtain⟨⟨c0,t0,N9,hh⟩,q2,q3,q4,q5,q6⟩:=hW.obj b gi _ hi hg;have ea:a=⟨gi.b,gi.off+o,none⟩:=by
  obtain⟨ab,ao,asp⟩:=a;simp only at hab hao;rw[hab,hao.1,hao.2]
 subst ea;have hlt:gi.b<w.heap.size:=(xU.1 hh).1;have Oa:∀j t,j<xs.length->t<E.n->o+j*E.n+t<cs.length:=λj t hj ht=>by
  have:=Bz E.n (show j+1<=xs.length from hj);rw[iE,qZ]at this;omega
 let cellOf:Nat->Value:=λt=>(w.cell? ⟨gi.b,gi.off+o+t,none⟩).getD .nilFunc
 have hcell:∀t,t<xs.length*E.n->w.cell? ⟨gi.b,gi.off+o+t,none⟩=some (cellOf t)/\w.frozen? ⟨gi.b,gi.off+o+t,none⟩=false:=λt ht=>by
  obtain⟨r1,r2⟩:=q4 (gi.off+o+t) (by omega);refine⟨?_,r2⟩;obtain⟨v,hv⟩:=Bu.1 r1;show _=some ((w.cell? ⟨gi.b,gi.off+o+t,none⟩).getD .nilFunc);rw[hv];rfl
 have hex:∀j,j<xs.length->∃e:El β E xs d,xs[j]? =some e.x/\e.v=(List.range E.n).map λt=>cellOf (j*E.n+t):=λj hj=>by
  have hx:xs[j]? =some xs[j]:=aU hj;obtain⟨y,h1,h2⟩:=hel j _ hx;refine⟨⟨xs[j],y,(List.range E.n).map λt=>cellOf (j*E.n+t),List.getElem_mem hj,?_,?_,h2⟩,hx,rfl⟩
  ·refine ak.yF (by rw[bW,List.length_range,E.len]) λt v ht=>?_;have htn:t<E.n:=by have:=(bH.1 ht).1;rw[E.len]at this;exact this
   obtain⟨v',r1,r2⟩:=q6 _ v (h1 t v ht);refine⟨v',?_,r2⟩;rw[bN,qW htn,ed];show some ((w.cell? ⟨gi.b,gi.off+o+(j*E.n+t),none⟩).getD .nilFunc)=_;rw[show gi.off+o+(j*E.n+t)=gi.off+(o+j*E.n+t)by omega,r1];rfl
  ·rw[dR]at q5⊢;intro v hv;obtain⟨t,ht⟩:=jL hv;exact q5 v (cK (h1 t v ht))
 have e0:El β E xs d:=Classical.choice (by obtain⟨e,_⟩:=hex 0 hne;exact⟨e⟩)
 haveI:Inhabited (El β E xs d):=⟨e0⟩
 obtain⟨el,xA⟩:∃el:Nat->El β E xs d,∀j,j<xs.length->xs[j]? =some (el j).x/\(el j).v=(List.range E.n).map λt=>cellOf (j*E.n+t):=
  ⟨λj=>if h:j<xs.length then Classical.choose (hex j h)else e0,λj hj=>by dsimp only;rw[dif_pos hj];exact Classical.choose_spec (hex j hj)⟩
 let D:Array (El β E xs d):=((List.range xs.length).map el).toArray
 have hDs:D.size=xs.length:=by simp[D]
 have Ob:∀j,j<xs.length->D[j]! =el j:=λj hj=>by
  rw[getElem!_pos D j (by rw[hDs];exact hj)];simp[D]
 have Oc:D.toList.map (·.x)=xs:=by
  apply gX;intro j;by_cases hj:j<xs.length
  ·rw[(xA j hj).1];simp[D,hj]
  ·rw[dF (l:=xs) (by omega),dF (by simp[D];omega)]
 have hlv:∀e:El β E xs d,e.v.length=E.n:=λe=>by rw[e.rel.length,E.len]
 have hH:HoldsK (λe:El β E xs d=>e.v) E.n w gi.b (gi.off+o) D:=λt ht=>by
  have ht:t<xs.length*E.n:=by rw[size_flatK,hDs]at ht;exact ht
  rw[get_flatK _ _ _ _ (by rw[hDs];exact ht)];have hq:t/E.n<xs.length:=(xW hk0).2 ht;have hr:t%E.n<E.n:=lF _ hk0;rw[Ob _ hq,(xA _ hq).2];have:((List.range E.n).map λt'=>cellOf (t/E.n*E.n+t'))[t%E.n]! =cellOf t:=by
   rw[getElem!_pos _ _ (by simpa using hr)];simp only[List.getElem_map,List.getElem_range];rw[nQ,xX]
  rw[this];exact hcell t ht
 have hO2:SWO (ltOf λa b:El β E xs d=>cf a.x b.x):=⟨λa=>hO.irrefl a.x,λa b c=>hO.trans a.x b.x c.x,λa b c=>hO.ntrans a.x b.x c.x⟩
 have hcmp:CmpLays P g ⟨cb⟩ (λe:El β E xs d=>e.v) E.n (λa b=>cf a.x b.x) gi.b (gi.off+o) D.size w:=λm os dk _ x y=>by
  have hle:=Wd.NW hz;exact NU iZ hgn hgb xz (hC x.x x.mem y.x y.mem x.y y.y) (d:=d.but b) rfl (λfa hfa=>by
   rcases dS.1 hfa with h|h
   ·exact fa.mono hle (x.fs fa h)
   ·rcases dS.1 h with h|h
    ·exact fa.mono hle (y.fs fa h)
    ·exact fa.mono hle (hF fa h)) hG (hW.NZ hi hg _ _ _ m dk os) (.cons (.agg x.cell x.rel) (.cons (.agg y.cell y.rel) .nil)) hcb
 have hK:=hS (El β E xs d) (λe=>e.v) (λa b=>cf a.x b.x) g ⟨cb⟩ gi.b (gi.off+o) c' D w hlv (λe=>ak.oneCell e.rel e.cell) hO2 (λxs w=>Fh hgn hgb xz xs w) hcmp hH hlt (by rw[hDs];exact hlen);refine⟨_,Frame.enter P f ⟨_⟩ .normal,t1,rfl,λcs0 kg=>?_⟩;rw[hDs]at hK;obtain⟨e,w',fr,⟨he,d2,n2,os,hpm,hsd,hw'⟩,hcomes,hfr,hlv2⟩:=hK cs0;subst he;have hd2:d2.size=xs.length:=hpm.1.trans hDs;have hdg:∀(j:Nat) e,d2.toList[j]? =some e->j<xs.length/\d2[j]! =e:=λj e h=>by
  rw[lD]at h;obtain⟨hj,he⟩:=xU.1 h;exact⟨by omega,by rw[getElem!_pos d2 j hj];exact he⟩
 let zs:List (X×E.Y):=d2.toList.map λe=>(e.x,e.y)
 let L:List Value:=(List.range (xs.length*E.n)).map λt=>(E.pat (d2[t/E.n]!).x (d2[t/E.n]!).y).getD (t%E.n) .nilFunc
 let L':List Value:=(flatK (λe:El β E xs d=>e.v) E.n d2).toList
 have xB:L.length=xs.length*E.n:=by simp[L]
 have Ay:∀t,t<xs.length*E.n->L[t]? =some ((E.pat (d2[t/E.n]!).x (d2[t/E.n]!).y).getD (t%E.n) .nilFunc):=λt ht=>by
  show((List.range (xs.length*E.n)).map _)[t]? =_;rw[bN,qW ht];rfl
 have Od:L'.length=xs.length*E.n:=by simp[L',hd2]
 have Az:∀(e:El β E xs d) t,t<E.n->(E.pat e.x e.y)[t]? =some ((E.pat e.x e.y).getD t .nilFunc):=λe t ht=>by
  rw[List.getD_eq_getElem?_getD,aU (by rw[E.len];exact ht)];rfl
 have Fj:∀(t:Nat) v,L[t]? =some v->t<xs.length*E.n:=λt v ht=>by
  have:=(bH.1 ht).1
  rwa [xB]at this
 have hrel:ak β L L':=ak.yF (by rw[Od,xB]) λt v ht=>by
  have htn:=Fj t v ht;rw[Ay t htn]at ht;cases ht;have hr:=lF t hk0;obtain⟨v',r1,r2⟩:=(d2[t/E.n]!).rel.get (Az _ _ hr);refine⟨v',?_,r2⟩;have h1:L'[t]? =some (flatK (λe:El β E xs d=>e.v) E.n d2)[t]!:=by
   show(flatK (λe:El β E xs d=>e.v) E.n d2).toList[t]? =_;rw[lD,BD (by rw[size_flatK,hd2];exact htn),getElem!_pos _ _ (by rw[size_flatK,hd2];exact htn)]
  rw[h1,get_flatK _ _ _ _ (by rw[hd2];exact htn)];show some ((d2[t/E.n]!).v)[t%E.n]! =_;rw[getElem!_pos _ _ (by rw[hlv];exact hr),<- aU];exact r1
 have hall:L.all cellV=true:=by
  rw[dR];intro v hv;obtain⟨t,ht⟩:=jL hv;have htn:=Fj t v ht;rw[Ay t htn]at ht;cases ht;exact dR.1 (d2[t/E.n]!).cell _ (cK (Az _ _ (lF t hk0)))
 obtain⟨cs2,hl⟩:=tQ cs o L (by rw[xB];omega);obtain⟨l1,l2,l3⟩:=rP hl;have hs:d.h.storeAt b o L=some (d.h.set b (.cells cs2)):=by unfold IH.storeAt;simp only[hg,hl]
 obtain⟨_,w1,w2⟩:=uO hW hi hs hrel hall;have hw1:sortWorldK (λe:El β E xs d=>e.v) E.n w gi.b (gi.off+o) n2 d2 os=Go.Sort.grow (Sort.ahead (w.setCells gi.b (gi.off+o) L') n2) os:=by
  have:=Go.Ideal.setCells_putRow (id:Value->Value) w gi.b (gi.off+o) (flatK (λe:El β E xs d=>e.v) E.n d2);rw[List.map_id]at this;rw[show w.setCells gi.b (gi.off+o) L'=_ from this];rfl
 rw[hw1]at hw';have w3:WR P β (d.h.set b (.cells cs2)) (Sort.ahead (w.setCells gi.b (gi.off+o) L') n2):=w1.iX rfl;have w4:=w2.trans (Eff.iX (w':=Sort.ahead (w.setCells gi.b (gi.off+o) L') n2) w1.dom rfl rfl rfl rfl (Nat.le_add_right _ _));obtain⟨w5,w6⟩:=w3.grow os;rw[<- hw']at w5 w6;refine⟨.ok (.tuple ⟨[]⟩),none,_,β,w',.returned (.tuple #[]),cs0,⟨rfl,rfl,zs,cs2,?_,?_,l2,?_,rfl⟩,w5,w4.trans w6,.ok (.aP _),.none cs0,.inl ⟨f,_,fr,rfl,hcomes,hfr,hlv2.2.2.1,hlv2.1,hlv2.2.1,hlv2.2.2.2⟩⟩
 ·have hp:=hpm.2.2;rw[show d2.extract 0 xs.length=d2 by rw[<- hd2];simp,show D.extract 0 xs.length=D by rw[<- hDs];simp]at hp;have h1:=hp.map (·.x);rw[Oc]at h1;show((d2.toList.map λe=>(e.x,e.y)).map (·.1)).Perm xs;rw[uy];exact h1
 ·show((d2.toList.map λe=>(e.x,e.y)).map (·.1)).Pairwise _;rw[uy];refine List.N7 λi j x y hij hx hy=>?_;rw[bN,fM]at hx hy;obtain⟨e1,hx,rfl⟩:=hx;obtain⟨e2,hy,rfl⟩:=hy;have h1:=hdg i e1 hx;have h2:=hdg j e2 hy;have:=hsd i j (jl _) hij h2.1;rw[h1.2,h2.2]at this;exact uw this
 ·intro j p hj;have hj:(d2.toList.map λe=>(e.x,e.y))[j]? =some p:=hj;rw[bN,fM]at hj;obtain⟨e,he0,rfl⟩:=hj;obtain⟨hjn,he⟩:=hdg j e he0;refine⟨λt u ht=>?_,e.fs⟩;have htn:t<E.n:=by have:=(bH.1 ht).1;rw[E.len]at this;exact this
  have hb2:=Oa j t hjn htn;rw[l3,if_pos ⟨by omega,by rw[xB];omega⟩,show o+j*E.n+t - o=j*E.n+t by omega,Ay _ (by omega)];have d1:(j*E.n+t)/E.n=j:=by rw[nQ,Nat.mul_add_div hk0,Nat.div_eq_of_lt htn,qU]
  have d3:(j*E.n+t)%E.n=t:=by rw[nQ,Nat.mul_add_mod,Nat.mod_eq_of_lt htn]
  rw[d1,d3,he,<- Az e t htn];exact ht
def AA(P:Program)(f:FuncId):Prop:=∀(p:Option Addr) (cap:Nat) (fv:Value) (w:World),Calls P f #[.slice p 0 cap,fv] w λe w'=>e=.returned (.tuple #[])/\w'=w
theorem VR.Oe{β:ae}{a:Option Addr}{n c:Nat}{v:Value}(h:VR β (.slice a n c) v):∃p c',v=.slice p n c':=by
 cases h<;>exact⟨_,_,rfl⟩
theorem Og{f:FuncId}(hS:AA P f){fn:Func}(hfn:P.funcs[f]? =some fn){body:Code}(hb:fn.body=some body)(hname:fn.name≠ "runtime.NumGoroutine"){a:Option Addr}{c:Nat}{fv:Value}{h:IH}:
 dW P ⟨.func f,[.slice a 0 c,fv],[],none⟩ h (λr pm h2=>pm=none/\r=.ok (.tuple ⟨[]⟩)/\h2=h):=by
 intro β w fn' args' cap' hG hW hf ha' hcap;obtain⟨dm,t1,t2⟩:=qj (P:=P) (q:=⟨.func f,[.slice a 0 c,fv],[],none⟩) (f:=f) (args:=[.slice a 0 c,fv]) (by simp only[target,dH,fu]) hf ha' hcap hfn hb hname w;cases t2 with|cons hv tl=>
 cases tl with|cons hv2 tl=>
 cases tl;obtain⟨p,c',rfl⟩:=hv.Oe;refine⟨_,Frame.enter P f ⟨_⟩ .normal,t1,rfl,λcs0 kg=>?_⟩;obtain⟨e,w',fr,⟨he,hw'⟩,hcomes,hfr,hlv⟩:=hS p c' _ w cs0;subst he hw';exact⟨.ok (.tuple ⟨[]⟩),none,h,β,_,.returned (.tuple #[]),cs0,⟨rfl,rfl,rfl⟩,hW,Eff.refl _ _ _ hW.dom,.ok (.aP _),.none cs0,.inl ⟨f,_,fr,rfl,hcomes,hfr,hlv.2.2.1,hlv.1,hlv.2.1,hlv.2.2.2⟩⟩
theorem Oh(iZ:P.follows .mixedOrders=true){f g:FuncId}{k:Nat}(hS:Av P f k)(hN:AA P f){fn:Func}(hfn:P.funcs[f]? =some fn){body:Code}(hb:fn.body=some body)(hname:fn.name≠ "runtime.NumGoroutine"){gn:Func}(hgn:P.funcs[g]? =some gn){Aw:Code}(hgb:gn.body=some Aw)(xz:gn.name≠ "runtime.NumGoroutine")
 {X:Type} {E:Enc X} (hE:E.n=k) (hk0:0<k) {xs:List X} {cf:X->X->Int} (hO:SWO (ltOf cf)) {cap:List Value} {F:List ay} {a:Option Addr}
 (hC:∀x∈xs,∀y∈xs,∀a b,cB P (.func g) [.agg ⟨E.pat x a⟩,.agg ⟨E.pat y b⟩] cap [] (E.fs x a++(E.fs y b++F)) (λ_:Unit=>.int .i64 (cf x y)) (λ_=>[]) (λ_=>[]) (λ_=>True))
 (hlen:xs.length<4611686018427387904):
 cB P (.func f) [.slice a xs.length xs.length,.func (.func g) ⟨[]⟩ ⟨cap⟩] [] [ap E (.slice a xs.length xs.length) xs] F (λ_:List X=>.tuple ⟨[]⟩) (λys=>[ap E (.slice a xs.length xs.length) ys]) (λ_=>[]) (λys=>ys.Perm xs/\ys.Pairwise λx y=>¬cf y x<0):=by
 intro B w s;by_cases hx:xs=[]
 ·subst hx;refine .real (vw _ (Og hN hfn hb hname) ?_);rintro r pm h' ⟨rfl,rfl,rfl⟩;exact⟨rfl,w,[],rfl,⟨s.agree,s.le,s.bR,s.own,λf hf=>by cases hf⟩,rfl,.refl _,.nil⟩
 have hne:0<xs.length:=qV.2 hx;obtain⟨S,⟨S1,S2,q1,q2,e⟩,h2,h3⟩:=s.own;rcases q1 with⟨h,_⟩|⟨b,o,fl,cells,e1,hf,e2,hb',hcl,hel⟩
 ·exact absurd h hx
 injection e1 with e1 Oi;subst e1 e2 e;have hzb:¬w.z b:=(h3 b (by simp)).2.2;refine .real (vw _ (N8 iZ hS hfn hb hname hgn hgb xz hE hk0 hO hC hb' hzb s.facts hel hcl hne hlen) ?_);rintro r pm h' ⟨rfl,rfl,zs,cs2,hp,hpw,hl2,Oj,rfl⟩;have s1:St B w [pt b (.cells cells)] [] w:=⟨s.agree,s.le,s.bR,⟨[b]++S2,⟨[b],S2,⟨rfl,hb'⟩,q2,rfl⟩,h2,h3⟩,λf hf=>by cases hf⟩
 have s2:=s1.write (o':=.cells cs2);have hle:w.Le ⟨w.h.set b (.cells cs2),w.z,λi hi=>w.eH i hi⟩:=s2.le;have hzl:zs.length=xs.length:=by have:=hp.length_eq;rwa [bW]at this
 refine⟨rfl,⟨w.h.set b (.cells cs2),w.z,λi hi=>w.eH i hi⟩,zs.map (·.1),rfl,?_,rfl,hp,hpw⟩;refine s2.oM (A':=ap E (.slice (some ⟨b,o,some fl⟩) xs.length xs.length) (zs.map (·.1))) λS' hp'=>?_;refine .inr ⟨b,o,fl,cs2,by rw[bW,hzl],hf,hp'.1,hp'.2,by rw[hl2,hcl,bW,hzl],λj x hj=>?_⟩;rw[bN,fM]at hj;obtain⟨p,hj,rfl⟩:=hj;obtain⟨r1,r2⟩:=Oj j p hj;exact⟨p.2,r1,λf hf=>f.mono hle (r2 f hf)⟩
end Go.Ideal
namespace Go.Ideal
open Go.Sort Go.RowKit Go.Proofs
variable {P:Program}
def AB(P:Program)(f:FuncId):Prop:=∀(blk off cap:Nat) (zs:List ByteArray) (w:World),Holds encStr w blk off (zs.map λz=>z.data.toList).toArray->blk<w.heap.size->zs.length<4611686018427387904->
 Calls P f #[.slice (some ⟨blk,off,none⟩) zs.length cap] w λe w'=>e=.returned (.tuple #[])/\∃n os,w'=Go.Sort.grow (putRow encStr (Sort.ahead w n) blk off ((zs.map λz=>z.data.toList).mergeSort λx y=>decide (x<=y)).toArray) os
def qL(zs:List ByteArray):List (List UInt8):=(zs.map λz=>z.data.toList).mergeSort λx y=>decide (x<=y)
def fZ(zs:List ByteArray):List ByteArray:=(qL zs).map λl=>⟨⟨l⟩⟩
theorem xC(zs:List ByteArray):(fZ zs).length=zs.length:=by unfold fZ qL;rw[bW,List.length_mergeSort,bW]
theorem Ol{f:FuncId}(hS:AB P f){fn:Func}(hfn:P.funcs[f]? =some fn){body:Code}(hb:fn.body=some body)(hname:fn.name≠ "runtime.NumGoroutine"){b o c:Nat}{fl:Option Nat}{zs:List ByteArray}{h h':IH}{cs:List Value}
 (hg:h.get b=some (.cells cs)) (hz:∀(j:Nat) z,zs[j]? =some z->cs[o+j]? =some (.string z)) (hne:0<zs.length) (hlen:zs.length<4611686018427387904) (hs:h.storeAt b o ((fZ zs).map .string)=some h'):
 dW P ⟨.func f,[.slice (some ⟨b,o,fl⟩) zs.length c],[],none⟩ h (λr pm h2=>pm=none/\r=.ok (.tuple ⟨[]⟩)/\h2=h'):=by
 intro β w fn' args' cap' hG hW hf ha hcap;obtain⟨dm,t1,t2⟩:=qj (P:=P) (q:=⟨.func f,[.slice (some ⟨b,o,fl⟩) zs.length c],[],none⟩) (f:=f) (args:=[.slice (some ⟨b,o,fl⟩) zs.length c]) (by simp only[target,dH,fu]) hf ha hcap hfn hb hname w;cases t2 with|cons hv tl=>
 cases tl;obtain⟨g,a,c',hi,rfl,hab,_,hn,hcc,hao,_⟩:=hv.fI;have hao:a.off=g.off+o/\a.spot=none:=by
  rcases hao with e|e
  ·omega
  ·exact e
 obtain⟨⟨c0,t0,N9,hh⟩,q2,q3,q4,q5,q6⟩:=hW.obj b g _ hi hg;have ea:a=⟨g.b,g.off+o,none⟩:=by
  obtain⟨ab,ao,xu⟩:=a;simp only at hab hao;rw[hab,hao.1,hao.2]
 subst ea;have hin:∀j,j<zs.length->o+j<cs.length:=λj hj=>(bH.1 (hz j _ (aU hj))).1;have hH:Holds encStr w g.b (g.off+o) (zs.map λz=>z.data.toList).toArray:=λj hj=>by
  have hj:j<zs.length:=by simpa using hj
  obtain⟨v',h1,h2⟩:=q6 (o+j) _ (hz j _ (aU hj));have:=h2.oC;subst this;refine⟨?_,(q4 _ (by have:=hin j hj;omega)).2⟩;rw[iD,h1];congr 1;rw[getElem!_pos _ j (by simpa using hj)];simp
 have hlt:g.b<w.heap.size:=(xU.1 hh).1;have hC:=hS g.b (g.off+o) c' zs w hH hlt hlen;obtain⟨_,w1,w2⟩:=uO hW hi hs (vs':=(fZ zs).map .string) (ak.free (by
  have:∀l:List ByteArray,cZ (l.map Value.string)=true:=by
   intro l;induction l with
   |nil=>rfl
   |cons x l ih=>rw[jh];simp[cZ,aG,Ideal.cellV,ih]
  exact this _)) (by
  rw[dR];intro x hx;obtain⟨z,_,rfl⟩:=jN.1 hx;rfl)
 refine⟨_,Frame.enter P f ⟨_⟩ .normal,t1,rfl,λcs0 kg=>?_⟩;obtain⟨e,w',fr,⟨he,k,os,hw'⟩,hcomes,hfr,hlv⟩:=hC cs0;subst he;have hw1:putRow encStr (Sort.ahead w k) g.b (g.off+o) ((zs.map λz=>z.data.toList).mergeSort λx y=>decide (x<=y)).toArray=Sort.ahead (w.setCells g.b (g.off+o) ((fZ zs).map .string)) k:=by
  have:=setCells_putRow encStr w g.b (g.off+o) (qL zs).toArray;rw[show(qL zs).toArray.toList.map encStr=(fZ zs).map .string by unfold fZ;rw[uy];rfl]at this;rw[this];rfl
 rw[hw1]at hw';have w3:WR P β h' (Sort.ahead (w.setCells g.b (g.off+o) ((fZ zs).map .string)) k):=w1.iX rfl;have w4:=w2.trans (Eff.iX (w':=Sort.ahead (w.setCells g.b (g.off+o) ((fZ zs).map .string)) k) w1.dom rfl rfl rfl rfl (Nat.le_add_right _ _));obtain⟨w5,w6⟩:=w3.grow os;rw[<- hw']at w5 w6;refine⟨.ok (.tuple ⟨[]⟩),none,h',β,w',.returned (.tuple #[]),cs0,⟨rfl,rfl,rfl⟩,w5,w4.trans w6,.ok (.aP _),.none cs0,.inl ⟨f,_,fr,rfl,hcomes,hfr,hlv.2.2.1,hlv.1,hlv.2.1,hlv.2.2.2⟩⟩
theorem Om{f:FuncId}(hS:AB P f){fn:Func}(hfn:P.funcs[f]? =some fn){body:Code}(hb:fn.body=some body)(hname:fn.name≠ "runtime.NumGoroutine"){a:Option Addr}{zs:List ByteArray}(hne:0<zs.length)(hlen:zs.length<4611686018427387904):
 cB P (.func f) [.slice a zs.length zs.length] [] [ap bF (.slice a zs.length zs.length) zs] [] (λ_:Unit=>.tuple ⟨[]⟩) (λ_=>[ap bF (.slice a zs.length zs.length) (fZ zs)]) (λ_=>[]) (λ_=>True):=by
 intro B w s;obtain⟨S,⟨S1,S2,q1,q2,e⟩,h2,h3⟩:=s.own;rcases q1 with⟨h,_⟩|⟨b,o,fl,cells,e1,hf,e2,hb',hcl,hel⟩
 ·rw[h]at hne;simp at hne
 injection e1 with e1 Oi;subst e1;have hcl:cells.length=o+zs.length:=by rw[hcl];simp[bF]
 have hz:∀(j:Nat) z,zs[j]? =some z->cells[o+j]? =some (.string z):=λj z hj=>by
  obtain⟨y,u1,_⟩:=hel j z hj;have:=u1 0 (.string z) rfl;simpa[bF]using this
 have hst:∃cs2,w.h.storeAt b o ((fZ zs).map .string)=some (w.h.set b (.cells cs2))/\cs2.length=cells.length/\∀(k:Nat) z,(fZ zs)[k]? =some z->cs2[o+k]? =some (.string z):=by
  have hov:∃cs2,bX cells o ((fZ zs).map .string)=some cs2:=tQ _ _ _ (by rw[bW,xC];omega);obtain⟨cs2,hl⟩:=hov;obtain⟨l1,l2,l3⟩:=rP hl;refine⟨cs2,?_,l2,λk z hk=>?_⟩
  ·unfold IH.storeAt;simp only[hb',hl]
  ·rw[l3,if_pos ⟨by omega,by have:=(bH.1 hk).1;rw[bW];omega⟩,Gs,bN,hk];rfl
 obtain⟨cs2,hst,hl2,xA⟩:=hst;refine .real (vw _ (Ol hS hfn hb hname hb' hz hne hlen hst) ?_);rintro r pm h' ⟨rfl,rfl,rfl⟩;have s1:St B w [pt b (.cells cells)] [] w:=⟨s.agree,s.le,s.bR,⟨S,⟨S1,S2,⟨e2,hb'⟩,q2,e⟩,h2,h3⟩,λf hf=>by cases hf⟩
 refine⟨rfl,⟨w.h.set b (.cells cs2),w.z,λi hi=>w.eH i hi⟩,(),rfl,?_,rfl,trivial⟩;refine(s1.write (o':=.cells cs2)).zZ (A:=pt b (.cells cs2)) λw' S' hp=>?_;refine .inr ⟨b,o,fl,cs2,by rw[xC],hf,hp.1,hp.2,by rw[hl2,hcl,xC];simp[bF],λk x hk=>⟨(),λj u hj=>?_,λf hf=>by cases hf⟩⟩;match j,hj with
 |0,hj=>
  cases hj;have:=xA k x hk;simpa[bF]using this
end Go.Ideal
namespace Go.Ideal
variable {P:Program}
section
variable {B:List Nat} {w0:Wd} {kl kl':List OA} {F:List ay} {K:KO} {ds:List Tmp} {rest:List aC} {n:Nat} {l:List (Nat×Value)} {D:List Deferred} {pm:Option FrameMode} {ro:Option Nat} {d:Nat} {g:Option (Tmp×Bool)}
theorem Oo{α:Type}{E:Enc α}{e:TypeId}{size bytes b':Nat}{s x:Operand}{v:Value}{xs:List α}{a:α}{y:E.Y}{cs:List Value}{k1 k2:List OA}(hn:Nat.blt d n=true)(hg:aT l g=true)
 (hs:ev l s=v) (hx:ev l x=.slice (some ⟨b',0,some 0⟩) 1 1) (hk:ax (ap E v xs) kl k1) (hc:ax (pt b' (.cells cs)) k1 k2) (hp:cs=E.pat a y) (hF:Sub (E.fs a y) F) (hz:E.n=size)
 (hm:(xs.length+1)*bytes<=1073741824/\(xs.length+1)*size<=1073741824/\xs.length+1<=1073741824):
 aN (R (λh=>aj P ds (⟨⟨some d,g,.append e size bytes s x⟩,[]⟩::rest) (act n l D pm ro) h K) B w0 kl F)
  (∀c,R (λh=>aj P ds rest (act n ((d,.slice (some ⟨c,0,some E.n⟩) (xs.length+1) (xs.length+1))::l) D pm ro) h K) B w0 (ap E (.slice (some ⟨c,0,some E.n⟩) (xs.length+1) (xs.length+1)) (xs++[a])::k2) F):=by
 refine⟨λr w st=>?_⟩;subst hp hz;have hlen:=E.len a y;have st2:St B w0 (ap E v xs::pt b' (.cells (E.pat a y))::k2) F w:=st.gV (.cons hk (.cons hc .nil));have hat:At w.h b' (.cells (E.pat a y)):=st2.at_ (.there .here);have jc:St B w0 (ap E v xs::k2) F w:=(st2.dB (.there .here)).tail;have hfs:∀f∈E.fs a y,f.p w:=λf hf=>st.facts f (hF.mem f hf);have hread:w.h.bI b' 0 (1*E.n)=some (E.pat a y):=by
  rw[hat.c.bI,gB,gD,qZ,q9,if_pos (by omega),<- hlen,nT]
 have hx1:gM (ev l x)=some (0+1):=by rw[hx];rfl
 have hx2:gy E.n (0+1) (ev l x) w.h=some (E.pat a y):=by rw[hx];exact hread
 -- what lies there afterwards
 have put:∀(w':Wd) (c:Nat) (f:Nat) (cells:List Value),cells.length=xs.length*E.n->(∀(k:Nat) z,xs[k]? =some z->∃y,(∀(j:Nat) u,(E.pat z y)[j]? =some u->cells[k*E.n+j]? =some u)/\∀f∈E.fs z y,f.p w')->(∀f∈E.fs a y,f.p w')->
  (f=0\/f=E.n)->∀S,(pt c (.cells (cells++E.pat a y))).p w' S->(ap E (.slice (some ⟨c,0,some f⟩) (xs.length+1) (xs.length+1)) (xs++[a])).p w' S:=by
  intro w' c f cells h1 h2 h3 h4 S hp;refine .inr ⟨c,0,f,_,by rw[dO];rfl,h4,hp.1,hp.2,by rw[dO,dO,h1,hlen,xY,iE,qZ,dU],λk z hk=>?_⟩;by_cases hlt:k<xs.length
  ·rw[fK hlt]at hk;obtain⟨y',q1,q2⟩:=h2 k z hk;refine⟨y',λj u hj=>?_,q2⟩;rw[dU];have:=q1 j u hj;rw[fK (bH.1 this).1];exact this
  ·rw[ji (by omega)]at hk;have hk0:k=xs.length:=by
    have:=(bH.1 hk).1;simp at this;omega
   subst hk0;simp at hk;subst hk;refine⟨y,λj u hj=>?_,h3⟩;rw[dU,ji (by omega),h1,Gs];exact hj
 obtain⟨S,⟨S1,S2,q,q2,e1⟩,hnd,hown⟩:=jc.own;rcases q with⟨rfl,rfl,rfl⟩|⟨b,o,f,cells,rfl,hf,rfl,hb,hcl,hel⟩
 ·refine Eb (c:=0) hn hg hs hx1 hx2 (by simpa using hm) λh' ag Ac hnx=>?_;obtain⟨w',rfl,fT⟩:=jc.tail.fresh ag Ac hnx;refine r _ w' (fT.oM λS hp=>?_);have hle:∀f∈E.fs a y,f.p w':=λf hf=>fT.facts f (hF.mem f hf);exact put w' _ E.n [] (by simp) (λk z hk=>by cases hk) hle (.inr rfl) S hp
 ·have tJ:St B w0 (pt b (.cells cells)::k2) F w:=⟨jc.agree,jc.le,jc.bR,⟨S,⟨_,S2,⟨rfl,hb⟩,q2,e1⟩,hnd,hown⟩,jc.facts⟩
  have Ad:At w.h b (.cells cells):=tJ.at_ .here;refine zP (old:=cells.drop o) (xs:=E.pat a y) hn hg hs hx1 hx2 ?_ (hf.elim (λe=>.inl (by rw[e])) λe=>.inr (by rw[e])) hm λh' mv=>?_
  ·have hdl:(cells.drop o).length=xs.length*E.n:=by rw[gq];omega
   rw[Ad.c.bI,gB,gD,if_pos (by omega),<- hdl,nT]
  obtain⟨w',rfl,fT,qy⟩:=tJ.move mv;refine r _ w' (fT.oM λS hp=>?_);have hle:∀f∈E.fs a y,f.p w':=λf hf=>fT.facts f (hF.mem f hf);refine put w' _ E.n (cells.drop o) (by rw[gq];omega) (λk z hk=>?_) hle (.inr rfl) S hp;obtain⟨y',u1,u2⟩:=hel k z hk;exact⟨y',λj u hj=>by rw[gK,<- iD];exact u1 j u hj,λf hf=>f.mono qy (u2 f hf)⟩
theorem Oq{α:Type}(E:Enc α){e:TypeId}{size bytes b':Nat}{s x:Operand}{v:Value}{xs:List α}(a:α)(y:E.Y){cs:List Value}{k1 k2:List OA}
 (hm:(xs.length+1)*bytes<=1073741824/\(xs.length+1)*size<=1073741824/\xs.length+1<=1073741824)
 (next:∀c,R (λh=>aj P ds rest (act n ((d,.slice (some ⟨c,0,some E.n⟩) (xs.length+1) (xs.length+1))::l) D pm ro) h K) B w0 (ap E (.slice (some ⟨c,0,some E.n⟩) (xs.length+1) (xs.length+1)) (xs++[a])::k2) F)
 (hn:Nat.blt d n=true:=by rfl) (hg:aT l g=true:=by rfl)
 (hs:ev l s=v:=by conv=>lhs;whnf) (hx:ev l x=.slice (some ⟨b',0,some 0⟩) 1 1:=by rfl) (hk:ax (ap E v xs) kl k1:=by exact eU) (hc:ax (pt b' (.cells cs)) k1 k2:=by exact eU) (hp:cs=E.pat a y:=by rfl) (hF:Sub (E.fs a y) F:=by exact mh) (hz:E.n=size:=by rfl):
 R (λh=>aj P ds (⟨⟨some d,g,.append e size bytes s x⟩,[]⟩::rest) (act n l D pm ro) h K) B w0 kl F:=
 (Oo hn hg hs hx hk hc hp hF hz hm).h next
def gv(f:Nat):Option Nat->Nat->Value
 |none,_=>.slice none 0 0
 |some c,n=>.slice (some ⟨c,0,some f⟩) n n
theorem Fp{α:Type}{E:Enc α}{c:Option Nat}{xs:List α}{w:Wd}{S:List Nat}(h:(ap E (gv E.n c xs.length) xs).p w S)(h0:0<xs.length):∃b cells,gv E.n c xs.length=.slice (some ⟨b,0,some E.n⟩) xs.length xs.length/\S=[b]/\w.h.get b=some (.cells cells)/\cells.length=xs.length*E.n/\
 ∀(k:Nat) x,xs[k]? =some x->∃y,(∀(j:Nat) u,(E.pat x y)[j]? =some u->cells[k*E.n+j]? =some u)/\∀f∈E.fs x y,f.p w:=by
 rcases h with⟨h,_⟩|⟨b,o,f,cells,h1,h2,h3,h4,h5,h6⟩
 ·rw[h]at h0;simp at h0
 ·cases c with
  |none=>simp[gv]at h1
  |some c=>
   simp only[gv,Value.slice.injEq,ah,Addr.mk.injEq]at h1;obtain⟨⟨rfl,rfl,h1⟩,_⟩:=h1;refine⟨c,cells,rfl,h3,h4,by rw[h5,dU],λk x hk=>?_⟩;obtain⟨y,q1,q2⟩:=h6 k x hk;exact⟨y,λj u hj=>by have:=q1 j u hj;rwa [dU]at this,q2⟩
theorem Ot{α:Type}{E:Enc α}{xs:List α}{Q:IH->Prop}(h0:0<xs.length)(hk:ax (ap E (.slice none 0 0) xs) kl kl':=by exact eU):R Q B w0 kl F:=λw s=>by
 obtain⟨S,⟨S1,S2,q1,q2,e⟩,h2,h3⟩:=(s.dB hk).own;obtain⟨b,cells,h,_⟩:=Fp (c:=none) q1 h0;simp[gv]at h
end
end Go.Ideal
namespace Go.Ideal
variable {P:Program} {B:List Nat} {w0:Wd} {kl kl' aQ:List OA} {F:List ay} {K:KO} {ds:List Tmp} {rest:List aC} {n:Nat} {l:List (Nat×Value)} {D:List Deferred} {pm:Option FrameMode} {ro:Option Nat} {d:Nat} {g:Option (Tmp×Bool)}
theorem Ou{α:Type}{E:Enc α}{aa:List (α×E.Y)}{k:Nat}{p:α×E.Y}(hp:aa[k]? =some p):cO (dG (aL E aa) (k*E.n)) E.n=some (E.pat p.1 p.2):=by
 have hk:=(bH.1 hp).1;have hl:=lc aa;have hm:(k+1)*E.n<=aa.length*E.n:=Bz _ hk;rw[iE,qZ]at hm;rw[gB,gD,if_pos (by rw[gq];omega)];congr 1;apply gX;intro j;rw[jM];by_cases hj:j<E.n
 ·have hu:(E.pat p.1 p.2)[j]? =some ((E.pat p.1 p.2)[j]'(by rw[E.len];exact hj)):=aU _;rw[if_pos hj,gK,hu];exact oU hp hu
 ·rw[if_neg hj,dF (by rw[E.len];omega)]
theorem tV{α:Type}{E:Enc α}(a b:List (α×E.Y)):aL E (a++b)=aL E a++aL E b:=by unfold aL;rw[List.flatMap_append]
theorem Ov{α:Type}{E:Enc α}{aa:List (α×E.Y)}{k:Nat}{p:α×E.Y}(hk:k<aa.length):bX (aL E aa) (k*E.n) (E.pat p.1 p.2)=some (aL E (aa.set k p)):=by
 have h1:aa=aa.take k++aa.drop k:=(uu k aa).symm;have hd:aa.drop k=aa[k]::aa.drop (k+1):=x8 hk;have h2:aL E aa=aL E (aa.take k)++(E.pat aa[k].1 aa[k].2++aL E (aa.drop (k+1))):=by
  conv=>lhs;rw[h1,hd,tV]
  rfl
 have h3:k*E.n=(aL E (aa.take k)).length:=by rw[lc,pz,Nat.min_eq_left (by omega)]
 rw[h2,h3,Ap (by rw[E.len,dO,E.len];omega),E.len,List.drop_append_of_le_length (by rw[E.len];exact aB _),List.drop_of_length_le (by rw[E.len];exact aB _),jr];congr 1;have h4:aa.set k p=aa.take k++p::aa.drop (k+1):=by
  conv=>lhs;rw[h1]
  rw[List.set_append_right _ _ (by rw[pz];omega),pz,Nat.min_eq_left (by omega),Nat.sub_self,hd];rfl
 rw[h4,tV];rfl
theorem tX{α:Type}(E:Enc α){aa:List (α×E.Y)}{k o b m:Nat}{p:α×E.Y}{x:Operand}(hp:aa[k]? =some p)(ho:o=k*E.n)
 (next:R (λh=>aj P ds rest (act n ((d,.agg ⟨E.pat p.1 p.2⟩)::l) D pm ro) h K) B w0 kl F)
 (hx:ev l x=.pointer (some ⟨b,o,none⟩):=by rfl) (hk:ax (pt b (.cells (aL E aa))) kl kl':=by exact eU) (hz:E.n=m:=by rfl) (hn:Nat.blt d n=true:=by rfl) (hg:aT l g=true:=by rfl):
 R (λh=>aj P ds (⟨⟨some d,g,.iQ m x⟩,[]⟩::rest) (act n l D pm ro) h K) B w0 kl F:=by
 subst ho hz;exact(Eu hn hg hx hk (Ou hp)).h next
theorem Ow{α:Type}(E:Enc α){aa:List (α×E.Y)}{k o b m:Nat}(p:α×E.Y){x y:Operand}(hlt:k<aa.length)(ho:o=k*E.n)
 (next:R (λh=>aj P ds rest (act n l D pm ro) h K) B w0 (pt b (.cells (aL E (aa.set k p)))::kl') F)
 (hx:ev l x=.pointer (some ⟨b,o,none⟩):=by rfl) (hy:ev l y=.agg ⟨E.pat p.1 p.2⟩:=by rfl) (hk:ax (pt b (.cells (aL E aa))) kl kl':=by exact eU) (hz:E.n=m:=by rfl) (hg:aT l g=true:=by rfl):
 R (λh=>aj P ds (⟨⟨none,g,.store m x y⟩,[]⟩::rest) (act n l D pm ro) h K) B w0 kl F:=by
 subst ho hz;exact(Ew (vs:=E.pat p.1 p.2) hg hx (by rw[hy];rfl) (by rw[kQ,E.len];exact nS _) hk (Ov hlt)).h next
theorem AC{ρ:Operand->Value}{x:Operand}{mq mD:Option Operand}{b o f m c lo hi:Nat}{size:Nat}(hx:ρ x=.slice (some ⟨b,o,some f⟩) m c)(hf:f=0\/f=size)(hs:0<size)(hlo:mq=none/\lo=0\/∃t,mq=some t/\ρ t=.int .i64 (lo:Int))(hhi:mD=none/\hi=m\/∃t,mD=some t/\ρ t=.int .i64 (hi:Int))(h1:lo<=hi)(h2:hi<=c):
 Pu P ρ (.pG size x mq mD none) (.slice (some ⟨b,o+lo*size,some f⟩) (hi - lo) (c - lo)):=λh=>by
 have e3:upTo c (.int .i64 (hi:Int))=some hi:=w9 h2;have e4:upTo hi (.int .i64 (lo:Int))=some lo:=w9 h1;have hbd:bounds? m c (bO ρ mq) (bO ρ mD) none=some (lo,hi,c):=by
  rcases hlo with⟨rfl,rfl⟩|⟨t,rfl,ht⟩<;>rcases hhi with⟨rfl,hm⟩|⟨t',rfl,ht'⟩
  ·rw[hm];rfl
  ·show bounds? m c none (some (ρ t')) none=_;rw[ht'];show(match upTo c (.int .i64 (hi:Int))with|none=>none|some h=>match some 0 with|none=>none|some l=>some (l,h,c))=_;rw[e3]
  ·rw[hm]at e4⊢;show bounds? m c (some (ρ t)) none none=_;rw[ht];show(match upTo m (.int .i64 (lo:Int))with|none=>none|some l=>some (l,m,c))=_;rw[e4]
  ·show bounds? m c (some (ρ t)) (some (ρ t')) none=_;rw[ht,ht'];show(match upTo c (.int .i64 (hi:Int))with|none=>none|some h=>match upTo h (.int .i64 (lo:Int))with|none=>none|some l=>some (l,h,c))=_;rw[e3];show(match upTo hi (.int .i64 (lo:Int))with|none=>none|some l=>some (l,hi,c))=_;rw[e4]
 have h3:bO ρ none=none:=rfl;simp only[ai.run,hx,h3,hbd];match f,hf with
 |0,_=>rfl
 |k+1,hf=>
  have hk:k+1=size:=by
   rcases hf with h|h
   ·cases h
   ·exact h
  show cond (Nat.beq (Nat.succ k) size) (some (Value.slice (some ⟨b,Nat.add o (Nat.mul lo size),some (Nat.succ k)⟩) (hi - lo) (c - lo),h)) none=_;rw[show Nat.beq (Nat.succ k) size=true by rw[show Nat.succ k=size from hk];exact nS _];rfl
theorem Ox{zero:List Value}{x:Operand}{b o f m c:Nat}{cs cs':List Value}(hv:bX cs o (zeros zero m)=some cs')(h0:0<m)
 (next:R (λh=>aj P ds rest (act n l D pm ro) h K) B w0 (pt b (.cells cs')::kl') F)
 (hx:ev l x=.slice (some ⟨b,o,some f⟩) m c:=by rfl) (hk:ax (pt b (.cells cs)) kl kl':=by exact eU) (hg:aT l g=true:=by rfl):
 R (λh=>aj P ds (⟨⟨none,g,.clear zero x⟩,[]⟩::rest) (act n l D pm ro) h K) B w0 kl F:=λw s=>by
 obtain⟨k,rfl⟩:∃k,m=k+1:=⟨m - 1,by omega⟩
 exact D6 hg (v:=.tuple #[]) (h':=w.h.set b (.cells cs')) (by simp only[ai.run,hx];simp only[IH.storeAt,(s.at_ hk).2,hv]) (next _ ((s.dB hk).write))
theorem Oy(cs:List Value):bX cs cs.length []=some cs:=by
 have:=Ap (cs1:=cs) (cs2:=[]) (xs:=[]) (jl _);simpa using this
theorem AJ{re:List bS}{α:Type}{e:TypeId}{size bytes b f m:Nat}{s x:Operand}{v:Value}(E:Enc α)(aa kC:List (α×E.Y))(hmx:m=aa.length)(hf0:f=0\/f=E.n)(hm:(m+kC.length)*bytes<=1073741824/\(m+kC.length)*size<=1073741824/\m+kC.length<=1073741824)
 (next:∀b' f' m',m'=(aa++kC).length->(f'=0\/f'=E.n)->R (λh=>aj P ds rest (act n ((d,.slice (some ⟨b',0,some f'⟩) m' m')::l) D pm ro) h K) B w0 (pt b' (.cells (aL E (aa++kC)))::kl') F)
 (hs:ev l s=.slice (some ⟨b,0,some f⟩) m m:=by rfl) (hx:ev l x=v:=by conv=>lhs;whnf) (hf:nL E v kC∈F:=by exact mo) (hz:E.n=size:=by rfl) (hk:ax (pt b (.cells (aL E aa))) kl kl':=by exact eU) (hn:Nat.blt d n=true:=by rfl) (hg:aT l g=true:=by rfl)
 (hsm:∀b' f' m',Same P re (ev ((d,.slice (some ⟨b',0,some f'⟩) m' m')::l)) ((d,.slice (some ⟨b',0,some f'⟩) m' m')::l) B w0 (pt b' (.cells (aL E (aa++kC)))::kl') F:=by intro _ _ _;repeat (first|exact wO|refine wP rfl (by repeat (first|with_reducible exact ax.here|with_reducible apply ax.there|with_reducible apply ax.app)) (by first|exact rfl|(conv=>lhs;whnf)) rfl ?_|refine wQ rfl (by(repeat (first|with_reducible exact bC .. |with_reducible apply aY));first|done|fail) (by first|exact rfl|(conv=>lhs;whnf)) rfl ?_|refine wR rfl (by(repeat (first|with_reducible exact bC .. |with_reducible apply aY));first|done|fail) (by first|exact rfl|(conv=>lhs;whnf)) rfl ?_|refine wS rfl (by repeat (first|with_reducible exact ax.here|with_reducible apply ax.there|with_reducible apply ax.app)) (by first|exact rfl|(conv=>lhs;whnf)) rfl ?_|refine wT rfl (by(repeat (first|with_reducible exact bC .. |with_reducible apply aY));first|done|fail) (by first|exact rfl|(conv=>lhs;whnf)) rfl ?_|refine wU rfl (by(repeat (first|with_reducible exact bC .. |with_reducible apply aY));first|done|fail) (by first|exact rfl|(conv=>lhs;whnf)) rfl ?_|refine EF (by first|((with_reducible apply vM);(focus ((conv=>lhs;whnf);(first|done|fail))))|((with_reducible apply vN);(focus ((conv=>lhs;whnf);(first|done|fail))))|((with_reducible apply vR);(focus exact rfl))|((with_reducible apply vT);(focus exact rfl);(focus exact rfl))|((with_reducible apply vU);(focus exact rfl);(focus exact rfl))|((with_reducible apply vV);(focus exact rfl);(focus exact rfl))|((with_reducible apply vW);(focus exact rfl);(focus exact rfl))|((with_reducible apply vX);(focus exact rfl);(focus exact rfl))|((with_reducible apply vY);(focus exact rfl);(focus exact rfl))|((with_reducible apply vQ);(focus exact rfl))|((with_reducible apply vO);(focus exact rfl);(focus ((conv=>lhs;whnf);(first|done|fail))))|((with_reducible apply vP);(focus exact rfl);(focus ((conv=>lhs;whnf);(first|done|fail))))|((with_reducible apply wm);(focus exact rfl);(focus ((conv=>lhs;whnf);(first|done|fail))))|((with_reducible apply wo);(focus exact rfl))|((with_reducible apply wu);(focus exact rfl);(focus ((conv=>lhs;whnf);(first|done|fail))))|((with_reducible apply ww);(focus exact rfl);(focus ((conv=>lhs;whnf);(first|done|fail))))|((with_reducible apply wy);(focus ((conv=>lhs;whnf);(first|done|fail))))|((with_reducible apply wz);(focus exact rfl))|((with_reducible apply wB);(focus exact rfl))|((with_reducible apply wC);(focus exact rfl))|with_reducible exact vS|((with_reducible apply wD);(focus exact rfl);(focus exact rfl);(focus exact rfl))|((with_reducible apply wN);(focus exact rfl);(focus exact rfl);(focus ((omega);(first|done|fail))))|((with_reducible apply tH);(focus exact rfl);(focus exact rfl);(focus ((omega);(first|done|fail)));(focus ((omega);(first|done|fail))))|((with_reducible apply wE);(focus exact rfl);(focus exact rfl);(focus ((omega);(first|done|fail)));(focus ((omega);(first|done|fail))))|((with_reducible apply vZ);(focus exact rfl);(focus exact rfl);(focus ((omega);(first|done|fail)));(focus ((omega);(first|done|fail))))|((with_reducible apply wh);(focus exact rfl);(focus exact rfl);(focus ((omega);(first|done|fail)));(focus ((omega);(first|done|fail))))|((with_reducible apply wI);(focus exact rfl);(focus exact rfl);(focus ((first|assumption|kernel_rfl);(first|done|fail))))|((with_reducible apply wJ);(focus exact rfl);(focus exact rfl);(focus ((first|assumption|kernel_rfl);(first|done|fail))))|((with_reducible apply wK);(focus exact rfl);(focus exact rfl))|((with_reducible apply wL);(focus exact rfl);(focus exact rfl))|((with_reducible apply wM);(focus exact rfl);(focus exact rfl);(focus ((omega);(first|done|fail)));(focus ((omega);(first|done|fail))))) rfl ?_)):
 R (λh=>aj P ds (⟨⟨some d,g,.append e size bytes s x⟩,re⟩::rest) (act n l D pm ro) h K) B w0 kl F:=λw st=>by
 subst hz hmx;have st1:=st.dB hk;have hat:At w.h b (.cells (aL E aa)):=st.at_ hk;have hfl:=lc aa;obtain⟨r1,r2⟩:=NG (st.facts _ hf);by_cases hne:kC=[]
 ·subst hne;rw[fu]at next
  rw[pq,qU]at hm;have hle:∀{a b:Nat},a<=b->Nat.ble a b=true:=λh=>by rw[lG];exact h
  rw[fu]at hsm;refine E9 hn hg (v:=.slice (some ⟨b,0,some f⟩) aa.length aa.length) (h':=w.h.set b (.cells (aL E aa))) ?_ (hsm b f _ ⟨w.h.set b (.cells (aL E aa)),w.z,λi hi=>w.eH i hi⟩ st1.write) (next b f _ rfl hf0 ⟨w.h.set b (.cells (aL E aa)),w.z,λi hi=>w.eH i hi⟩ st1.write);have e1:w.h.storeAt b (Nat.add 0 (Nat.mul aa.length E.n)) []=some (w.h.set b (.cells (aL E aa))):=by
   have e2:bX (aL E aa) (Nat.add 0 (Nat.mul aa.length E.n)) []=some (aL E aa):=by
    rw[show Nat.add 0 (Nat.mul aa.length E.n)=(aL E aa).length by rw[hfl];exact dU _];exact Oy _
   unfold IH.storeAt;simp only[st1.get.1,e2]
  simp only[ai.run,hx,hs,r1,r2,lI];rw[show Nat.add aa.length (List.length ([]:List (α×E.Y)))=aa.length from rfl,show aL E ([]:List (α×E.Y))=[]from rfl];rw[hle (show Nat.mul aa.length bytes<=small from hm.1),hle (show Nat.mul aa.length E.n<=small from hm.2.1),hle (show aa.length<=small from hm.2.2),hle (aB aa.length)];simp only[xV,cond_true,e1]
 ·obtain⟨k,hk'⟩:∃k,kC.length=k+1:=⟨kC.length - 1,by have:=qV.2 hne;omega⟩
  rw[hk']at r1 r2 hm;refine ND (b:=b) (o:=0) (m:=aa.length) (k:=k) (f:=some f) (old:=aL E aa) (xs:=aL E kC) hn hg hs (by rw[hx];exact r1) (by rw[hx];exact r2) ?_ (by rcases hf0 with h|h<;>rw[h];exact .inl rfl;exact .inr rfl) hm (λh' mv=>?_) λh' mv=>?_
  ·rw[hat.c.bI,gB,q9,gD,if_pos (by omega),List.take_of_length_le (by omega)]
  ·obtain⟨w',rfl,fT,qy⟩:=st1.move mv;have:=hsm w.h.next E.n (aa.length+(k+1))
   rw[tV]at this;exact this w' fT
  obtain⟨w',rfl,fT,qy⟩:=st1.move mv;have:=next w.h.next E.n (aa.length+(k+1)) (by rw[dO,hk']) (.inr rfl)
  rw[tV]at this;exact this w' fT
theorem Oz{α:Type}(E:Enc α){xs:List α}{b f m:Nat}{Q:IH->Prop}(h:∀aa:List (α×E.Y),aa.map (·.1)=xs->m=xs.length->(f=0\/f=E.n)->R Q B w0 (pt b (.cells (aL E aa))::kl') (kz E aa::F))
 (hk:ax (ap E (.slice (some ⟨b,0,some f⟩) m m) xs) kl kl':=by exact eU):R Q B w0 kl F:=λw s=>by
 have s1:=s.dB hk;obtain⟨S,⟨S1,S2,q1,q2,e⟩,h2,h3⟩:=s1.own;rcases q1 with⟨_,h0,_⟩|⟨b',o',f',cells,h4,h5,h6,h7,h8,h9⟩
 ·cases h0
 injection h4 with e1 e2 e3;injection e1 with e1;injection e1 with e1 e4 e5;injection e5 with e5;subst e1 e4 e5 e2;rw[dU]at h8;obtain⟨l,hl,hp⟩:=wX (p:=λk (p:α×E.Y)=>xs[k]? =some p.1/\(∀(j:Nat) u,(E.pat p.1 p.2)[j]? =some u->cells[0+k*E.n+j]? =some u)/\∀f∈E.fs p.1 p.2,f.p w) xs.length (λk hk=>by
  obtain⟨y,q1,q2⟩:=h9 k xs[k] (aU hk);exact⟨(xs[k],y),aU hk,q1,q2⟩)
 have hm:l.map (·.1)=xs:=by
  apply gX;intro k;rw[bN];by_cases hk:k<xs.length
  ·have hk':k<l.length:=by omega
   rw[aU hk',ed,(hp k l[k] (aU hk')).1]
  ·rw[dF (by omega),dF (by omega)];rfl
 have hfl:=lc (E:=E) l;have hcells:cells=aL E l:=by
  apply gX;intro j;by_cases hj:j<l.length*E.n
  ·have hn0:0<E.n:=by
    rcases o9 E.n with h0|h0
    ·rw[h0]at hj;omega
    ·exact h0
   have hd:j/E.n<l.length:=by rw[xW hn0];exact hj
   have hmod:=lF j hn0;have hpk:=aU hd;have hu:(E.pat (l[j/E.n]).1 (l[j/E.n]).2)[j%E.n]? =some ((E.pat (l[j/E.n]).1 (l[j/E.n]).2)[j%E.n]'(by rw[E.len];exact hmod)):=aU _;have u1:=(hp _ _ hpk).2.1 (j%E.n) _ hu;have u2:=oU hpk hu;have kv:j/E.n*E.n+j%E.n=j:=by rw[nQ];exact xX j E.n
   rw[dU,kv]at u1;rw[kv]at u2;rw[u1,u2]
  ·rw[dF (by rw[h8,<- hl];omega),dF (by omega)]
 refine h l hm rfl h5 w ⟨s1.agree,s1.le,s1.bR,⟨S,⟨S1,S2,⟨h6,by rw[<- hcells];exact h7⟩,q2,e⟩,h2,h3⟩,λg hg=>?_⟩;rcases aR.1 hg with rfl|hg
 ·intro p hp' g hg;obtain⟨k,hk⟩:=xZ.1 hp';exact(hp k p hk).2.2 g hg
 ·exact s1.facts g hg
theorem xD{α:Type}(E:Enc α){aa:List (α×E.Y)}{rest':List Value}{b f c:Nat}{Q:IH->Prop}(hf:f=0\/f=E.n)(hc:aa.length<=c)(h:R Q B w0 kl' (bg E (.slice (some ⟨b,0,some f⟩) aa.length c) (aa.map (·.1))::F))
 (ha:∀w,(∀f∈F,f.p w)->(kz E aa).p w) (hk:ax (pt b (.cells (aL E aa++rest'))) kl kl':=by exact eU):R Q B w0 kl F:=λw s=>by
 have hall:=ha w s.facts;obtain⟨w',hw,s'⟩:=(s.dB hk).freeze (fs:=[⟨λw=>Fz w b (aL E aa++rest'),λa h=>h.mono a⟩]) (λw w' S hp hle hh hz g hg=>by
  rw[bV.1 hg];exact⟨hz b (by rw[hp.1];exact bV.2 rfl),.inl (by rw[hh];exact hp.2)⟩)
 have hfz:Fz w' b (aL E aa++rest'):=s'.facts _ (bC ..);have u6:=ha w' λf hf=>s'.facts f (jq _ hf);rw[<- hw];refine h w' ⟨s'.agree,s'.le,s'.bR,s'.own,λg hg=>?_⟩;rcases aR.1 hg with rfl|hg
 ·refine .inr ⟨b,0,f,c,_,⟨by rw[bW],by rw[bW];exact hc,hf⟩,hfz,λk x hk=>?_⟩;rw[bN]at hk;cases hp:aa[k]? with
  |none=>rw[hp]at hk;cases hk
  |some p=>
   rw[hp]at hk;cases hk;refine⟨p.2,λj u hj=>?_,u6 p (cK hp)⟩;have:=oU hp hj;rw[dU,fK (bH.1 this).1];exact this
 ·exact s'.facts g (jq _ hg)
theorem OB{α:Type}(E:Enc α){v:Value}{aa:List (α×E.Y)}{Q:IH->Prop}(h0:aa=[]->∀c,v=.slice none 0 c->R Q B w0 kl F)(h1:aa=[]->∀i o f c,v=.slice (some ⟨i,o,some f⟩) 0 c->R Q B w0 kl F)
 (h2:0<aa.length->∀i o f c,v=.slice (some ⟨i,o,some f⟩) aa.length c->R Q B w0 kl F) (hf:nL E v aa∈F:=by exact mo):R Q B w0 kl F:=λw s=>by
 rcases s.facts _ hf with⟨e,a,c,hv,hg⟩|⟨i,o,f,c,cells,⟨hv,_⟩,_⟩
 ·match a,hv,hg with
  |none,hv,_=>exact h0 e c hv w s
  |some ⟨i,o,some f⟩,hv,_=>exact h1 e i o f c hv w s
 ·by_cases hx:aa=[]
  ·subst hx;exact h1 rfl i o f c hv w s
  ·exact h2 (qV.2 hx) i o f c hv w s
theorem OC{α:Type}{E:Enc α}{v:Value}{xs:List α}{Q:IH->Prop}(h:∀a,v=.slice a xs.length xs.length->(xs=[]->a=none\/∃b o,a=some ⟨b,o,some 0⟩\/a=some ⟨b,o,some E.n⟩)->R Q B w0 kl F)(hk:ax (ap E v xs) kl kl':=by exact eU):R Q B w0 kl F:=λw s=>by
 obtain⟨S,⟨S1,S2,q1,q2,e⟩,h2,h3⟩:=(s.dB hk).own;rcases q1 with⟨rfl,h1,_⟩|⟨b,o,f,cells,h4,h5,_⟩
 ·exact h none h1 (λ_=>.inl rfl) w s
 ·refine h _ h4 (λ_=>.inr ⟨b,o,?_⟩) w s;rcases h5 with h5|h5
  ·subst h5;exact .inl rfl
  ·subst h5;exact .inr rfl
theorem OD{α:Type}(E:Enc α){x i:Operand}{v:Value}{xs:List α}(k:Nat)(z:α){kk:IntKind}{d2 m:Nat}{g2:Option (Tmp×Bool)}(hz:xs[k]? =some z)
 (next:∀b o (y:E.Y),R (λh=>aj P ds rest (act n ((d2,.agg ⟨E.pat z y⟩)::(d,.pointer (some ⟨b,o,none⟩))::l) D pm ro) h K) B w0 kl (E.fs z y++F))
 (hn:Nat.blt d n=true:=by rfl) (hg:aT l g=true:=by rfl) (hn2:Nat.blt d2 n=true:=by rfl) (hg2:∀u,aT ((d,u)::l) g2=true:=by intro _;rfl) (hx:ev l x=v:=by conv=>lhs;whnf) (hi:ev l i=.int kk (k:Int):=by rfl)
 (hk:ax (ap E v xs) kl kl':=by exact eU) (hm:E.n=m:=by rfl):
 R (λh=>aj P ds (⟨⟨some d,g,.iR m x i⟩,[]⟩::⟨⟨some d2,g2,.iQ m (.tmp d)⟩,[]⟩::rest) (act n l D pm ro) h K) B w0 kl F:=by
 subst hm;intro w s;have s1:=s.dB hk;obtain⟨S,⟨S1,S2,p,p2,e⟩,h2,h3⟩:=s1.own;have hlt:=(bH.1 hz).1;rcases p with⟨h,_⟩|⟨b,o,f,cells,e1,hf,e2,hb,hcl,hel⟩
 ·rw[h]at hz;cases hz
 ·subst e1;obtain⟨y,u1,u2⟩:=hel k z hz;have hm:(k+1)*E.n<=xs.length*E.n:=Bz _ hlt;rw[iE,qZ]at hm;have hc:cO (dG cells (o+(k:Int).toNat*E.n)) E.n=some (E.pat z y):=by
   rw[Int.toNat_natCast,gB,gD,if_pos (by rw[gq];omega)];congr 1;apply gX;intro j;rw[jM];by_cases hj:j<E.n
   ·have hu:(E.pat z y)[j]? =some ((E.pat z y)[j]'(by rw[E.len];exact hj)):=aU _;rw[if_pos hj,gK,hu];exact u1 j _ hu
   ·rw[if_neg hj,dF (by rw[E.len];omega)]
  refine D9 hn hg hx hi (by omega) (by omega) ?_;have hbS:b∈S:=by rw[e,e2];simp
  refine Ea hn2 (hg2 _) (by show lk _ d=_;simp[lk]) ⟨(h3 b hbS).2.1,hb⟩ hc (next _ _ y w ⟨s.agree,s.le,s.bR,s.own,λf hf=>?_⟩);rcases dS.1 hf with hf|hf
  ·exact u2 f hf
  ·exact s.facts f hf
theorem OE{ρ:Operand->Value}{x y:Operand}{t:TypeId}{a b:Nat}(hx:ρ x=.int .u64 (a:Int))(hy:ρ y=.int .u64 (b:Int))(hb:0<b):Pu P ρ (.bin .rem t x y) (.int .u64 ((a%b:Nat):Int)):=λh=>by
 have hv:bQ P (binOp .rem t (.int .u64 (a:Int)) (.int .u64 (b:Int)))=some (.int .u64 ((a%b:Nat):Int)):=by
  show bQ P (Op.intDiv .rem .u64 a b)=_;unfold Op.intDiv;rw[if_neg (by omega)];show some (Value.int .u64 ((a:Int).tmod (b:Int)))=_;rw[show(a:Int).tmod (b:Int)=((a%b:Nat):Int)from(Int.ofNat_tmod a b).symm]
 have h1:eY P (do eqGuard .rem t x y (.int .u64 (a:Int)) (.int .u64 (b:Int));binOp .rem t (.int .u64 (a:Int)) (.int .u64 (b:Int)))=some (.int .u64 ((a%b:Nat):Int)):=by
  unfold eY;rw[gP,qz (by intro c e;cases e) (by intro e;cases e)];simp only[gW,hv];rfl
 have h2:ic P .rem t x y (.int .u64 (a:Int)) (.int .u64 (b:Int))=some (.int .u64 ((a%b:Nat):Int)):=by
  unfold ic;have:(match kK .u64 .u64 with|true=>gZ .rem .u64 (a:Int) (b:Int)|false=>none)=none:=rfl;simp only[kK,aG,xV,cond];exact h1
 simp only[ai.run,hx,hy,h2]
