/- Part. -/
import Derived.Test.YtignbinlipkmfaaGreatDoorIdealNR
import Derived.Lib.Bytealg
import Derived.Lib.Atoi
import Derived.Lib.ConvBytes
import Derived.Shelf.SlSortCmp.WholeK
import Derived.Shelf.SlSortCmp.Whole1
import Derived.Sort.EncStr
set_option linter.all false
namespace Go.Ideal
variable{P:Program}{f:fI}{fn:Func}
def ale(hfn:P.funcs[f]? =some fn){body:Code}(hb:fn.body=some body)(hname:fn.name≠ "runtime.NumGoroutine"){args:ae ah}{v:ah}(hv:cB v=true)(ha:args.all cB=true)
 (hC:∀w,Calls P f ⟨args⟩ w λe w'=>e=.returned v/\w'=w) {h:IH}:l6 P ⟨.func f,args,[],none⟩ h (λr pm h2=>pm=none/\r=.ok v/\h2=h):=by
 intro β w fn' args' cap' hG hW hf ha' hcap;obtain⟨jQ,t1,t2⟩:=BZ (args:=args) ud hf ha' hcap hfn hb hname w;have e2:=aY.TF t2 ha;subst e2;refine⟨_,Frame.enter P f ⟨_⟩ .normal,t1,rfl,λcs0 wJ=>?_⟩;obtain⟨e,w',fr,⟨he,hw'⟩,hcomes,hfr,hlv⟩:=hC w cs0;subst he hw';exact⟨.ok v,none,h,β,_,.returned v,cs0,⟨rfl,rfl,rfl⟩,hW,Eff.refl _ _ _ hW.dom,.ok (VR.free hv),.none cs0,.inl ⟨f,_,fr,rfl,hcomes,hfr,hlv.2.2.1,hlv.1,hlv.2.1,hlv.2.2.2⟩⟩
noncomputable def OB(fn:Nat):bD->IH->ak (ah×IH):=λq h=>
 match q with
 |⟨.func f,[.string s,.int .u8 c],[],none⟩=>cond (Nat.beq f fn) (some (.int .i64 (Lib.indexByte s.data.toList c.toNat.toUInt8),h)) none
 |_=>none
def alf(hfn:P.funcs[f]? =some fn){body:Code}(hb:fn.body=some body)(hname:fn.name≠ "runtime.NumGoroutine")
 (hC:∀s c w,Calls P f #[.string s,.int .u8 c] w λe w'=>e=.returned (.int .i64 (Lib.indexByte s.data.toList c.toNat.toUInt8))/\w'=w)
 {q:bD} {h:IH} {v':ah} {h':IH} (hk:OB f q h=some (v',h')):CALL P q h (λr pm h2=>r=.ok v'/\pm=none/\h2=h'):=by
 unfold OB at hk;split at hk
 .rename_i g s c;cases hcd:Nat.beq g f with
  |false=>rw[hcd]at hk;cases hk
  |true=>
   rw[hcd]at hk;have e:=jR hcd;subst e;injection hk with hk;injection hk with h1 h2;refine .jP _ (.real (ale hfn hb hname rfl rfl λw=>hC s c w)) ?_
   grind
 .cases hk
structure Beyond(w w':World):Prop where
 heap:∀b,b<w.heap.size->w'.heap[b]? =w.heap[b]?
 size:w.heap.size<=w'.heap.size
 os:w'.os=w.os
 tape:w'.tape=w.tape
 output:w'.output=w.output
 drawn:w.drawn<=w'.drawn
def WR.beyond{β:aI}{h:IH}{w w':World}(hW:WR P β h w)(hb:Beyond w w'):WR P β h w'/\Eff β h w β h w':=
 ⟨⟨hW.dom,hW.live,λi g o h1 h2=>(hW.obj i g o h1 h2).congr (hb.heap _ (hW.obj i g o h1 h2).lt),hW.inj⟩,
  ⟨λ_ _=>rfl,bI _,λ_ _ h=>h,λ_ _ _=>rfl,bI _,λ_ _ _=>rfl,hb.os,hb.tape,hb.output,hb.size,λb hb' _=>hb.heap b hb',λi g hg hi=>absurd (hW.dom _ _ hg) tf,λi g _ _ _ _ hb'=>hb.heap _ hb',hb.drawn⟩⟩
def alg(w:World)(e:aF)(s:ByteArray):Beyond w (Lib.bytesWorld w e s):=by
 refine⟨λb hb=>?_,?_,rfl,rfl,rfl,Dl _⟩
 .show((w.heap.push _).modify w.heap.size _)[b]? =_
  grind
 .show w.heap.size<=((w.heap.push _).modify w.heap.size _).size
  grind
def alh(hfn:P.funcs[f]? =some fn){body:Code}(hb:fn.body=some body)(hname:fn.name≠ "runtime.NumGoroutine"){args:ae ah}{v:ah}(hv:TE v=true)(ha:args.all cB=true)
 (hC:∀w,Calls P f ⟨args⟩ w λe w'=>e=.returned v/\Beyond w w') {h:IH}:l6 P ⟨.func f,args,[],none⟩ h (λr pm h2=>pm=none/\r=.ok v/\h2=h):=by
 intro β w fn' args' cap' hG hW hf ha' hcap;obtain⟨jQ,t1,t2⟩:=BZ (args:=args) ud hf ha' hcap hfn hb hname w;have e2:=aY.TF t2 ha;subst e2;refine⟨_,Frame.enter P f ⟨_⟩ .normal,t1,rfl,λcs0 wJ=>?_⟩;obtain⟨e,w',fr,⟨he,hw'⟩,hcomes,hfr,hlv⟩:=hC w cs0;subst he;obtain⟨w1,w2⟩:=hW.beyond hw';exact⟨.ok v,none,h,β,_,.returned v,cs0,⟨rfl,rfl,rfl⟩,w1,w2,.ok (VR.ald hv),.none cs0,.inl ⟨f,_,fr,rfl,hcomes,hfr,hlv.2.2.1,hlv.1,hlv.2.1,hlv.2.2.2⟩⟩
noncomputable def OC(fn:Nat):bD->IH->ak (ah×IH):=λq h=>
 match q with
 |⟨.func f,[.string s],[],none⟩=>cond (Nat.beq f fn&&Nat.ble s.data.toList.length 18) (match Lib.atoi s.data.toList with
  |some n=>some (.tuple ⟨[.int .i64 n,.nilIface]⟩,h)
  |none=>none) none
 |_=>none
def ali(hfn:P.funcs[f]? =some fn){body:Code}(hb:fn.body=some body)(hname:fn.name≠ "runtime.NumGoroutine")
 (hC:∀(s:ByteArray) (n:Int),s.size<=18->Lib.atoi s.data.toList=some n->∀w,Calls P f #[.string s] w λe w'=>e=.returned (.tuple #[.int .i64 n,.nilIface])/\Beyond w w')
 {q:bD} {h:IH} {v':ah} {h':IH} (hk:OC f q h=some (v',h')):CALL P q h (λr pm h2=>r=.ok v'/\pm=none/\h2=h'):=by
 unfold OC at hk;split at hk
 .rename_i g s;cases hcd:(Nat.beq g f&&Nat.ble s.data.toList.length 18)with
  |false=>rw[hcd]at hk;cases hk
  |true=>
   rw[hcd]at hk;rw[eU]at hcd;have e:=jR hcd.1;have hl:s.size<=18:=by
    have h2:=mG hcd.2;exact h2
   subst e;split at hk
   .rename_i n hn;injection hk with hk;injection hk with h1 h2;refine .jP _ (.real (alh hfn hb hname rfl rfl λw=>hC s n hl hn w)) ?_
    grind
   .cases hk
 .cases hk
end Go.Ideal
namespace Go.Ideal
open Go.Sort Go.Proofs Go.RowKit Go.Lib Go.Shelf
variable {P:Program}
variable{w w':World}
def Beyond.grown(h:Beyond w w'):∃q os,w'=Go.Sort.grow (w.drewN q) os:=by
 refine⟨w'.drawn - w.drawn,w'.heap.extract w.heap.size w'.heap.size,?_⟩;obtain⟨heap,tape,drawn,os,output⟩:=w;obtain⟨heap',tape',drawn',os',output'⟩:=w';obtain⟨h1,h2,h3,h4,h5,h6⟩:=h;dsimp only at h1 h2 h3 h4 h5 h6;subst h3 h4 h5;have e1:heap'=heap++heap'.extract heap.size heap'.size:=by
  grind
 have e2:drawn'=drawn+(drawn' - drawn):=tf
 show World.mk heap' tape' drawn' os' output'=World.mk (heap++heap'.extract heap.size heap'.size) tape' (drawn+(drawn' - drawn)) os' output';rw[<- e1,<- e2]
variable{β:aI}
def Eff.beyond{β':aI}{h h':IH}(hW:WR P β h w)(he:Eff β h w β' h' w')(hl:h'.low=h.next):Beyond w w':=by
 refine⟨λk hk=>?_,he.size,he.os,he.tape,he.output,he.drawn⟩;by_cases hx:∀i g,β i=some g->h.get i≠none->g.b≠k
 .exact he.keep k hk hx
 .have hx:∃i g,β i=some g/\h.get i≠none/\g.b=k:=by
   grind
  obtain⟨i,g,hi,hg,rfl⟩:=hx;have hin:=hW.dom i g hi;exact he.uX i g (by rw[hl];exact hin) hin hi hg hk
variable{f:fI}
def Z8{fn:Func}(hfn:P.funcs[f]? =some fn){body:Code}(hb:fn.body=some body)(hname:fn.name≠ "runtime.NumGoroutine")(xs:Array ah)(w:World):(callFunc f xs).run P w=.ok (.enter f xs) w:=by
 exact iu
def alj(uZ:P.follows .mixedOrders=true){g:fI}{fn:Func}(hfn:P.funcs[g]? =some fn){body:Code}(hb:fn.body=some body)(hname:fn.name≠ "runtime.NumGoroutine"){args args' cap cap':ae ah}{F:ae aM}{n:Int}
 (hC:bG P (.func g) args cap [] F (λ_:Unit=>.int .i64 n) (λ_=>[]) (λ_=>[]) (λ_=>True)) {β:aI} {w:World} {d:Wd} (hlow:d.h.low=d.h.next) (hF:∀f∈F,f.p d) (hG:lZ P β) (hW:WR P β d.h w) (ha:aY β args args') (hc:aY β cap cap'):
 Calls P g ((⟨args'⟩:Array ah)++(⟨cap'⟩:Array ah)) w λe w'=>e=.returned (.int .i64 n)/\∃q os,w'=Go.Sort.grow (w.drewN q) os:=by
 have hst:St [] d [] F d:=⟨⟨bI _,λ_ _ _=>rfl,λ_ _=>rfl⟩,Wd.Le.refl d,λi hi hz=>.inl hz,⟨[],rfl,xH,tg⟩,hF⟩
 have hM:=Yh uZ (hC [] d hst);obtain⟨nx,F0,n1,n2,n3⟩:=hM β w (.func g) args' cap' hG hW (.func g) ha hc;have hnx:nx=.enter g ((⟨args'⟩)++(⟨cap'⟩)):=by
  simp only[invoke]at n1;rw[Z8 hfn hb hname]at n1;cases n1;rfl
 subst hnx;have Ar:F0=Frame.enter P g ((⟨args'⟩)++(⟨cap'⟩)) .normal:=by
  have:entry P .normal (.enter g ((⟨args'⟩)++(⟨cap'⟩)))=some (Frame.enter P g ((⟨args'⟩)++(⟨cap'⟩)) .normal):=rfl;have n2:entry P .normal (.enter g ((⟨args'⟩)++(⟨cap'⟩)))=some F0:=n2
  grind
 subst Ar;intro cs;obtain⟨r,pm',h',β',w',r',cs1,q1,q2,q3,q4,q5,q6⟩:=n3 cs (by intro m hm;cases hm);obtain⟨hp,d2,_,rfl,hs2,rfl,_⟩:=q1;have alm:=hs2.agree.low (by grind) tg;cases q5;cases q4 with
 | @ok v v' qh=>
   have:=qh.nT;subst this;rcases q6 with⟨f1,a1,F1,e1,e2,e3,e4,e5⟩|⟨⟨_,l,e1⟩,_⟩
   .cases e1;refine⟨.returned _,w',F1,⟨rfl,(q3.beyond hW (alm.trans hlow)).grown⟩,e2,e3,?_⟩;exact qT
   .cases e1
def OD(P:Program)(f:fI)(k:Nat)(wr:ae ah->ah):Prop:=∀(α:Type) [Inhabited α] (enc:α->ae ah) (cf:α->α->Int) (g:fI) (cb:Array ah) (blk off cap:Nat) (d:Array α) (w:World),
 (∀x,(enc x).length=k)->(∀x,∀v∈enc x,v.oneCell'=true)->SWO (ltOf cf)->(∀args w,(callFunc g args).run P w=.ok (.enter g args) w)->
 (∀(m:Nat) (os:Array Obj) (dk:Array α),dk.size=d.size->∀x y:α,Calls P g (#[wr (enc x),wr (enc y)]++cb) (sortWorldK enc k w blk off m dk os) λe w'=>e=.returned (.int .i64 (cf x y))/\∃q os',w'=Go.Sort.grow ((sortWorldK enc k w blk off m dk os).drewN q) os')->
 HoldsK enc k w blk off d->blk<w.heap.size->d.size<4611686018427387904->
 Calls P f #[.slice (some ⟨blk,off,none⟩) d.size cap,.func (.func g) #[] cb] w λe w'=>e=.returned (.tuple #[])/\∃d' n os,PermIn 0 d.size d d'/\SortedIn (ltOf cf) 0 d.size d'/\w'=sortWorldK enc k w blk off n d' os
def zy(l:ae ah):ah:=l.headD .nilFunc
structure El{X:Type}(β:aI)(E:Enc X)(xs:List X)(d:Wd) where
 x:X
 y:E.Y
 v:List Value
 mem:x∈xs
 rel:aY β (E.pat x y) v
 cell:(E.pat x y).all cellV=true
 fs:∀f∈E.fs x y,f.p d
variable{vs vs':ae ah}
def aY.oneCell(hv:aY β vs vs')(hall:vs.all cellV=true):∀v∈vs',v.oneCell'=true:=λv hv'=>by
 obtain⟨j,hj⟩:=iI hv';have hjl:j<vs.length:=by
  have:=(bJ.1 hj).1;rw[hv.length]at this;exact this
 exact fN
noncomputable def Wd.but(d:Wd)(b:Nat):Wd:=⟨⟨(d.h.kill b).t,d.h.next,d.h.next⟩,d.z,d.l8⟩
def Wd.GG(d:Wd)(b i:Nat):(d.but b).h.get i=if i=b then none else d.h.get i:=by
 exact IH.um _ _ _
def Wd.aln{d:Wd}{b:Nat}(hz:¬d.z b):d.Le (d.but b):=⟨bI _,λ_ h=>h,λi hi=>by rw[Wd.GG,if_neg (by grind)]⟩
variable{α:Type}
def alo[Inhabited α](enc:α->ae ah)(k:Nat)(w:World)(blk off m:Nat)(dk:Array α)(os:Array Obj){b:Nat}(hb:b<w.heap.size)(hne:b≠blk):(sortWorldK enc k w blk off m dk os).heap[b]? =w.heap[b]?:=by
 show((w.heap.modify blk _)++os)[b]? =_
 grind
def WR.alp[Inhabited α]{β:aI}{d:Wd}{w:World}(hW:WR P β d.h w){b:Nat}{g:jf}{cs:ae ah}(hi:β b=some g)(hg:d.h.get b=some (.cells cs))(enc:α->ae ah)(k off m:Nat)(dk:Array α)(os:Array Obj):
 WR P β (d.but b).h (sortWorldK enc k w g.b off m dk os):=by
 refine⟨hW.dom,λi o h=>?_,λi g' o h1 h2=>?_,λi j g1 g2 h1 h2 h3 h4 h5 h6=>?_⟩
 .rw[Wd.GG]at h;split at h
  .cases h
  .exact hW.live i o h
 .rw[Wd.GG]at h2;split at h2
  .cases h2
  .rename_i hib;have hO:=hW.obj i g' o h1 h2;refine hO.congr (alo enc k w g.b off m dk os hO.lt λe=>hib ?_);exact hW.inj i b g' g h1 hi (by rw[h2];simp) (by rw[hg];simp) (by grind) e
 .rw[Wd.GG]at h3 h4;rw[Wd.GG,Wd.GG]at h5;split at h3
  .exact absurd rfl h3
  split at h4
  .exact absurd rfl h4
  rename_i n1 n2;rw[if_neg n1,if_neg n2]at h5;exact hW.inj i j g1 g2 h1 h2 h3 h4 h5 h6
def List.alq{R:α->α->Prop}{l:ae α}(h:∀(i j:Nat) x y,i<j->l[i]? =some x->l[j]? =some y->R x y):l.Pairwise R:=
 xI.2 λi j hi hj hij=>h i j _ _ hij (by grind) (by grind)
def alr(uZ:P.follows .mixedOrders=true){f g:fI}{k:Nat}{wr:ae ah->ah}(hwr:∀{β:aI} {vs vs':ae ah},vs.length=k->vs.all cellV=true->aY β vs vs'->VR β (wr vs) (wr vs'))(hS:OD P f k wr){fn:Func}(hfn:P.funcs[f]? =some fn){body:Code}(hb:fn.body=some body)(hname:fn.name≠ "runtime.NumGoroutine"){gn:Func}(hgn:P.funcs[g]? =some gn){OE:Code}(hgb:gn.body=some OE)(OG:gn.name≠ "runtime.NumGoroutine")
 {X:Type} {E:Enc X} (hE:E.n=k) (hk0:0<k) {xs:ae X} {cf:X->X->Int} (hO:SWO (ltOf cf)) {cap:ae ah} {F:ae aM}
 (hC:∀x∈xs,∀y∈xs,∀a b,bG P (.func g) [wr (E.pat x a),wr (E.pat y b)] cap [] (E.fs x a++(E.fs y b++F)) (λ_:Unit=>.int .i64 (cf x y)) (λ_=>[]) (λ_=>[]) (λ_=>True))
 {d:Wd} {b o c:Nat} {fl:ak Nat} {cs:ae ah} (hg:d.h.get b=some (.cells cs)) (hz:¬d.z b) (hF:∀f∈F,f.p d)
 (hel:∀(j:Nat) x,xs[j]? =some x->∃y,(∀(t:Nat) u,(E.pat x y)[t]? =some u->cs[o+j*E.n+t]? =some u)/\∀f∈E.fs x y,f.p d) (hcs:cs.length=o+xs.length*E.n) (hne:0<xs.length) (hlen:xs.length<4611686018427387904):
 l6 P ⟨.func f,[.slice (some ⟨b,o,fl⟩) xs.length c,.func (.func g) ⟨[]⟩ ⟨cap⟩],[],none⟩ d.h (λr pm h2=>pm=none/\r=.ok (.tuple ⟨[]⟩)/\∃(zs:ae (X×E.Y)) (cs2:ae ah),(zs.map (·.1)).Perm xs/\(zs.map (·.1)).Pairwise (λx y=>¬cf y x<0)/\cs2.length=cs.length/\
  (∀(j:Nat) p,zs[j]? =some p->(∀(t:Nat) u,(E.pat p.1 p.2)[t]? =some u->cs2[o+j*E.n+t]? =some u)/\∀f∈E.fs p.1 p.2,f.p d)/\h2=d.h.set b (.cells cs2)):=by
 subst hE;intro β w fn' args' cap' hG hW hf ha hcap;obtain⟨jQ,t1,t2⟩:=BZ (P:=P) (q:=⟨.func f,[.slice (some ⟨b,o,fl⟩) xs.length c,.func (.func g) ⟨[]⟩ ⟨cap⟩],[],none⟩) (f:=f) (args:=[.slice (some ⟨b,o,fl⟩) xs.length c,.func (.func g) ⟨[]⟩ ⟨cap⟩]) ud hf ha hcap hfn hb hname w;cases t2 with|cons hv tl=>
 cases tl with|cons hv2 tl=>
 cases tl;obtain⟨gi,a,c',hi,rfl,hab,_,hn,hcc,hao,_⟩:=hv.nU;obtain⟨fn2,f2,cb,hfr2,hf2,hcb,rfl⟩:=hv2.BQ;cases hfr2;cases hf2;have hao:a.off=gi.off+o/\a.spot=none:=by
  exact qq
 obtain⟨⟨c0,t0,Ol,hh,_⟩,q2,q3,q4,q5,q6⟩:=hW.obj b gi _ hi hg;have ea:a=⟨gi.b,gi.off+o,none⟩:=by
  obtain⟨ab,ao,asp⟩:=a;exact pB
 subst ea;have hlt:gi.b<w.heap.size:=(MW.1 hh).1;have als:∀j t,j<xs.length->t<E.n->o+j*E.n+t<cs.length:=λj t hj ht=>by
  have:=Nat.mul_le_mul_right E.n (show j+1<=xs.length from hj);rw[xB,Fw]at this;omega
 let cellOf:Nat->ah:=λt=>(w.cell? ⟨gi.b,gi.off+o+t,none⟩).getD .nilFunc
 have hcell:∀t,t<xs.length*E.n->w.cell? ⟨gi.b,gi.off+o+t,none⟩=some (cellOf t)/\w.frozen? ⟨gi.b,gi.off+o+t,none⟩=false:=λt ht=>by
  obtain⟨r1,r2⟩:=q4 (gi.off+o+t) tf;refine⟨?_,r2⟩;obtain⟨v,hv⟩:=Fj.1 r1;show _=some ((w.cell? ⟨gi.b,gi.off+o+t,none⟩).getD .nilFunc);rw[hv];rfl
 have hex:∀j,j<xs.length->∃e:El β E xs d,xs[j]? =some e.x/\e.v=(List.range E.n).map λt=>cellOf (j*E.n+t):=λj hj=>by
  have hx:xs[j]? =some xs[j]:=bY hj;obtain⟨y,h1,h2⟩:=hel j _ hx;refine⟨⟨xs[j],y,(List.range E.n).map λt=>cellOf (j*E.n+t),rY hj,?_,?_,h2⟩,hx,rfl⟩
  .refine aY.Nh (by rw[bC,tV,E.len]) λt v ht=>?_;have htn:t<E.n:=by have:=(bJ.1 ht).1;rw[E.len]at this;exact this
   obtain⟨v',r1,r2⟩:=q6 _ v (h1 t v ht);refine⟨v',?_,r2⟩;rw[dZ,yR htn,om];show some ((w.cell? ⟨gi.b,gi.off+o+(j*E.n+t),none⟩).getD .nilFunc)=_;rw[show gi.off+o+(j*E.n+t)=gi.off+(o+j*E.n+t)by omega,r1];rfl
  .rw[jN]at q5⊢;intro v hv;obtain⟨t,ht⟩:=iI hv;exact q5 v (aU (h1 t v ht))
 have e0:El β E xs d:=Classical.choice (by obtain⟨e,_⟩:=hex 0 hne;exact⟨e⟩)
 haveI:Inhabited (El β E xs d):=⟨e0⟩
 obtain⟨el,Gu⟩:∃el:Nat->El β E xs d,∀j,j<xs.length->xs[j]? =some (el j).x/\(el j).v=(List.range E.n).map λt=>cellOf (j*E.n+t):=
  ⟨λj=>if h:j<xs.length then Classical.choose (hex j h)else e0,λj hj=>by dsimp only;rw[dif_pos hj];exact Classical.choose_spec (hex j hj)⟩
 let D:Array (El β E xs d):=((List.range xs.length).map el).toArray
 have hDs:D.size=xs.length:=by simp[D]
 have hDg:∀j,j<xs.length->D[j]! =el j:=λj hj=>by
  rw[getElem!_pos D j (by rw[hDs];exact hj)];simp[D]
 have hDx:D.toList.map (·.x)=xs:=by
  apply jr;intro j;by_cases hj:j<xs.length
  .rw[(Gu j hj).1];simp[D,hj]
  .rw[iJ (l:=xs) tf,iJ (by simp[D];omega)]
 have hlv:∀e:El β E xs d,e.v.length=E.n:=λe=>by rw[e.rel.length,E.len]
 have hH:HoldsK (λe:El β E xs d=>e.v) E.n w gi.b (gi.off+o) D:=λt ht=>by
  have ht:t<xs.length*E.n:=by rw[size_flatK,hDs]at ht;exact ht
  rw[get_flatK _ _ _ _ (by rw[hDs];exact ht)];have hq:t/E.n<xs.length:=(Wx hk0).2 ht;have hr:t%E.n<E.n:=zX _ hk0;rw[hDg _ hq,(Gu _ hq).2];have:((List.range E.n).map λt'=>cellOf (t/E.n*E.n+t'))[t%E.n]! =cellOf t:=by
   rw[getElem!_pos _ _ (by simpa using hr)];simp only[List.getElem_map,List.getElem_range];rw[Ie,Nat.div_add_mod]
  rw[this];exact hcell t ht
 have hO2:SWO (ltOf λa b:El β E xs d=>cf a.x b.x):=⟨λa=>hO.irrefl a.x,λa b c=>hO.trans a.x b.x c.x,λa b c=>hO.ntrans a.x b.x c.x⟩
 have hcmp:∀(m:Nat) (os:Array Obj) (dk:Array (El β E xs d)),dk.size=D.size->∀x y:El β E xs d,Calls P g (#[wr x.v,wr y.v]++⟨cb⟩) (sortWorldK (λe:El β E xs d=>e.v) E.n w gi.b (gi.off+o) m dk os) λe w'=>e=.returned (.int .i64 (cf x.x y.x))/\∃q os',w'=Go.Sort.grow ((sortWorldK (λe:El β E xs d=>e.v) E.n w gi.b (gi.off+o) m dk os).drewN q) os':=λm os dk _ x y=>by
  have hle:=Wd.aln hz;exact alj uZ hgn hgb OG (hC x.x x.mem y.x y.mem x.y y.y) (d:=d.but b) rfl (λfa hfa=>by
   rcases eP.1 hfa with h|h
   .exact fa.mono hle (x.fs fa h)
   .rcases eP.1 h with h|h
    .exact fa.mono hle (y.fs fa h)
    .exact fa.mono hle (hF fa h)) hG (hW.alp hi hg _ _ _ m dk os) (.cons (hwr (E.len _ _) x.cell x.rel) (.cons (hwr (E.len _ _) y.cell y.rel) .nil)) hcb
 have hK:=hS (El β E xs d) (λe=>e.v) (λa b=>cf a.x b.x) g ⟨cb⟩ gi.b (gi.off+o) c' D w hlv (λe=>aY.oneCell e.rel e.cell) hO2 (λxs w=>Z8 hgn hgb OG xs w) hcmp hH hlt (by rw[hDs];exact hlen);refine⟨_,Frame.enter P f ⟨_⟩ .normal,t1,rfl,λcs0 wJ=>?_⟩;rw[hDs]at hK;obtain⟨e,w',fr,⟨he,d2,n2,os,hpm,hsd,hw'⟩,hcomes,hfr,hlv2⟩:=hK cs0;subst he;have hd2:d2.size=xs.length:=hpm.1.trans hDs;have hdg:∀(j:Nat) e,d2.toList[j]? =some e->j<xs.length/\d2[j]! =e:=λj e h=>by
  rw[Array.getElem?_toList]at h;obtain⟨hj,he⟩:=MW.1 h;exact⟨tf,by rw[getElem!_pos d2 j hj];exact he⟩
 let zs:ae (X×E.Y):=d2.toList.map λe=>(e.x,e.y)
 let L:ae ah:=(List.range (xs.length*E.n)).map λt=>(E.pat (d2[t/E.n]!).x (d2[t/E.n]!).y).getD (t%E.n) .nilFunc
 let L':ae ah:=(flatK (λe:El β E xs d=>e.v) E.n d2).toList
 have Cv:L.length=xs.length*E.n:=by simp[L]
 have TG:∀t,t<xs.length*E.n->L[t]? =some ((E.pat (d2[t/E.n]!).x (d2[t/E.n]!).y).getD (t%E.n) .nilFunc):=λt ht=>by
  show((List.range (xs.length*E.n)).map _)[t]? =_;rw[dZ,yR ht];rfl
 have alx:L'.length=xs.length*E.n:=by simp[L',hd2]
 have TH:∀(e:El β E xs d) t,t<E.n->(E.pat e.x e.y)[t]? =some ((E.pat e.x e.y).getD t .nilFunc):=λe t ht=>by
  rw[List.getD_eq_getElem?_getD,bY (by rw[E.len];exact ht)];rfl
 have Z9:∀(t:Nat) v,L[t]? =some v->t<xs.length*E.n:=λt v ht=>by
  have:=(bJ.1 ht).1
  rwa [Cv]at this
 have hrel:aY β L L':=aY.Nh (by rw[alx,Cv]) λt v ht=>by
  have htn:=Z9 t v ht;rw[TG t htn]at ht;cases ht;have hr:=zX t hk0;obtain⟨v',r1,r2⟩:=(d2[t/E.n]!).rel.get (TH _ _ hr);refine⟨v',?_,r2⟩;have h1:L'[t]? =some (flatK (λe:El β E xs d=>e.v) E.n d2)[t]!:=by
   show(flatK (λe:El β E xs d=>e.v) E.n d2).toList[t]? =_;rw[Array.getElem?_toList,Array.getElem?_eq_getElem Cl,getElem!_pos _ _ Cl]
  rw[h1,get_flatK _ _ _ _ (by rw[hd2];exact htn)];show some ((d2[t/E.n]!).v)[t%E.n]! =_;rw[getElem!_pos _ _ (by rw[hlv];exact hr),<- bY];exact r1
 have hall:L.all cellV=true:=by
  rw[jN];intro v hv;obtain⟨t,ht⟩:=iI hv;have htn:=Z9 t v ht;rw[TG t htn]at ht;cases ht;exact jN.1 (d2[t/E.n]!).cell _ (aU (TH _ _ (zX t hk0)))
 obtain⟨cs2,hl⟩:=Cs cs o L (by rw[Cv];omega);obtain⟨l1,l2,l3⟩:=BL hl;have hs:d.h.storeAt b o L=some (d.h.set b (.cells cs2)):=by unfold IH.storeAt;simp only[hg,hl]
 obtain⟨_,w1,w2⟩:=DR hW hi hs hrel hall;have hw1:sortWorldK (λe:El β E xs d=>e.v) E.n w gi.b (gi.off+o) n2 d2 os=Go.Sort.grow (Sort.ahead (w.setCells gi.b (gi.off+o) L') n2) os:=by
  have:=Go.Ideal.setCells_putRow (id:ah->ah) w gi.b (gi.off+o) (flatK (λe:El β E xs d=>e.v) E.n d2);rw[Ih]at this;rw[show w.setCells gi.b (gi.off+o) L'=_ from this];rfl
 rw[hw1]at hw';have w3:WR P β (d.h.set b (.cells cs2)) (Sort.ahead (w.setCells gi.b (gi.off+o) L') n2):=w1.qg rfl;have w4:=w2.trans (Eff.qg (w':=Sort.ahead (w.setCells gi.b (gi.off+o) L') n2) w1.dom rfl rfl rfl rfl (Nat.le_add_right _ _));obtain⟨w5,w6⟩:=w3.grow os;rw[<- hw']at w5 w6;refine⟨.ok (.tuple ⟨[]⟩),none,_,β,w',.returned (.tuple #[]),cs0,⟨rfl,rfl,zs,cs2,?_,?_,l2,?_,rfl⟩,w5,w4.trans w6,.ok (.eO _),.none cs0,.inl ⟨f,_,fr,rfl,hcomes,hfr,hlv2.2.2.1,hlv2.1,hlv2.2.1,hlv2.2.2.2⟩⟩
 .have hp:=hpm.2.2;rw[show d2.extract 0 xs.length=d2 by rw[<- hd2];simp,show D.extract 0 xs.length=D by rw[<- hDs];simp]at hp;have h1:=hp.map (·.x);rw[hDx]at h1;show((d2.toList.map λe=>(e.x,e.y)).map (·.1)).Perm xs;rw[sj];exact h1
 .show((d2.toList.map λe=>(e.x,e.y)).map (·.1)).Pairwise _;rw[sj];refine List.alq λi j x y hij hx hy=>?_;rw[dZ,lq]at hx hy;obtain⟨e1,hx,rfl⟩:=hx;obtain⟨e2,hy,rfl⟩:=hy;have h1:=hdg i e1 hx;have h2:=hdg j e2 hy;have:=hsd i j (bH _) hij h2.1;rw[h1.2,h2.2]at this;exact ou this
 .intro j p hj;have hj:(d2.toList.map λe=>(e.x,e.y))[j]? =some p:=hj;rw[dZ,lq]at hj;obtain⟨e,he0,rfl⟩:=hj;obtain⟨hjn,he⟩:=hdg j e he0;refine⟨λt u ht=>?_,e.fs⟩;have htn:t<E.n:=by have:=(bJ.1 ht).1;rw[E.len]at this;exact this
  have hb2:=als j t hjn htn;rw[l3,if_pos ⟨tf,by rw[Cv];omega⟩,show o+j*E.n+t - o=j*E.n+t by omega,TG _ tf];have d1:(j*E.n+t)/E.n=j:=by rw[Ie,Nat.mul_add_div hk0,Nat.div_eq_of_lt htn,Dm]
  have d3:(j*E.n+t)%E.n=t:=by rw[Ie,Nat.mul_add_mod,Nat.mod_eq_of_lt htn]
  rw[d1,d3,he,<- TH e t htn];exact ht
def TI(P:Program)(f:fI):Prop:=∀(p:ak Addr) (cap:Nat) (fv:ah) (w:World),Calls P f #[.slice p 0 cap,fv] w λe w'=>e=.returned (.tuple #[])/\w'=w
def VR.aly{a:ak Addr}{n c:Nat}{v:ah}(h:VR β (.slice a n c) v):∃p c',v=.slice p n c':=by
 cases h<;>exact⟨_,_,rfl⟩
def alz(hS:TI P f){fn:Func}(hfn:P.funcs[f]? =some fn){body:Code}(hb:fn.body=some body)(hname:fn.name≠ "runtime.NumGoroutine"){a:ak Addr}{c:Nat}{fv:ah}{h:IH}:
 l6 P ⟨.func f,[.slice a 0 c,fv],[],none⟩ h (λr pm h2=>pm=none/\r=.ok (.tuple ⟨[]⟩)/\h2=h):=by
 intro β w fn' args' cap' hG hW hf ha' hcap;obtain⟨jQ,t1,t2⟩:=BZ (args:=[.slice a 0 c,fv]) ud hf ha' hcap hfn hb hname w;cases t2 with|cons hv tl=>
 cases tl with|cons hv2 tl=>
 cases tl;obtain⟨p,c',rfl⟩:=hv.aly;refine⟨_,Frame.enter P f ⟨_⟩ .normal,t1,rfl,λcs0 wJ=>?_⟩;obtain⟨e,w',fr,⟨he,hw'⟩,hcomes,hfr,hlv⟩:=hS p c' _ w cs0;subst he hw';exact⟨.ok (.tuple ⟨[]⟩),none,h,β,_,.returned (.tuple #[]),cs0,⟨rfl,rfl,rfl⟩,hW,Eff.refl _ _ _ hW.dom,.ok (.eO _),.none cs0,.inl ⟨f,_,fr,rfl,hcomes,hfr,hlv.2.2.1,hlv.1,hlv.2.1,hlv.2.2.2⟩⟩
def alA(uZ:P.follows .mixedOrders=true){f g:fI}{k:Nat}{wr:ae ah->ah}(hwr:∀{β:aI} {vs vs':ae ah},vs.length=k->vs.all cellV=true->aY β vs vs'->VR β (wr vs) (wr vs'))(hS:OD P f k wr)(hN:TI P f){fn:Func}(hfn:P.funcs[f]? =some fn){body:Code}(hb:fn.body=some body)(hname:fn.name≠ "runtime.NumGoroutine"){gn:Func}(hgn:P.funcs[g]? =some gn){OE:Code}(hgb:gn.body=some OE)(OG:gn.name≠ "runtime.NumGoroutine")
 {X:Type} {E:Enc X} (hE:E.n=k) (hk0:0<k) {xs:ae X} {cf:X->X->Int} (hO:SWO (ltOf cf)) {cap:ae ah} {F:ae aM} {a:ak Addr}
 (hC:∀x∈xs,∀y∈xs,∀a b,bG P (.func g) [wr (E.pat x a),wr (E.pat y b)] cap [] (E.fs x a++(E.fs y b++F)) (λ_:Unit=>.int .i64 (cf x y)) (λ_=>[]) (λ_=>[]) (λ_=>True))
 (hlen:xs.length<4611686018427387904):
 bG P (.func f) [.slice a xs.length xs.length,.func (.func g) ⟨[]⟩ ⟨cap⟩] [] [ap E (.slice a xs.length xs.length) xs] F (λ_:ae X=>.tuple ⟨[]⟩) (λys=>[ap E (.slice a xs.length xs.length) ys]) (λ_=>[]) (λys=>ys.Perm xs/\ys.Pairwise λx y=>¬cf y x<0):=by
 intro B w s;by_cases hx:xs=[]
 .subst hx;refine .real (F9 _ (alz hN hfn hb hname) ?_);rintro r pm h' ⟨rfl,rfl,rfl⟩;exact⟨rfl,w,[],rfl,⟨s.agree,s.le,s.fZ,s.own,λf hf=>by cases hf⟩,rfl,.refl _,.nil⟩
 have hne:=Ig.2 hx;obtain⟨S,⟨S1,S2,q1,q2,e⟩,h2,h3⟩:=s.own;rcases q1 with⟨h,_⟩|⟨b,o,fl,cells,e1,hf,e2,hb',hcl,hel⟩
 .exact absurd h hx
 injection e1 with e1 Tw;subst e1 e2 e;have hzb:=(h3 b tg).2.2;refine .real (F9 _ (alr uZ hwr hS hfn hb hname hgn hgb OG hE hk0 hO hC hb' hzb s.facts hel hcl hne hlen) ?_);rintro r pm h' ⟨rfl,rfl,zs,cs2,hp,hpw,hl2,alB,rfl⟩;have s1:St B w [pt b (.cells cells)] [] w:=⟨s.agree,s.le,s.fZ,⟨[b]++S2,⟨[b],S2,⟨rfl,hb'⟩,q2,rfl⟩,h2,h3⟩,λf hf=>by cases hf⟩
 have s2:=s1.write (o':=.cells cs2);have hle:=s2.le;have hzl:zs.length=xs.length:=by have:=hp.length_eq;rwa [bC]at this
 refine⟨rfl,⟨w.h.set b (.cells cs2),w.z,λi hi=>w.l8 i hi⟩,zs.map (·.1),rfl,?_,rfl,hp,hpw⟩;refine s2.zl λS' hp'=>?_;refine .inr ⟨b,o,fl,cs2,by rw[bC,hzl],hf,hp'.1,hp'.2,by rw[hl2,hcl,bC,hzl],λj x hj=>?_⟩;rw[dZ,lq]at hj;obtain⟨p,hj,rfl⟩:=hj;obtain⟨r1,r2⟩:=alB j p hj;exact⟨p.2,r1,λf hf=>f.mono hle (r2 f hf)⟩
def alC(h:∀(α:Type) [Inhabited α] (enc:α->ah) (cf:α->α->Int) (g:fI) (cb:Array ah) (blk off cap:Nat) (d:Array α) (w:World),OneCell enc->SWO (ltOf cf)->(∀args w,(callFunc g args).run P w=.ok (.enter g args) w)->CmpLays1 P g cb enc cf blk off d.size w->Holds enc w blk off d->blk<w.heap.size->d.size<4611686018427387904->
 Calls P f #[.slice (some ⟨blk,off,none⟩) d.size cap,.func (.func g) #[] cb] w λe w'=>e=.returned (.tuple #[])/\∃d' n os,PermIn 0 d.size d d'/\SortedIn (ltOf cf) 0 d.size d'/\w'=sortWorld enc w blk off n d' os):OD P f 1 zy:=by
 intro α _ enc cf g cb blk off cap d w hk h1 hO eg hcmp hH hblk hsz;have he:∀x,enc x=[zy (enc x)]:=λx=>by
  have:=hk x;match h2:enc x,this with
  |[v],_=>rfl
 have hfl:∀dk:Array α,flatK enc 1 dk=dk.map λx=>zy (enc x):=λdk=>by
  refine ext_get! tg λt ht=>?_;rw[size_flatK,pY]at ht;rw[get_flatK _ _ _ _ tf,Nat.div_one,Nat.mod_one,he]
  grind
 have hpc:∀(dk:Array α) (c:Array ah),putCells id off (dk.map λx=>zy (enc x)) c=putCells (λx=>zy (enc x)) off dk c:=λdk c=>by
  unfold putCells
  grind
 have hsw:∀(m:Nat) (dk:Array α) (os:Array Obj),sortWorldK enc 1 w blk off m dk os=sortWorld (λx=>zy (enc x)) w blk off m dk os:=λm dk os=>by
  unfold sortWorldK sortWorld putRowK putRow;rw[hfl,funext (hpc dk)]
 have:=h α (λx=>zy (enc x)) cf g cb blk off cap d w (λx=>(by grind)) hO eg (λm os dk hs x y=>by
  grind) (λj hj=>by
  have:=hH j (by rw[size_flatK];omega)
  grind) hblk hsz
 grind
def alD(h1:vs.length=1)(h2:vs.all cellV=true)(h:aY β vs vs'):VR β (zy vs) (zy vs'):=by
 match vs,h1 with
 |[v],_=>
  cases h with|cons a b=>
  exact a
end Go.Ideal
namespace Go.Ideal
open Go.Proofs Go.RowKit Go.Lib Go.Shelf
variable {P:Program}
structure TJ(P:Program)(f:FuncId)(z:Value)(e:TypeId)(dm:Nat):Prop where
 room:∀(b off n c i vb vo:Nat) (cs:List Value) (v:Value) (w:World),i<n->n+1<=c->(n+1)*dm<=140737488355328->vb≠b->cs.length=n->(∀j u,cs[j]? =some u->w.cell? ⟨b,off+j,none⟩=some u)->(∀j,j<n+1->(w.cell? ⟨b,off+j,none⟩).isSome=true)->
  (∀j,j<n+1->w.frozen? ⟨b,off+j,none⟩=false)->w.cell? ⟨vb,vo,none⟩=some v->(∀u∈cs,u.oneCell'=true)->v.oneCell'=true->∀(tA tB:TypeId) (kA kB:Nat),w.shape? vb=some (tA,kA)->w.shape? b=some (tB,kB)->kB≠0->w.frozen? ⟨vb,vo,none⟩=false->w.frozen? ⟨vb,kA,none⟩=false->
  Calls P f #[.slice (some ⟨b,off,none⟩) n c,.int .i64 i,.slice (some ⟨vb,vo,none⟩) 1 1] w λe w'=>e=.returned (.slice (some ⟨b,off,none⟩) (n+1) c)/\w'=(w.drew.setCells b (off+(i+1)) (cs.drop i)).setCells b (off+i) [v]
 grow:∀(b off n c i vb vo:Nat) (cs:List Value) (v:Value) (w:World),i<n->n<=c->c<n+1->(n+1)*dm<=140737488355328->cs.length=n->(∀j u,cs[j]? =some u->w.cell? ⟨b,off+j,none⟩=some u)->w.cell? ⟨vb,vo,none⟩=some v->(∀u∈cs,u.oneCell'=true)->v.oneCell'=true->
  Calls P f #[.slice (some ⟨b,off,none⟩) n c,.int .i64 i,.slice (some ⟨vb,vo,none⟩) 1 1] w λr w'=>∃k,n+1<=k/\r=.returned (.slice (some ⟨w.heap.size,0,none⟩) (n+1) k)/\
   w'=(((w.alloc (.cells ⟨cs.take i++List.replicate (n+1 - i) z++List.replicate (k - (n+1)) z⟩ e)).drew.setCells w.heap.size i [v]).drew).setCells w.heap.size (i+1) (cs.drop i)
def kY{α:Type}(l:ae α)(i:Nat)(x:α):ae α:=l.take i++x::l.drop i
variable{α:Type}{i:Nat}
def Es{l:ae α}{x:α}(h:i<=l.length):(kY l i x).length=l.length+1:=by
 unfold kY;grind
def GH{l:ae α}{x:α}(h:i<=l.length)(t:Nat):(kY l i x)[t]? =if t<i then l[t]? else if t=i then some x else l[t - 1]?:=by
 unfold kY
 grind
def alE{β:aI}{x v:ah}(h:VR β x v)(hc:cellV x=true):v.oneCell'=true:=
 aY.oneCell (.cons h .nil) (by simp[hc]) v (by grind)
def alF{f:fI}{z:ah}{e:aF}{dm:Nat}(hz:VR (λ_=>none) z z)(hzc:cellV z=true)(hI:TJ P f z e dm){fn:Func}(hfn:P.funcs[f]? =some fn){body:Code}(hb:fn.body=some body)(hname:fn.name≠ "runtime.NumGoroutine")
 {h:IH} {j o fl n i vb:Nat} {cs0:ae ah} {x:ah} (hj:h.get j=some (.cells cs0)) (hv:h.get vb=some (.cells [x])) (hne:vb≠j) (hcl:cs0.length=o+n) (hfl:fl=0\/fl=1) (hi:i<n) (hn:(n+1)*dm<=140737488355328):
 l6 P ⟨.func f,[.slice (some ⟨j,o,some fl⟩) n n,.int .i64 (i:Int),.slice (some ⟨vb,0,some 0⟩) 1 1],[],none⟩ h (λr pm h'=>pm=none/\r=.ok (.slice (some ⟨h.next,0,some 1⟩) (n+1) (n+1))/\Cb h h' j (.cells (kY (cs0.drop o) i x))):=by
 intro β w fn' args' cap' hG hW hf ha hcap;obtain⟨jQ,t1,t2⟩:=BZ (P:=P) (q:=⟨.func f,[.slice (some ⟨j,o,some fl⟩) n n,.int .i64 (i:Int),.slice (some ⟨vb,0,some 0⟩) 1 1],[],none⟩) (f:=f) (args:=[.slice (some ⟨j,o,some fl⟩) n n,.int .i64 (i:Int),.slice (some ⟨vb,0,some 0⟩) 1 1]) ud hf ha hcap hfn hb hname w;cases t2 with|cons hv1 tl=>
 cases tl with|cons hv2 tl=>
 cases tl with|cons hv3 tl=>
 cases tl;obtain rfl:=hv2.nT;obtain⟨gi,a,c',hgi,rfl,hab,_,_,hcc,hao,hkind⟩:=hv1.nU;obtain⟨gv,av,cv,hgv,rfl,aaa,_,_,awo,aab,alG⟩:=hv3.nU;have hcv:cv=1:=by
  rcases alG with⟨_,e⟩|⟨e,h0,_⟩
  .exact e
  .injection e with e;omega
 subst hcv;have ea:a=⟨gi.b,gi.off+o,none⟩:=by
  obtain⟨ab,ao,asp⟩:=a;simp only at hab hao;rcases hao with hao|hao
  .omega
  .rw[hab,hao.1,hao.2]
 subst ea;have ev:av=⟨gv.b,gv.off,none⟩:=by
  obtain⟨ab,ao,asp⟩:=av;simp only at aaa aab;rcases aab with hao|hao
  .omega
  .rw[aaa,hao.1,hao.2];rfl
 subst ev;obtain⟨⟨c0,t0,Ol,hh,alH⟩,q2,q3,q4,q5,q6⟩:=hW.obj j gi _ hgi hj;obtain⟨⟨c1,t1',fz1,hh1,alI⟩,p2,p3,p4,p5,p6⟩:=hW.obj vb gv _ hgv hv;have hbb:gv.b≠gi.b:=λe=>hne (hW.inj vb j gv gi hgv hgi (by rw[hv];simp) (by rw[hj];simp) (.inl λcs e=>by rw[hv]at e;cases e) e);have hjn:j<h.next:=hW.live j _ hj
 obtain⟨v,IL,qh⟩:=p6 0 x rfl;rw[Dm]at IL;have zz:cellV x=true:=by simpa using p5
 have aad:v.oneCell'=true:=alE qh zz;have p2:1=gv.len:=p2;have alJ:w.frozen? ⟨gv.b,gv.off,none⟩=false:=(p4 gv.off tf).2;let old:ae ah:=cs0.drop o
 have hol:old.length=n:=by show(cs0.drop o).length=n;rw[uT];omega
 let lN:ae ah:=(List.range n).map λt=>(w.cell? ⟨gi.b,gi.off+o+t,none⟩).getD .nilFunc
 have hRl:lN.length=n:=by simp[lN]
 have hRg:∀t,t<n->lN[t]? =w.cell? ⟨gi.b,gi.off+o+t,none⟩:=λt ht=>by
  obtain⟨u,hu⟩:=Fj.1 (q4 (gi.off+o+t) tf).1;show((List.range n).map _)[t]? =_;rw[dZ,yR ht,hu];show some ((w.cell? ⟨gi.b,gi.off+o+t,none⟩).getD .nilFunc)=_;rw[hu];rfl
 have TK:∀t u,lN[t]? =some u->w.cell? ⟨gi.b,gi.off+o+t,none⟩=some u:=λt u ht=>by
  have htn:t<n:=by have:=(bJ.1 ht).1;omega
  rw[<- hRg t htn];exact ht
 have hrel:aY β old lN:=aY.Nh (by rw[hRl,hol]) λt u ht=>by
  have htn:t<n:=by have:=(bJ.1 ht).1;omega
  have ht':cs0[o+t]? =some u:=by rw[<- rZ];exact ht
  obtain⟨u',r1,r2⟩:=q6 (o+t) u ht';exact⟨u',by rw[hRg t htn,oq];exact r1,r2⟩
 have Cw:old.all cellV=true:=by
  rw[jN]at q5⊢;exact λu hu=>q5 u (Ii hu)
 have hR1:∀u∈lN,u.oneCell'=true:=aY.oneCell hrel Cw;have hnew:(kY old i x).all cellV=true:=by
  rw[jN]at Cw⊢;intro u hu;rcases eP.1 hu with hu|hu
  .exact Cw u (Ij hu)
  .rcases dB.1 hu with rfl|hu
   .exact zz
   .exact Cw u (Ii hu)
 refine⟨_,Frame.enter P f ⟨_⟩ .normal,t1,rfl,λcs hcs=>?_⟩;by_cases hroom:n+1<=c'
 .
  obtain⟨k0,k1,k2,k3⟩:fl=1/\gi.sz=1/\o+n=gi.len/\gi.off+o+c'=gi.top:=by
   rcases hkind with⟨_,e⟩|⟨e,h0,e2,e3,_⟩
   .omega
   .injection e with e;have:gi.sz=1:=by omega
    rw[this]at e2 e3;exact⟨tf,this,tf,tf⟩
  obtain⟨r,w',fr,⟨he,hw'⟩,hcomes,hfr,hlv⟩:=hI.room gi.b (gi.off+o) n c' i gv.b gv.off lN v w hi hroom hn hbb hRl TK (λt ht=>(q4 _ tf).1) (λt ht=>(q4 _ tf).2) IL hR1 aad t1' t0 c1.size c0.size (by simp only[World.shape?,hh1]) (by simp only[World.shape?,hh])
   (λe=>by
     have:=(q4 (gi.off+o) tf).1;simp only[World.cell?,hh]at this;rw[Array.getElem?_eq_none tf]at this;cases this) alJ (by simp only[World.frozen?,hh1];simpa using alI) cs
  subst he;obtain⟨A1,A2,A3,A4,A5,A6⟩:=RG (w:=w.drew) gi.b (gi.off+o+(i+1)) (lN.drop i);obtain⟨B1,B2,B3,B4,B5,B6⟩:=RG (w:=w.drew.setCells gi.b (gi.off+o+(i+1)) (lN.drop i)) gi.b (gi.off+o+i) [v];rw[<- hw']at B1 B2 B3 B4 B5 B6;have hdl:(lN.drop i).length=n - i:=by rw[uT,hRl]
  have hs0:∀t,t<gi.top->(w.drew.cell? ⟨gi.b,t,none⟩).isSome=true:=λt ht=>(q4 t ht).1;have hs1:∀t,t<gi.top->((w.drew.setCells gi.b (gi.off+o+(i+1)) (lN.drop i)).cell? ⟨gi.b,t,none⟩).isSome=true:=λt ht=>by
   by_cases hr:gi.off+o+(i+1)<=t/\t<gi.off+o+(i+1)+(lN.drop i).length
   .have:=Fh gi.b (lN.drop i) (gi.off+o+(i+1)) w.drew (λk hk=>hs0 _ tf) (t - (gi.off+o+(i+1))) tf;rw[show gi.off+o+(i+1)+(t - (gi.off+o+(i+1)))=t by omega]at this;rw[this];simp
   .rw[Bv gi.b (lN.drop i) (gi.off+o+(i+1)) w.drew ⟨gi.b,t,none⟩ (λ_ _=>by simp;omega)];exact hs0 t ht
  have hcell:∀t u,(kY lN i v)[t]? =some u->w'.cell? ⟨gi.b,gi.off+o+t,none⟩=some u:=λt u ht=>by
   have htl:t<n+1:=by
    have:=(bJ.1 ht).1
    rwa [Es tf,hRl]at this
   rw[GH tf]at ht;rw[hw'];by_cases h1:t=i
   .rw[if_neg tf,if_pos h1]at ht;have:=Fh gi.b [v] (gi.off+o+i) (w.drew.setCells gi.b (gi.off+o+(i+1)) (lN.drop i)) (λk hk=>by have hk:k<1:=hk;exact hs1 _ tf) 0 tg;rw[h1];exact this.trans ht
   .rw[Bv gi.b [v] (gi.off+o+i) _ ⟨gi.b,gi.off+o+t,none⟩ (λ_ _=>by simp;omega)];by_cases h2:t<i
    .rw[if_pos h2]at ht;rw[Bv gi.b (lN.drop i) (gi.off+o+(i+1)) w.drew ⟨gi.b,gi.off+o+t,none⟩ (λ_ _=>by simp;omega)];exact TK t u ht
    .rw[if_neg h2,if_neg h1]at ht;have:=Fh gi.b (lN.drop i) (gi.off+o+(i+1)) w.drew (λk hk=>hs0 _ tf) (t - (i+1)) tf;rw[show gi.off+o+(i+1)+(t - (i+1))=gi.off+o+t by omega]at this;rw[this,<- ht];rw[<- bY,rZ,show i+(t - (i+1))=t - 1 by omega]
  have hins:aY β (kY old i x) (kY lN i v):=(hrel.take i).append (.cons qh (hrel.drop i));have hle:=aI.xQ (β:=β) (i:=h.next) ⟨gi.b,gi.off+o,n+1,gi.top,1⟩ hW.y8;obtain⟨R1,R2⟩:=hW.Xh hgi (by rw[hj];simp) (by rw[hj];intro cs e;cases e) (.cells (kY old i x)) ⟨gi.b,gi.off+o,n+1,gi.top,1⟩ rfl (w1:=w') (B1.trans A1) (λb hb=>(B2 b hb).trans (A2 b hb)) (B5.trans A5) (B4.trans A4) (B6.trans A6)
   (by rw[hw',IJ,IJ];exact Dl _)
   ⟨B3 (A3 ⟨c0,t0,Ol,hh,alH⟩),by rw[Es tf,hol],by show gi.off+o+(n+1)<=gi.top;omega,λt ht=>⟨by
    by_cases hr:gi.off+o+i<=t/\t<gi.off+o+i+[v].length
    .have:=Fh gi.b [v] (gi.off+o+i) (w.drew.setCells gi.b (gi.off+o+(i+1)) (lN.drop i)) (λk hk=>by have hk:k<1:=hk;exact hs1 _ tf) (t - (gi.off+o+i)) tf;rw[show gi.off+o+i+(t - (gi.off+o+i))=t by omega]at this;rw[hw',this];simp
    .rw[hw',Bv gi.b [v] (gi.off+o+i) _ ⟨gi.b,t,none⟩ (λ_ _=>by simp at hr⊢;omega)];exact hs1 t ht,by rw[hw',MU,MU];exact(q4 t ht).2⟩,hnew,λt u ht=>by
    obtain⟨u',r1,r2⟩:=hins.get ht;exact⟨u',hcell t u' r1,r2.mono hle⟩⟩
  have hlow:h.low<=j->((h.kill j).new (.cells (kY old i x))).low=h.low:=λhl=>by rw[IH.IE,IH.Ad];omega
  refine⟨.ok (.slice (some ⟨h.next,0,some 1⟩) (n+1) (n+1)),none,(h.kill j).new (.cells (kY old i x)),_,w',.returned _,cs,⟨rfl,rfl,⟨rfl,λt ht hne=>by rw[IH.jA,IH.um,if_neg (by rw[IH.IC];omega),if_neg hne],⟨by rw[IH.Ng,IH.IC];omega,by rw[IH.jA,if_pos (IH.IC h j).symm]⟩,hlow⟩⟩,R1,R2,.ok ?_,.none cs,.inl ⟨f,_,fr,rfl,hcomes,hfr,hlv.2.2.1,hlv.1,hlv.2.1,hlv.2.2.2⟩⟩;exact VR.qf (g:=⟨gi.b,gi.off+o,n+1,gi.top,1⟩) (aI.lY _ _ _) rfl rfl (bI _) Nat.one_pos tg tx hroom (.inr rfl)
 .
  have hcn:n<=c':=by rcases hkind with⟨_,e⟩|⟨e,h0,e2,e3,_⟩<;>omega
  obtain⟨r,w',fr,⟨k,hk,hr',hw'⟩,hcomes,hfr,hlv⟩:=hI.grow gi.b (gi.off+o) n c' i gv.b gv.off lN v w hi hcn tf hn hRl TK IL hR1 aad cs;subst hr';obtain⟨D1,D2⟩:=hW.drop hgi;have hzz:VR β z z:=hz.mono (λ_ _ hh=>by cases hh);have hrep:∀m,aY β (List.replicate m z) (List.replicate m z):=λm=>by
   induction m with
   |zero=>exact .nil
   |succ m ih=>exact .cons hzz ih
  have alK:∀m,(List.replicate m z).all cellV=true:=λm=>by
   rw[jN];intro u hu;rw[(List.mem_replicate.1 hu).2];exact hzc
  have alL:(old.take i).all cellV=true:=by
   rw[jN]at Cw⊢;exact λu hu=>Cw u (Ij hu)
  let g1:jf:=⟨w.heap.size,0,n+1,k,1⟩
  let c1':ae ah:=old.take i++List.replicate (n+1 - i) z
  have aag:c1'.length=n+1:=by
   show(old.take i++List.replicate (n+1 - i) z).length=n+1;rw[fV,gM,Du,hol];omega
  have hle:=aI.xQ (β:=β) (i:=(h.kill j).next) g1 D1.y8;have hcells:=OR.IK (P:=P) (β:=β.add (h.kill j).next g1) (w:=w) (cs:=c1') (cs':=lN.take i++List.replicate (n+1 - i) z) e
   (((hrel.take i).append (hrep _)).mono hle) (by rw[List.all_append,alL,alK];rfl) (List.replicate (k - (n+1)) z) 1
  have hcells:OR P (β.add (h.kill j).next g1) g1 (w.alloc (.cells ⟨lN.take i++List.replicate (n+1 - i) z++List.replicate (k - (n+1)) z⟩ e)) (.cells c1'):=by
   rw[aag,Du,show n+1+(k - (n+1))=k by omega]at hcells;exact hcells
  obtain⟨b1,b2⟩:=D1.alloc (.cells c1') (.cells ⟨lN.take i++List.replicate (n+1 - i) z++List.replicate (k - (n+1)) z⟩ e) g1 rfl rfl hcells;let wa:=w.alloc (.cells ⟨lN.take i++List.replicate (n+1 - i) z++List.replicate (k - (n+1)) z⟩ e)
  let ha:=(h.kill j).new (.cells c1')
  have b3:WR P (β.add (h.kill j).next g1) ha wa.drew:=b1.qg rfl;have b4:Eff (β.add (h.kill j).next g1) ha wa (β.add (h.kill j).next g1) ha wa.drew:=Eff.qg b1.dom rfl rfl rfl rfl;have hga:ha.get h.next=some (.cells c1'):=by show((h.kill j).new (.cells c1')).get h.next=_;rw[IH.jA,if_pos (IH.IC h j).symm]
  obtain⟨c2,hl2⟩:=Cs c1' i [x] tx;obtain⟨l1,l2,l3⟩:=BL hl2;have alM:ha.storeAt h.next i [x]=some (ha.set h.next (.cells c2)):=by unfold IH.storeAt;simp only[hga,hl2]
  obtain⟨_,m1,m2⟩:=DR b3 (g:=g1) (aI.lY _ _ _) alM (vs':=[v]) (.cons (qh.mono hle) .nil) (by simp[zz]);let hb':=ha.set h.next (.cells c2)
  let wb:=wa.drew.setCells w.heap.size i [v]
  have e0:g1.off+i=i:=gI _;rw[e0]at m1 m2;have b5:WR P (β.add (h.kill j).next g1) hb' wb.drew:=m1.qg rfl;have b6:Eff (β.add (h.kill j).next g1) hb' wb (β.add (h.kill j).next g1) hb' wb.drew:=Eff.qg m1.dom rfl rfl rfl rfl;have hgb:hb'.get h.next=some (.cells c2):=by show(ha.set h.next (.cells c2)).get h.next=_;rw[IH.mJ,if_pos rfl]
  have hdl:(old.drop i).length=n - i:=by rw[uT,hol]
  obtain⟨c3,hl3⟩:=Cs c2 (i+1) (old.drop i) (by rw[l2,aag,hdl];omega);obtain⟨n1,n2,n3⟩:=BL hl3;have alN:hb'.storeAt h.next (i+1) (old.drop i)=some (hb'.set h.next (.cells c3)):=by unfold IH.storeAt;simp only[hgb,hl3]
  obtain⟨_,OH,TL⟩:=DR b5 (g:=g1) (aI.lY _ _ _) alN (vs':=lN.drop i) ((hrel.drop i).mono hle) (by
   rw[jN]at Cw⊢;exact λu hu=>Cw u (Ii hu))
  have e1:g1.off+(i+1)=i+1:=gI _;rw[e1]at OH TL;have hc3:c3=kY old i x:=jr λt=>by
   rw[n3,hdl,l3,GH tf];by_cases h1:t<i
   .rw[if_neg tf,if_neg tx,if_pos h1];show(old.take i++List.replicate (n+1 - i) z)[t]? =_;rw[pX vA,vZ,if_pos h1]
   .rw[if_neg h1];by_cases h2:t=i
    .rw[if_neg tf,if_pos tx,if_pos h2,h2,tQ];rfl
    .rw[if_neg h2];by_cases h3:t<n+1
     .rw[if_pos tf,rZ,show i+(t - (i+1))=t - 1 by omega]
     .rw[if_neg tf,if_neg tx,iJ tf,iJ tf]
  rw[hc3]at OH TL;have hE:=((((D2.trans b2).trans b4).trans m2).trans b6).trans TL;rw[<- hw']at OH hE;refine⟨.ok (.slice (some ⟨h.next,0,some 1⟩) (n+1) (n+1)),none,hb'.set h.next (.cells (kY old i x)),_,w',.returned _,cs,⟨rfl,rfl,⟨rfl,λt ht hne=>?_,⟨?_,by rw[IH.mJ,if_pos rfl]⟩,λhl=>?_⟩⟩,OH,hE,.ok ?_,.none cs,.inl ⟨f,_,fr,rfl,hcomes,hfr,hlv.2.2.1,hlv.1,hlv.2.1,hlv.2.2.2⟩⟩
  .rw[IH.mJ,if_neg tf];show(ha.set h.next (.cells c2)).get t=_;rw[IH.mJ,if_neg tf];show((h.kill j).new (.cells c1')).get t=_;rw[IH.jA,if_neg (by rw[IH.IC];omega),IH.um,if_neg hne]
  .show h.next<h.next+1;omega
  .have:h.low<=h.next:=by omega
   rw[IH.FN];show min (ha.set h.next (.cells c2)).low _=_;rw[IH.FN];show min (min ((h.kill j).new (.cells c1')).low _) _=_;rw[IH.IE,IH.Ad];omega
  .exact VR.qf (g:=g1) (aI.lY _ _ _) rfl rfl (bI _) Nat.one_pos (by simp[g1]) (by simp[g1]) hk (.inr rfl)
def alO{E:Enc α}(hE:E.n=1){f:fI}{z:ah}{e:aF}{dm:Nat}(hz:VR (λ_=>none) z z)(hzc:cellV z=true)(hI:TJ P f z e dm){fn:Func}(hfn:P.funcs[f]? =some fn){body:Code}(hb:fn.body=some body)(hname:fn.name≠ "runtime.NumGoroutine")
 {ad:ak Addr} {xs:ae α} {a:α} {y:E.Y} {x:ah} (hx:E.pat a y=[x]) {vb i:Nat} (hi:i<xs.length) (hn:(xs.length+1)*dm<=140737488355328):
 bG P (.func f) [.slice ad xs.length xs.length,.int .i64 (i:Int),.slice (some ⟨vb,0,some 0⟩) 1 1] [] [ap E (.slice ad xs.length xs.length) xs,pt vb (.cells (E.pat a y))] (E.fs a y)
  (λc:Nat=>.slice (some ⟨c,0,some 1⟩) (xs.length+1) (xs.length+1)) (λc=>[ap E (.slice (some ⟨c,0,some 1⟩) (xs.length+1) (xs.length+1)) (kY xs i a)]) (λ_=>[]) (λ_=>True):=by
 intro B w s;have hv:At w.h vb (.cells (E.pat a y)):=s.at_ (.there .here);have s2:=St.drop (k:=[ap E (.slice ad xs.length xs.length) xs]) s;have hfs:∀f∈E.fs a y,f.p w:=λf hf=>s.facts f hf;obtain⟨S,⟨S1,S2,q1,q2,ee⟩,h2,h3⟩:=s.own;obtain⟨S1',S3,⟨ev,hvb⟩,⟨⟩,ee'⟩:=q2;subst ee' ev;rcases q1 with⟨h,_⟩|⟨b,o,fl,cells,e1,hf,e2,hb',hcl,hel⟩
 .rw[h]at hi;simp at hi
 injection e1 with e1 Tw;subst e1 e2 ee;have hne:vb≠b:=λe=>by subst e;simp at h2
 rw[hE,pY]at hcl;rw[hE]at hf;have zn:St B w [pt b (.cells cells)] (E.fs a y) w:=⟨s2.agree,s2.le,s2.fZ,⟨[b],⟨[b],[],⟨rfl,hb'⟩,rfl,rfl⟩,tg,λi hi=>h3 i (uR _ hi)⟩,s2.facts⟩
 refine .real (F9 _ (alF hz hzc hI hfn hb hname hb' (x:=x) (by rw[<- hx];exact hv.2) hne hcl hf hi hn) ?_);rintro r pm h' ⟨rfl,rfl,mv⟩;obtain⟨w',rfl,jF,yc⟩:=zn.move mv;refine⟨rfl,w',w.h.next,rfl,(jF.sub (F':=[]) Sub.nil).zl λS hp=>?_,rfl,trivial⟩;have hdl:(cells.drop o).length=xs.length:=by rw[uT];omega
 refine .inr ⟨_,0,1,_,by rw[Es tf],.inr hE.symm,hp.1,hp.2,by rw[Es tf,Es tf,hdl,hE];omega,λk u hk=>?_⟩;rw[GH tf]at hk;have side:∀t,xs[t]? =some u->(∀j v,j<1->cells[o+t]? =some v->(kY (cells.drop o) i x)[0+k*E.n+j]? =some v)->∃y,(∀(j:Nat) u',(E.pat u y)[j]? =some u'->(kY (cells.drop o) i x)[0+k*E.n+j]? =some u')/\∀f∈E.fs u y,f.p w':=λt ht hh=>by
  obtain⟨y',u1,u2⟩:=hel t u ht;refine⟨y',λj u' hj=>?_,λf hf=>f.mono yc (u2 f hf)⟩;have hj1:j<1:=by
   have:=(bJ.1 hj).1;rw[E.len,hE]at this;exact this
  have:=u1 j u' hj;rw[hE,pY,show o+t+j=o+t by omega]at this;exact hh j u' hj1 this
 by_cases h1:k<i
 .rw[if_pos h1]at hk;refine side k hk λj v hj hv=>?_;rw[hE,GH tf,show 0+k*1+j=k by omega,if_pos h1,rZ];exact hv
 .rw[if_neg h1]at hk;by_cases h2:k=i
  .rw[if_pos h2]at hk;cases hk;refine⟨y,λj u' hj=>?_,λf hf=>f.mono yc (hfs f hf)⟩;rw[hx]at hj;match j,hj with
   |0,hj=>rw[hE,GH tf,show 0+k*1+0=k by omega,if_neg h1,if_pos h2];exact hj
   |j+1,hj=>simp at hj
  .rw[if_neg h2]at hk;refine side (k - 1) hk λj v hj hv=>?_;rw[hE,GH tf,show 0+k*1+j=k by omega,if_neg h1,if_neg h2,rZ];exact hv
end Go.Ideal
namespace Go.Ideal
open Go.Sort Go.RowKit Go.Proofs
variable {P:Program}
def TM(P:Program)(f:fI):Prop:=∀(blk off cap:Nat) (zs:ae ByteArray) (w:World),Holds encStr w blk off (zs.map λz=>z.data.toList).toArray->blk<w.heap.size->zs.length<4611686018427387904->
 Calls P f #[.slice (some ⟨blk,off,none⟩) zs.length cap] w λe w'=>e=.returned (.tuple #[])/\∃n os,w'=Go.Sort.grow (putRow encStr (Sort.ahead w n) blk off ((zs.map λz=>z.data.toList).mergeSort λx y=>decide (x<=y)).toArray) os
def GI(zs:ae ByteArray):ae (ae UInt8):=(zs.map λz=>z.data.toList).mergeSort λx y=>decide (x<=y)
def qY(zs:ae ByteArray):ae ByteArray:=(GI zs).map λl=>⟨⟨l⟩⟩
def OI(zs:ae ByteArray):(qY zs).length=zs.length:=by unfold qY GI;rw[bC,List.length_mergeSort,bC]
variable{f:fI}
def alQ(hS:TM P f){fn:Func}(hfn:P.funcs[f]? =some fn){body:Code}(hb:fn.body=some body)(hname:fn.name≠ "runtime.NumGoroutine"){b o c:Nat}{fl:ak Nat}{zs:ae ByteArray}{h h':IH}{cs:ae ah}
 (hg:h.get b=some (.cells cs)) (hz:∀(j:Nat) z,zs[j]? =some z->cs[o+j]? =some (.string z)) (hne:0<zs.length) (hlen:zs.length<4611686018427387904) (hs:h.storeAt b o ((qY zs).map .string)=some h'):
 l6 P ⟨.func f,[.slice (some ⟨b,o,fl⟩) zs.length c],[],none⟩ h (λr pm h2=>pm=none/\r=.ok (.tuple ⟨[]⟩)/\h2=h'):=by
 intro β w fn' args' cap' hG hW hf ha hcap;obtain⟨jQ,t1,t2⟩:=BZ (P:=P) (f:=f) (args:=[.slice (some ⟨b,o,fl⟩) zs.length c]) ud hf ha hcap hfn hb hname w;cases t2 with|cons hv tl=>
 cases tl;obtain⟨g,a,c',hi,rfl,hab,_,hn,hcc,hao,_⟩:=hv.nU;have hao:a.off=g.off+o/\a.spot=none:=by
  exact qq
 obtain⟨⟨c0,t0,Ol,hh,_⟩,q2,q3,q4,q5,q6⟩:=hW.obj b g _ hi hg;have ea:a=⟨g.b,g.off+o,none⟩:=by
  obtain⟨ab,ao,OJ⟩:=a;exact pB
 subst ea;have hin:=λj hj=>(bJ.1 (hz j _ (bY hj))).1;have hH:Holds encStr w g.b (g.off+o) (zs.map λz=>z.data.toList).toArray:=λj hj=>by
  have hj:j<zs.length:=AK
  obtain⟨v',h1,h2⟩:=q6 (o+j) _ (hz j _ (bY hj));have:=h2.BP;subst this;refine⟨?_,(q4 _ (by have:=hin j hj;omega)).2⟩;rw[oq,h1];congr 1;rw[getElem!_pos _ j AK];simp
 have hlt:=(MW.1 hh).1;have hC:=hS g.b (g.off+o) c' zs w hH hlt hlen;obtain⟨_,w1,w2⟩:=DR hW hi hs (aY.free (by
  have:∀l:ae ByteArray,gJ (l.map Value.string)=true:=by
   exact py
  exact this _)) (by
  exact sv)
 refine⟨_,Frame.enter P f ⟨_⟩ .normal,t1,rfl,λcs0 wJ=>?_⟩;obtain⟨e,w',fr,⟨he,k,os,hw'⟩,hcomes,hfr,hlv⟩:=hC cs0;subst he;have hw1:putRow encStr (Sort.ahead w k) g.b (g.off+o) ((zs.map λz=>z.data.toList).mergeSort λx y=>decide (x<=y)).toArray=Sort.ahead (w.setCells g.b (g.off+o) ((qY zs).map .string)) k:=by
  have:=setCells_putRow encStr w g.b (g.off+o) (GI zs).toArray;rw[show(GI zs).toArray.toList.map encStr=(qY zs).map .string by unfold qY;rw[sj];rfl]at this;rw[this];rfl
 rw[hw1]at hw';have w3:WR P β h' (Sort.ahead (w.setCells g.b (g.off+o) ((qY zs).map .string)) k):=w1.qg rfl;have w4:=w2.trans (Eff.qg (w':=Sort.ahead (w.setCells g.b (g.off+o) ((qY zs).map .string)) k) w1.dom rfl rfl rfl rfl (Nat.le_add_right _ _));obtain⟨w5,w6⟩:=w3.grow os;rw[<- hw']at w5 w6;refine⟨.ok (.tuple ⟨[]⟩),none,h',β,w',.returned (.tuple #[]),cs0,⟨rfl,rfl,rfl⟩,w5,w4.trans w6,.ok (.eO _),.none cs0,.inl ⟨f,_,fr,rfl,hcomes,hfr,hlv.2.2.1,hlv.1,hlv.2.1,hlv.2.2.2⟩⟩
def alR(hS:TM P f){fn:Func}(hfn:P.funcs[f]? =some fn){body:Code}(hb:fn.body=some body)(hname:fn.name≠ "runtime.NumGoroutine"){a:ak Addr}{zs:ae ByteArray}(hne:0<zs.length)(hlen:zs.length<4611686018427387904):
 bG P (.func f) [.slice a zs.length zs.length] [] [ap aX (.slice a zs.length zs.length) zs] [] (λ_:Unit=>.tuple ⟨[]⟩) (λ_=>[ap aX (.slice a zs.length zs.length) (qY zs)]) (λ_=>[]) (λ_=>True):=by
 intro B w s;obtain⟨S,⟨S1,S2,q1,q2,e⟩,h2,h3⟩:=s.own;rcases q1 with⟨h,_⟩|⟨b,o,fl,cells,e1,hf,e2,hb',hcl,hel⟩
 .rw[h]at hne;simp at hne
 injection e1 with e1 Tw;subst e1;have hcl:cells.length=o+zs.length:=by rw[hcl];simp[aX]
 have hz:∀(j:Nat) z,zs[j]? =some z->cells[o+j]? =some (.string z):=λj z hj=>by
  obtain⟨y,u1,_⟩:=hel j z hj;have:=u1 0 (.string z) rfl;simpa[aX]using this
 have hst:∃cs2,w.h.storeAt b o ((qY zs).map .string)=some (w.h.set b (.cells cs2))/\cs2.length=cells.length/\∀(k:Nat) z,(qY zs)[k]? =some z->cs2[o+k]? =some (.string z):=by
  have hov:∃cs2,jE cells o ((qY zs).map .string)=some cs2:=Cs _ _ _ (by rw[bC,OI];omega);exact kq
 obtain⟨cs2,hst,hl2,Gu⟩:=hst;refine .real (F9 _ (alQ hS hfn hb hname hb' hz hne hlen hst) ?_);rintro r pm h' ⟨rfl,rfl,rfl⟩;have s1:St B w [pt b (.cells cells)] [] w:=⟨s.agree,s.le,s.fZ,⟨S,⟨S1,S2,⟨e2,hb'⟩,q2,e⟩,h2,h3⟩,λf hf=>by cases hf⟩
 refine⟨rfl,⟨w.h.set b (.cells cs2),w.z,λi hi=>w.l8 i hi⟩,(),rfl,?_,rfl,trivial⟩;refine(s1.write (o':=.cells cs2)).Ch (A:=pt b (.cells cs2)) λw' S' hp=>?_;refine .inr ⟨b,o,fl,cs2,by rw[OI],hf,hp.1,hp.2,by rw[hl2,hcl,OI];simp[aX],λk x hk=>⟨(),λj u hj=>?_,λf hf=>by cases hf⟩⟩;match j,hj with
 |0,hj=>
  cases hj;have:=Gu k x hk;simpa[aX]using this
end Go.Ideal
namespace Go.Ideal
variable {P:Program}
section
variable {B:ae Nat} {w0:Wd} {kl kl':ae OA} {F:ae aM} {K:KO} {ds:ae Tmp} {rest:ae bW} {n:Nat} {l:qr} {D:ae Deferred} {pm:ak FrameMode} {ro:ak Nat} {d:Nat} {g:ak (Tmp×Bool)}
variable{α:Type}
def alS{E:Enc α}{e:aF}{size bytes b':Nat}{s x:az}{v:ah}{xs:ae α}{a:α}{y:E.Y}{cs:ae ah}{k1 k2:ae OA}(hn:Nat.blt d n=true)(hg:bV l g=true)
 (hs:ev l s=v) (hx:ev l x=.slice (some ⟨b',0,some 0⟩) 1 1) (hk:aB (ap E v xs) kl k1) (hc:aB (pt b' (.cells cs)) k1 k2) (hp:cs=E.pat a y) (hF:Sub (E.fs a y) F) (hz:E.n=size)
 (hm:(xs.length+1)*bytes<=1073741824/\(xs.length+1)*size<=1073741824/\xs.length+1<=1073741824):
 dD (R (λh=>aJ P ds (⟨⟨some d,g,.append e size bytes s x⟩,[]⟩::rest) (act n l D pm ro) h K) B w0 kl F)
  (∀c,R (λh=>aJ P ds rest (act n ((d,.slice (some ⟨c,0,some E.n⟩) (xs.length+1) (xs.length+1))::l) D pm ro) h K) B w0 (ap E (.slice (some ⟨c,0,some E.n⟩) (xs.length+1) (xs.length+1)) (xs++[a])::k2) F):=by
 refine⟨λr w st=>?_⟩;subst hp hz;have hlen:=E.len a y;have st2:St B w0 (ap E v xs::pt b' (.cells (E.pat a y))::k2) F w:=st.lK (.cons hk (.cons hc .nil));have hat:At w.h b' (.cells (E.pat a y)):=st2.at_ (.there .here);have pq:St B w0 (ap E v xs::k2) F w:=(st2.gz (.there .here)).tail;have hfs:∀f∈E.fs a y,f.p w:=λf hf=>st.facts f (hF.mem f hf);have hread:w.h.iK b' 0 (1*E.n)=some (E.pat a y):=by
  exact mS
 have hx1:qb (ev l x)=some (0+1):=by rw[hx];rfl
 have hx2:oV E.n (0+1) (ev l x) w.h=some (E.pat a y):=AH
 have put:∀(w':Wd) (c:Nat) (f:Nat) (cells:ae ah),cells.length=xs.length*E.n->(∀(k:Nat) z,xs[k]? =some z->∃y,(∀(j:Nat) u,(E.pat z y)[j]? =some u->cells[k*E.n+j]? =some u)/\∀f∈E.fs z y,f.p w')->(∀f∈E.fs a y,f.p w')->
  (f=0\/f=E.n)->∀S,(pt c (.cells (cells++E.pat a y))).p w' S->(ap E (.slice (some ⟨c,0,some f⟩) (xs.length+1) (xs.length+1)) (xs++[a])).p w' S:=by
  intro w' c f cells h1 h2 h3 h4 S hp;refine .inr ⟨c,0,f,_,by grind,h4,hp.1,hp.2,by grind,λk z hk=>?_⟩;by_cases hlt:k<xs.length
  .exact ij
  .exact eR
 obtain⟨S,⟨S1,S2,q,q2,e1⟩,hnd,hown⟩:=pq.own;rcases q with⟨rfl,rfl,rfl⟩|⟨b,o,f,cells,rfl,hf,rfl,hb,hcl,hel⟩
 .exact dg
 .exact cJ
def OL(E:Enc α){e:aF}{size bytes b':Nat}{s x:az}{v:ah}{xs:ae α}(a:α)(y:E.Y){cs:ae ah}{k1 k2:ae OA}
 (hm:(xs.length+1)*bytes<=1073741824/\(xs.length+1)*size<=1073741824/\xs.length+1<=1073741824)
 (next:∀c,R (λh=>aJ P ds rest (act n ((d,.slice (some ⟨c,0,some E.n⟩) (xs.length+1) (xs.length+1))::l) D pm ro) h K) B w0 (ap E (.slice (some ⟨c,0,some E.n⟩) (xs.length+1) (xs.length+1)) (xs++[a])::k2) F)
 (hn:Nat.blt d n=true:=by rfl) (hg:bV l g=true:=by rfl)
 (hs:ev l s=v:=by conv=>lhs;whnf) (hx:ev l x=.slice (some ⟨b',0,some 0⟩) 1 1:=by rfl) (hk:aB (ap E v xs) kl k1:=by exact dV) (hc:aB (pt b' (.cells cs)) k1 k2:=by exact dV) (hp:cs=E.pat a y:=by rfl) (hF:Sub (E.fs a y) F:=by exact mK) (hz:E.n=size:=by rfl):
 R (λh=>aJ P ds (⟨⟨some d,g,.append e size bytes s x⟩,[]⟩::rest) (act n l D pm ro) h K) B w0 kl F:=
 (alS hn hg hs hx hk hc hp hF hz hm).h next
def gv(f:Nat):ak Nat->Nat->ah
 |none,_=>.slice none 0 0
 |some c,n=>.slice (some ⟨c,0,some f⟩) n n
def aah{E:Enc α}{c:ak Nat}{xs:ae α}{w:Wd}{S:ae Nat}(h:(ap E (gv E.n c xs.length) xs).p w S)(h0:0<xs.length):∃b cells,gv E.n c xs.length=.slice (some ⟨b,0,some E.n⟩) xs.length xs.length/\S=[b]/\w.h.get b=some (.cells cells)/\cells.length=xs.length*E.n/\
 ∀(k:Nat) x,xs[k]? =some x->∃y,(∀(j:Nat) u,(E.pat x y)[j]? =some u->cells[k*E.n+j]? =some u)/\∀f∈E.fs x y,f.p w:=by
 rcases h with⟨h,_⟩|⟨b,o,f,cells,h1,h2,h3,h4,h5,h6⟩
 .grind
 .cases c with
  |none=>simp[gv]at h1
  |some c=>
   simp only[gv,Value.slice.injEq,bz,Addr.mk.injEq]at h1;obtain⟨⟨rfl,rfl,h1⟩,_⟩:=h1;refine⟨c,cells,rfl,h3,h4,by rw[h5,gI],λk x hk=>?_⟩;obtain⟨y,q1,q2⟩:=h6 k x hk;exact⟨y,(by grind),q2⟩
def aai{E:Enc α}{xs:ae α}{Q:IH->Prop}(h0:0<xs.length)(hk:aB (ap E (.slice none 0 0) xs) kl kl':=by exact dV):R Q B w0 kl F:=λw s=>by
 obtain⟨S,⟨S1,S2,q1,q2,e⟩,h2,h3⟩:=(s.gz hk).own;obtain⟨b,cells,h,_⟩:=aah (c:=none) q1 h0;simp[gv]at h
end
end Go.Ideal
namespace Go.Ideal
variable {P:Program} {B:ae Nat} {w0:Wd} {kl kl' bM:ae OA} {F:ae aM} {K:KO} {ds:ae Tmp} {rest:ae bW} {n:Nat} {l:qr} {D:ae Deferred} {pm:ak FrameMode} {ro:ak Nat} {d:Nat} {g:ak (Tmp×Bool)}
variable{α:Type}
def OM{E:Enc α}(a b:ae (α×E.Y)):dx E (a++b)=dx E a++dx E b:=by unfold dx;grind
def alT{E:Enc α}{aD:ae (α×E.Y)}{k:Nat}{p:α×E.Y}(hk:k<aD.length):jE (dx E aD) (k*E.n) (E.pat p.1 p.2)=some (dx E (aD.set k p)):=by
 have h1:=(si k aD).symm;have hd:=qp hk;have h2:dx E aD=dx E (aD.take k)++(E.pat aD[k].1 aD[k].2++dx E (aD.drop (k+1))):=by
  conv=>lhs;rw[h1,hd,OM]
  rfl
 have h3:k*E.n=(dx E (aD.take k)).length:=by rw[Ct,gM,MX tf]
 rw[h2,h3,Oy (by rw[E.len,fV,E.len];omega),E.len,List.drop_append_of_le_length (by rw[E.len];exact bI _),List.drop_of_length_le (by rw[E.len];exact bI _)];congr 1;have h4:aD.set k p=aD.take k++p::aD.drop (k+1):=by
  grind
 rw[h4,OM];rfl
def alU(E:Enc α){aD:ae (α×E.Y)}{k o b m:Nat}(p:α×E.Y){x y:az}(hlt:k<aD.length)(ho:o=k*E.n)
 (next:R (λh=>aJ P ds rest (act n l D pm ro) h K) B w0 (pt b (.cells (dx E (aD.set k p)))::kl') F)
 (hx:ev l x=.pointer (some ⟨b,o,none⟩):=by rfl) (hy:ev l y=.agg ⟨E.pat p.1 p.2⟩:=by rfl) (hk:aB (pt b (.cells (dx E aD))) kl kl':=by exact dV) (hz:E.n=m:=by rfl) (hg:bV l g=true:=by rfl):
 R (λh=>aJ P ds (⟨⟨none,g,.store m x y⟩,[]⟩::rest) (act n l D pm ro) h K) B w0 kl F:=by
 subst ho hz;exact(SX hg hx (by rw[hy];rfl) (by rw[xO,E.len];exact Dq _) hk (alT hlt)).h next
variable{x:az}{b f m o c size:Nat}{ρ:az->ah}
def TN{Az AA:ak az}{lo hi:Nat}(hx:ρ x=.slice (some ⟨b,o,some f⟩) m c)(hf:f=0\/f=size)(hs:0<size)(hlo:Az=none/\lo=0\/∃t,Az=some t/\ρ t=.int .i64 (lo:Int))(hhi:AA=none/\hi=m\/∃t,AA=some t/\ρ t=.int .i64 (hi:Int))(h1:lo<=hi)(h2:hi<=c):
 Pu P ρ (.FB size x Az AA none) (.slice (some ⟨b,o+lo*size,some f⟩) (hi - lo) (c - lo)):=λh=>by
 have e3:=Og h2;have e4:=Og h1;have hbd:bounds? m c (jw ρ Az) (jw ρ AA) none=some (lo,hi,c):=by
  rcases hlo with⟨rfl,rfl⟩|⟨t,rfl,ht⟩<;>rcases hhi with⟨rfl,hm⟩|⟨t',rfl,ht'⟩
  .rw[hm];rfl
  .show bounds? m c none (some (ρ t')) none=_;rw[ht'];show(match upTo c (.int .i64 hi)with|none=>none|some h=>match some 0 with|none=>none|some l=>some (l,h,c))=_;rw[e3]
  .rw[hm]at e4⊢;show bounds? m c (some (ρ t)) none none=_;rw[ht];show(match upTo m (.int .i64 lo)with|none=>none|some l=>some (l,m,c))=_;rw[e4]
  .show bounds? m c (some (ρ t)) (some (ρ t')) none=_;rw[ht,ht'];show(match upTo c (.int .i64 hi)with|none=>none|some h=>match upTo h (.int .i64 lo)with|none=>none|some l=>some (l,h,c))=_
   grind
 have h3:jw ρ none=none:=rfl;simp only[aK.run,hx,h3,hbd];match f,hf with
 |0,_=>rfl
 |k+1,hf=>
  have hk:k+1=size:=by
   grind
  show cond (Nat.beq (Nat.succ k) size) (some (Value.slice (some ⟨b,Nat.add o (Nat.mul lo size),some (Nat.succ k)⟩) (hi - lo) (c - lo),h)) none=_;rw[show Nat.beq (Nat.succ k) size=true by rw[show Nat.succ k=size from hk];exact Dq _];rfl
def alV{zero:ae ah}{cs cs':ae ah}(hv:jE cs o (zeros zero m)=some cs')(h0:0<m)
 (next:R (λh=>aJ P ds rest (act n l D pm ro) h K) B w0 (pt b (.cells cs')::kl') F)
 (hx:ev l x=.slice (some ⟨b,o,some f⟩) m c:=by rfl) (hk:aB (pt b (.cells cs)) kl kl':=by exact dV) (hg:bV l g=true:=by rfl):
 R (λh=>aJ P ds (⟨⟨none,g,.clear zero x⟩,[]⟩::rest) (act n l D pm ro) h K) B w0 kl F:=λw s=>by
 obtain⟨k,rfl⟩:∃k,m=k+1:=⟨m - 1,tf⟩
 exact NM hg (v:=.tuple #[]) (by simp only[aK.run,hx];simp only[IH.storeAt,(s.at_ hk).2,hv]) (next _ ((s.gz hk).write))
def alW(cs:ae ah):jE cs cs.length []=some cs:=by
 have:=Oy (cs1:=cs) (cs2:=[]) (xs:=[]) (bH _);simpa using this
variable{v:ah}
def aaj{re:ae iY}{e:aF}{bytes:Nat}{s:az}(E:Enc α)(aD yz:ae (α×E.Y))(hmx:m=aD.length)(hf0:f=0\/f=E.n)(hm:(m+yz.length)*bytes<=1073741824/\(m+yz.length)*size<=1073741824/\m+yz.length<=1073741824)
 (next:∀b' f' m',m'=(aD++yz).length->(f'=0\/f'=E.n)->R (λh=>aJ P ds rest (act n ((d,.slice (some ⟨b',0,some f'⟩) m' m')::l) D pm ro) h K) B w0 (pt b' (.cells (dx E (aD++yz)))::kl') F)
 (hs:ev l s=.slice (some ⟨b,0,some f⟩) m m:=by rfl) (hx:ev l x=v:=by conv=>lhs;whnf) (hf:sP E v yz∈F:=by exact ic) (hz:E.n=size:=by rfl) (hk:aB (pt b (.cells (dx E aD))) kl kl':=by exact dV) (hn:Nat.blt d n=true:=by rfl) (hg:bV l g=true:=by rfl)
 (hsm:∀b' f' m',Same P re (ev ((d,.slice (some ⟨b',0,some f'⟩) m' m')::l)) ((d,.slice (some ⟨b',0,some f'⟩) m' m')::l) B w0 (pt b' (.cells (dx E (aD++yz)))::kl') F:=by intro _ _ _;repeat (first|exact Eb|refine Ec rfl dV tv rfl ?_|refine Gh rfl ic tv rfl ?_|refine Gi rfl ic tv rfl ?_|refine Gj rfl dV tv rfl ?_|refine Gl rfl ic tv rfl ?_|refine Gm rfl ic tv rfl ?_|refine Tc AI rfl ?_)):
 R (λh=>aJ P ds (⟨⟨some d,g,.append e size bytes s x⟩,re⟩::rest) (act n l D pm ro) h K) B w0 kl F:=λw st=>by
 subst hz hmx;have st1:=st.gz hk;have hat:At w.h b (.cells (dx E aD)):=st.at_ hk;have hfl:=Ct aD;obtain⟨r1,r2⟩:=ak6 (st.facts _ hf);by_cases hne:yz=[]
 .subst hne;rw[iE]at next
  rw[Bw,Dm]at hm;have hle:∀{a b:Nat},a<=b->Nat.ble a b=true:=λh=>by rw[tN];exact h
  rw[iE]at hsm;refine TA hn hg (v:=.slice (some ⟨b,0,some f⟩) aD.length aD.length) (h':=w.h.set b (.cells (dx E aD))) ?_ (hsm b f _ ⟨w.h.set b (.cells (dx E aD)),w.z,λi hi=>w.l8 i hi⟩ st1.write) (next b f _ rfl hf0 ⟨w.h.set b (.cells (dx E aD)),w.z,λi hi=>w.l8 i hi⟩ st1.write);have e1:w.h.storeAt b (Nat.add 0 (Nat.mul aD.length E.n)) []=some (w.h.set b (.cells (dx E aD))):=by
   have e2:jE (dx E aD) (Nat.add 0 (Nat.mul aD.length E.n)) []=some (dx E aD):=by
    rw[show Nat.add 0 (Nat.mul aD.length E.n)=(dx E aD).length by rw[hfl];exact gI _];exact alW _
   unfold IH.storeAt;simp only[st1.get.1,e2]
  simp only[aK.run,hx,hs,r1,r2,z8];rw[show Nat.add aD.length (List.length ([]:ae (α×E.Y)))=aD.length from rfl,show dx E ([]:ae (α×E.Y))=[]from rfl];rw[hle (show Nat.mul aD.length bytes<=small from hm.1),hle (show Nat.mul aD.length E.n<=small from hm.2.1),hle (show aD.length<=small from hm.2.2),hle (bI aD.length)];simp only[Bool.and_self,cond_true,e1]
 .obtain⟨k,hk'⟩:∃k,yz.length=k+1:=⟨yz.length - 1,by have:=Ig.2 hne;omega⟩
  rw[hk']at r1 r2 hm;refine ZM (b:=b) (o:=0) (m:=aD.length) (k:=k) (f:=some f) (old:=dx E aD) (xs:=dx E yz) hn hg hs (by rw[hx];exact r1) (by rw[hx];exact r2) ?_ (by rcases hf0 with h|h<;>rw[h];exact .inl rfl;exact .inr rfl) hm (λh' mv=>?_) λh' mv=>?_
  .rw[hat.cX.iK,o8,wh,o9,if_pos tf,oQ tf]
  .obtain⟨w',rfl,jF,yc⟩:=st1.move mv;have:=hsm w.h.next E.n (aD.length+(k+1))
   rw[OM]at this;exact this w' jF
  obtain⟨w',rfl,jF,yc⟩:=st1.move mv;have:=next w.h.next E.n (aD.length+(k+1)) (by rw[fV,hk']) (.inr rfl)
  rw[OM]at this;exact this w' jF
def alX(E:Enc α){aD:ae (α×E.Y)}{rest':ae ah}{b f c:Nat}{Q:IH->Prop}(hf:f=0\/f=E.n)(hc:aD.length<=c)(h:R Q B w0 kl' (aj E (.slice (some ⟨b,0,some f⟩) aD.length c) (aD.map (·.1))::F))
 (ha:∀w,(∀f∈F,f.p w)->(wP E aD).p w) (hk:aB (pt b (.cells (dx E aD++rest'))) kl kl':=by exact dV):R Q B w0 kl F:=λw s=>by
 obtain⟨w',hw,s'⟩:=(s.gz hk).freeze (fs:=[⟨λw=>Fz w b (dx E aD++rest'),λa h=>h.mono a⟩]) (λw w' S hp hle hh hz g hg=>by
  rw[bS.1 hg];exact⟨hz b (by rw[hp.1];grind),.inl (by rw[hh];exact hp.2)⟩)
 have hfz:=s'.facts _ (fF ..);have alY:=ha w' λf hf=>s'.facts f (by grind);rw[<- hw];refine h w' ⟨s'.agree,s'.le,s'.fZ,s'.own,λg hg=>?_⟩;rcases dB.1 hg with rfl|hg
 .refine .inr ⟨b,0,f,c,_,(by grind),hfz,λk x hk=>?_⟩;rw[dZ]at hk;cases hp:aD[k]? with
  |none=>rw[hp]at hk;cases hk
  |some p=>
   rw[hp]at hk;cases hk;refine⟨p.2,λj u hj=>?_,alY p (by grind)⟩;have:=zu hp hj
   grind
 .exact s'.facts g (by grind)
def alZ(E:Enc α){v:ah}{aD:ae (α×E.Y)}{Q:IH->Prop}(h0:aD=[]->∀c,v=.slice none 0 c->R Q B w0 kl F)(h1:aD=[]->∀i o f c,v=.slice (some ⟨i,o,some f⟩) 0 c->R Q B w0 kl F)
 (h2:0<aD.length->∀i o f c,v=.slice (some ⟨i,o,some f⟩) aD.length c->R Q B w0 kl F) (hf:sP E v aD∈F:=by exact ic):R Q B w0 kl F:=λw s=>by
 rcases s.facts _ hf with⟨e,a,c,hv,hg⟩|⟨i,o,f,c,cells,⟨hv,_⟩,_⟩
 .exact mC
 .by_cases hx:aD=[]
  .subst hx;exact h1 rfl i o f c hv w s
  .exact h2 (by grind) i o f c hv w s
def OO{E:Enc α}{xs:ae α}{Q:IH->Prop}(h:∀a,v=.slice a xs.length xs.length->(xs=[]->a=none\/∃b o,a=some ⟨b,o,some 0⟩\/a=some ⟨b,o,some E.n⟩)->R Q B w0 kl F)(hk:aB (ap E v xs) kl kl':=by exact dV):R Q B w0 kl F:=λw s=>by
 obtain⟨S,⟨S1,S2,q1,q2,e⟩,h2,h3⟩:=(s.gz hk).own;rcases q1 with⟨rfl,h1,_⟩|⟨b,o,f,cells,h4,h5,_⟩
 .exact h none h1 (λ_=>.inl rfl) w s
 .refine h _ h4 (λ_=>.inr ⟨b,o,?_⟩) w s;rcases h5 with h5|h5
  .subst h5;exact .inl rfl
  .subst h5;exact .inr rfl
def al0{y:az}{t:aF}{a:Nat}(hx:ρ x=.int .u64 (a:Int))(hy:ρ y=.int .u64 (b:Int))(hb:0<b):Pu P ρ (.bin .rem t x y) (.int .u64 ((a%b:Nat):Int)):=λh=>by
 have hv:dR P (binOp .rem t (.int .u64 a) (.int .u64 b))=some (.int .u64 ((a%b:Nat))):=by
  show dR P (Op.intDiv .rem .u64 a b)=_;unfold Op.intDiv;rw[if_neg tf];show some (Value.int .u64 ((a:Int).tmod b))=_
  grind
 have h1:kQ P (do eqGuard .rem t x y (.int .u64 a) (.int .u64 b);binOp .rem t (.int .u64 a) (.int .u64 b))=some (.int .u64 ((a%b:Nat))):=by
  unfold kQ;rw[fO];simp only[hv];rfl
 have h2:ow P .rem t x y (.int .u64 a) (.int .u64 b)=some (.int .u64 ((a%b:Nat))):=by
  exact h1
 simp only[aK.run,hx,hy,h2]
end Go.Ideal
namespace Go.Ideal
inductive Ren(σ:Nat->Nat)(m n:Nat):Value->Value->Prop
 |free {v:Value} (h:cB v=true):Ren σ m n v v
 |sl {i o k c:Nat} {s:Option Nat} (h1:m<=i) (h2:i<n):Ren σ m n (.slice (some ⟨i,o,s⟩) k c) (.slice (some ⟨σ i,o,s⟩) k c)
inductive uB(σ:Nat->Nat)(m n:Nat):List Value->List Value->Prop
 |nil:uB σ m n [] []
 |cons {v v':Value} {l l':List Value} (h:Ren σ m n v v') (hl:uB σ m n l l'):uB σ m n (v::l) (v'::l')
variable{n m:Nat}{v v':ah}{σ:Nat->Nat}
def Ren.vr{β β':aI}{w:ah}(hr:Ren σ m n v v')(hv:VR β v' w)(hβ:∀i,m<=i->i<n->β' i=β (σ i)):VR β' v w:=by
 cases hr with
 |free h=>
  rw[hv.qO h];exact VR.free h
 |sl h1 h2=>
  cases hv with
  |ay h hb hn ha=>exact .ay ((hβ _ h1 h2).trans h) hb hn ha
  |qf h hb hs hn hz hl ht hc ha=>exact .qf ((hβ _ h1 h2).trans h) hb hs hn hz hl ht hc ha
def uB.len{σ:Nat->Nat}{m n:Nat}:∀{l l':ae ah},uB σ m n l l'->l'.length=l.length
 |_,_,.nil=>rfl
 |_,_,.cons _ hl=>by simp[uB.len hl]
def uB.get{σ:Nat->Nat}{m n:Nat}:∀{l l':ae ah},uB σ m n l l'->∀{j:Nat} {v:ah},l[j]? =some v->∃v',l'[j]? =some v'/\Ren σ m n v v'
 |_,_,.nil,j,v,h=>by simp at h
 |_,_,.cons h hl,0,v,e=>by grind
 |_,_,.cons h hl,j+1,v,e=>by simpa using uB.get hl wv
def Ren.cell(h:Ren σ m n v v')(hc:cellV v'=true):cellV v=true:=by
 cases h with
 |free _=>exact hc
 |sl _ _=>rfl
def uB.cells{σ:Nat->Nat}{m n:Nat}:∀{l l':ae ah},uB σ m n l l'->l'.all cellV=true->l.all cellV=true
 |_,_,.nil,_=>rfl
 |_,_,.cons h hl,hc=>by
  simp only[MQ,eU]at hc⊢;exact⟨h.cell hc.1,uB.cells hl hc.2⟩
noncomputable def Ka(i:Nat)(l:ae (Nat×aN)):Bool:=not (BF (λp=>not (Nat.beq p.1 i)) l)
variable{i:Nat}{l:ae (Nat×aN)}
def al1(h:Ka i l=true):∃o,(i,o)∈l:=by
 unfold Ka at h;rw[FP,QV,List.all_eq_false]at h;obtain⟨p,hp,hn⟩:=h;have:Nat.beq p.1 i=true:=by simpa using hn
 exact⟨p.2,by rw[<- jR this];exact hp⟩
noncomputable def OP(m low:Nat)(l:ae (Nat×aN))(n:Nat)(v:ah):BR:=λr pm h=>
 match pm with
 |some _=>false
 |none=>match r with
  | .ok v'=>oW 50 v v'&&(Nat.beq h.next n&&(Nat.beq h.low low&&(Gc l h&&BF (λi=>cond (Ka i l) true (h.get i).isNone) (List.range m))))
  | .gT _=>false
noncomputable def sQ(l0:ae (Nat×aN))(n0 low:Nat)(l:ae (Nat×aN))(n:Nat)(fn:Nat)(args:ae ah)(v:ah):bD->IH->ak (ah×IH):=λq h=>
 match q with
 |⟨.func f,OJ,[],none⟩=>cond (Nat.beq f fn&&(oW 5 (.tuple ⟨args⟩) (.tuple ⟨OJ⟩)&&(Nat.beq n0 h.next&&(Nat.beq low h.low&&Gs 30 (heapT l0) h.t)))) (some (v,⟨heapT l,n,low⟩)) none
 |_=>none
def al2{o:aN}(h:(i,o)∈l):∃o',(heapT l).get i=some o':=by
 induction l with
 |nil=>cases h
 |cons p l ih=>
  obtain⟨j,x⟩:=p;simp only[heapT,T.mJ];by_cases e:i=j
  .rw[if_pos e];exact⟨x,rfl⟩
  grind
def vF{P:Program}{l0:ae (Nat×aN)}{n0 low:Nat}{fn:Nat}{args:ae ah}
 (hc:CALL P ⟨.func fn,args,[],none⟩ ⟨heapT l0,n0,low⟩ (λr pm h'=>OP n0 low l n v r pm h'=true))
 {q:bD} {h:IH} {v':ah} {h':IH} (hk:sQ l0 n0 low l n fn args v q h=some (v',h')):CALL P q h (λr pm h2=>r=.ok v'/\pm=none/\h2=h'):=by
 unfold sQ at hk;split at hk
 .rename_i f OJ;cases hcd:(Nat.beq f fn&&(oW 5 (.tuple ⟨args⟩) (.tuple ⟨OJ⟩)&&(Nat.beq n0 h.next&&(Nat.beq low h.low&&Gs 30 (heapT l0) h.t))))with
  |false=>rw[hcd]at hk;cases hk
  |true=>
   rw[hcd]at hk;obtain⟨rfl,rfl⟩:=hk;simp only[eU]at hcd;obtain⟨h1,h2,h3,h4,h5⟩:=hcd;have h1:=jR h1;subst h1;have h2:=zf _ _ _ h2;injection h2 with h2;injection h2 with h2;subst h2;have e3:=jR h3;have e4:=jR h4;have e5:=Ti _ h5;obtain⟨t1,n1,l1⟩:=h;subst e3 e4 e5;refine .forget _ hc ?_;intro r pm h' hl;unfold OP at hl;split at hl
   .cases hl
   .split at hl
    .simp only[eU]at hl;obtain⟨h1,h2,h3,h4,h5⟩:=hl;rw[FP,jN]at h5;refine⟨⟨heapT l,n,low⟩,(jR h2).symm,(jR h3).symm,?_,?_,rfl,rfl⟩
     .intro i;rcases Sz l i with e|⟨o,e1,e2⟩
      .by_cases hin:i<n0
       .left;have:=h5 i (r9.2 hin);cases hi:Ka i l with
        |true=>
         obtain⟨o,ho⟩:=al1 hi;obtain⟨o',ho'⟩:=al2 ho;rw[e]at ho';cases ho'
        |false=>
         rw[hi]at this;have hn:h'.get i=none:=by
          cases hg:h'.get i with
          |none=>rfl
          |some o=>rw[hg]at this;cases this
         rw[hn];exact e
       .exact .inr ⟨Nat.le_of_not_lt hin,e⟩
      .left;exact e2.trans (Yq h4 i o e1).symm
     .rw[zf _ _ _ h1]
    .cases hl
 .cases hk
structure awr(n0 n2:Nat)(lv:List Value)(l2:List (Nat×aN))(e:List Value×List (Nat×aN))(σ:Nat->Nat):Prop where
 val:uB σ n0 n2 lv e.1
 up:∀j,n0<=j->j<n2->n0<=σ j
 inj:∀i j,n0<=i->n0<=j->i<n2->j<n2->σ i=σ j->i=j
 get:∀p∈l2,n0<=p.1->∃cs cs',p.2=.cells cs/\(σ p.1,.cells cs')∈e.2/\uB σ n0 n2 cs cs'
end Go.Ideal
namespace Go.Ideal
variable {P:Program}
section
variable {B:ae Nat} {w0:Wd} {kl kl' bM:ae OA} {F:ae aM} {K:KO} {n:Nat} {l:qr} {D:ae Deferred} {pm:ak FrameMode} {ro:ak Nat}
end
variable{xs:ae Int}{F:ae aM}{kl:ae OA}
def St.opI{B:ae Nat}{w0 w:Wd}{v:ah}(hne:0<xs.length)(s1:St B w0 (ap ai v xs::kl) F w):∃b f pre,(f=0\/f=1)/\v=.slice (some ⟨b,pre.length,some f⟩) xs.length xs.length/\St B w0 (pt b (.cells (pre++xs.map (.int .i64)))::kl) F w:=by
 obtain⟨S,⟨S1,S2,q1,q2,e⟩,h2,h3⟩:=s1.own;rcases q1 with⟨h0,_⟩|⟨b,o,f,cells,h4,h5,h6,h7,h8,h9⟩
 .grind
 .have h8:cells.length=o+xs.length*1:=h8;have hpl:(cells.take o).length=o:=by grind
  have hc:cells=cells.take o++xs.map (.int .i64):=by
   conv=>lhs;rw[<- si o cells]
   congr 1;apply jr;intro k;rw[dZ];by_cases hkl:k<xs.length
   .obtain⟨y,u1,_⟩:=h9 k xs[k] (by grind);have:=u1 0 (.int .i64 xs[k]) rfl;have e1:o+k*ai.n+0=o+k:=by show o+k*1+0=o+k;omega
    grind
   grind
  exact⟨b,f,cells.take o,h5,by rw[hpl];exact h4,s1.agree,s1.le,s1.fZ,⟨S,⟨S1,S2,⟨h6,by rw[<- hc];exact h7⟩,q2,e⟩,h2,h3⟩,s1.facts⟩
variable{pre:ae ah}
def al4{b f m:Nat}(hm:m=xs.length)(hf:f=0\/f=1)(w:Wd)(S:ae Nat)(hp:(pt b (.cells (pre++xs.map (.int .i64)))).p w S):(ap ai (.slice (some ⟨b,pre.length,some f⟩) m m) xs).p w S:=by
 subst hm;refine .inr ⟨b,pre.length,f,_,rfl,hf,hp.1,hp.2,by rw[fV,bC];show _=pre.length+xs.length*1;omega,λk x hx=>⟨(),λj u hj=>?_,λf hf=>by cases hf⟩⟩;match j,hj with
 |0,hj=>
  have hj:some (Value.int .i64 x)=some u:=hj;have e1:pre.length+k*ai.n+0=pre.length+k:=by show pre.length+k*1+0=pre.length+k;omega
  grind
 |j+1,hj=>exact absurd hj (by show¬([Value.int .i64 x])[j+1]? =some u;simp)
variable{cap:ae ah}{Y:Type}{fn:Fn}
def bG.al5{args:ak Addr->ae ah}{a:ak Addr}{zs:Y->ae Int}{val:Y->ah}{fs:Y->ae aM}{pr:Y->Prop}(hne:0<xs.length)(hl:∀y,(zs y).length=xs.length)
 (h:∀b f pre,(f=0\/f=1)->bG P fn (args (some ⟨b,pre.length,some f⟩)) cap [pt b (.cells (pre++xs.map (.int .i64)))] F val (λy=>[pt b (.cells (pre++(zs y).map (.int .i64)))]) fs pr):
 bG P fn (args a) cap [ap ai (.slice a xs.length xs.length) xs] F val (λy=>[ap ai (.slice a xs.length xs.length) (zs y)]) fs pr:=λB w s=>by
 obtain⟨b,f,pre,hf,ev,s'⟩:=s.opI hne;obtain rfl:a=some ⟨b,pre.length,some f⟩:=by injection ev
 refine .jP _ (h b f pre hf B w s') ?_;rintro r pm h' ⟨h1,w',y,e1,st,e2,e3⟩;exact⟨h1,w',y,e1,st.Ch λw S hp=>al4 (hl y).symm hf w S hp,e2,e3⟩
def bG.weak{args:ae ah}{val:Y->ah}{kl':Y->ae OA}{fs:Y->ae aM}{pr pr2:Y->Prop}(h:bG P fn args cap kl F val kl' fs pr)(hp:∀y,pr y->pr2 y):bG P fn args cap kl F val kl' fs pr2:=λB w s=>by
 refine .jP _ (h B w s) ?_;rintro r pm h' ⟨h1,w',y,e1,st,e2,e3⟩;exact⟨h1,w',y,e1,st,e2,hp y e3⟩
variable{k:Nat}{x:Int}
def aal(h:xs[k]? =some x):(pre++xs.map (Value.int .i64))[pre.length+k*1]? =some (.int .i64 x):=by
 grind
def aam:(pre++xs.map (Value.int .i64)).set (pre.length+k*1) (.int .i64 x)=pre++(xs.set k x).map (.int .i64):=by
 rw[Dr _ _ tf,show pre.length+k*1 - pre.length=k by omega,wm]
