/- Part. -/
import Derived.Test.YtignbinlipkmfaaGreatDoorIdealNG
import Derived.Lib.Bytealg
import Derived.Lib.Atoi
import Derived.Lib.ConvBytes
import Derived.Shelf.SlSortCmp.WholeK
import Derived.Shelf.SlSortCmp.Whole1
import Derived.Sort.EncStr
set_option linter.all false
namespace Go.Ideal
variable{P:Program}{f:eD}{fn:Func}
def ahM(hfn:P.funcs[f]? =some fn){body:Code}(hb:fn.body=some body)(hname:fn.name≠ "runtime.NumGoroutine"){args:ae ah}{v:ah}(hv:bR v=true)(ha:args.all bR=true)
 (hC:∀w,Calls P f ⟨args⟩ w λe w'=>e=.returned v/\w'=w) {h:IH}:kI P ⟨.func f,args,[],none⟩ h (λr pm h2=>pm=none/\r=.ok v/\h2=h):=by
 intro β w fn' args' cap' hG hW hf ha' hcap;obtain⟨jf,t1,t2⟩:=Al (P:=P) (q:=⟨.func f,args,[],none⟩) (f:=f) (args:=args) sv hf ha' hcap hfn hb hname w;have e2:=aQ.PI t2 ha;subst e2;refine⟨_,Frame.enter P f ⟨_⟩ .normal,t1,rfl,λcs0 uF=>?_⟩;obtain⟨e,w',fr,⟨he,hw'⟩,hcomes,hfr,hlv⟩:=hC w cs0;subst he hw';exact⟨.ok v,none,h,β,_,.returned v,cs0,⟨rfl,rfl,rfl⟩,hW,Eff.refl _ _ _ hW.dom,.ok (VR.free hv),.none cs0,.inl ⟨f,_,fr,rfl,hcomes,hfr,hlv.2.2.1,hlv.1,hlv.2.1,hlv.2.2.2⟩⟩
noncomputable def KQ(fn:Nat):aX->IH->aj (ah×IH):=λq h=>
 match q with
 |⟨.func f,[.string s,.int .u8 c],[],none⟩=>cond (Nat.beq f fn) (some (.int .i64 (Lib.indexByte s.data.toList c.toNat.toUInt8),h)) none
 |_=>none
def ahN(hfn:P.funcs[f]? =some fn){body:Code}(hb:fn.body=some body)(hname:fn.name≠ "runtime.NumGoroutine")
 (hC:∀s c w,Calls P f #[.string s,.int .u8 c] w λe w'=>e=.returned (.int .i64 (Lib.indexByte s.data.toList c.toNat.toUInt8))/\w'=w)
 {q:aX} {h:IH} {v':ah} {h':IH} (hk:KQ f q h=some (v',h')):CALL P q h (λr pm h2=>r=.ok v'/\pm=none/\h2=h'):=by
 unfold KQ at hk;split at hk
 .rename_i g s c;cases hcd:Nat.beq g f with
  |false=>rw[hcd]at hk;cases hk
  |true=>
   rw[hcd]at hk;have e:=jg hcd;subst e;injection hk with hk;injection hk with h1 h2;subst h1 h2;refine .ji _ (.real (ahM hfn hb hname rfl rfl λw=>hC s c w)) ?_;rintro r pm h2 ⟨a,b,c⟩;exact⟨b,a,c⟩
 .cases hk
structure Beyond(w w':World):Prop where
 heap:∀b,b<w.heap.size->w'.heap[b]? =w.heap[b]?
 size:w.heap.size<=w'.heap.size
 os:w'.os=w.os
 tape:w'.tape=w.tape
 output:w'.output=w.output
 drawn:w.drawn<=w'.drawn
def WR.beyond{β:aD}{h:IH}{w w':World}(hW:WR P β h w)(hb:Beyond w w'):WR P β h w'/\Eff β h w β h w':=
 ⟨⟨hW.dom,hW.live,λi g o h1 h2=>(hW.obj i g o h1 h2).congr (hb.heap _ (hW.obj i g o h1 h2).lt),hW.inj⟩,
  ⟨λ_ _=>rfl,bz _,λ_ _ h=>h,λ_ _ _=>rfl,bz _,λ_ _ _=>rfl,hb.os,hb.tape,hb.output,hb.size,λb hb' _=>hb.heap b hb',λi g hg hi=>absurd (hW.dom _ _ hg) p0,λi g _ _ _ _ hb'=>hb.heap _ hb',hb.drawn⟩⟩
def ahO(w:World)(e:aB)(s:ByteArray):Beyond w (Lib.bytesWorld w e s):=by
 refine⟨λb hb=>?_,?_,rfl,rfl,rfl,zI _⟩
 .show((w.heap.push _).modify w.heap.size _)[b]? =_;rw[Sr,if_neg p0,Fp,if_neg p0]
 .show w.heap.size<=((w.heap.push _).modify w.heap.size _).size;rw[Array.size_modify,Array.size_push];omega
def ahP(hfn:P.funcs[f]? =some fn){body:Code}(hb:fn.body=some body)(hname:fn.name≠ "runtime.NumGoroutine"){args:ae ah}{v:ah}(hv:PG v=true)(ha:args.all bR=true)
 (hC:∀w,Calls P f ⟨args⟩ w λe w'=>e=.returned v/\Beyond w w') {h:IH}:kI P ⟨.func f,args,[],none⟩ h (λr pm h2=>pm=none/\r=.ok v/\h2=h):=by
 intro β w fn' args' cap' hG hW hf ha' hcap;obtain⟨jf,t1,t2⟩:=Al (P:=P) (q:=⟨.func f,args,[],none⟩) (f:=f) (args:=args) sv hf ha' hcap hfn hb hname w;have e2:=aQ.PI t2 ha;subst e2;refine⟨_,Frame.enter P f ⟨_⟩ .normal,t1,rfl,λcs0 uF=>?_⟩;obtain⟨e,w',fr,⟨he,hw'⟩,hcomes,hfr,hlv⟩:=hC w cs0;subst he;obtain⟨w1,w2⟩:=hW.beyond hw';exact⟨.ok v,none,h,β,_,.returned v,cs0,⟨rfl,rfl,rfl⟩,w1,w2,.ok (VR.ahL hv),.none cs0,.inl ⟨f,_,fr,rfl,hcomes,hfr,hlv.2.2.1,hlv.1,hlv.2.1,hlv.2.2.2⟩⟩
noncomputable def KS(fn:Nat):aX->IH->aj (ah×IH):=λq h=>
 match q with
 |⟨.func f,[.string s],[],none⟩=>cond (Nat.beq f fn&&Nat.ble s.data.toList.length 18) (match Lib.atoi s.data.toList with
  |some n=>some (.tuple ⟨[.int .i64 n,.nilIface]⟩,h)
  |none=>none) none
 |_=>none
def ahQ(hfn:P.funcs[f]? =some fn){body:Code}(hb:fn.body=some body)(hname:fn.name≠ "runtime.NumGoroutine")
 (hC:∀(s:ByteArray) (n:Int),s.size<=18->Lib.atoi s.data.toList=some n->∀w,Calls P f #[.string s] w λe w'=>e=.returned (.tuple #[.int .i64 n,.nilIface])/\Beyond w w')
 {q:aX} {h:IH} {v':ah} {h':IH} (hk:KS f q h=some (v',h')):CALL P q h (λr pm h2=>r=.ok v'/\pm=none/\h2=h'):=by
 unfold KS at hk;split at hk
 .rename_i g s;cases hcd:(Nat.beq g f&&Nat.ble s.data.toList.length 18)with
  |false=>rw[hcd]at hk;cases hk
  |true=>
   rw[hcd]at hk;rw[dG]at hcd;have e:=jg hcd.1;have hl:s.size<=18:=by
    have h2:=lg hcd.2;rw[Sy]at h2;exact h2
   subst e;dsimp only[cond]at hk;split at hk
   .rename_i n hn;injection hk with hk;injection hk with h1 h2;subst h1 h2;refine .ji _ (.real (ahP hfn hb hname rfl rfl λw=>hC s n hl hn w)) ?_;rintro r pm h2 ⟨a,b,c⟩;exact⟨b,a,c⟩
   .cases hk
 .cases hk
end Go.Ideal
namespace Go.Ideal
open Go.Sort Go.Proofs Go.RowKit Go.Lib Go.Shelf
variable {P:Program}
variable{w w':World}
def Beyond.grown(h:Beyond w w'):∃q os,w'=Go.Sort.grow (w.drewN q) os:=by
 refine⟨w'.drawn - w.drawn,w'.heap.extract w.heap.size w'.heap.size,?_⟩;obtain⟨heap,tape,drawn,os,output⟩:=w;obtain⟨heap',tape',drawn',os',output'⟩:=w';obtain⟨h1,h2,h3,h4,h5,h6⟩:=h;dsimp only at h1 h2 h3 h4 h5 h6;subst h3 h4 h5;have e1:heap'=heap++heap'.extract heap.size heap'.size:=by
  apply Array.ext_getElem?;intro i;rw[Array.getElem?_append];split
  .rename_i hi;exact h1 i hi
  .rename_i hi;rw[Array.getElem?_extract];by_cases hl:i<heap'.size
   .rw[if_pos p0,show heap.size+(i - heap.size)=i by omega]
   .rw[if_neg p0,sN p0]
 have e2:drawn'=drawn+(drawn' - drawn):=p0
 show World.mk heap' tape' drawn' os' output'=World.mk (heap++heap'.extract heap.size heap'.size) tape' (drawn+(drawn' - drawn)) os' output';rw[<- e1,<- e2]
variable{β:aD}
def Eff.beyond{β':aD}{h h':IH}(hW:WR P β h w)(he:Eff β h w β' h' w')(hl:h'.low=h.next):Beyond w w':=by
 refine⟨λk hk=>?_,he.size,he.os,he.tape,he.output,he.drawn⟩;by_cases hx:∀i g,β i=some g->h.get i≠none->g.b≠k
 .exact he.keep k hk hx
 .have hx:∃i g,β i=some g/\h.get i≠none/\g.b=k:=by
   exact lj
  obtain⟨i,g,hi,hg,rfl⟩:=hx;have hin:=hW.dom i g hi;exact he.sU i g (by rw[hl];exact hin) hin hi hg hk
variable{f:eD}
def WS{fn:Func}(hfn:P.funcs[f]? =some fn){body:Code}(hb:fn.body=some body)(hname:fn.name≠ "runtime.NumGoroutine")(xs:Array ah)(w:World):(callFunc f xs).run P w=.ok (.enter f xs) w:=by
 exact eV
def ahR(sW:P.follows .mixedOrders=true){g:eD}{fn:Func}(hfn:P.funcs[g]? =some fn){body:Code}(hb:fn.body=some body)(hname:fn.name≠ "runtime.NumGoroutine"){args args' cap cap':ae ah}{F:ae aH}{n:Int}
 (hC:bA P (.func g) args cap [] F (λ_:Unit=>.int .i64 n) (λ_=>[]) (λ_=>[]) (λ_=>True)) {β:aD} {w:World} {d:Wd} (hlow:d.h.low=d.h.next) (hF:∀f∈F,f.p d) (hG:GOK P β) (hW:WR P β d.h w) (ha:aQ β args args') (hc:aQ β cap cap'):
 Calls P g ((⟨args'⟩:Array ah)++(⟨cap'⟩:Array ah)) w λe w'=>e=.returned (.int .i64 n)/\∃q os,w'=Go.Sort.grow (w.drewN q) os:=by
 have hst:St [] d [] F d:=⟨⟨bz _,λ_ _ _=>rfl,λ_ _=>rfl⟩,Wd.Le.refl d,λi hi hz=>.inl hz,⟨[],rfl,wW,qe⟩,hF⟩
 have hM:=UM sW (hC [] d hst);obtain⟨nx,F0,n1,n2,n3⟩:=hM β w (.func g) args' cap' hG hW (.func g) ha hc;have hnx:nx=.enter g ((⟨args'⟩:Array ah)++(⟨cap'⟩:Array ah)):=by
  have n1:(invoke (.fn (.func g) ⟨cap'⟩) ⟨args'⟩).run P w=.ok nx w:=n1;simp only[invoke]at n1;rw[WS hfn hb hname]at n1;cases n1;rfl
 subst hnx;have yU:F0=Frame.enter P g ((⟨args'⟩:Array ah)++(⟨cap'⟩:Array ah)) .normal:=by
  have:entry P .normal (.enter g ((⟨args'⟩:Array ah)++(⟨cap'⟩:Array ah)))=some (Frame.enter P g ((⟨args'⟩:Array ah)++(⟨cap'⟩:Array ah)) .normal):=rfl;have n2:entry P .normal (.enter g ((⟨args'⟩:Array ah)++(⟨cap'⟩:Array ah)))=some F0:=n2;rw[this]at n2;exact(Option.some.inj n2).symm
 subst yU;intro cs;obtain⟨r,pm',h',β',w',r',cs1,q1,q2,q3,q4,q5,q6⟩:=n3 cs (by intro m hm;cases hm);obtain⟨hp,d2,_,rfl,hs2,rfl,_⟩:=q1;have ahS:=hs2.agree.low (by rw[hlow];exact bz _) qe;cases q5;cases q4 with
 | @ok v v' nW=>
   have:=nW.mq;subst this;rcases q6 with⟨f1,a1,F1,e1,e2,e3,e4,e5⟩|⟨⟨_,l,e1⟩,_⟩
   .cases e1;refine⟨.returned _,w',F1,⟨rfl,(q3.beyond hW (ahS.trans hlow)).grown⟩,e2,e3,?_⟩;exact n9
   .cases e1
def KT(P:Program)(f:eD)(k:Nat)(wr:ae ah->ah):Prop:=∀(α:Type) [Inhabited α] (enc:α->ae ah) (cf:α->α->Int) (g:eD) (cb:Array ah) (blk off cap:Nat) (d:Array α) (w:World),
 (∀x,(enc x).length=k)->(∀x,∀v∈enc x,v.oneCell'=true)->SWO (ltOf cf)->(∀args w,(callFunc g args).run P w=.ok (.enter g args) w)->
 (∀(m:Nat) (os:Array Obj) (dk:Array α),dk.size=d.size->∀x y:α,Calls P g (#[wr (enc x),wr (enc y)]++cb) (sortWorldK enc k w blk off m dk os) λe w'=>e=.returned (.int .i64 (cf x y))/\∃q os',w'=Go.Sort.grow ((sortWorldK enc k w blk off m dk os).drewN q) os')->
 HoldsK enc k w blk off d->blk<w.heap.size->d.size<4611686018427387904->
 Calls P f #[.slice (some ⟨blk,off,none⟩) d.size cap,.func (.func g) #[] cb] w λe w'=>e=.returned (.tuple #[])/\∃d' n os,PermIn 0 d.size d d'/\SortedIn (ltOf cf) 0 d.size d'/\w'=sortWorldK enc k w blk off n d' os
def uR(l:ae ah):ah:=l.headD .nilFunc
structure El{X:Type}(β:aD)(E:Enc X)(xs:List X)(d:Wd) where
 x:X
 y:E.Y
 v:List Value
 mem:x∈xs
 rel:aQ β (E.pat x y) v
 cell:(E.pat x y).all cellV=true
 fs:∀f∈E.fs x y,f.p d
variable{vs vs':ae ah}
def aQ.oneCell(hv:aQ β vs vs')(hall:vs.all cellV=true):∀v∈vs',v.oneCell'=true:=λv hv'=>by
 obtain⟨j,hj⟩:=ik hv';have hjl:j<vs.length:=by
  have:=(aT.1 hj).1;rw[hv.length]at this;exact this
 exact eA
noncomputable def Wd.but(d:Wd)(b:Nat):Wd:=⟨⟨(d.h.kill b).t,d.h.next,d.h.next⟩,d.z,d.lH⟩
def Wd.Ey(d:Wd)(b i:Nat):(d.but b).h.get i=if i=b then none else d.h.get i:=by
 show(d.h.kill b).get i=_;exact IH.rO _ _ _
def Wd.ahT{d:Wd}{b:Nat}(hz:¬d.z b):d.Le (d.but b):=⟨bz _,λ_ h=>h,λi hi=>by rw[Wd.Ey,if_neg (λe:i=b=>hz (e▸hi))]⟩
variable{α:Type}
def ahU[Inhabited α](enc:α->ae ah)(k:Nat)(w:World)(blk off m:Nat)(dk:Array α)(os:Array Obj){b:Nat}(hb:b<w.heap.size)(hne:b≠blk):(sortWorldK enc k w blk off m dk os).heap[b]? =w.heap[b]?:=by
 show((w.heap.modify blk _)++os)[b]? =_;rw[acj (by rw[Array.size_modify];exact hb),Sr,if_neg (λe=>hne e.symm)]
def WR.ahV[Inhabited α]{β:aD}{d:Wd}{w:World}(hW:WR P β d.h w){b:Nat}{g:iC}{cs:ae ah}(hi:β b=some g)(hg:d.h.get b=some (.cells cs))(enc:α->ae ah)(k off m:Nat)(dk:Array α)(os:Array Obj):
 WR P β (d.but b).h (sortWorldK enc k w g.b off m dk os):=by
 refine⟨hW.dom,λi o h=>?_,λi g' o h1 h2=>?_,λi j g1 g2 h1 h2 h3 h4 h5 h6=>?_⟩
 .rw[Wd.Ey]at h;split at h
  .cases h
  .exact hW.live i o h
 .rw[Wd.Ey]at h2;split at h2
  .cases h2
  .rename_i hib;have hO:=hW.obj i g' o h1 h2;refine hO.congr (ahU enc k w g.b off m dk os hO.lt λe=>hib ?_);exact hW.inj i b g' g h1 hi (by rw[h2];simp) (by rw[hg];simp) (.inr λcs2=>by rw[hg];simp) e
 .rw[Wd.Ey]at h3 h4;rw[Wd.Ey,Wd.Ey]at h5;split at h3
  .exact absurd rfl h3
  split at h4
  .exact absurd rfl h4
  rename_i n1 n2;rw[if_neg n1,if_neg n2]at h5;exact hW.inj i j g1 g2 h1 h2 h3 h4 h5 h6
def List.ahW{R:α->α->Prop}{l:ae α}(h:∀(i j:Nat) x y,i<j->l[i]? =some x->l[j]? =some y->R x y):l.Pairwise R:=
 zR.2 λi j hi hj hij=>h i j _ _ hij (bH hi) (bH hj)
def ahX(sW:P.follows .mixedOrders=true){f g:eD}{k:Nat}{wr:ae ah->ah}(hwr:∀{β:aD} {vs vs':ae ah},vs.length=k->vs.all cellV=true->aQ β vs vs'->VR β (wr vs) (wr vs'))(hS:KT P f k wr){fn:Func}(hfn:P.funcs[f]? =some fn){body:Code}(hb:fn.body=some body)(hname:fn.name≠ "runtime.NumGoroutine"){gn:Func}(hgn:P.funcs[g]? =some gn){KU:Code}(hgb:gn.body=some KU)(KW:gn.name≠ "runtime.NumGoroutine")
 {X:Type} {E:Enc X} (hE:E.n=k) (hk0:0<k) {xs:ae X} {cf:X->X->Int} (hO:SWO (ltOf cf)) {cap:ae ah} {F:ae aH}
 (hC:∀x∈xs,∀y∈xs,∀a b,bA P (.func g) [wr (E.pat x a),wr (E.pat y b)] cap [] (E.fs x a++(E.fs y b++F)) (λ_:Unit=>.int .i64 (cf x y)) (λ_=>[]) (λ_=>[]) (λ_=>True))
 {d:Wd} {b o c:Nat} {fl:aj Nat} {cs:ae ah} (hg:d.h.get b=some (.cells cs)) (hz:¬d.z b) (hF:∀f∈F,f.p d)
 (hel:∀(j:Nat) x,xs[j]? =some x->∃y,(∀(t:Nat) u,(E.pat x y)[t]? =some u->cs[o+j*E.n+t]? =some u)/\∀f∈E.fs x y,f.p d) (hcs:cs.length=o+xs.length*E.n) (hne:0<xs.length) (hlen:xs.length<4611686018427387904):
 kI P ⟨.func f,[.slice (some ⟨b,o,fl⟩) xs.length c,.func (.func g) ⟨[]⟩ ⟨cap⟩],[],none⟩ d.h (λr pm h2=>pm=none/\r=.ok (.tuple ⟨[]⟩)/\∃(zs:ae (X×E.Y)) (cs2:ae ah),(zs.map (·.1)).Perm xs/\(zs.map (·.1)).Pairwise (λx y=>¬cf y x<0)/\cs2.length=cs.length/\
  (∀(j:Nat) p,zs[j]? =some p->(∀(t:Nat) u,(E.pat p.1 p.2)[t]? =some u->cs2[o+j*E.n+t]? =some u)/\∀f∈E.fs p.1 p.2,f.p d)/\h2=d.h.set b (.cells cs2)):=by
 subst hE;intro β w fn' args' cap' hG hW hf ha hcap;obtain⟨jf,t1,t2⟩:=Al (P:=P) (q:=⟨.func f,[.slice (some ⟨b,o,fl⟩) xs.length c,.func (.func g) ⟨[]⟩ ⟨cap⟩],[],none⟩) (f:=f) (args:=[.slice (some ⟨b,o,fl⟩) xs.length c,.func (.func g) ⟨[]⟩ ⟨cap⟩]) sv hf ha hcap hfn hb hname w;cases t2 with|cons hv tl=>
 cases tl with|cons hv2 tl=>
 cases tl;obtain⟨gi,a,c',hi,rfl,hab,_,hn,hcc,hao,_⟩:=hv.mD;obtain⟨fn2,f2,cb,hfr2,hf2,hcb,rfl⟩:=hv2.Af;cases hfr2;cases hf2;have hao:a.off=gi.off+o/\a.spot=none:=by
  exact nt
 obtain⟨⟨c0,t0,KE,hh,_⟩,q2,q3,q4,q5,q6⟩:=hW.obj b gi _ hi hg;have ea:a=⟨gi.b,gi.off+o,none⟩:=by
  obtain⟨ab,ao,asp⟩:=a;exact mA
 subst ea;have hlt:gi.b<w.heap.size:=(IP.1 hh).1;have ahY:∀j t,j<xs.length->t<E.n->o+j*E.n+t<cs.length:=λj t hj ht=>by
  have:=Nat.mul_le_mul_right E.n (show j+1<=xs.length from hj);rw[qx,zP]at this;omega
 let cellOf:Nat->ah:=λt=>(w.cell? ⟨gi.b,gi.off+o+t,none⟩).getD .nilFunc
 have hcell:∀t,t<xs.length*E.n->w.cell? ⟨gi.b,gi.off+o+t,none⟩=some (cellOf t)/\w.frozen? ⟨gi.b,gi.off+o+t,none⟩=false:=λt ht=>by
  obtain⟨r1,r2⟩:=q4 (gi.off+o+t) p0;refine⟨?_,r2⟩;obtain⟨v,hv⟩:=Dn.1 r1;show _=some ((w.cell? ⟨gi.b,gi.off+o+t,none⟩).getD .nilFunc);rw[hv];rfl
 have hex:∀j,j<xs.length->∃e:El β E xs d,xs[j]? =some e.x/\e.v=(List.range E.n).map λt=>cellOf (j*E.n+t):=λj hj=>by
  have hx:xs[j]? =some xs[j]:=bH hj;obtain⟨y,h1,h2⟩:=hel j _ hx;refine⟨⟨xs[j],y,(List.range E.n).map λt=>cellOf (j*E.n+t),wR hj,?_,?_,h2⟩,hx,rfl⟩
  .refine aQ.Je (by rw[aS,nP,E.len]) λt v ht=>?_;have htn:t<E.n:=by have:=(aT.1 ht).1;rw[E.len]at this;exact this
   obtain⟨v',r1,r2⟩:=q6 _ v (h1 t v ht);refine⟨v',?_,r2⟩;rw[bU,qw htn,kD];show some ((w.cell? ⟨gi.b,gi.off+o+(j*E.n+t),none⟩).getD .nilFunc)=_;rw[show gi.off+o+(j*E.n+t)=gi.off+(o+j*E.n+t)by omega,r1];rfl
  .rw[iE]at q5⊢;intro v hv;obtain⟨t,ht⟩:=ik hv;exact q5 v (aV (h1 t v ht))
 have e0:El β E xs d:=Classical.choice (by obtain⟨e,_⟩:=hex 0 hne;exact⟨e⟩)
 haveI:Inhabited (El β E xs d):=⟨e0⟩
 obtain⟨el,Ep⟩:∃el:Nat->El β E xs d,∀j,j<xs.length->xs[j]? =some (el j).x/\(el j).v=(List.range E.n).map λt=>cellOf (j*E.n+t):=
  ⟨λj=>if h:j<xs.length then Classical.choose (hex j h)else e0,λj hj=>by dsimp only;rw[dif_pos hj];exact SC (hex j hj)⟩
 let D:Array (El β E xs d):=((List.range xs.length).map el).toArray
 have hDs:D.size=xs.length:=by simp[D]
 have hDg:∀j,j<xs.length->D[j]! =el j:=λj hj=>by
  rw[getElem!_pos D j (by rw[hDs];exact hj)];simp[D]
 have hDx:D.toList.map (·.x)=xs:=by
  apply iK;intro j;by_cases hj:j<xs.length
  .rw[(Ep j hj).1];simp[D,hj]
  .rw[dY (l:=xs) p0,dY (by simp[D];omega)]
 have hlv:∀e:El β E xs d,e.v.length=E.n:=λe=>by rw[e.rel.length,E.len]
 have hH:HoldsK (λe:El β E xs d=>e.v) E.n w gi.b (gi.off+o) D:=λt ht=>by
  have ht:t<xs.length*E.n:=by rw[size_flatK,hDs]at ht;exact ht
  rw[get_flatK _ _ _ _ (by rw[hDs];exact ht)];have hq:t/E.n<xs.length:=(Nat.div_lt_iff_lt_mul hk0).2 ht;have hr:t%E.n<E.n:=zM _ hk0;rw[hDg _ hq,(Ep _ hq).2];have:((List.range E.n).map λt'=>cellOf (t/E.n*E.n+t'))[t%E.n]! =cellOf t:=by
   rw[getElem!_pos _ _ (by simpa using hr)];simp only[List.getElem_map,List.getElem_range];rw[Fq,Nat.div_add_mod]
  rw[this];exact hcell t ht
 have hO2:SWO (ltOf λa b:El β E xs d=>cf a.x b.x):=⟨λa=>hO.irrefl a.x,λa b c=>hO.trans a.x b.x c.x,λa b c=>hO.ntrans a.x b.x c.x⟩
 have hcmp:∀(m:Nat) (os:Array Obj) (dk:Array (El β E xs d)),dk.size=D.size->∀x y:El β E xs d,Calls P g (#[wr x.v,wr y.v]++⟨cb⟩) (sortWorldK (λe:El β E xs d=>e.v) E.n w gi.b (gi.off+o) m dk os) λe w'=>e=.returned (.int .i64 (cf x.x y.x))/\∃q os',w'=Go.Sort.grow ((sortWorldK (λe:El β E xs d=>e.v) E.n w gi.b (gi.off+o) m dk os).drewN q) os':=λm os dk _ x y=>by
  have hle:=Wd.ahT hz;exact ahR sW hgn hgb KW (hC x.x x.mem y.x y.mem x.y y.y) (d:=d.but b) rfl (λfa hfa=>by
   rcases fO.1 hfa with h|h
   .exact fa.mono hle (x.fs fa h)
   .rcases fO.1 h with h|h
    .exact fa.mono hle (y.fs fa h)
    .exact fa.mono hle (hF fa h)) hG (hW.ahV hi hg _ _ _ m dk os) (.cons (hwr (E.len _ _) x.cell x.rel) (.cons (hwr (E.len _ _) y.cell y.rel) .nil)) hcb
 have hK:=hS (El β E xs d) (λe=>e.v) (λa b=>cf a.x b.x) g ⟨cb⟩ gi.b (gi.off+o) c' D w hlv (λe=>aQ.oneCell e.rel e.cell) hO2 (λxs w=>WS hgn hgb KW xs w) hcmp hH hlt (by rw[hDs];exact hlen);refine⟨_,Frame.enter P f ⟨_⟩ .normal,t1,rfl,λcs0 uF=>?_⟩;rw[hDs]at hK;obtain⟨e,w',fr,⟨he,d2,n2,os,hpm,hsd,hw'⟩,hcomes,hfr,hlv2⟩:=hK cs0;subst he;have hd2:d2.size=xs.length:=hpm.1.trans hDs;have hdg:∀(j:Nat) e,d2.toList[j]? =some e->j<xs.length/\d2[j]! =e:=λj e h=>by
  rw[yc]at h;obtain⟨hj,he⟩:=IP.1 h;exact⟨p0,by rw[getElem!_pos d2 j hj];exact he⟩
 let zs:ae (X×E.Y):=d2.toList.map λe=>(e.x,e.y)
 let L:ae ah:=(List.range (xs.length*E.n)).map λt=>(E.pat (d2[t/E.n]!).x (d2[t/E.n]!).y).getD (t%E.n) .nilFunc
 let L':ae ah:=(flatK (λe:El β E xs d=>e.v) E.n d2).toList
 have AV:L.length=xs.length*E.n:=by simp[L]
 have PK:∀t,t<xs.length*E.n->L[t]? =some ((E.pat (d2[t/E.n]!).x (d2[t/E.n]!).y).getD (t%E.n) .nilFunc):=λt ht=>by
  show((List.range (xs.length*E.n)).map _)[t]? =_;rw[bU,qw ht];rfl
 have ah1:L'.length=xs.length*E.n:=by simp[L',hd2]
 have PL:∀(e:El β E xs d) t,t<E.n->(E.pat e.x e.y)[t]? =some ((E.pat e.x e.y).getD t .nilFunc):=λe t ht=>by
  rw[BC,bH (by rw[E.len];exact ht)];rfl
 have WT:∀(t:Nat) v,L[t]? =some v->t<xs.length*E.n:=λt v ht=>by
  have:=(aT.1 ht).1
  rwa [AV]at this
 have hrel:aQ β L L':=aQ.Je (by rw[ah1,AV]) λt v ht=>by
  have htn:=WT t v ht;rw[PK t htn]at ht;cases ht;have hr:=zM t hk0;obtain⟨v',r1,r2⟩:=(d2[t/E.n]!).rel.get (PL _ _ hr);refine⟨v',?_,r2⟩;have h1:L'[t]? =some (flatK (λe:El β E xs d=>e.v) E.n d2)[t]!:=by
   show(flatK (λe:El β E xs d=>e.v) E.n d2).toList[t]? =_;rw[yc,Nh yq,getElem!_pos _ _ yq]
  rw[h1,get_flatK _ _ _ _ (by rw[hd2];exact htn)];show some ((d2[t/E.n]!).v)[t%E.n]! =_;rw[getElem!_pos _ _ (by rw[hlv];exact hr),<- bH];exact r1
 have hall:L.all cellV=true:=by
  rw[iE];intro v hv;obtain⟨t,ht⟩:=ik hv;have htn:=WT t v ht;rw[PK t htn]at ht;cases ht;exact iE.1 (d2[t/E.n]!).cell _ (aV (PL _ _ (zM t hk0)))
 obtain⟨cs2,hl⟩:=AP cs o L (by rw[AV];omega);obtain⟨l1,l2,l3⟩:=Ab hl;have hs:d.h.storeAt b o L=some (d.h.set b (.cells cs2)):=by unfold IH.storeAt;simp only[hg,hl]
 obtain⟨_,w1,w2⟩:=BX hW hi hs hrel hall;have hw1:sortWorldK (λe:El β E xs d=>e.v) E.n w gi.b (gi.off+o) n2 d2 os=Go.Sort.grow (Sort.ahead (w.setCells gi.b (gi.off+o) L') n2) os:=by
  have:=Go.Ideal.setCells_putRow (id:ah->ah) w gi.b (gi.off+o) (flatK (λe:El β E xs d=>e.v) E.n d2);rw[Fy]at this;rw[show w.setCells gi.b (gi.off+o) L'=_ from this];rfl
 rw[hw1]at hw';have w3:WR P β (d.h.set b (.cells cs2)) (Sort.ahead (w.setCells gi.b (gi.off+o) L') n2):=w1.nV rfl;have w4:=w2.trans (Eff.nV (w':=Sort.ahead (w.setCells gi.b (gi.off+o) L') n2) w1.dom rfl rfl rfl rfl (IL _ _));obtain⟨w5,w6⟩:=w3.grow os;rw[<- hw']at w5 w6;refine⟨.ok (.tuple ⟨[]⟩),none,_,β,w',.returned (.tuple #[]),cs0,⟨rfl,rfl,zs,cs2,?_,?_,l2,?_,rfl⟩,w5,w4.trans w6,.ok (.dH _),.none cs0,.inl ⟨f,_,fr,rfl,hcomes,hfr,hlv2.2.2.1,hlv2.1,hlv2.2.1,hlv2.2.2.2⟩⟩
 .have hp:=hpm.2.2;rw[show d2.extract 0 xs.length=d2 by rw[<- hd2];simp,show D.extract 0 xs.length=D by rw[<- hDs];simp]at hp;have h1:=hp.map (·.x);rw[hDx]at h1;show((d2.toList.map λe=>(e.x,e.y)).map (·.1)).Perm xs;rw[qB];exact h1
 .show((d2.toList.map λe=>(e.x,e.y)).map (·.1)).Pairwise _;rw[qB];refine List.ahW λi j x y hij hx hy=>?_;rw[bU,jC]at hx hy;obtain⟨e1,hx,rfl⟩:=hx;obtain⟨e2,hy,rfl⟩:=hy;have h1:=hdg i e1 hx;have h2:=hdg j e2 hy;have:=hsd i j (bS _) hij h2.1;rw[h1.2,h2.2]at this;exact vH this
 .intro j p hj;have hj:(d2.toList.map λe=>(e.x,e.y))[j]? =some p:=hj;rw[bU,jC]at hj;obtain⟨e,he0,rfl⟩:=hj;obtain⟨hjn,he⟩:=hdg j e he0;refine⟨λt u ht=>?_,e.fs⟩;have htn:t<E.n:=by have:=(aT.1 ht).1;rw[E.len]at this;exact this
  have hb2:=ahY j t hjn htn;rw[l3,if_pos ⟨p0,by rw[AV];omega⟩,show o+j*E.n+t - o=j*E.n+t by omega,PK _ p0];have d1:(j*E.n+t)/E.n=j:=by rw[Fq,Nat.mul_add_div hk0,Nat.div_eq_of_lt htn,wS]
  have d3:(j*E.n+t)%E.n=t:=by rw[Fq,Nat.mul_add_mod,Nat.mod_eq_of_lt htn]
  rw[d1,d3,he,<- PL e t htn];exact ht
def PM(P:Program)(f:eD):Prop:=∀(p:aj Addr) (cap:Nat) (fv:ah) (w:World),Calls P f #[.slice p 0 cap,fv] w λe w'=>e=.returned (.tuple #[])/\w'=w
def VR.ah2{a:aj Addr}{n c:Nat}{v:ah}(h:VR β (.slice a n c) v):∃p c',v=.slice p n c':=by
 cases h<;>exact⟨_,_,rfl⟩
def ah3(hS:PM P f){fn:Func}(hfn:P.funcs[f]? =some fn){body:Code}(hb:fn.body=some body)(hname:fn.name≠ "runtime.NumGoroutine"){a:aj Addr}{c:Nat}{fv:ah}{h:IH}:
 kI P ⟨.func f,[.slice a 0 c,fv],[],none⟩ h (λr pm h2=>pm=none/\r=.ok (.tuple ⟨[]⟩)/\h2=h):=by
 intro β w fn' args' cap' hG hW hf ha' hcap;obtain⟨jf,t1,t2⟩:=Al (P:=P) (q:=⟨.func f,[.slice a 0 c,fv],[],none⟩) (f:=f) (args:=[.slice a 0 c,fv]) sv hf ha' hcap hfn hb hname w;cases t2 with|cons hv tl=>
 cases tl with|cons hv2 tl=>
 cases tl;obtain⟨p,c',rfl⟩:=hv.ah2;refine⟨_,Frame.enter P f ⟨_⟩ .normal,t1,rfl,λcs0 uF=>?_⟩;obtain⟨e,w',fr,⟨he,hw'⟩,hcomes,hfr,hlv⟩:=hS p c' _ w cs0;subst he hw';exact⟨.ok (.tuple ⟨[]⟩),none,h,β,_,.returned (.tuple #[]),cs0,⟨rfl,rfl,rfl⟩,hW,Eff.refl _ _ _ hW.dom,.ok (.dH _),.none cs0,.inl ⟨f,_,fr,rfl,hcomes,hfr,hlv.2.2.1,hlv.1,hlv.2.1,hlv.2.2.2⟩⟩
def ah4(sW:P.follows .mixedOrders=true){f g:eD}{k:Nat}{wr:ae ah->ah}(hwr:∀{β:aD} {vs vs':ae ah},vs.length=k->vs.all cellV=true->aQ β vs vs'->VR β (wr vs) (wr vs'))(hS:KT P f k wr)(hN:PM P f){fn:Func}(hfn:P.funcs[f]? =some fn){body:Code}(hb:fn.body=some body)(hname:fn.name≠ "runtime.NumGoroutine"){gn:Func}(hgn:P.funcs[g]? =some gn){KU:Code}(hgb:gn.body=some KU)(KW:gn.name≠ "runtime.NumGoroutine")
 {X:Type} {E:Enc X} (hE:E.n=k) (hk0:0<k) {xs:ae X} {cf:X->X->Int} (hO:SWO (ltOf cf)) {cap:ae ah} {F:ae aH} {a:aj Addr}
 (hC:∀x∈xs,∀y∈xs,∀a b,bA P (.func g) [wr (E.pat x a),wr (E.pat y b)] cap [] (E.fs x a++(E.fs y b++F)) (λ_:Unit=>.int .i64 (cf x y)) (λ_=>[]) (λ_=>[]) (λ_=>True))
 (hlen:xs.length<4611686018427387904):
 bA P (.func f) [.slice a xs.length xs.length,.func (.func g) ⟨[]⟩ ⟨cap⟩] [] [ap E (.slice a xs.length xs.length) xs] F (λ_:ae X=>.tuple ⟨[]⟩) (λys=>[ap E (.slice a xs.length xs.length) ys]) (λ_=>[]) (λys=>ys.Perm xs/\ys.Pairwise λx y=>¬cf y x<0):=by
 intro B w s;by_cases hx:xs=[]
 .subst hx;refine .real (D8 _ (ah3 hN hfn hb hname) ?_);rintro r pm h' ⟨rfl,rfl,rfl⟩;exact⟨rfl,w,[],rfl,⟨s.agree,s.le,s.eT,s.own,λf hf=>by cases hf⟩,rfl,.refl _,.nil⟩
 have hne:0<xs.length:=Dm.2 hx;obtain⟨S,⟨S1,S2,q1,q2,e⟩,h2,h3⟩:=s.own;rcases q1 with⟨h,_⟩|⟨b,o,fl,cells,e1,hf,e2,hb',hcl,hel⟩
 .exact absurd h hx
 injection e1 with e1 Pt;subst e1 e2 e;have hzb:¬w.z b:=(h3 b qe).2.2;refine .real (D8 _ (ahX sW hwr hS hfn hb hname hgn hgb KW hE hk0 hO hC hb' hzb s.facts hel hcl hne hlen) ?_);rintro r pm h' ⟨rfl,rfl,zs,cs2,hp,hpw,hl2,ah5,rfl⟩;have s1:St B w [pt b (.cells cells)] [] w:=⟨s.agree,s.le,s.eT,⟨[b]++S2,⟨[b],S2,⟨rfl,hb'⟩,q2,rfl⟩,h2,h3⟩,λf hf=>by cases hf⟩
 have s2:=s1.write (o':=.cells cs2);have hle:w.Le ⟨w.h.set b (.cells cs2),w.z,λi hi=>w.lH i hi⟩:=s2.le;have hzl:zs.length=xs.length:=by have:=hp.length_eq;rwa [aS]at this
 refine⟨rfl,⟨w.h.set b (.cells cs2),w.z,λi hi=>w.lH i hi⟩,zs.map (·.1),rfl,?_,rfl,hp,hpw⟩;refine s2.xB (A':=ap E (.slice (some ⟨b,o,some fl⟩) xs.length xs.length) (zs.map (·.1))) λS' hp'=>?_;refine .inr ⟨b,o,fl,cs2,by rw[aS,hzl],hf,hp'.1,hp'.2,by rw[hl2,hcl,aS,hzl],λj x hj=>?_⟩;rw[bU,jC]at hj;obtain⟨p,hj,rfl⟩:=hj;obtain⟨r1,r2⟩:=ah5 j p hj;exact⟨p.2,r1,λf hf=>f.mono hle (r2 f hf)⟩
def ah6(h:∀(α:Type) [Inhabited α] (enc:α->ah) (cf:α->α->Int) (g:eD) (cb:Array ah) (blk off cap:Nat) (d:Array α) (w:World),OneCell enc->SWO (ltOf cf)->(∀args w,(callFunc g args).run P w=.ok (.enter g args) w)->CmpLays1 P g cb enc cf blk off d.size w->Holds enc w blk off d->blk<w.heap.size->d.size<4611686018427387904->
 Calls P f #[.slice (some ⟨blk,off,none⟩) d.size cap,.func (.func g) #[] cb] w λe w'=>e=.returned (.tuple #[])/\∃d' n os,PermIn 0 d.size d d'/\SortedIn (ltOf cf) 0 d.size d'/\w'=sortWorld enc w blk off n d' os):KT P f 1 uR:=by
 intro α _ enc cf g cb blk off cap d w hk h1 hO eg hcmp hH hblk hsz;have he:∀x,enc x=[uR (enc x)]:=λx=>by
  have:=hk x;match h2:enc x,this with
  |[v],_=>rfl
 have hfl:∀dk:Array α,flatK enc 1 dk=dk.map λx=>uR (enc x):=λdk=>by
  refine ext_get! qe λt ht=>?_;rw[size_flatK,nQ]at ht;rw[get_flatK _ _ _ _ p0,Nat.div_one,Nat.mod_one,he];rw[getElem!_pos (dk.map _) t (by simpa using ht),Array.getElem_map,getElem!_pos dk t ht];rfl
 have hpc:∀(dk:Array α) (c:Array ah),putCells id off (dk.map λx=>uR (enc x)) c=putCells (λx=>uR (enc x)) off dk c:=λdk c=>by
  unfold putCells;congr 1;funext t x
  rw[Array.size_map];split
  .rename_i hr;rw[getElem!_pos (dk.map _) _ qu,Array.getElem_map,getElem!_pos dk _ p0];rfl
  .rfl
 have hsw:∀(m:Nat) (dk:Array α) (os:Array Obj),sortWorldK enc 1 w blk off m dk os=sortWorld (λx=>uR (enc x)) w blk off m dk os:=λm dk os=>by
  unfold sortWorldK sortWorld putRowK putRow;rw[hfl,show putCells id off (dk.map λx=>uR (enc x))=putCells (λx=>uR (enc x)) off dk from funext (hpc dk)]
 have:=h α (λx=>uR (enc x)) cf g cb blk off cap d w (λx=>h1 x _ (by rw[he x];exact bF.2 rfl)) hO eg (λm os dk hs x y=>by
  have:=hcmp m os dk hs x y;rw[hsw]at this;exact this) (λj hj=>by
  have:=hH j (by rw[size_flatK];omega);rw[get_flatK _ _ _ _ p0,Nat.div_one,Nat.mod_one,he]at this;exact this) hblk hsz
 refine this.mono ?_;rintro e w' ⟨h1,d',n,os,h2,h3,h4⟩;exact⟨h1,d',n,os,h2,h3,by rw[hsw];exact h4⟩
def ah7(h1:vs.length=1)(h2:vs.all cellV=true)(h:aQ β vs vs'):VR β (uR vs) (uR vs'):=by
 match vs,h1 with
 |[v],_=>
  cases h with|cons a b=>
  cases b;exact a
end Go.Ideal
namespace Go.Ideal
open Go.Proofs Go.RowKit Go.Lib Go.Shelf
variable {P:Program}
structure PN(P:Program)(f:FuncId)(z:Value)(e:TypeId)(ig:Nat):Prop where
 room:∀(b off n c i vb vo:Nat) (cs:List Value) (v:Value) (w:World),i<n->n+1<=c->(n+1)*ig<=140737488355328->vb≠b->cs.length=n->(∀j u,cs[j]? =some u->w.cell? ⟨b,off+j,none⟩=some u)->(∀j,j<n+1->(w.cell? ⟨b,off+j,none⟩).isSome=true)->
  (∀j,j<n+1->w.frozen? ⟨b,off+j,none⟩=false)->w.cell? ⟨vb,vo,none⟩=some v->(∀u∈cs,u.oneCell'=true)->v.oneCell'=true->∀(tA tB:TypeId) (kA kB:Nat),w.shape? vb=some (tA,kA)->w.shape? b=some (tB,kB)->kB≠0->w.frozen? ⟨vb,vo,none⟩=false->w.frozen? ⟨vb,kA,none⟩=false->
  Calls P f #[.slice (some ⟨b,off,none⟩) n c,.int .i64 i,.slice (some ⟨vb,vo,none⟩) 1 1] w λe w'=>e=.returned (.slice (some ⟨b,off,none⟩) (n+1) c)/\w'=(w.drew.setCells b (off+(i+1)) (cs.drop i)).setCells b (off+i) [v]
 grow:∀(b off n c i vb vo:Nat) (cs:List Value) (v:Value) (w:World),i<n->n<=c->c<n+1->(n+1)*ig<=140737488355328->cs.length=n->(∀j u,cs[j]? =some u->w.cell? ⟨b,off+j,none⟩=some u)->w.cell? ⟨vb,vo,none⟩=some v->(∀u∈cs,u.oneCell'=true)->v.oneCell'=true->
  Calls P f #[.slice (some ⟨b,off,none⟩) n c,.int .i64 i,.slice (some ⟨vb,vo,none⟩) 1 1] w λr w'=>∃k,n+1<=k/\r=.returned (.slice (some ⟨w.heap.size,0,none⟩) (n+1) k)/\
   w'=(((w.alloc (.cells ⟨cs.take i++List.replicate (n+1 - i) z++List.replicate (k - (n+1)) z⟩ e)).drew.setCells w.heap.size i [v]).drew).setCells w.heap.size (i+1) (cs.drop i)
def j5{α:Type}(l:ae α)(i:Nat)(x:α):ae α:=l.take i++x::l.drop i
variable{α:Type}{i:Nat}
def Cz{l:ae α}{x:α}(h:i<=l.length):(j5 l i x).length=l.length+1:=by
 unfold j5;rw[dL,lU,gq,lm];omega
def Ez{l:ae α}{x:α}(h:i<=l.length)(t:Nat):(j5 l i x)[t]? =if t<i then l[t]? else if t=i then some x else l[t - 1]?:=by
 unfold j5;have hl:(l.take i).length=i:=sx
 by_cases h1:t<i
 .rw[if_pos h1,iY p0,qy,if_pos h1]
 .rw[if_neg h1,jm p0,hl];by_cases h2:t=i
  .rw[if_pos h2,h2,mM];rfl
  .rw[if_neg h2,show t - i=(t - i - 1)+1 by omega,ru,jR,show i+(t - i - 1)=t - 1 by omega]
def ah8{β:aD}{x v:ah}(h:VR β x v)(hc:cellV x=true):v.oneCell'=true:=
 aQ.oneCell (.cons h .nil) (by simp[hc]) v (bF.2 rfl)
def ah9{f:eD}{z:ah}{e:aB}{ig:Nat}(hz:VR (λ_=>none) z z)(hzc:cellV z=true)(hI:PN P f z e ig){fn:Func}(hfn:P.funcs[f]? =some fn){body:Code}(hb:fn.body=some body)(hname:fn.name≠ "runtime.NumGoroutine")
 {h:IH} {j o fl n i vb:Nat} {cs0:ae ah} {x:ah} (hj:h.get j=some (.cells cs0)) (hv:h.get vb=some (.cells [x])) (hne:vb≠j) (hcl:cs0.length=o+n) (hfl:fl=0\/fl=1) (hi:i<n) (hn:(n+1)*ig<=140737488355328):
 kI P ⟨.func f,[.slice (some ⟨j,o,some fl⟩) n n,.int .i64 (i:Int),.slice (some ⟨vb,0,some 0⟩) 1 1],[],none⟩ h (λr pm h'=>pm=none/\r=.ok (.slice (some ⟨h.next,0,some 1⟩) (n+1) (n+1))/\Ap h h' j (.cells (j5 (cs0.drop o) i x))):=by
 intro β w fn' args' cap' hG hW hf ha hcap;obtain⟨jf,t1,t2⟩:=Al (P:=P) (q:=⟨.func f,[.slice (some ⟨j,o,some fl⟩) n n,.int .i64 (i:Int),.slice (some ⟨vb,0,some 0⟩) 1 1],[],none⟩) (f:=f) (args:=[.slice (some ⟨j,o,some fl⟩) n n,.int .i64 (i:Int),.slice (some ⟨vb,0,some 0⟩) 1 1]) sv hf ha hcap hfn hb hname w;cases t2 with|cons hv1 tl=>
 cases tl with|cons hv2 tl=>
 cases tl with|cons hv3 tl=>
 cases tl;obtain rfl:=hv2.mq;obtain⟨gi,a,c',hgi,rfl,hab,_,_,hcc,hao,hkind⟩:=hv1.mD;obtain⟨gv,av,cv,hgv,rfl,WU,_,_,aro,WV,aia⟩:=hv3.mD;have hcv:cv=1:=by
  rcases aia with⟨_,e⟩|⟨e,h0,_⟩
  .exact e
  .injection e with e;omega
 subst hcv;have ea:a=⟨gi.b,gi.off+o,none⟩:=by
  obtain⟨ab,ao,asp⟩:=a;simp only at hab hao;rcases hao with hao|hao
  .omega
  .rw[hab,hao.1,hao.2]
 subst ea;have ev:av=⟨gv.b,gv.off,none⟩:=by
  obtain⟨ab,ao,asp⟩:=av;simp only at WU WV;rcases WV with hao|hao
  .omega
  .rw[WU,hao.1,hao.2];rfl
 subst ev;obtain⟨⟨c0,t0,KE,hh,aib⟩,q2,q3,q4,q5,q6⟩:=hW.obj j gi _ hgi hj;obtain⟨⟨c1,t1',fz1,WW,aic⟩,p2,p3,p4,p5,p6⟩:=hW.obj vb gv _ hgv hv;have hbb:gv.b≠gi.b:=λe=>hne (hW.inj vb j gv gi hgv hgi (by rw[hv];simp) (by rw[hj];simp) (.inl λcs e=>by rw[hv]at e;cases e) e);have hjn:j<h.next:=hW.live j _ hj
 obtain⟨v,DT,nW⟩:=p6 0 x rfl;rw[wS]at DT;have xH:cellV x=true:=by simpa using p5
 have WX:v.oneCell'=true:=ah8 nW xH;have p2:1=gv.len:=p2;have aid:w.frozen? ⟨gv.b,gv.off,none⟩=false:=(p4 gv.off p0).2;let old:ae ah:=cs0.drop o
 have hol:old.length=n:=by show(cs0.drop o).length=n;rw[lm];omega
 let kL:ae ah:=(List.range n).map λt=>(w.cell? ⟨gi.b,gi.off+o+t,none⟩).getD .nilFunc
 have hRl:kL.length=n:=by simp[kL]
 have WY:∀t,t<n->kL[t]? =w.cell? ⟨gi.b,gi.off+o+t,none⟩:=λt ht=>by
  obtain⟨u,hu⟩:=Dn.1 (q4 (gi.off+o+t) p0).1;show((List.range n).map _)[t]? =_;rw[bU,qw ht,hu];show some ((w.cell? ⟨gi.b,gi.off+o+t,none⟩).getD .nilFunc)=_;rw[hu];rfl
 have PO:∀t u,kL[t]? =some u->w.cell? ⟨gi.b,gi.off+o+t,none⟩=some u:=λt u ht=>by
  have htn:t<n:=by have:=(aT.1 ht).1;omega
  rw[<- WY t htn];exact ht
 have hrel:aQ β old kL:=aQ.Je (by rw[hRl,hol]) λt u ht=>by
  have htn:t<n:=by have:=(aT.1 ht).1;omega
  have ht':cs0[o+t]? =some u:=by rw[<- jR];exact ht
  obtain⟨u',r1,r2⟩:=q6 (o+t) u ht';exact⟨u',by rw[WY t htn,kE];exact r1,r2⟩
 have AX:old.all cellV=true:=by
  rw[iE]at q5⊢;exact λu hu=>q5 u (Dj hu)
 have WZ:∀u∈kL,u.oneCell'=true:=aQ.oneCell hrel AX;have hnew:(j5 old i x).all cellV=true:=by
  rw[iE]at AX⊢;intro u hu;rcases fO.1 hu with hu|hu
  .exact AX u (Bt hu)
  .rcases bN.1 hu with rfl|hu
   .exact xH
   .exact AX u (Dj hu)
 refine⟨_,Frame.enter P f ⟨_⟩ .normal,t1,rfl,λcs hcs=>?_⟩;by_cases hroom:n+1<=c'
 .
  obtain⟨k0,k1,k2,k3⟩:fl=1/\gi.sz=1/\o+n=gi.len/\gi.off+o+c'=gi.top:=by
   rcases hkind with⟨_,e⟩|⟨e,h0,e2,e3,_⟩
   .omega
   .injection e with e;have:gi.sz=1:=by omega
    rw[this]at e2 e3;exact⟨p0,this,p0,p0⟩
  obtain⟨r,w',fr,⟨he,hw'⟩,hcomes,hfr,hlv⟩:=hI.room gi.b (gi.off+o) n c' i gv.b gv.off kL v w hi hroom hn hbb hRl PO (λt ht=>(q4 _ p0).1) (λt ht=>(q4 _ p0).2) DT WZ WX t1' t0 c1.size c0.size (by simp only[World.shape?,WW]) (by simp only[World.shape?,hh])
   (λe=>by
     have:=(q4 (gi.off+o) p0).1;simp only[World.cell?,hh]at this;rw[sN p0]at this;cases this) aid (by simp only[World.frozen?,WW];simpa using aic) cs
  subst he;obtain⟨A1,A2,A3,A4,A5,A6⟩:=NQ (w:=w.drew) gi.b (gi.off+o+(i+1)) (kL.drop i);obtain⟨B1,B2,B3,B4,B5,B6⟩:=NQ (w:=w.drew.setCells gi.b (gi.off+o+(i+1)) (kL.drop i)) gi.b (gi.off+o+i) [v];rw[<- hw']at B1 B2 B3 B4 B5 B6;have hdl:(kL.drop i).length=n - i:=by rw[lm,hRl]
  have hs0:∀t,t<gi.top->(w.drew.cell? ⟨gi.b,t,none⟩).isSome=true:=λt ht=>(q4 t ht).1;have hs1:∀t,t<gi.top->((w.drew.setCells gi.b (gi.off+o+(i+1)) (kL.drop i)).cell? ⟨gi.b,t,none⟩).isSome=true:=λt ht=>by
   by_cases hr:gi.off+o+(i+1)<=t/\t<gi.off+o+(i+1)+(kL.drop i).length
   .have:=Dk gi.b (kL.drop i) (gi.off+o+(i+1)) w.drew (λk hk=>hs0 _ p0) (t - (gi.off+o+(i+1))) p0;rw[show gi.off+o+(i+1)+(t - (gi.off+o+(i+1)))=t by omega]at this;rw[this];simp
   .rw[zJ gi.b (kL.drop i) (gi.off+o+(i+1)) w.drew ⟨gi.b,t,none⟩ (λ_ _=>by simp;omega)];exact hs0 t ht
  have hcell:∀t u,(j5 kL i v)[t]? =some u->w'.cell? ⟨gi.b,gi.off+o+t,none⟩=some u:=λt u ht=>by
   have htl:t<n+1:=by
    have:=(aT.1 ht).1
    rwa [Cz p0,hRl]at this
   rw[Ez p0]at ht;rw[hw'];by_cases h1:t=i
   .rw[if_neg p0,if_pos h1]at ht;have:=Dk gi.b [v] (gi.off+o+i) (w.drew.setCells gi.b (gi.off+o+(i+1)) (kL.drop i)) (λk hk=>by have hk:k<1:=hk;exact hs1 _ p0) 0 qe;rw[h1];exact this.trans ht
   .rw[zJ gi.b [v] (gi.off+o+i) _ ⟨gi.b,gi.off+o+t,none⟩ (λ_ _=>by simp;omega)];by_cases h2:t<i
    .rw[if_pos h2]at ht;rw[zJ gi.b (kL.drop i) (gi.off+o+(i+1)) w.drew ⟨gi.b,gi.off+o+t,none⟩ (λ_ _=>by simp;omega)];exact PO t u ht
    .rw[if_neg h2,if_neg h1]at ht;have:=Dk gi.b (kL.drop i) (gi.off+o+(i+1)) w.drew (λk hk=>hs0 _ p0) (t - (i+1)) p0;rw[show gi.off+o+(i+1)+(t - (i+1))=gi.off+o+t by omega]at this;rw[this,<- ht];rw[<- bH,jR,show i+(t - (i+1))=t - 1 by omega]
  have hins:aQ β (j5 old i x) (j5 kL i v):=(hrel.take i).append (.cons nW (hrel.drop i));have hle:=aD.vQ (β:=β) (i:=h.next) ⟨gi.b,gi.off+o,n+1,gi.top,1⟩ hW.xk;obtain⟨R1,R2⟩:=hW.Tz hgi (by rw[hj];simp) (by rw[hj];intro cs e;cases e) (.cells (j5 old i x)) ⟨gi.b,gi.off+o,n+1,gi.top,1⟩ rfl (w1:=w') (B1.trans A1) (λb hb=>(B2 b hb).trans (A2 b hb)) (B5.trans A5) (B4.trans A4) (B6.trans A6)
   (by rw[hw',FX,FX];exact zI _)
   ⟨B3 (A3 ⟨c0,t0,KE,hh,aib⟩),by rw[Cz p0,hol],by show gi.off+o+(n+1)<=gi.top;omega,λt ht=>⟨by
    by_cases hr:gi.off+o+i<=t/\t<gi.off+o+i+[v].length
    .have:=Dk gi.b [v] (gi.off+o+i) (w.drew.setCells gi.b (gi.off+o+(i+1)) (kL.drop i)) (λk hk=>by have hk:k<1:=hk;exact hs1 _ p0) (t - (gi.off+o+i)) p0;rw[show gi.off+o+i+(t - (gi.off+o+i))=t by omega]at this;rw[hw',this];simp
    .rw[hw',zJ gi.b [v] (gi.off+o+i) _ ⟨gi.b,t,none⟩ (λ_ _=>by simp at hr⊢;omega)];exact hs1 t ht,by rw[hw',IJ,IJ];exact(q4 t ht).2⟩,hnew,λt u ht=>by
    obtain⟨u',r1,r2⟩:=hins.get ht;exact⟨u',hcell t u' r1,r2.mono hle⟩⟩
  have hlow:h.low<=j->((h.kill j).new (.cells (j5 old i x))).low=h.low:=λhl=>by rw[IH.FU,IH.yE];omega
  refine⟨.ok (.slice (some ⟨h.next,0,some 1⟩) (n+1) (n+1)),none,(h.kill j).new (.cells (j5 old i x)),_,w',.returned _,cs,⟨rfl,rfl,⟨rfl,λt ht hne=>by rw[IH.iM,IH.rO,if_neg (by rw[IH.FT];omega),if_neg hne],⟨by rw[IH.Jc,IH.FT];omega,by rw[IH.iM,if_pos (IH.FT h j).symm]⟩,hlow⟩⟩,R1,R2,.ok ?_,.none cs,.inl ⟨f,_,fr,rfl,hcomes,hfr,hlv.2.2.1,hlv.1,hlv.2.1,hlv.2.2.2⟩⟩;exact VR.nU (g:=⟨gi.b,gi.off+o,n+1,gi.top,1⟩) (aD.aan _ _ _) rfl rfl (bz _) Nat.one_pos qe qu hroom (.inr rfl)
 .
  have hcn:n<=c':=by rcases hkind with⟨_,e⟩|⟨e,h0,e2,e3,_⟩<;>omega
  obtain⟨r,w',fr,⟨k,hk,hr',hw'⟩,hcomes,hfr,hlv⟩:=hI.grow gi.b (gi.off+o) n c' i gv.b gv.off kL v w hi hcn p0 hn hRl PO DT WZ WX cs;subst hr';obtain⟨D1,D2⟩:=hW.drop hgi;have hzz:VR β z z:=hz.mono (λ_ _ hh=>by cases hh);have hrep:∀m,aQ β (List.replicate m z) (List.replicate m z):=λm=>by
   induction m with
   |zero=>exact .nil
   |succ m ih=>exact .cons hzz ih
  have aie:∀m,(List.replicate m z).all cellV=true:=λm=>by
   rw[iE];intro u hu;rw[(List.mem_replicate.1 hu).2];exact hzc
  have aif:(old.take i).all cellV=true:=by
   rw[iE]at AX⊢;exact λu hu=>AX u (Bt hu)
  let g1:iC:=⟨w.heap.size,0,n+1,k,1⟩
  let c1':ae ah:=old.take i++List.replicate (n+1 - i) z
  have W9:c1'.length=n+1:=by
   show(old.take i++List.replicate (n+1 - i) z).length=n+1;rw[dL,gq,zS,hol];omega
  have hle:=aD.vQ (β:=β) (i:=(h.kill j).next) g1 D1.xk;have hcells:=OR.FY (P:=P) (β:=β.add (h.kill j).next g1) (w:=w) (cs:=c1') (cs':=kL.take i++List.replicate (n+1 - i) z) e
   (((hrel.take i).append (hrep _)).mono hle) (by rw[List.all_append,aif,aie];rfl) (List.replicate (k - (n+1)) z) 1
  have hcells:OR P (β.add (h.kill j).next g1) g1 (w.alloc (.cells ⟨kL.take i++List.replicate (n+1 - i) z++List.replicate (k - (n+1)) z⟩ e)) (.cells c1'):=by
   rw[W9,zS,show n+1+(k - (n+1))=k by omega]at hcells;exact hcells
  obtain⟨b1,b2⟩:=D1.alloc (.cells c1') (.cells ⟨kL.take i++List.replicate (n+1 - i) z++List.replicate (k - (n+1)) z⟩ e) g1 rfl rfl hcells;let wa:=w.alloc (.cells ⟨kL.take i++List.replicate (n+1 - i) z++List.replicate (k - (n+1)) z⟩ e)
  let ha:=(h.kill j).new (.cells c1')
  have b3:WR P (β.add (h.kill j).next g1) ha wa.drew:=b1.nV rfl;have b4:Eff (β.add (h.kill j).next g1) ha wa (β.add (h.kill j).next g1) ha wa.drew:=Eff.nV b1.dom rfl rfl rfl rfl;have hga:ha.get h.next=some (.cells c1'):=by show((h.kill j).new (.cells c1')).get h.next=_;rw[IH.iM,if_pos (IH.FT h j).symm]
  obtain⟨c2,hl2⟩:=AP c1' i [x] qu;obtain⟨l1,l2,l3⟩:=Ab hl2;have aih:ha.storeAt h.next i [x]=some (ha.set h.next (.cells c2)):=by unfold IH.storeAt;simp only[hga,hl2]
  obtain⟨_,m1,m2⟩:=BX b3 (g:=g1) (aD.aan _ _ _) aih (vs':=[v]) (.cons (nW.mono hle) .nil) (by simp[xH]);let hb':=ha.set h.next (.cells c2)
  let wb:=wa.drew.setCells w.heap.size i [v]
  have e0:g1.off+i=i:=eB _;rw[e0]at m1 m2;have b5:WR P (β.add (h.kill j).next g1) hb' wb.drew:=m1.nV rfl;have b6:Eff (β.add (h.kill j).next g1) hb' wb (β.add (h.kill j).next g1) hb' wb.drew:=Eff.nV m1.dom rfl rfl rfl rfl;have hgb:hb'.get h.next=some (.cells c2):=by show(ha.set h.next (.cells c2)).get h.next=_;rw[IH.lC,if_pos rfl]
  have hdl:(old.drop i).length=n - i:=by rw[lm,hol]
  obtain⟨c3,hl3⟩:=AP c2 (i+1) (old.drop i) (by rw[l2,W9,hdl];omega);obtain⟨n1,n2,n3⟩:=Ab hl3;have aii:hb'.storeAt h.next (i+1) (old.drop i)=some (hb'.set h.next (.cells c3)):=by unfold IH.storeAt;simp only[hgb,hl3]
  obtain⟨_,KX,PP⟩:=BX b5 (g:=g1) (aD.aan _ _ _) aii (vs':=kL.drop i) ((hrel.drop i).mono hle) (by
   rw[iE]at AX⊢;exact λu hu=>AX u (Dj hu))
  have e1:g1.off+(i+1)=i+1:=eB _;rw[e1]at KX PP;have hc3:c3=j5 old i x:=iK λt=>by
   rw[n3,hdl,l3,Ez p0];by_cases h1:t<i
   .rw[if_neg p0,if_neg qu,if_pos h1];show(old.take i++List.replicate (n+1 - i) z)[t]? =_;rw[iY sx,qy,if_pos h1]
   .rw[if_neg h1];by_cases h2:t=i
    .rw[if_neg p0,if_pos qu,if_pos h2,h2,mM];rfl
    .rw[if_neg h2];by_cases h3:t<n+1
     .rw[if_pos p0,jR,show i+(t - (i+1))=t - 1 by omega]
     .rw[if_neg p0,if_neg qu,dY p0,dY p0]
  rw[hc3]at KX PP;have hE:=((((D2.trans b2).trans b4).trans m2).trans b6).trans PP;rw[<- hw']at KX hE;refine⟨.ok (.slice (some ⟨h.next,0,some 1⟩) (n+1) (n+1)),none,hb'.set h.next (.cells (j5 old i x)),_,w',.returned _,cs,⟨rfl,rfl,⟨rfl,λt ht hne=>?_,⟨?_,by rw[IH.lC,if_pos rfl]⟩,λhl=>?_⟩⟩,KX,hE,.ok ?_,.none cs,.inl ⟨f,_,fr,rfl,hcomes,hfr,hlv.2.2.1,hlv.1,hlv.2.1,hlv.2.2.2⟩⟩
  .rw[IH.lC,if_neg p0];show(ha.set h.next (.cells c2)).get t=_;rw[IH.lC,if_neg p0];show((h.kill j).new (.cells c1')).get t=_;rw[IH.iM,if_neg (by rw[IH.FT];omega),IH.rO,if_neg hne]
  .show h.next<h.next+1;omega
  .have:h.low<=h.next:=by omega
   rw[IH.DC];show min (ha.set h.next (.cells c2)).low _=_;rw[IH.DC];show min (min ((h.kill j).new (.cells c1')).low _) _=_;rw[IH.FU,IH.yE];omega
  .exact VR.nU (g:=g1) (aD.aan _ _ _) rfl rfl (bz _) Nat.one_pos (by simp[g1]) (by simp[g1]) hk (.inr rfl)
def aij{E:Enc α}(hE:E.n=1){f:eD}{z:ah}{e:aB}{ig:Nat}(hz:VR (λ_=>none) z z)(hzc:cellV z=true)(hI:PN P f z e ig){fn:Func}(hfn:P.funcs[f]? =some fn){body:Code}(hb:fn.body=some body)(hname:fn.name≠ "runtime.NumGoroutine")
 {ad:aj Addr} {xs:ae α} {a:α} {y:E.Y} {x:ah} (hx:E.pat a y=[x]) {vb i:Nat} (hi:i<xs.length) (hn:(xs.length+1)*ig<=140737488355328):
 bA P (.func f) [.slice ad xs.length xs.length,.int .i64 (i:Int),.slice (some ⟨vb,0,some 0⟩) 1 1] [] [ap E (.slice ad xs.length xs.length) xs,pt vb (.cells (E.pat a y))] (E.fs a y)
  (λc:Nat=>.slice (some ⟨c,0,some 1⟩) (xs.length+1) (xs.length+1)) (λc=>[ap E (.slice (some ⟨c,0,some 1⟩) (xs.length+1) (xs.length+1)) (j5 xs i a)]) (λ_=>[]) (λ_=>True):=by
 intro B w s;have hv:At w.h vb (.cells (E.pat a y)):=s.at_ (.there .here);have s2:St B w [ap E (.slice ad xs.length xs.length) xs] (E.fs a y) w:=St.drop (k:=[ap E (.slice ad xs.length xs.length) xs]) s;have hfs:∀f∈E.fs a y,f.p w:=λf hf=>s.facts f hf;obtain⟨S,⟨S1,S2,q1,q2,ee⟩,h2,h3⟩:=s.own;obtain⟨S1',S3,⟨ev,hvb⟩,⟨⟩,ee'⟩:=q2;subst ee' ev;rcases q1 with⟨h,_⟩|⟨b,o,fl,cells,e1,hf,e2,hb',hcl,hel⟩
 .rw[h]at hi;simp at hi
 injection e1 with e1 Pt;subst e1 e2 ee;have hne:vb≠b:=λe=>by subst e;simp at h2
 rw[hE,nQ]at hcl;rw[hE]at hf;have xC:St B w [pt b (.cells cells)] (E.fs a y) w:=⟨s2.agree,s2.le,s2.eT,⟨[b],⟨[b],[],⟨rfl,hb'⟩,rfl,rfl⟩,qe,λi hi=>h3 i (jS _ hi)⟩,s2.facts⟩
 refine .real (D8 _ (ah9 hz hzc hI hfn hb hname hb' (x:=x) (by rw[<- hx];exact hv.2) hne hcl hf hi hn) ?_);rintro r pm h' ⟨rfl,rfl,mv⟩;obtain⟨w',rfl,jw,yT⟩:=xC.move mv;refine⟨rfl,w',w.h.next,rfl,(jw.sub (F':=[]) Sub.nil).xB λS hp=>?_,rfl,trivial⟩;have hdl:(cells.drop o).length=xs.length:=ri
 refine .inr ⟨_,0,1,_,by rw[Cz p0],.inr hE.symm,hp.1,hp.2,by rw[Cz p0,Cz p0,hdl,hE];omega,λk u hk=>?_⟩;rw[Ez p0]at hk;have old:∀t,xs[t]? =some u->(cells.drop o)[t]? =cells[o+t]?:=λt _=>jR;have side:∀t,xs[t]? =some u->(∀j v,j<1->cells[o+t]? =some v->(j5 (cells.drop o) i x)[0+k*E.n+j]? =some v)->∃y,(∀(j:Nat) u',(E.pat u y)[j]? =some u'->(j5 (cells.drop o) i x)[0+k*E.n+j]? =some u')/\∀f∈E.fs u y,f.p w':=λt ht hh=>by
  obtain⟨y',u1,u2⟩:=hel t u ht;refine⟨y',λj u' hj=>?_,λf hf=>f.mono yT (u2 f hf)⟩;have hj1:j<1:=by
   have:=(aT.1 hj).1;rw[E.len,hE]at this;exact this
  have:=u1 j u' hj;rw[hE,nQ,show o+t+j=o+t by omega]at this;exact hh j u' hj1 this
 by_cases h1:k<i
 .rw[if_pos h1]at hk;refine side k hk λj v hj hv=>?_;rw[hE,Ez p0,show 0+k*1+j=k by omega,if_pos h1,jR];exact hv
 .rw[if_neg h1]at hk;by_cases h2:k=i
  .rw[if_pos h2]at hk;cases hk;refine⟨y,λj u' hj=>?_,λf hf=>f.mono yT (hfs f hf)⟩;rw[hx]at hj;match j,hj with
   |0,hj=>rw[hE,Ez p0,show 0+k*1+0=k by omega,if_neg h1,if_pos h2];exact hj
   |j+1,hj=>simp at hj
  .rw[if_neg h2]at hk;refine side (k - 1) hk λj v hj hv=>?_;rw[hE,Ez p0,show 0+k*1+j=k by omega,if_neg h1,if_neg h2,jR];exact hv
end Go.Ideal
namespace Go.Ideal
open Go.Sort Go.RowKit Go.Proofs
variable {P:Program}
def PR(P:Program)(f:eD):Prop:=∀(blk off cap:Nat) (zs:ae ByteArray) (w:World),Holds encStr w blk off (zs.map λz=>z.data.toList).toArray->blk<w.heap.size->zs.length<4611686018427387904->
 Calls P f #[.slice (some ⟨blk,off,none⟩) zs.length cap] w λe w'=>e=.returned (.tuple #[])/\∃n os,w'=Go.Sort.grow (putRow encStr (Sort.ahead w n) blk off ((zs.map λz=>z.data.toList).mergeSort λx y=>decide (x<=y)).toArray) os
def EA(zs:ae ByteArray):ae (ae UInt8):=(zs.map λz=>z.data.toList).mergeSort λx y=>decide (x<=y)
def oQ(zs:ae ByteArray):ae ByteArray:=(EA zs).map λl=>⟨⟨l⟩⟩
def KY(zs:ae ByteArray):(oQ zs).length=zs.length:=by unfold oQ EA;rw[aS,List.length_mergeSort,aS]
variable{f:eD}
def ail(hS:PR P f){fn:Func}(hfn:P.funcs[f]? =some fn){body:Code}(hb:fn.body=some body)(hname:fn.name≠ "runtime.NumGoroutine"){b o c:Nat}{fl:aj Nat}{zs:ae ByteArray}{h h':IH}{cs:ae ah}
 (hg:h.get b=some (.cells cs)) (hz:∀(j:Nat) z,zs[j]? =some z->cs[o+j]? =some (.string z)) (hne:0<zs.length) (hlen:zs.length<4611686018427387904) (hs:h.storeAt b o ((oQ zs).map .string)=some h'):
 kI P ⟨.func f,[.slice (some ⟨b,o,fl⟩) zs.length c],[],none⟩ h (λr pm h2=>pm=none/\r=.ok (.tuple ⟨[]⟩)/\h2=h'):=by
 intro β w fn' args' cap' hG hW hf ha hcap;obtain⟨jf,t1,t2⟩:=Al (P:=P) (q:=⟨.func f,[.slice (some ⟨b,o,fl⟩) zs.length c],[],none⟩) (f:=f) (args:=[.slice (some ⟨b,o,fl⟩) zs.length c]) sv hf ha hcap hfn hb hname w;cases t2 with|cons hv tl=>
 cases tl;obtain⟨g,a,c',hi,rfl,hab,_,hn,hcc,hao,_⟩:=hv.mD;have hao:a.off=g.off+o/\a.spot=none:=by
  exact nt
 obtain⟨⟨c0,t0,KE,hh,_⟩,q2,q3,q4,q5,q6⟩:=hW.obj b g _ hi hg;have ea:a=⟨g.b,g.off+o,none⟩:=by
  obtain⟨ab,ao,KZ⟩:=a;exact mA
 subst ea;have hin:∀j,j<zs.length->o+j<cs.length:=λj hj=>(aT.1 (hz j _ (bH hj))).1;have hH:Holds encStr w g.b (g.off+o) (zs.map λz=>z.data.toList).toArray:=λj hj=>by
  have hj:j<zs.length:=tD
  obtain⟨v',h1,h2⟩:=q6 (o+j) _ (hz j _ (bH hj));have:=h2.Ae;subst this;refine⟨?_,(q4 _ (by have:=hin j hj;omega)).2⟩;rw[kE,h1];congr 1;rw[getElem!_pos _ j tD];simp
 have hlt:g.b<w.heap.size:=(IP.1 hh).1;have hC:=hS g.b (g.off+o) c' zs w hH hlt hlen;obtain⟨_,w1,w2⟩:=BX hW hi hs (vs':=(oQ zs).map .string) (aQ.free (by
  have:∀l:ae ByteArray,gD (l.map Value.string)=true:=by
   exact lR
  exact this _)) (by
  exact px)
 refine⟨_,Frame.enter P f ⟨_⟩ .normal,t1,rfl,λcs0 uF=>?_⟩;obtain⟨e,w',fr,⟨he,k,os,hw'⟩,hcomes,hfr,hlv⟩:=hC cs0;subst he;have hw1:putRow encStr (Sort.ahead w k) g.b (g.off+o) ((zs.map λz=>z.data.toList).mergeSort λx y=>decide (x<=y)).toArray=Sort.ahead (w.setCells g.b (g.off+o) ((oQ zs).map .string)) k:=by
  have:=setCells_putRow encStr w g.b (g.off+o) (EA zs).toArray;rw[show(EA zs).toArray.toList.map encStr=(oQ zs).map .string by unfold oQ;rw[qB];rfl]at this;rw[this];rfl
 rw[hw1]at hw';have w3:WR P β h' (Sort.ahead (w.setCells g.b (g.off+o) ((oQ zs).map .string)) k):=w1.nV rfl;have w4:=w2.trans (Eff.nV (w':=Sort.ahead (w.setCells g.b (g.off+o) ((oQ zs).map .string)) k) w1.dom rfl rfl rfl rfl (IL _ _));obtain⟨w5,w6⟩:=w3.grow os;rw[<- hw']at w5 w6;refine⟨.ok (.tuple ⟨[]⟩),none,h',β,w',.returned (.tuple #[]),cs0,⟨rfl,rfl,rfl⟩,w5,w4.trans w6,.ok (.dH _),.none cs0,.inl ⟨f,_,fr,rfl,hcomes,hfr,hlv.2.2.1,hlv.1,hlv.2.1,hlv.2.2.2⟩⟩
def aim(hS:PR P f){fn:Func}(hfn:P.funcs[f]? =some fn){body:Code}(hb:fn.body=some body)(hname:fn.name≠ "runtime.NumGoroutine"){a:aj Addr}{zs:ae ByteArray}(hne:0<zs.length)(hlen:zs.length<4611686018427387904):
 bA P (.func f) [.slice a zs.length zs.length] [] [ap dF (.slice a zs.length zs.length) zs] [] (λ_:Unit=>.tuple ⟨[]⟩) (λ_=>[ap dF (.slice a zs.length zs.length) (oQ zs)]) (λ_=>[]) (λ_=>True):=by
 intro B w s;obtain⟨S,⟨S1,S2,q1,q2,e⟩,h2,h3⟩:=s.own;rcases q1 with⟨h,_⟩|⟨b,o,fl,cells,e1,hf,e2,hb',hcl,hel⟩
 .rw[h]at hne;simp at hne
 injection e1 with e1 Pt;subst e1;have hcl:cells.length=o+zs.length:=by rw[hcl];simp[dF]
 have hz:∀(j:Nat) z,zs[j]? =some z->cells[o+j]? =some (.string z):=λj z hj=>by
  obtain⟨y,u1,_⟩:=hel j z hj;have:=u1 0 (.string z) rfl;simpa[dF]using this
 have hst:∃cs2,w.h.storeAt b o ((oQ zs).map .string)=some (w.h.set b (.cells cs2))/\cs2.length=cells.length/\∀(k:Nat) z,(oQ zs)[k]? =some z->cs2[o+k]? =some (.string z):=by
  have hov:∃cs2,iZ cells o ((oQ zs).map .string)=some cs2:=AP _ _ _ (by rw[aS,KY];omega);exact dl
 obtain⟨cs2,hst,hl2,Ep⟩:=hst;refine .real (D8 _ (ail hS hfn hb hname hb' hz hne hlen hst) ?_);rintro r pm h' ⟨rfl,rfl,rfl⟩;have s1:St B w [pt b (.cells cells)] [] w:=⟨s.agree,s.le,s.eT,⟨S,⟨S1,S2,⟨e2,hb'⟩,q2,e⟩,h2,h3⟩,λf hf=>by cases hf⟩
 refine⟨rfl,⟨w.h.set b (.cells cs2),w.z,λi hi=>w.lH i hi⟩,(),rfl,?_,rfl,trivial⟩;refine(s1.write (o':=.cells cs2)).yS (A:=pt b (.cells cs2)) λw' S' hp=>?_;refine .inr ⟨b,o,fl,cs2,by rw[KY],hf,hp.1,hp.2,by rw[hl2,hcl,KY];simp[dF],λk x hk=>⟨(),λj u hj=>?_,λf hf=>by cases hf⟩⟩;match j,hj with
 |0,hj=>
  cases hj;have:=Ep k x hk;simpa[dF]using this
end Go.Ideal
namespace Go.Ideal
variable {P:Program}
section
variable {B:ae Nat} {w0:Wd} {kl kl':ae OA} {F:ae aH} {K:KO} {ds:ae Tmp} {rest:ae bJ} {n:Nat} {l:qr} {D:ae Deferred} {pm:aj FrameMode} {ro:aj Nat} {d:Nat} {g:aj (Tmp×Bool)}
variable{α:Type}
def ain{E:Enc α}{e:aB}{size bytes b':Nat}{s x:ak}{v:ah}{xs:ae α}{a:α}{y:E.Y}{cs:ae ah}{k1 k2:ae OA}(hn:Nat.blt d n=true)(hg:bK l g=true)
 (hs:ev l s=v) (hx:ev l x=.slice (some ⟨b',0,some 0⟩) 1 1) (hk:aC (ap E v xs) kl k1) (hc:aC (pt b' (.cells cs)) k1 k2) (hp:cs=E.pat a y) (hF:Sub (E.fs a y) F) (hz:E.n=size)
 (hm:(xs.length+1)*bytes<=1073741824/\(xs.length+1)*size<=1073741824/\xs.length+1<=1073741824):
 cO (R (λh=>aK P ds (⟨⟨some d,g,.append e size bytes s x⟩,[]⟩::rest) (act n l D pm ro) h K) B w0 kl F)
  (∀c,R (λh=>aK P ds rest (act n ((d,.slice (some ⟨c,0,some E.n⟩) (xs.length+1) (xs.length+1))::l) D pm ro) h K) B w0 (ap E (.slice (some ⟨c,0,some E.n⟩) (xs.length+1) (xs.length+1)) (xs++[a])::k2) F):=by
 refine⟨λr w st=>?_⟩;subst hp hz;have hlen:=E.len a y;have st2:St B w0 (ap E v xs::pt b' (.cells (E.pat a y))::k2) F w:=st.kJ (.cons hk (.cons hc .nil));have hat:At w.h b' (.cells (E.pat a y)):=st2.at_ (.there .here);have nK:St B w0 (ap E v xs::k2) F w:=(st2.fu (.there .here)).tail;have hfs:∀f∈E.fs a y,f.p w:=λf hf=>st.facts f (hF.mem f hf);have hread:w.h.iq b' 0 (1*E.n)=some (E.pat a y):=by
  exact iS
 have hx1:oD (ev l x)=some (0+1):=by rw[hx];rfl
 have hx2:nG E.n (0+1) (ev l x) w.h=some (E.pat a y):=vj
 have put:∀(w':Wd) (c:Nat) (f:Nat) (cells:ae ah),cells.length=xs.length*E.n->(∀(k:Nat) z,xs[k]? =some z->∃y,(∀(j:Nat) u,(E.pat z y)[j]? =some u->cells[k*E.n+j]? =some u)/\∀f∈E.fs z y,f.p w')->(∀f∈E.fs a y,f.p w')->
  (f=0\/f=E.n)->∀S,(pt c (.cells (cells++E.pat a y))).p w' S->(ap E (.slice (some ⟨c,0,some f⟩) (xs.length+1) (xs.length+1)) (xs++[a])).p w' S:=by
  intro w' c f cells h1 h2 h3 h4 S hp;refine .inr ⟨c,0,f,_,by rw[dL];rfl,h4,hp.1,hp.2,by rw[dL,dL,h1,hlen,qA,qx,zP,eB],λk z hk=>?_⟩;by_cases hlt:k<xs.length
  .exact cW
  .exact cM
 obtain⟨S,⟨S1,S2,q,q2,e1⟩,hnd,hown⟩:=nK.own;rcases q with⟨rfl,rfl,rfl⟩|⟨b,o,f,cells,rfl,hf,rfl,hb,hcl,hel⟩
 .exact cP
 .exact cw
def K3(E:Enc α){e:aB}{size bytes b':Nat}{s x:ak}{v:ah}{xs:ae α}(a:α)(y:E.Y){cs:ae ah}{k1 k2:ae OA}
 (hm:(xs.length+1)*bytes<=1073741824/\(xs.length+1)*size<=1073741824/\xs.length+1<=1073741824)
 (next:∀c,R (λh=>aK P ds rest (act n ((d,.slice (some ⟨c,0,some E.n⟩) (xs.length+1) (xs.length+1))::l) D pm ro) h K) B w0 (ap E (.slice (some ⟨c,0,some E.n⟩) (xs.length+1) (xs.length+1)) (xs++[a])::k2) F)
 (hn:Nat.blt d n=true:=by rfl) (hg:bK l g=true:=by rfl)
 (hs:ev l s=v:=by conv=>lhs;whnf) (hx:ev l x=.slice (some ⟨b',0,some 0⟩) 1 1:=by rfl) (hk:aC (ap E v xs) kl k1:=by exact dK) (hc:aC (pt b' (.cells cs)) k1 k2:=by exact dK) (hp:cs=E.pat a y:=by rfl) (hF:Sub (E.fs a y) F:=by exact lI) (hz:E.n=size:=by rfl):
 R (λh=>aK P ds (⟨⟨some d,g,.append e size bytes s x⟩,[]⟩::rest) (act n l D pm ro) h K) B w0 kl F:=
 (ain hn hg hs hx hk hc hp hF hz hm).h next
def gv(f:Nat):aj Nat->Nat->ah
 |none,_=>.slice none 0 0
 |some c,n=>.slice (some ⟨c,0,some f⟩) n n
def Xa{E:Enc α}{c:aj Nat}{xs:ae α}{w:Wd}{S:ae Nat}(h:(ap E (gv E.n c xs.length) xs).p w S)(h0:0<xs.length):∃b cells,gv E.n c xs.length=.slice (some ⟨b,0,some E.n⟩) xs.length xs.length/\S=[b]/\w.h.get b=some (.cells cells)/\cells.length=xs.length*E.n/\
 ∀(k:Nat) x,xs[k]? =some x->∃y,(∀(j:Nat) u,(E.pat x y)[j]? =some u->cells[k*E.n+j]? =some u)/\∀f∈E.fs x y,f.p w:=by
 rcases h with⟨h,_⟩|⟨b,o,f,cells,h1,h2,h3,h4,h5,h6⟩
 .rw[h]at h0;simp at h0
 .cases c with
  |none=>simp[gv]at h1
  |some c=>
   simp only[gv,Value.slice.injEq,aI,Addr.mk.injEq]at h1;obtain⟨⟨rfl,rfl,h1⟩,_⟩:=h1;refine⟨c,cells,rfl,h3,h4,by rw[h5,eB],λk x hk=>?_⟩;obtain⟨y,q1,q2⟩:=h6 k x hk;exact⟨y,λj u hj=>by have:=q1 j u hj;rwa [eB]at this,q2⟩
def Xb{E:Enc α}{xs:ae α}{Q:IH->Prop}(h0:0<xs.length)(hk:aC (ap E (.slice none 0 0) xs) kl kl':=by exact dK):R Q B w0 kl F:=λw s=>by
 obtain⟨S,⟨S1,S2,q1,q2,e⟩,h2,h3⟩:=(s.fu hk).own;obtain⟨b,cells,h,_⟩:=Xa (c:=none) q1 h0;simp[gv]at h
end
end Go.Ideal
namespace Go.Ideal
variable {P:Program} {B:ae Nat} {w0:Wd} {kl kl' bi:ae OA} {F:ae aH} {K:KO} {ds:ae Tmp} {rest:ae bJ} {n:Nat} {l:qr} {D:ae Deferred} {pm:aj FrameMode} {ro:aj Nat} {d:Nat} {g:aj (Tmp×Bool)}
variable{α:Type}
def Xc{E:Enc α}(a b:ae (α×E.Y)):dV E (a++b)=dV E a++dV E b:=by unfold dV;rw[SE]
def aio{E:Enc α}{aJ:ae (α×E.Y)}{k:Nat}{p:α×E.Y}(hk:k<aJ.length):iZ (dV E aJ) (k*E.n) (E.pat p.1 p.2)=some (dV E (aJ.set k p)):=by
 have h1:aJ=aJ.take k++aJ.drop k:=(qz k aJ).symm;have hd:aJ.drop k=aJ[k]::aJ.drop (k+1):=pg hk;have h2:dV E aJ=dV E (aJ.take k)++(E.pat aJ[k].1 aJ[k].2++dV E (aJ.drop (k+1))):=by
  conv=>lhs;rw[h1,hd,Xc]
  rfl
 have h3:k*E.n=(dV E (aJ.take k)).length:=by rw[Et,gq,BD p0]
 rw[h2,h3,PE (by rw[E.len,dL,E.len];omega),E.len,List.drop_append_of_le_length (by rw[E.len];exact bz _),List.drop_of_length_le (by rw[E.len];exact bz _),dW];congr 1;have h4:aJ.set k p=aJ.take k++p::aJ.drop (k+1):=by
  conv=>lhs;rw[h1]
  rw[zQ _ _ sx,gq,BD p0,mM,hd];rfl
 rw[h4,Xc];rfl
def aip(E:Enc α){aJ:ae (α×E.Y)}{k o b m:Nat}(p:α×E.Y){x y:ak}(hlt:k<aJ.length)(ho:o=k*E.n)
 (next:R (λh=>aK P ds rest (act n l D pm ro) h K) B w0 (pt b (.cells (dV E (aJ.set k p)))::kl') F)
 (hx:ev l x=.pointer (some ⟨b,o,none⟩):=by rfl) (hy:ev l y=.agg ⟨E.pat p.1 p.2⟩:=by rfl) (hk:aC (pt b (.cells (dV E aJ))) kl kl':=by exact dK) (hz:E.n=m:=by rfl) (hg:bK l g=true:=by rfl):
 R (λh=>aK P ds (⟨⟨none,g,.store m x y⟩,[]⟩::rest) (act n l D pm ro) h K) B w0 kl F:=by
 subst ho hz;exact(O3 (vs:=E.pat p.1 p.2) hg hx (by rw[hy];rfl) (by rw[vO,E.len];exact Fv _) hk (aio hlt)).h next
variable{x:ak}{b o f m c:Nat}{ρ:ak->ah}
def PS{K4 K5:aj ak}{lo hi:Nat}{size:Nat}(hx:ρ x=.slice (some ⟨b,o,some f⟩) m c)(hf:f=0\/f=size)(hs:0<size)(hlo:K4=none/\lo=0\/∃t,K4=some t/\ρ t=.int .i64 (lo:Int))(hhi:K5=none/\hi=m\/∃t,K5=some t/\ρ t=.int .i64 (hi:Int))(h1:lo<=hi)(h2:hi<=c):
 Pu P ρ (.Nn size x K4 K5 none) (.slice (some ⟨b,o+lo*size,some f⟩) (hi - lo) (c - lo)):=λh=>by
 have e3:upTo c (.int .i64 (hi:Int))=some hi:=VJ h2;have e4:upTo hi (.int .i64 (lo:Int))=some lo:=VJ h1;have hbd:bounds? m c (ja ρ K4) (ja ρ K5) none=some (lo,hi,c):=by
  rcases hlo with⟨rfl,rfl⟩|⟨t,rfl,ht⟩<;>rcases hhi with⟨rfl,hm⟩|⟨t',rfl,ht'⟩
  .rw[hm];rfl
  .show bounds? m c none (some (ρ t')) none=_;rw[ht'];show(match upTo c (.int .i64 (hi:Int))with|none=>none|some h=>match some 0 with|none=>none|some l=>some (l,h,c))=_;rw[e3]
  .rw[hm]at e4⊢;show bounds? m c (some (ρ t)) none none=_;rw[ht];show(match upTo m (.int .i64 (lo:Int))with|none=>none|some l=>some (l,m,c))=_;rw[e4]
  .show bounds? m c (some (ρ t)) (some (ρ t')) none=_;rw[ht,ht'];show(match upTo c (.int .i64 (hi:Int))with|none=>none|some h=>match upTo h (.int .i64 (lo:Int))with|none=>none|some l=>some (l,h,c))=_;rw[e3];show(match upTo hi (.int .i64 (lo:Int))with|none=>none|some l=>some (l,hi,c))=_;rw[e4]
 have h3:ja ρ none=none:=rfl;simp only[aF.run,hx,h3,hbd];match f,hf with
 |0,_=>rfl
 |k+1,hf=>
  have hk:k+1=size:=by
   rcases hf with h|h
   .cases h
   .exact h
  show cond (Nat.beq (Nat.succ k) size) (some (Value.slice (some ⟨b,Nat.add o (Nat.mul lo size),some (Nat.succ k)⟩) (hi - lo) (c - lo),h)) none=_;rw[show Nat.beq (Nat.succ k) size=true by rw[show Nat.succ k=size from hk];exact Fv _];rfl
def aiq{zero:ae ah}{cs cs':ae ah}(hv:iZ cs o (zeros zero m)=some cs')(h0:0<m)
 (next:R (λh=>aK P ds rest (act n l D pm ro) h K) B w0 (pt b (.cells cs')::kl') F)
 (hx:ev l x=.slice (some ⟨b,o,some f⟩) m c:=by rfl) (hk:aC (pt b (.cells cs)) kl kl':=by exact dK) (hg:bK l g=true:=by rfl):
 R (λh=>aK P ds (⟨⟨none,g,.clear zero x⟩,[]⟩::rest) (act n l D pm ro) h K) B w0 kl F:=λw s=>by
 obtain⟨k,rfl⟩:∃k,m=k+1:=⟨m - 1,p0⟩
 exact JC hg (v:=.tuple #[]) (h':=w.h.set b (.cells cs')) (by simp only[aF.run,hx];simp only[IH.storeAt,(s.at_ hk).2,hv]) (next _ ((s.fu hk).write))
def air(E:Enc α){v:ah}{aJ:ae (α×E.Y)}{Q:IH->Prop}(h0:aJ=[]->∀c,v=.slice none 0 c->R Q B w0 kl F)(h1:aJ=[]->∀i o f c,v=.slice (some ⟨i,o,some f⟩) 0 c->R Q B w0 kl F)
 (h2:0<aJ.length->∀i o f c,v=.slice (some ⟨i,o,some f⟩) aJ.length c->R Q B w0 kl F) (hf:tC E v aJ∈F:=by exact gM):R Q B w0 kl F:=λw s=>by
 rcases s.facts _ hf with⟨e,a,c,hv,hg⟩|⟨i,o,f,c,cells,⟨hv,_⟩,_⟩
 .exact ia
 .exact kp
def K6{E:Enc α}{v:ah}{xs:ae α}{Q:IH->Prop}(h:∀a,v=.slice a xs.length xs.length->(xs=[]->a=none\/∃b o,a=some ⟨b,o,some 0⟩\/a=some ⟨b,o,some E.n⟩)->R Q B w0 kl F)(hk:aC (ap E v xs) kl kl':=by exact dK):R Q B w0 kl F:=λw s=>by
 obtain⟨S,⟨S1,S2,q1,q2,e⟩,h2,h3⟩:=(s.fu hk).own;rcases q1 with⟨rfl,h1,_⟩|⟨b,o,f,cells,h4,h5,_⟩
 .exact h none h1 (λ_=>.inl rfl) w s
 .refine h _ h4 (λ_=>.inr ⟨b,o,?_⟩) w s;rcases h5 with h5|h5
  .subst h5;exact .inl rfl
  .subst h5;exact .inr rfl
def Xd{y:ak}{t:aB}{a:Nat}(hx:ρ x=.int .u64 (a:Int))(hy:ρ y=.int .u64 (b:Int))(hb:0<b):Pu P ρ (.bin .rem t x y) (.int .u64 ((a%b:Nat):Int)):=λh=>by
 have hv:bX P (binOp .rem t (.int .u64 (a:Int)) (.int .u64 (b:Int)))=some (.int .u64 ((a%b:Nat):Int)):=by
  show bX P (Op.intDiv .rem .u64 a b)=_;unfold Op.intDiv;rw[if_neg p0];show some (Value.int .u64 ((a:Int).tmod (b:Int)))=_;rw[show(a:Int).tmod (b:Int)=((a%b:Nat):Int)from(Int.ofNat_tmod a b).symm]
 have h1:jo P (do eqGuard .rem t x y (.int .u64 (a:Int)) (.int .u64 (b:Int));binOp .rem t (.int .u64 (a:Int)) (.int .u64 (b:Int)))=some (.int .u64 ((a%b:Nat):Int)):=by
  exact lA
 have h2:ku P .rem t x y (.int .u64 (a:Int)) (.int .u64 (b:Int))=some (.int .u64 ((a%b:Nat):Int)):=by
  unfold ku;have:(match qD .u64 .u64 with|true=>nS .rem .u64 (a:Int) (b:Int)|false=>none)=none:=rfl;simp only[qD,bR,Fu,cond];exact h1
 exact nF
end Go.Ideal
namespace Go.Ideal
inductive Ren(σ:Nat->Nat)(m n:Nat):Value->Value->Prop
 |free {v:Value} (h:bR v=true):Ren σ m n v v
 |sl {i o k c:Nat} {s:Option Nat} (h1:m<=i) (h2:i<n):Ren σ m n (.slice (some ⟨i,o,s⟩) k c) (.slice (some ⟨σ i,o,s⟩) k c)
inductive rX(σ:Nat->Nat)(m n:Nat):List Value->List Value->Prop
 |nil:rX σ m n [] []
 |cons {v v':Value} {l l':List Value} (h:Ren σ m n v v') (hl:rX σ m n l l'):rX σ m n (v::l) (v'::l')
variable{n m:Nat}{v v':ah}{σ:Nat->Nat}
def Ren.vr{β β':aD}{w:ah}(hr:Ren σ m n v v')(hv:VR β v' w)(hβ:∀i,m<=i->i<n->β' i=β (σ i)):VR β' v w:=by
 cases hr with
 |free h=>
  rw[hv.pF h];exact VR.free h
 |sl h1 h2=>
  cases hv with
  |az h hb hn ha=>exact .az ((hβ _ h1 h2).trans h) hb hn ha
  |nU h hb hs hn hz hl ht hc ha=>exact .nU ((hβ _ h1 h2).trans h) hb hs hn hz hl ht hc ha
def rX.len{σ:Nat->Nat}{m n:Nat}:∀{l l':ae ah},rX σ m n l l'->l'.length=l.length
 |_,_,.nil=>rfl
 |_,_,.cons _ hl=>by simp[rX.len hl]
def rX.get{σ:Nat->Nat}{m n:Nat}:∀{l l':ae ah},rX σ m n l l'->∀{j:Nat} {v:ah},l[j]? =some v->∃v',l'[j]? =some v'/\Ren σ m n v v'
 |_,_,.nil,j,v,h=>by simp at h
 |_,_,.cons h hl,0,v,e=>by simp at e;subst e;exact⟨_,rfl,h⟩
 |_,_,.cons h hl,j+1,v,e=>by simpa using rX.get hl rB
def Ren.cell(h:Ren σ m n v v')(hc:cellV v'=true):cellV v=true:=by
 cases h with
 |free _=>exact hc
 |sl _ _=>rfl
def rX.cells{σ:Nat->Nat}{m n:Nat}:∀{l l':ae ah},rX σ m n l l'->l'.all cellV=true->l.all cellV=true
 |_,_,.nil,_=>rfl
 |_,_,.cons h hl,hc=>by
  simp only[Di,dG]at hc⊢;exact⟨h.cell hc.1,rX.cells hl hc.2⟩
noncomputable def Ho(i:Nat)(l:ae (Nat×bG)):Bool:=not (zW (λp=>not (Nat.beq p.1 i)) l)
variable{i:Nat}{l:ae (Nat×bG)}
def ais(h:Ho i l=true):∃o,(i,o)∈l:=by
 unfold Ho at h;rw[DF,BA,List.all_eq_false]at h;obtain⟨p,hp,hn⟩:=h;have:Nat.beq p.1 i=true:=by simpa using hn
 exact⟨p.2,by rw[<- jg this];exact hp⟩
noncomputable def K7(m low:Nat)(l:ae (Nat×bG))(n:Nat)(v:ah):BR:=λr pm h=>
 match pm with
 |some _=>false
 |none=>match r with
  | .ok v'=>nH 50 v v'&&(Nat.beq h.next n&&(Nat.beq h.low low&&(Eb l h&&zW (λi=>cond (Ho i l) true (h.get i).isNone) (List.range m))))
  | .fD _=>false
noncomputable def qO(l0:ae (Nat×bG))(n0 low:Nat)(l:ae (Nat×bG))(n:Nat)(fn:Nat)(args:ae ah)(v:ah):aX->IH->aj (ah×IH):=λq h=>
 match q with
 |⟨.func f,KZ,[],none⟩=>cond (Nat.beq f fn&&(nH 5 (.tuple ⟨args⟩) (.tuple ⟨KZ⟩)&&(Nat.beq n0 h.next&&(Nat.beq low h.low&&En 30 (heapT l0) h.t)))) (some (v,⟨heapT l,n,low⟩)) none
 |_=>none
def ait{o:bG}(h:(i,o)∈l):∃o',(heapT l).get i=some o':=by
 induction l with
 |nil=>cases h
 |cons p l ih=>
  obtain⟨j,x⟩:=p;simp only[heapT,T.lC];by_cases e:i=j
  .rw[if_pos e];exact⟨x,rfl⟩
  .rw[if_neg e];rcases bN.1 h with h|h
   .cases h;exact absurd rfl e
   .exact ih h
def tH{P:Program}{l0:ae (Nat×bG)}{n0 low:Nat}{fn:Nat}{args:ae ah}
 (hc:CALL P ⟨.func fn,args,[],none⟩ ⟨heapT l0,n0,low⟩ (λr pm h'=>K7 n0 low l n v r pm h'=true))
 {q:aX} {h:IH} {v':ah} {h':IH} (hk:qO l0 n0 low l n fn args v q h=some (v',h')):CALL P q h (λr pm h2=>r=.ok v'/\pm=none/\h2=h'):=by
 unfold qO at hk;split at hk
 .rename_i f KZ;cases hcd:(Nat.beq f fn&&(nH 5 (.tuple ⟨args⟩) (.tuple ⟨KZ⟩)&&(Nat.beq n0 h.next&&(Nat.beq low h.low&&En 30 (heapT l0) h.t))))with
  |false=>rw[hcd]at hk;cases hk
  |true=>
   rw[hcd]at hk;simp only[cond,aI,cB]at hk;obtain⟨rfl,rfl⟩:=hk;simp only[dG]at hcd;obtain⟨h1,h2,h3,h4,h5⟩:=hcd;have h1:=jg h1;subst h1;have h2:=xu _ _ _ h2;injection h2 with h2;injection h2 with h2;subst h2;have e3:=jg h3;have e4:=jg h4;have e5:=Pg _ h5;clear h3 h4 h5;obtain⟨t1,n1,l1⟩:=h;dsimp only at e3 e4 e5;subst e3 e4 e5;refine .forget _ hc ?_;intro r pm h' hl;unfold K7 at hl;split at hl
   .cases hl
   .split at hl
    .rename_i v';simp only[dG]at hl;obtain⟨h1,h2,h3,h4,h5⟩:=hl;rw[DF,iE]at h5;refine⟨⟨heapT l,n,low⟩,(jg h2).symm,(jg h3).symm,?_,?_,rfl,rfl⟩
     .intro i;rcases OH l i with e|⟨o,e1,e2⟩
      .by_cases hin:i<n0
       .left;have:=h5 i (nD.2 hin);cases hi:Ho i l with
        |true=>
         obtain⟨o,ho⟩:=ais hi;obtain⟨o',ho'⟩:=ait ho;rw[e]at ho';cases ho'
        |false=>
         rw[hi]at this;have hn:h'.get i=none:=by
          cases hg:h'.get i with
          |none=>rfl
          |some o=>rw[hg]at this;cases this
         rw[hn];exact e
       .exact .inr ⟨Nat.le_of_not_lt hin,e⟩
      .left;exact e2.trans (UY h4 i o e1).symm
     .rw[xu _ _ _ h1]
    .cases hl
 .cases hk
structure ars(n0 n2:Nat)(lv:List Value)(l2:List (Nat×bG))(e:List Value×List (Nat×bG))(σ:Nat->Nat):Prop where
 val:rX σ n0 n2 lv e.1
 up:∀j,n0<=j->j<n2->n0<=σ j
 inj:∀i j,n0<=i->n0<=j->i<n2->j<n2->σ i=σ j->i=j
 get:∀p∈l2,n0<=p.1->∃cs cs',p.2=.cells cs/\(σ p.1,.cells cs')∈e.2/\rX σ n0 n2 cs cs'
end Go.Ideal
namespace Go.Ideal
variable {P:Program}
section
variable {B:ae Nat} {w0:Wd} {kl kl' bi:ae OA} {F:ae aH} {K:KO} {n:Nat} {l:qr} {D:ae Deferred} {pm:aj FrameMode} {ro:aj Nat}
variable{xs:ae Int}{Q:IH->Prop}
def Xe{v:ah}(hne:0<xs.length)(h:∀b f pre,(f=0\/f=1)->v=.slice (some ⟨b,pre.length,some f⟩) xs.length xs.length->R Q B w0 (pt b (.cells (pre++xs.map (.int .i64)))::kl') F)(hk:aC (ap ai v xs) kl kl':=by exact dK):R Q B w0 kl F:=λw s=>by
 have s1:=s.fu hk;obtain⟨S,⟨S1,S2,q1,q2,e⟩,h2,h3⟩:=s1.own;rcases q1 with⟨h0,_⟩|⟨b,o,f,cells,h4,h5,h6,h7,h8,h9⟩
 .rw[h0]at hne;simp at hne
 .have h8:cells.length=o+xs.length*1:=h8;have hpl:(cells.take o).length=o:=by rw[gq];omega
  have hc:cells=cells.take o++xs.map (.int .i64):=by
   exact cS
  refine h b f (cells.take o) h5 (by rw[hpl];exact h4) w ⟨s1.agree,s1.le,s1.eT,⟨S,⟨S1,S2,⟨h6,by rw[<- hc];exact h7⟩,q2,e⟩,h2,h3⟩,s1.facts⟩
def Xf{b f m:Nat}{pre:ae ah}(hm:m=xs.length)(hf:f=0\/f=1)(h:R Q B w0 (ap ai (.slice (some ⟨b,pre.length,some f⟩) m m) xs::kl') F)(hk:aC (pt b (.cells (pre++xs.map (.int .i64)))) kl kl':=by exact dK):R Q B w0 kl F:=λw s=>by
 subst hm;refine h w ((s.fu hk).yS (A:=pt b (.cells (pre++xs.map (.int .i64)))) λw S hp=>.inr ⟨b,pre.length,f,_,rfl,hf,hp.1,hp.2,by rw[dL,aS];show _=pre.length+xs.length*1;omega,λk x hx=>⟨(),λj u hj=>?_,λf hf=>by cases hf⟩⟩);exact cN
end
variable{xs:ae Int}{F:ae aH}{kl:ae OA}
def St.opI{B:ae Nat}{w0 w:Wd}{v:ah}(hne:0<xs.length)(s1:St B w0 (ap ai v xs::kl) F w):∃b f pre,(f=0\/f=1)/\v=.slice (some ⟨b,pre.length,some f⟩) xs.length xs.length/\St B w0 (pt b (.cells (pre++xs.map (.int .i64)))::kl) F w:=by
 obtain⟨S,⟨S1,S2,q1,q2,e⟩,h2,h3⟩:=s1.own;rcases q1 with⟨h0,_⟩|⟨b,o,f,cells,h4,h5,h6,h7,h8,h9⟩
 .rw[h0]at hne;simp at hne
 .have h8:cells.length=o+xs.length*1:=h8;have hpl:(cells.take o).length=o:=by rw[gq];omega
  have hc:cells=cells.take o++xs.map (.int .i64):=by
   exact cS
  exact⟨b,f,cells.take o,h5,by rw[hpl];exact h4,s1.agree,s1.le,s1.eT,⟨S,⟨S1,S2,⟨h6,by rw[<- hc];exact h7⟩,q2,e⟩,h2,h3⟩,s1.facts⟩
variable{pre:ae ah}
def aiv{b f m:Nat}(hm:m=xs.length)(hf:f=0\/f=1)(w:Wd)(S:ae Nat)(hp:(pt b (.cells (pre++xs.map (.int .i64)))).p w S):(ap ai (.slice (some ⟨b,pre.length,some f⟩) m m) xs).p w S:=by
 subst hm;refine .inr ⟨b,pre.length,f,_,rfl,hf,hp.1,hp.2,by rw[dL,aS];show _=pre.length+xs.length*1;omega,λk x hx=>⟨(),λj u hj=>?_,λf hf=>by cases hf⟩⟩;exact cN
variable{cap:ae ah}{Y:Type}{fn:Fn}
def bA.aiw{args:aj Addr->ae ah}{a:aj Addr}{zs:Y->ae Int}{val:Y->ah}{fs:Y->ae aH}{pr:Y->Prop}(hne:0<xs.length)(hl:∀y,(zs y).length=xs.length)
 (h:∀b f pre,(f=0\/f=1)->bA P fn (args (some ⟨b,pre.length,some f⟩)) cap [pt b (.cells (pre++xs.map (.int .i64)))] F val (λy=>[pt b (.cells (pre++(zs y).map (.int .i64)))]) fs pr):
 bA P fn (args a) cap [ap ai (.slice a xs.length xs.length) xs] F val (λy=>[ap ai (.slice a xs.length xs.length) (zs y)]) fs pr:=λB w s=>by
 obtain⟨b,f,pre,hf,ev,s'⟩:=s.opI hne;obtain rfl:a=some ⟨b,pre.length,some f⟩:=by injection ev
 refine .ji _ (h b f pre hf B w s') ?_;rintro r pm h' ⟨h1,w',y,e1,st,e2,e3⟩;exact⟨h1,w',y,e1,st.yS λw S hp=>aiv (hl y).symm hf w S hp,e2,e3⟩
def bA.weak{args:ae ah}{val:Y->ah}{kl':Y->ae OA}{fs:Y->ae aH}{pr Xg:Y->Prop}(h:bA P fn args cap kl F val kl' fs pr)(hp:∀y,pr y->Xg y):bA P fn args cap kl F val kl' fs Xg:=λB w s=>by
 refine .ji _ (h B w s) ?_;rintro r pm h' ⟨h1,w',y,e1,st,e2,e3⟩;exact⟨h1,w',y,e1,st,e2,hp y e3⟩
variable{k:Nat}{x:Int}
def K8(h:xs[k]? =some x):(pre++xs.map (Value.int .i64))[pre.length+k*1]? =some (.int .i64 x):=by
 rw[jm p0,show pre.length+k*1 - pre.length=k by omega,bU,h];rfl
def EB:(pre++xs.map (Value.int .i64)).set (pre.length+k*1) (.int .i64 x)=pre++(xs.set k x).map (.int .i64):=by
 rw[zQ _ _ p0,show pre.length+k*1 - pre.length=k by omega,ul]
