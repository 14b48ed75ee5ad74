/-
  The ideal machine, 82: a call from a heap that is known to the letter, over package variables.
-/
import Derived.Test.YtjmgkllpcidhjaaGreatDoorIdealOE
import Derived.Lib.Bytealg
import Derived.Lib.Atoi
import Derived.Lib.ConvBytes
import Derived.Test.YtjmgkllpcidhjaaGreatDoorIdealPE
import Derived.Deep.Draws
import Derived.Lib.LaidTab
import Derived.Lib.ItoaNum
import Derived.Lib.Itoa
import Derived.Lib.Join
set_option linter.all false
namespace Go.Ideal
theorem Ti{P:Program}{f:FuncId}{fn:Func}(hfn:P.funcs[f]? =some fn){body:Code}(hb:fn.body=some body)(hname:fn.name≠ "runtime.NumGoroutine"){args:List Value}{v:Value}(hv:bf v=true)(ha:args.all bf=true)
 (hC:∀w,Calls P f ⟨args⟩ w λe w'=>e=.returned v/\w'=w) {h:IH}:fJ P ⟨.func f,args,[],none⟩ h (λr pm h2=>pm=none/\r=.ok v/\h2=h):=by
 intro β w fn' args' cap' hG hW hf ha' hcap;obtain⟨fA,t1,t2⟩:=zR (P:=P) (q:=⟨.func f,args,[],none⟩) (f:=f) (args:=args) (by simp only[target,fP,jR]) hf ha' hcap hfn hb hname w;have e2:=aA.Aw t2 ha;subst e2;refine⟨_,Frame.enter P f ⟨_⟩ .normal,t1,rfl,λcs0 l6=>?_⟩;obtain⟨e,w',fr,⟨he,hw'⟩,hcomes,hfr,hlv⟩:=hC w cs0;subst he hw';exact⟨.ok v,none,h,β,_,.returned v,cs0,⟨rfl,rfl,rfl⟩,hW,Eff.refl _ _ _ hW.dom,.ok (VR.free hv),.none cs0,.inl ⟨f,_,fr,rfl,hcomes,hfr,hlv.2.2.1,hlv.1,hlv.2.1,hlv.2.2.2⟩⟩
noncomputable def AA(fn:Nat):aQ->IH->Option (Value×IH):=λq h=>
 match q with
 |⟨.func f,[.string s,.int .u8 c],[],none⟩=>cond (Nat.beq f fn) (some (.int .i64 (Lib.indexByte s.data.toList c.toNat.toUInt8),h)) none
 |_=>none
theorem Tj{P:Program}{f:FuncId}{fn:Func}(hfn:P.funcs[f]? =some fn){body:Code}(hb:fn.body=some body)(hname:fn.name≠ "runtime.NumGoroutine")
 (hC:∀s c w,Calls P f #[.string s,.int .u8 c] w λe w'=>e=.returned (.int .i64 (Lib.indexByte s.data.toList c.toNat.toUInt8))/\w'=w)
 {q:aQ} {h:IH} {v':Value} {h':IH} (hk:AA f q h=some (v',h')):CALL P q h (λr pm h2=>r=.ok v'/\pm=none/\h2=h'):=by
 unfold AA at hk;split at hk
 ·rename_i g s c;cases hcd:Nat.beq g f with
  |false=>rw[hcd]at hk;cases hk
  |true=>
   rw[hcd]at hk;have e:=eD hcd;subst e;injection hk with hk;injection hk with h1 h2;subst h1 h2;refine .qM _ (.real (Ti hfn hb hname rfl rfl λw=>hC s c w)) ?_;rintro r pm h2 ⟨a,b,c⟩;exact⟨b,a,c⟩
 ·cases hk
structure Beyond(w w':World):Prop where
 heap:∀b,b<w.heap.size->w'.heap[b]? =w.heap[b]?
 size:w.heap.size<=w'.heap.size
 os:w'.os=w.os
 tape:w'.tape=w.tape
 output:w'.output=w.output
 drawn:w.drawn<=w'.drawn
theorem WR.beyond{P:Program}{β:ai}{h:IH}{w w':World}(hW:WR P β h w)(hb:Beyond w w'):WR P β h w'/\Eff β h w β h w':=
 ⟨⟨hW.dom,hW.live,λi g o h1 h2=>(hW.obj i g o h1 h2).congr (hb.heap _ (hW.obj i g o h1 h2).lt),hW.inj⟩,
  ⟨λ_ _=>rfl,az _,λ_ _ h=>h,λ_ _ _=>rfl,az _,λ_ _ _=>rfl,hb.os,hb.tape,hb.output,hb.size,λb hb' _=>hb.heap b hb',λi g hg hi=>absurd (hW.dom _ _ hg) (by omega),λi g _ _ _ _ hb'=>hb.heap _ hb',hb.drawn⟩⟩
end Go.Ideal
namespace Go.Ideal
variable {P:Program} {B:List Nat} {w0:Wd} {kl kl' cZ:List OA} {F:List aH} {K:KO} {ds:List Tmp} {rest:List aK} {n:Nat} {l:List (Nat×Value)} {D:List Deferred} {pm:Option FrameMode} {ro:Option Nat} {d:Nat} {g:Option (Tmp×Bool)}
theorem x8{α:Type}{E:Enc α}(a b:List (α×E.Y)):aO E (a++b)=aO E a++aO E b:=by unfold aO;rw[List.flatMap_append]
theorem x9{ρ:Operand->Value}{x:Operand}{pR pU:Option Operand}{b o f m c lo hi:Nat}{size:Nat}(hx:ρ x=.slice (some ⟨b,o,some f⟩) m c)(hf:f=0\/f=size)(hs:0<size)(hlo:pR=none/\lo=0\/∃t,pR=some t/\ρ t=.int .i64 (lo:Int))(hhi:pU=none/\hi=m\/∃t,pU=some t/\ρ t=.int .i64 (hi:Int))(h1:lo<=hi)(h2:hi<=c):
 Pu P ρ (.kr size x pR pU none) (.slice (some ⟨b,o+lo*size,some f⟩) (hi - lo) (c - lo)):=λh=>by
 have e3:upTo c (.int .i64 (hi:Int))=some hi:=Ap h2;have e4:upTo hi (.int .i64 (lo:Int))=some lo:=Ap h1;have hbd:bounds? m c (dJ ρ pR) (dJ ρ pU) none=some (lo,hi,c):=by
  rcases hlo with⟨rfl,rfl⟩|⟨t,rfl,ht⟩<;>rcases hhi with⟨rfl,hm⟩|⟨t',rfl,ht'⟩
  ·rw[hm];rfl
  ·show bounds? m c none (some (ρ t')) none=_;rw[ht'];show(match upTo c (.int .i64 (hi:Int))with|none=>none|some h=>match some 0 with|none=>none|some l=>some (l,h,c))=_;rw[e3]
  ·rw[hm]at e4⊢;show bounds? m c (some (ρ t)) none none=_;rw[ht];show(match upTo m (.int .i64 (lo:Int))with|none=>none|some l=>some (l,m,c))=_;rw[e4]
  ·show bounds? m c (some (ρ t)) (some (ρ t')) none=_;rw[ht,ht'];show(match upTo c (.int .i64 (hi:Int))with|none=>none|some h=>match upTo h (.int .i64 (lo:Int))with|none=>none|some l=>some (l,h,c))=_;rw[e3];show(match upTo hi (.int .i64 (lo:Int))with|none=>none|some l=>some (l,hi,c))=_;rw[e4]
 have h3:dJ ρ none=none:=rfl;simp only[ae.run,hx,h3,hbd];match f,hf with
 |0,_=>rfl
 |k+1,hf=>
  have hk:k+1=size:=by
   rcases hf with h|h
   ·cases h
   ·exact h
  show cond (Nat.beq (Nat.succ k) size) (some (Value.slice (some ⟨b,Nat.add o (Nat.mul lo size),some (Nat.succ k)⟩) (hi - lo) (c - lo),h)) none=_;rw[show Nat.beq (Nat.succ k) size=true by rw[show Nat.succ k=size from hk];exact wm _];rfl
theorem Tk(cs:List Value):eG cs cs.length []=some cs:=by
 have:=EL (cs1:=cs) (cs2:=[]) (xs:=[]) (dz _);simpa using this
end Go.Ideal
namespace Go.Ideal
open Go.RowKit Go.WideShapes Go.ChangeShapes
variable {P:Program}
theorem Tm{f:FuncId}{fn:Func}(hfn:P.funcs[f]? =some fn){body:Code}(hb:fn.body=some body)(hname:fn.name≠ "runtime.NumGoroutine"){args:List Value}{v:Value}(hv:tJ v=true)(ha:args.all bf=true){h:IH}
 (hC:∀β w,gF P β->WR P β h w->Calls P f ⟨args⟩ w λe w'=>e=.returned v/\Beyond w w'):fJ P ⟨.func f,args,[],none⟩ h (λr pm h2=>pm=none/\r=.ok v/\h2=h):=by
 intro β w fn' args' cap' hG hW hf ha' hcap;obtain⟨fA,t1,t2⟩:=zR (P:=P) (q:=⟨.func f,args,[],none⟩) (f:=f) (args:=args) (by simp only[target,fP,jR]) hf ha' hcap hfn hb hname w;have e2:=aA.Aw t2 ha;subst e2;refine⟨_,Frame.enter P f ⟨_⟩ .normal,t1,rfl,λcs0 l6=>?_⟩;obtain⟨e,w',fr,⟨he,hw'⟩,hcomes,hfr,hlv⟩:=hC β w hG hW cs0;subst he;obtain⟨w1,w2⟩:=hW.beyond hw';exact⟨.ok v,none,h,β,_,.returned v,cs0,⟨rfl,rfl,rfl⟩,w1,w2,.ok (VR.Jz hv),.none cs0,.inl ⟨f,_,fr,rfl,hcomes,hfr,hlv.2.2.1,hlv.1,hlv.2.1,hlv.2.2.2⟩⟩
theorem Tn(w:World)(k:Nat)(os:Array Obj):Beyond w (Go.Sort.grow (w.drewN k) os):=by
 refine⟨λb hb=>?_,?_,rfl,rfl,rfl,Nat.le_add_right _ _⟩
 ·show(w.heap++os)[b]? =_;rw[Mi hb]
 ·show w.heap.size<=(w.heap++os).size;rw[Array.size_append];omega
def mX(g:Nat)(cs:List Value):aH:=⟨λw=>w.z g/\w.h.get g=some (.dX cs),λa h=>⟨a.z g h.1,(a.get g h.1).trans h.2⟩⟩
theorem Tp{β:ai}{h:IH}{w:World}(hG:gF P β)(hW:WR P β h w){name:String}{g:Nat}(hg:P.globalNamed name=some g)(hlt:g<P.globals.size){k:IntKind}{zs:List Int}(hsz:pE P g=zs.length)(h0:0<zs.length)
 (hr:h.get g=some (.dX (zs.map λz=>Value.int k z))):Lib.TabIs P w name k zs:=by
 obtain⟨i,h1,h2,h3,h4⟩:=hG g hlt;obtain⟨⟨c,t,fz,hh,hs⟩,_,_,hc⟩:=hW.obj g i _ h1 hr;rw[h2]at hh hc;unfold Lib.TabIs World.var?;rw[hg,jD,hh];show some c=_;congr 1;have hcs:c.size=zs.length:=by
  rcases hs with hs|hs<;>omega
 apply Array.ext_getElem?;intro j;by_cases hj:j<zs.length
 ·have hz:(zs.map λz=>Value.int k z)[j]? =some (.int k zs[j]):=by rw[bT,bO hj];rfl
  obtain⟨v',q1,q2⟩:=hc j _ hz;have:=q2.iP;subst this;rw[vZ (xs:=zs.map λz=>Value.int k z),hz];rw[h3,eU]at q1;simpa[World.cell?,hh]using q1
 ·rw[nu (by omega),vZ (xs:=zs.map λz=>Value.int k z),gU (by rw[dw];omega)]
def JK(P:Program)(f:FuncId):Prop:=∀n:Int, -9223372036854775808<=n->n<=9223372036854775807->∀w,Lib.TabIs P w "internal\x2fstrconv.uint64pow10" .u64 Lib.pow10Tab->
 Calls P f #[.int .i64 n] w λe w'=>e=.returned (.string ⟨(Lib.itoa n).toArray⟩)/\∃k os,w'=Go.Sort.grow (w.drewN k) os
def og:List Value:=Lib.pow10Tab.map λz=>Value.int .u64 z
theorem Tq{f:FuncId}(hI:JK P f){fn:Func}(hfn:P.funcs[f]? =some fn){body:Code}(hb:fn.body=some body)(hname:fn.name≠ "runtime.NumGoroutine"){g:Nat}(hg:P.globalNamed "internal\x2fstrconv.uint64pow10" =some g)
 (hlt:g<P.globals.size) (hsz:pE P g=20) {n:Int} (h0: -9223372036854775808<=n) (h1:n<=9223372036854775807):bJ P (.func f) [.int .i64 n] [] [] [mX g og] (λ_:Unit=>.string ⟨(Lib.itoa n).toArray⟩) (λ_=>[]) (λ_=>[]) (λ_=>True):=by
 intro B w s;have hf:=(s.facts _ (dH.2 rfl)).2;refine .real (Dg _ (Tm hfn hb hname (v:=.string ⟨(Lib.itoa n).toArray⟩) rfl rfl λβ wr hG hW=>?_) ?_)
 ·refine(hI n h0 h1 wr (Tp hG hW hg hlt (by rw[hsz,Lib.pow10Tab_length]) (by rw[Lib.pow10Tab_length];decide) hf)).mono ?_;rintro e w' ⟨rfl,k,os,rfl⟩;exact⟨rfl,Tn _ _ _⟩
 ·rintro r pm h' ⟨rfl,rfl,rfl⟩;exact⟨rfl,w,(),rfl,⟨s.agree,s.le,s.dW,s.own,λf h=>by cases h⟩,rfl,trivial⟩
def Joins(P:Program)(f:FuncId):Prop:=∀(bk o c:Nat) (xs:List ByteArray) (sep:ByteArray) (w:World),(∀(j:Nat) x,xs[j]? =some x->w.cell? ⟨bk,o+j,none⟩=some (.string x))->bk<w.heap.size->xs.length<=140737488355328->xs.length<=c->
 (Lib.join (xs.map (·.data.toList)) sep.data.toList).length<=140737488355328->
 Calls P f #[.slice (some ⟨bk,o,none⟩) xs.length c,.string sep] w λe w'=>e=.returned (.string ⟨(Lib.join (xs.map (·.data.toList)) sep.data.toList).toArray⟩)/\Below w.heap.size w w'
def kQ(xs:List ByteArray)(sep:ByteArray):ByteArray:=⟨(Lib.join (xs.map (·.data.toList)) sep.data.toList).toArray⟩
theorem JL{f:FuncId}(hJ:Joins P f){fn:Func}(hfn:P.funcs[f]? =some fn){body:Code}(hb:fn.body=some body)(hname:fn.name≠ "runtime.NumGoroutine"){b o c:Nat}{fl:Option Nat}{xs:List ByteArray}{sep:ByteArray}{h:IH}{cs:List Value}
 (hg:h.get b=some (.cells cs)\/h.get b=some (.dX cs)) (hz:∀(j:Nat) z,xs[j]? =some z->cs[o+j]? =some (.string z)) (hne:0<xs.length) (hn:xs.length<=140737488355328) (hlen:(kQ xs sep).data.size<=140737488355328):
 fJ P ⟨.func f,[.slice (some ⟨b,o,fl⟩) xs.length c,.string sep],[],none⟩ h (λr pm h2=>pm=none/\r=.ok (.string (kQ xs sep))/\h2=h):=by
 intro β w fn' args' cap' hG hW hf ha hcap;obtain⟨fA,t1,t2⟩:=zR (P:=P) (q:=⟨.func f,[.slice (some ⟨b,o,fl⟩) xs.length c,.string sep],[],none⟩) (f:=f) (args:=[.slice (some ⟨b,o,fl⟩) xs.length c,.string sep]) (by simp only[target,fP,jR]) hf ha hcap hfn hb hname w;cases t2 with|cons hv tl=>
 cases tl with|cons hv2 tl=>
 cases tl;have:=hv2.qH;subst this;obtain⟨g,a,c',hi,rfl,hab,_,hn1,hcc,hao,_⟩:=hv.ji;have hao:a.off=g.off+o/\a.spot=none:=by
  rcases hao with e|e
  ·omega
  ·exact e
 have ea:a=⟨g.b,g.off+o,none⟩:=by
  obtain⟨ab,ao,vK⟩:=a;simp only at hab hao;rw[hab,hao.1,hao.2]
 subst ea;obtain⟨hlt,q6⟩:g.b<w.heap.size/\∀(j:Nat) v,cs[j]? =some v->∃v',w.cell? ⟨g.b,g.off+j,none⟩=some v'/\VR β v v':=by
  rcases hg with hg|hg
  ·have k:=hW.obj b g _ hi hg;exact⟨k.lt,k.2.2.2.2.2⟩
  ·have k:=hW.obj b g _ hi hg;exact⟨k.lt,k.2.2.2⟩
 have hC:=Tg (hJ g.b (g.off+o) c' xs sep w (λj x hj=>by
  obtain⟨v',h1,h2⟩:=q6 (o+j) _ (hz j x hj);have:=h2.qH;subst this;rw[j6];exact h1) hlt hn (by omega) (by simpa[kQ]using hlen)) (by rintro e w' ⟨rfl,_⟩ h;cases h)
 refine⟨_,Frame.enter P f ⟨_⟩ .normal,t1,rfl,λcs0 l6=>?_⟩;obtain⟨e,w',fr,⟨⟨he,hw'⟩,hd⟩,hcomes,hfr,hlv⟩:=hC cs0;subst he;obtain⟨w1,w2⟩:=hW.beyond ⟨λk hk=>hw'.block k hk,hw'.size,hw'.os,hw'.tape,hw'.output,hd⟩;exact⟨.ok (.string (kQ xs sep)),none,h,β,_,.returned (.string (kQ xs sep)),cs0,⟨rfl,rfl,rfl⟩,w1,w2,.ok (VR.free rfl),.none cs0,.inl ⟨f,_,fr,rfl,hcomes,hfr,hlv.2.2.1,hlv.1,hlv.2.1,hlv.2.2.2⟩⟩
theorem Tt{f:FuncId}(hJ:Joins P f){fn:Func}(hfn:P.funcs[f]? =some fn){body:Code}(hb:fn.body=some body)(hname:fn.name≠ "runtime.NumGoroutine"){v:Value}{xs:List ByteArray}{sep:ByteArray}(hne:0<xs.length)(hn:xs.length<=140737488355328)
 (hlen:(kQ xs sep).data.size<=140737488355328):bJ P (.func f) [v,.string sep] [] [] [ah dA v xs] (λ_:Unit=>.string (kQ xs sep)) (λ_=>[]) (λ_=>[]) (λ_=>True):=by
 intro B w s;rcases s.facts _ (dH.2 rfl)with⟨h,_⟩|⟨b,o,fl,c,cells,⟨e1,_,_⟩,h2,h3⟩
 ·rw[h]at hne;simp at hne
 subst e1;refine .real (Dg _ (JL hJ hfn hb hname h2.2 (λj z hj=>?_) hne hn hlen) ?_)
 ·obtain⟨y,u1,_⟩:=h3 j z hj;have:=u1 0 (.string z) rfl;simpa[dA]using this
 ·rintro r pm h' ⟨rfl,rfl,rfl⟩;exact⟨rfl,w,(),rfl,⟨s.agree,s.le,s.dW,s.own,λf h=>by cases h⟩,rfl,trivial⟩
def kR(P:Program)(n g0:Nat)(cs:List Value):Lay:=(List.range n).map λg=>(some ⟨g,0,0,pE P g,0⟩,if g=g0 then some cs else none)
theorem EQ{n i g0:Nat}{cs:List Value}(h:i<n):(kR P n g0 cs)[i]? =some (some ⟨i,0,0,pE P i,0⟩,if i=g0 then some cs else none):=by
 unfold kR;rw[bT,BB h];rfl
theorem Tu(n g0:Nat)(cs:List Value):(kR P n g0 cs).length=n:=by unfold kR;rw[dw,List.length_range]
section
variable {H:Type} {enc:TypeId×Value->H} {W:World}
theorem Tv(mQ:P.follows .mixedOrders=true){f:FuncId}(fn:Func)(hfn:P.funcs[f]? =some fn)(hbody:fn.body.isNone=false)(hname:(fn.name== "runtime.NumGoroutine")=false){K:TypeId->Prop}
 (hK:∀t,K t->PlainT P K t) {ts:List TypeId} {vs:List Value} {ds:List (DataW H)} {ps:List MemPlace} (hT:∀t∈ts,K t) (hok:∀(j:Nat) t v,ts[j]? =some t->vs[j]? =some v->Value.okWide P W .any 0 t v)
 (hA:DataW.TrodAll enc P W 0 (λ_=>true) true ts vs ds ps) {name:String} {g0:Nat} {k:IntKind} {zs:List Int} (hg:P.globalNamed name=some g0) (hlt:g0<P.globals.size) (hsz:pE P g0=zs.length) (htab:Lib.TabIs P W name k zs)
 (Tw:∀(w:Wd) (vs':List Value),P.globals.size<=w.h.next->(∀i,i<w.h.next->w.z i)->(mX g0 (zs.map λz=>Value.int k z)).p w->vs'.length=vs.length->(∀(j:Nat) t v d,ts[j]? =some t->vs'[j]? =some v->ds[j]? =some d->nW P w t v d)->∃F,(∀f∈F,f.p w)/\fG P f vs' F (.bool true)):
 Calls P f ⟨vs⟩ W (λe w'=>e=.returned (.bool true)/\Below W.heap.size W w'):=by
 have XG:=zs.map λz=>Value.int k z;obtain⟨M,vs',h1,h2,h3⟩:=I6 hK hT hok hA (kR P P.globals.size g0 (zs.map λz=>Value.int k z));have XH:=Tu (P:=P) P.globals.size g0 (zs.map λz=>Value.int k z);have hL0:(kR P P.globals.size g0 (zs.map λz=>Value.int k z)++M)[g0]? =some (some ⟨g0,0,0,pE P g0,0⟩,some (zs.map λz=>Value.int k z)):=by
  rw[jE (by omega),EQ hlt,if_pos rfl]
 have hblk:∃t fz,W.heap[g0]? =some (.cells (zs.map λz=>Value.int k z).toArray t fz):=by
  unfold Lib.TabIs World.var? at htab;rw[hg,jD]at htab;split at htab
  ·rename_i e;cases htab;exact⟨_,_,e⟩
  ·cases htab
 refine Sy mQ fn hfn hbody hname (L:=kR P P.globals.size g0 (zs.map λz=>Value.int k z)++M) (args:=vs') (λg hg=>⟨⟨g,0,0,pE P g,0⟩,?_,rfl,rfl,rfl⟩) (λi g cs hi=>?_) h1 rfl ?_
 ·unfold fB;rw[jE (by omega),EQ hg];rfl
 ·by_cases hlt':i<P.globals.size
  ·rw[jE (by omega),EQ hlt']at hi;by_cases hi0:i=g0
   ·subst hi0;rw[if_pos rfl]at hi;cases hi;obtain⟨t,fz,hb⟩:=hblk;refine⟨⟨_,t,fz,hb,.inr (by rw[hsz];simp)⟩,rfl,?_,λj v hj=>⟨v,?_,VR.free ?_⟩⟩
    ·rw[iA];intro v hv;obtain⟨z,_,rfl⟩:=nC.1 hv;rfl
    ·simp only[World.cell?,eU];rw[hb];simpa using hj
    ·rw[bT]at hj;cases e:zs[j]? with
     |none=>rw[e]at hj;cases hj
     |some z=>rw[e]at hj;cases hj;rfl
   ·rw[if_neg hi0]at hi;cases hi
  ·exact h3 i g cs (by omega) hi
 have hlen:vs'.length=vs.length:=by
  have:∀{a b:List Value},aA (fB (kR P P.globals.size g0 (zs.map λz=>Value.int k z)++M)) a b->a.length=b.length:=by
   intro a;induction a with
   |nil=>intro b h;cases h;rfl
   |cons x a ih=>intro b h;cases h with|cons q r=>simp[ih r]
  exact this h1
 obtain⟨F,hF,hfn'⟩:=Tw (Ai (kR P P.globals.size g0 (zs.map λz=>Value.int k z)++M)) vs' (by show _<=(kR P P.globals.size g0 (zs.map λz=>Value.int k z)++M).length;rw[fE];omega) (λi hi=>hi)
  ⟨by show _<(kR P P.globals.size g0 (zs.map λz=>Value.int k z)++M).length;rw[fE];omega,by show(fK _).get g0=_;rw[zV,hL0];rfl⟩ hlen (λj t v d ht hv hd=>by
  obtain⟨v0,e,jm⟩:=RY (ts:=ts) h1 j v hv;exact RX rfl (h2 j t v d ht hv hd) jm (hok j t v0 ht e))
 have st:St [] (Ai (kR P P.globals.size g0 (zs.map λz=>Value.int k z)++M)) [] F (Ai (kR P P.globals.size g0 (zs.map λz=>Value.int k z)++M)):=⟨⟨az _,λ_ _ _=>rfl,λ_ _=>rfl⟩,Wd.Le.refl _,λi _ hz=>.inl hz,⟨[],rfl,List.nodup_nil,λi hi=>by cases hi⟩,hF⟩
 refine .qM _ (hfn' [] (Ai (kR P P.globals.size g0 (zs.map λz=>Value.int k z)++M)) st) ?_;rintro r pm h' ⟨rfl,w',y,rfl,s,rfl,_⟩;exact⟨rfl,rfl,⟨s.agree.next,λi hi=>s.agree.get i hi (by simp),λhl=>s.agree.low hl (by simp)⟩⟩
end
end Go.Ideal
namespace Go.Ideal
variable {P:Program} {B:List Nat} {w0:Wd} {kl kl' cZ:List OA} {F:List aH} {K:KO} {ds:List Tmp} {rest:List aK} {n:Nat} {l:List (Nat×Value)} {D:List Deferred} {pm:Option FrameMode} {ro:Option Nat} {d:Nat} {g:Option (Tmp×Bool)}
def sk{α:Type}(E:Enc α)(v:Value)(aa:List (α×E.Y)):OA:=
 ⟨λw S=>(aa=[]/\v=.slice none 0 0/\S=[])\/∃b f c r,v=.slice (some ⟨b,0,some f⟩) aa.length c/\(f=0\/f=E.n)/\S=[b]/\w.h.get b=some (.cells (aO E aa++r))/\aa.length*E.n+r.length=c*E.n/\aa.length<=c/\
  ∀p∈aa,∀q∈E.fs p.1 p.2,q.p w,
  λa h hp=>by
   rcases hp with hp|⟨b,f,c,r,h1,h2,h3,h4,h5,h6,h7⟩
   ·exact .inl hp
   ·exact .inr ⟨b,f,c,r,h1,h2,h3,by rw[h b (by rw[h3];exact dH.2 rfl)];exact h4,h5,h6,λp hp q hq=>q.mono a (h7 p hp q hq)⟩⟩
section
variable {α:Type} {v:Value}
theorem ER(E:Enc α){Q:IH->Prop}(h:R Q B w0 (sk E (.slice none 0 0) []::kl) F):R Q B w0 kl F:=λw s=>by
 obtain⟨S,h1,h2,h3⟩:=s.own;exact h w ⟨s.agree,s.le,s.dW,⟨S,⟨[],S,.inl ⟨rfl,rfl,rfl⟩,h1,rfl⟩,h2,h3⟩,s.facts⟩
theorem jv(E:Enc α){aa:List (α×E.Y)}{Q:IH->Prop}(h:∀a c,v=.slice a aa.length c->R Q B w0 kl F)(hk:ak (sk E v aa) kl kl':=by exact gP):R Q B w0 kl F:=λw s=>by
 obtain⟨S,⟨S1,S2,q1,q2,e⟩,h2,h3⟩:=(s.fC hk).own;rcases q1 with⟨rfl,h1,_⟩|⟨b,f,c,r,h4,_⟩
 ·exact h _ _ h1 w s
 ·exact h _ _ h4 w s
theorem yc(E:Enc α){aa:List (α×E.Y)}{x:Operand}(next:R (λh=>ax P ds rest (act n ((d,.int .i64 (aa.length:Int))::l) D pm ro) h K) B w0 kl F)(hx:ev l x=v:=by conv=>lhs;whnf)(hk:ak (sk E v aa) kl kl':=by exact gP)(hn:Nat.blt d n=true:=by rfl)(hg:bn l g=true:=by rfl):
 R (λh=>ax P ds (⟨⟨some d,g,.gp x⟩,[]⟩::rest) (act n l D pm ro) h K) B w0 kl F:=
 jv E (v:=v) (aa:=aa) (λa c e=>(bY hn hg (Aa (hx.trans e))).h next) hk
theorem oh(E:Enc α){aa:List (α×E.Y)}{Q:IH->Prop}(hne:0<aa.length)(h:∀b f c r,(f=0\/f=E.n)->aa.length*E.n+r.length=c*E.n->aa.length<=c->v=.slice (some ⟨b,0,some f⟩) aa.length c->R Q B w0 (pt b (.cells (aO E aa++r))::kl') (mW E aa::F))(hk:ak (sk E v aa) kl kl':=by exact gP):
 R Q B w0 kl F:=λw s=>by
 have s1:=s.fC hk;obtain⟨S,⟨S1,S2,q1,q2,e⟩,h2,h3⟩:=s1.own;rcases q1 with⟨h0,_⟩|⟨b,f,c,r,e1,e2,e3,e4,e5,e6,e7⟩
 ·rw[h0]at hne;simp at hne
 ·refine h b f c r e2 e5 e6 e1 w ⟨s1.agree,s1.le,s1.dW,⟨S,⟨S1,S2,⟨e3,e4⟩,q2,e⟩,h2,h3⟩,λq hq=>?_⟩;rcases bz.1 hq with rfl|hq
  ·exact e7
  ·exact s1.facts q hq
theorem vL(E:Enc α){aa:List (α×E.Y)}{Q:IH->Prop}{b f c m:Nat}{r:List Value}(hm:m=aa.length)(hf:f=0\/f=E.n)(hr:aa.length*E.n+r.length=c*E.n)(hc:aa.length<=c)(h:R Q B w0 (sk E (.slice (some ⟨b,0,some f⟩) m c) aa::kl') F)
 (hk:ak (pt b (.cells (aO E aa++r))) kl kl':=by exact gP) (ha:mW E aa∈F:=by exact nV):R Q B w0 kl F:=λw s=>by
 have hall:=s.facts _ ha;refine h w ((s.fC hk).pM (A:=pt b (.cells (aO E aa++r))) λS hp=>.inr ⟨b,f,c,r,by rw[hm],hf,hp.1,hp.2,hr,hc,hall⟩)
theorem yf(E:Enc α){aa:List (α×E.Y)}{k:Nat}{p:α×E.Y}{Q:IH->Prop}{F2:List aH}(hp:aa[k]? =some p)(h:R Q B w0 kl F2)(hf:mW E aa∈F:=by exact nV)(ha:bR (E.fs p.1 p.2) F F2:=by repeat (first|exact bR.nil|apply bR.cons|exact bR.self|exact bR.app)):R Q B w0 kl F:=λw s=>
 h w ⟨s.agree,s.le,s.dW,s.own,λq hq=>by
  rw[<- ha.eq]at hq;rcases gZ.1 hq with hq|hq
  ·exact s.facts _ hf p (dG hp) q hq
  ·exact s.facts q hq⟩
theorem jw{E:Enc α}{aa:List (α×E.Y)}{k j o:Nat}{p:α×E.Y}{u:Value}{r:List Value}(hp:aa[k]? =some p)(hu:(E.pat p.1 p.2)[j]? =some u)(ho:o=k*E.n+j):(aO E aa++r)[o]? =some u:=by
 subst ho;have h:=Au hp hu;rw[jE (fH.1 h).1];exact h
theorem ES(E:Enc α){x hi:Operand}{aa:List (α×E.Y)}{size:Nat}(k:Nat)(hkl:k<=aa.length)(next:∀v',R (λh=>ax P ds rest (act n ((d,v')::l) D pm ro) h K) B w0 (sk E v' (aa.take k)::kl') F)
 (hx:ev l x=v:=by conv=>lhs;whnf) (hh:ev l hi=.int .i64 (k:Int):=by rfl) (hk:ak (sk E v aa) kl kl':=by exact gP) (hz:E.n=size:=by rfl) (h0:0<size:=by decide) (hn:Nat.blt d n=true:=by rfl) (hg:bn l g=true:=by rfl):
 R (λh=>ax P ds (⟨⟨some d,g,.kr size x none (some hi) none⟩,[]⟩::rest) (act n l D pm ro) h K) B w0 kl F:=λw s=>by
 subst hz;have s1:=s.fC hk;obtain⟨S,⟨S1,S2,q1,q2,e⟩,h2,h3⟩:=s1.own;rcases q1 with⟨h0',e1,e2⟩|⟨b,f,c,r,e1,e2,e3,e4,e5,e6,e7⟩
 ·subst h0';have hk0:k=0:=by simpa using hkl
  subst hk0;refine gI hn hg (Jv (hx.trans e1) hh w.h) (next _ w ⟨s1.agree,s1.le,s1.dW,⟨S,⟨S1,S2,.inl ⟨rfl,rfl,e2⟩,q2,e⟩,h2,h3⟩,s1.facts⟩)
 ·have hrun:=x9 (P:=P) (x:=x) (pR:=none) (pU:=some hi) (lo:=0) (hi:=k) (hx.trans e1) e2 h0 (.inl ⟨rfl,rfl⟩) (.inr ⟨hi,rfl,hh⟩) (dz _) (by omega) w.h;rw[nG,lS,lS]at hrun;refine gI hn hg hrun (next _ w ⟨s1.agree,s1.le,s1.dW,⟨S,⟨S1,S2,.inr ⟨b,f,c,aO E (aa.drop k)++r,?_,e2,e3,?_,?_,?_,λp hp=>e7 p (y7 hp)⟩,q2,e⟩,h2,h3⟩,s1.facts⟩)
  ·rw[cB,um hkl]
  ·rw[e4,<- jb,<- x8,rZ]
  ·rw[fE,pV,cB,jQ,um hkl,<- e5,<- j6,<- kg];congr 2;omega
  ·rw[cB];omega
theorem gX{re:List dN}(E:Enc α){e:TypeId}{size bytes b':Nat}{s x:Operand}{aa:List (α×E.Y)}(a:α)(y:E.Y){cs:List Value}{k1 k2:List OA}
 (hm:(aa.length+1)*bytes<=1073741824/\(aa.length+1)*size<=1073741824/\aa.length+1<=1073741824)
 (next:∀v',R (λh=>ax P ds rest (act n ((d,v')::l) D pm ro) h K) B w0 (sk E v' (aa++[(a,y)])::k2) F)
 (hn:Nat.blt d n=true:=by rfl) (hg:bn l g=true:=by rfl)
 (hs:ev l s=v:=by conv=>lhs;whnf) (hx:ev l x=.slice (some ⟨b',0,some 0⟩) 1 1:=by rfl) (hk:ak (sk E v aa) kl k1:=by exact gP) (hc:ak (pt b' (.cells cs)) k1 k2:=by exact gP) (hp:cs=E.pat a y:=by rfl) (hF:Sub (E.fs a y) F:=by exact vg) (hz:E.n=size:=by rfl)
 (hsm:∀v',Same P re (ev ((d,v')::l)) ((d,v')::l) B w0 (sk E v' (aa++[(a,y)])::k2) F:=by intro _;repeat (first|exact nU|refine mV rfl (by repeat (first|with_reducible exact ak.here|with_reducible apply ak.there|with_reducible apply ak.app)) (by first|exact rfl|(conv=>lhs;whnf)) rfl ?_|refine xQ rfl (by(repeat (first|with_reducible exact aT .. |with_reducible apply bB));first|done|fail) (by first|exact rfl|(conv=>lhs;whnf)) rfl ?_|refine xR rfl (by(repeat (first|with_reducible exact aT .. |with_reducible apply bB));first|done|fail) (by first|exact rfl|(conv=>lhs;whnf)) rfl ?_|refine xS rfl (by repeat (first|with_reducible exact ak.here|with_reducible apply ak.there|with_reducible apply ak.app)) (by first|exact rfl|(conv=>lhs;whnf)) rfl ?_|refine xU rfl (by(repeat (first|with_reducible exact aT .. |with_reducible apply bB));first|done|fail) (by first|exact rfl|(conv=>lhs;whnf)) rfl ?_|refine xV rfl (by(repeat (first|with_reducible exact aT .. |with_reducible apply bB));first|done|fail) (by first|exact rfl|(conv=>lhs;whnf)) rfl ?_)):
 R (λh=>ax P ds (⟨⟨some d,g,.append e size bytes s x⟩,re⟩::rest) (act n l D pm ro) h K) B w0 kl F:=λw st=>by
 subst hp hz;have hlen:=E.len a y;have st2:St B w0 (sk E v aa::pt b' (.cells (E.pat a y))::k2) F w:=st.nT (.cons hk (.cons hc .nil));have hat:At w.h b' (.cells (E.pat a y)):=st2.at_ (.there .here);have lC:St B w0 (sk E v aa::k2) F w:=(st2.fC (.there .here)).tail;have hfs:∀f∈E.fs a y,f.p w:=λf hf=>st.facts f (hF.mem f hf);have hread:w.h.dx b' 0 (1*E.n)=some (E.pat a y):=by
  rw[hat.c.dx,jG,jH,Nat.one_mul,wo,if_pos (by omega),<- hlen,jc]
 have hx1:jf (ev l x)=some (0+1):=by rw[hx];rfl
 have hx2:iC E.n (0+1) (ev l x) w.h=some (E.pat a y):=by rw[hx];exact hread
 have hone:aO E [(a,y)]=E.pat a y:=by simp[aO]
 have put:∀(w':Wd) (c:Nat) (f cc:Nat) (r:List Value),(f=0\/f=E.n)->(∀p∈aa,∀q∈E.fs p.1 p.2,q.p w')->(∀q∈E.fs a y,q.p w')->(aa.length+1)*E.n+r.length=cc*E.n->aa.length+1<=cc->
  ∀S,(pt c (.cells (aO E aa++(E.pat a y++r)))).p w' S->(sk E (.slice (some ⟨c,0,some f⟩) (aa.length+1) cc) (aa++[(a,y)])).p w' S:=by
  intro w' c f cc r h1 h2 h3 h4 h5 S hp;refine .inr ⟨c,f,cc,r,by rw[fE];rfl,h1,hp.1,?_,by rw[fE];exact h4,by rw[fE];exact h5,λp hp=>?_⟩
  ·rw[x8,hone,jb];exact hp.2
  ·rcases gZ.1 hp with hp|hp
   ·exact h2 p hp
   ·rw[dH.1 hp];exact h3
 obtain⟨S,⟨S1,S2,q,q2,e1⟩,hnd,hown⟩:=lC.own;rcases q with⟨rfl,rfl,rfl⟩|⟨b,f,c,r,rfl,hf,rfl,hb,hrl,hcl,hel⟩
 ·have key:∀h',Agree w.h h'->At h' w.h.next (.cells (E.pat a y))->h'.next=w.h.next+1->∃w':Wd,w'.h=h'/\St B w0 (sk E (.slice (some ⟨w.h.next,0,some E.n⟩) 1 1) ([]++[(a,y)])::k2) F w':=λh' ag jV hnx=>by
   obtain⟨w',e1,dL⟩:=lC.tail.fresh ag jV hnx;refine⟨w',e1,dL.pM λS hp=>?_⟩;exact put w' _ E.n 1 [] (.inr rfl) (λp hp=>by cases hp) (λf hf=>dL.facts f (hF.mem f hf)) (by simp) (by simp) S (by simpa[aO]using hp)
  refine Jt (c:=0) hn hg hs hx1 hx2 (by simpa using hm) (λh' ag jV hnx=>?_) λh' ag jV hnx=>?_
  ·obtain⟨w',rfl,dL⟩:=key h' ag jV hnx;exact hsm _ w' dL
  ·obtain⟨w',rfl,dL⟩:=key h' ag jV hnx;exact next _ w' dL
 ·have kP:St B w0 (pt b (.cells (aO E aa++r))::k2) F w:=⟨lC.agree,lC.le,lC.dW,⟨S,⟨_,S2,⟨rfl,hb⟩,q2,e1⟩,hnd,hown⟩,lC.facts⟩
  have Ae:At w.h b (.cells (aO E aa++r)):=kP.at_ .here;have hfl:=pV aa;by_cases hlt:aa.length<c
  · -- in place
    have hle:∀{a b:Nat},a<=b->Nat.ble a b=true:=λh=>by rw[kY];exact h
    have hroom:E.n<=r.length:=by
     have h1:(aa.length+1)*E.n<=c*E.n:=Nat.mul_le_mul_right _ hlt;rw[kg,Nat.one_mul]at h1;omega
    have hlv:eG (aO E aa++r) (aO E aa).length (E.pat a y)=some (aO E aa++(E.pat a y++r.drop E.n)):=by
     rw[EL (by omega),hlen]
    have rf:St B w0 (sk E (.slice (some ⟨b,0,some f⟩) (aa.length+1) c) (aa++[(a,y)])::k2) F ⟨w.h.set b (.cells (aO E aa++(E.pat a y++r.drop E.n))),w.z,λi hi=>w.iw i hi⟩:=by
     have AB:=kP.write (o':=.cells (aO E aa++(E.pat a y++r.drop E.n)));have qX:w.Le ⟨w.h.set b (.cells (aO E aa++(E.pat a y++r.drop E.n))),w.z,λi hi=>w.iw i hi⟩:=by
      refine⟨az _,λ_ h=>h,λi hi=>?_⟩;have:i≠b:=λe=>(hown b (by rw[e1];simp)).2.2 (e▸hi);show(w.h.set b _).get i=_;rw[IH.gV,if_neg this]
     refine AB.pM λS hp=>put _ b f c (r.drop E.n) hf (λp hp q hq=>q.mono qX (hel p hp q hq)) (λq hq=>q.mono qX (hfs q hq)) ?_ hlt S hp;rw[jQ,kg,Nat.one_mul];omega
    refine xY hn hg (v:=.slice (some ⟨b,0,some f⟩) (aa.length+1) c) (h':=w.h.set b (.cells (aO E aa++(E.pat a y++r.drop E.n)))) ?_ (hsm _ ⟨w.h.set b _,w.z,λi hi=>w.iw i hi⟩ rf) (next _ ⟨w.h.set b _,w.z,λi hi=>w.iw i hi⟩ rf)
    ·have e2:w.h.storeAt b (Nat.add 0 (Nat.mul aa.length E.n)) (E.pat a y)=some (w.h.set b (.cells (aO E aa++(E.pat a y++r.drop E.n)))):=by
      unfold IH.storeAt;simp only[hb];rw[show Nat.add 0 (Nat.mul aa.length E.n)=(aO E aa).length by rw[hfl];exact eU _,hlv]
     have Tx:jf (ev l x)=some 1:=hx1;have Ty:oL E.n 1 (ev l x) w.h=some (E.pat a y):=hx2;simp only[ae.run,Tx,Ty,hs,kZ];show cond (Nat.ble (Nat.mul (aa.length+1) bytes) small&&Nat.ble (Nat.mul (aa.length+1) E.n) small&&Nat.ble (aa.length+1) small) (cond (Nat.ble (aa.length+1) c) (match w.h.storeAt b (Nat.add 0 (Nat.mul aa.length E.n)) (E.pat a y)with|some h=>some (Value.slice (some ⟨b,0,some f⟩) (aa.length+1) c,h)|none=>none) _) none=_;rw[hle (show Nat.mul (aa.length+1) bytes<=small from hm.1),hle (show Nat.mul (aa.length+1) E.n<=small from hm.2.1),hle (show aa.length+1<=small from hm.2.2),hle hlt,e2];rfl
  ·have hc:c=aa.length:=by omega
   subst hc;have hr0:r=[]:=nA.1 (by omega);subst hr0;rw[jR]at hb Ae kP;have key:∀h',qU w.h h' b (.cells (aO E aa++E.pat a y))->∃w':Wd,w'.h=h'/\St B w0 (sk E (.slice (some ⟨w.h.next,0,some E.n⟩) (aa.length+1) (aa.length+1)) (aa++[(a,y)])::k2) F w':=λh' mv=>by
    obtain⟨w',e1,dL,qX⟩:=kP.move mv;refine⟨w',e1,dL.pM λS hp=>?_⟩;exact put w' _ E.n (aa.length+1) [] (.inr rfl) (λp hp q hq=>q.mono qX (hel p hp q hq)) (λf hf=>dL.facts f (hF.mem f hf)) (by simp) (az _) S (by rw[jR];exact hp)
   refine Js (old:=aO E aa) (xs:=E.pat a y) hn hg hs hx1 hx2 ?_ (hf.elim (λe=>.inl (by rw[e])) λe=>.inr (by rw[e])) hm (λh' mv=>?_) λh' mv=>?_
   ·rw[Ae.c.dx,jG,jH,wo,if_pos (by omega),<- hfl,jc]
   ·obtain⟨w',rfl,dL⟩:=key h' mv;exact hsm _ w' dL
   ·obtain⟨w',rfl,dL⟩:=key h' mv;exact next _ w' dL
end
theorem ET{α:Type}(E:Enc α){aa:List (α×E.Y)}{Q:IH->Prop}{b f c m:Nat}{r:List Value}(hm:m<=aa.length)(hf:f=0\/f=E.n)(hr:aa.length*E.n+r.length=c*E.n)(hc:aa.length<=c)(h:R Q B w0 (sk E (.slice (some ⟨b,0,some f⟩) m c) (aa.take m)::kl') F)
 (hk:ak (pt b (.cells (aO E aa++r))) kl kl':=by exact gP) (ha:mW E aa∈F:=by exact nV):R Q B w0 kl F:=λw s=>by
 have hall:=s.facts _ ha;refine h w ((s.fC hk).pM (A:=pt b (.cells (aO E aa++r))) λS hp=>.inr ⟨b,f,c,aO E (aa.drop m)++r,by rw[cB,um hm],hf,hp.1,?_,?_,?_,λp hp=>hall p (y7 hp)⟩)
 ·rw[<- jb,<- x8,rZ];exact hp.2
 ·rw[fE,pV,cB,jQ,um hm,<- hr,<- j6,<- kg];congr 2;omega
 ·rw[cB];omega
theorem pX{α:Type}(E:Enc α){v:Value}{aa:List (α×E.Y)}:tu (sk E v aa) [ah E v (aa.map (·.1))]:=λw w' S hp hle hh hz f hf=>by
 rw[dH.1 hf];rcases hp with⟨rfl,rfl,_⟩|⟨b,f,c,r,e1,e2,e3,e4,e5,e6,e7⟩
 ·exact .inl ⟨rfl,none,0,rfl,trivial⟩
 ·refine .inr ⟨b,0,f,c,aO E aa++r,⟨by rw[dw];exact e1,by rw[dw];exact e6,e2⟩,⟨hz b (by rw[e3];exact dH.2 rfl),.inl (by rw[hh];exact e4)⟩,λk x hx=>?_⟩;rw[bT]at hx;cases e:aa[k]? with
  |none=>rw[e]at hx;cases hx
  |some p=>
   rw[e]at hx;cases hx;exact⟨p.2,λj u hj=>jw e hj (by omega),λq hq=>q.mono hle (e7 p (dG e) q hq)⟩
theorem jX{re:List dN}{x:Operand}{b o:Nat}{cs:List Value}{v:Value}{l':List (Nat×Value)}(hx:ev l' x=.pointer (some ⟨b,o,none⟩))(hk:ak (pt b (.cells cs)) kl kl')(hv:cs[o]? =some v)(hd:lk l' d=v)
 (t:Same P re (ev l') l' B w0 kl F):Same P (⟨some d,g,.aB x⟩::re) (ev l') l' B w0 kl F:=
 mV hx hk (by rw[kz];exact hv) hd t
theorem JM(hg:sZ l g=true):(act n l D pm ro).wants g=some false:=by
 cases g with
 |none=>cases hg
 |some p=>
  obtain⟨t,w⟩:=p;rw[xH];simp only[sZ]at hg;split at hg
  ·rename_i b hb;rw[hb];cases w<;>cases b<;>simp_all
  ·rename_i b hb;rw[hb]
  ·cases hg
def aq{α:Type}(E:Enc α)(v:Value)(aa:List (α×E.Y)):OA:=
 ⟨λw S=>(aa=[]/\v=.slice none 0 0/\S=[])\/∃b f,v=.slice (some ⟨b,0,some f⟩) aa.length aa.length/\(f=0\/f=E.n)/\S=[b]/\w.h.get b=some (.cells (aO E aa))/\∀p∈aa,∀q∈E.fs p.1 p.2,q.p w,
  λa h hp=>by
   rcases hp with hp|⟨b,f,h1,h2,h3,h4,h7⟩
   ·exact .inl hp
   ·exact .inr ⟨b,f,h1,h2,h3,by rw[h b (by rw[h3];exact dH.2 rfl)];exact h4,λp hp q hq=>q.mono a (h7 p hp q hq)⟩⟩
section
variable {α:Type} {v:Value}
theorem Tz(E:Enc α){Q:IH->Prop}(h:R Q B w0 (aq E (.slice none 0 0) []::kl) F):R Q B w0 kl F:=λw s=>by
 obtain⟨S,h1,h2,h3⟩:=s.own;exact h w ⟨s.agree,s.le,s.dW,⟨S,⟨[],S,.inl ⟨rfl,rfl,rfl⟩,h1,rfl⟩,h2,h3⟩,s.facts⟩
theorem tK(E:Enc α){b:Nat}{Q:IH->Prop}(h:R Q B w0 (aq E (.slice (some ⟨b,0,some 0⟩) 0 0) []::kl') F)(hk:ak (pt b (.cells [])) kl kl':=by exact gP):R Q B w0 kl F:=λw s=>
 h w ((s.fC hk).xN (A:=pt b (.cells [])) λw S hp=>.inr ⟨b,0,rfl,.inl rfl,hp.1,hp.2,λp hp=>by cases hp⟩)
theorem rq(E:Enc α){aa:List (α×E.Y)}{Q:IH->Prop}(h:R Q B w0 (sk E v aa::kl') F)(hk:ak (aq E v aa) kl kl':=by exact gP):R Q B w0 kl F:=λw s=>
 h w ((s.fC hk).xN (A:=aq E v aa) λw S hp=>by
  rcases hp with hp|⟨b,f,h1,h2,h3,h4,h7⟩
  ·exact .inl hp
  ·exact .inr ⟨b,f,aa.length,[],h1,h2,h3,by rw[jR];exact h4,by simp,az _,h7⟩)
theorem ru{re:List dN}(E:Enc α){e:TypeId}{size bytes:Nat}{s x:Operand}{vx:Value}{aa:List (α×E.Y)}(bD:List (α×E.Y))(hm:(aa.length+bD.length)*bytes<=1073741824/\(aa.length+bD.length)*size<=1073741824/\aa.length+bD.length<=1073741824)
 (next:∀v',R (λh=>ax P ds rest (act n ((d,v')::l) D pm ro) h K) B w0 (aq E v' (aa++bD)::kl') F)
 (hs:ev l s=v:=by conv=>lhs;whnf) (hx:ev l x=vx:=by conv=>lhs;whnf) (hf:pW E vx bD∈F:=by exact nV) (hz:E.n=size:=by rfl) (hk:ak (aq E v aa) kl kl':=by exact gP) (hn:Nat.blt d n=true:=by rfl) (hg:bn l g=true:=by rfl)
 (hsm:∀v',Same P re (ev ((d,v')::l)) ((d,v')::l) B w0 (aq E v' (aa++bD)::kl') F:=by intro _;repeat (first|exact nU|refine mV rfl (by repeat (first|with_reducible exact ak.here|with_reducible apply ak.there|with_reducible apply ak.app)) (by first|exact rfl|(conv=>lhs;whnf)) rfl ?_|refine xQ rfl (by(repeat (first|with_reducible exact aT .. |with_reducible apply bB));first|done|fail) (by first|exact rfl|(conv=>lhs;whnf)) rfl ?_|refine xR rfl (by(repeat (first|with_reducible exact aT .. |with_reducible apply bB));first|done|fail) (by first|exact rfl|(conv=>lhs;whnf)) rfl ?_|refine xS rfl (by repeat (first|with_reducible exact ak.here|with_reducible apply ak.there|with_reducible apply ak.app)) (by first|exact rfl|(conv=>lhs;whnf)) rfl ?_|refine xU rfl (by(repeat (first|with_reducible exact aT .. |with_reducible apply bB));first|done|fail) (by first|exact rfl|(conv=>lhs;whnf)) rfl ?_|refine xV rfl (by(repeat (first|with_reducible exact aT .. |with_reducible apply bB));first|done|fail) (by first|exact rfl|(conv=>lhs;whnf)) rfl ?_)):
 R (λh=>ax P ds (⟨⟨some d,g,.append e size bytes s x⟩,re⟩::rest) (act n l D pm ro) h K) B w0 kl F:=λw st=>by
 subst hz;have st1:=st.fC hk;have hel:=st.facts _ hf;have hall:=EI hel;obtain⟨r1,r2⟩:=Ju hel;obtain⟨S,⟨S1,S2,q,q2,e1⟩,hnd,hown⟩:=st1.own;rcases q with⟨rfl,rfl,rfl⟩|⟨b,f,rfl,hf0,rfl,hb,hal⟩
 ·by_cases hne:bD=[]
  ·subst hne;obtain⟨a,c,JN⟩:∃a c,vx=.slice a 0 c:=by
    rcases hel with⟨_,a,c,h,_⟩|⟨i,o,f,c,cells,⟨h,_⟩,_⟩
    ·exact⟨a,c,h⟩
    ·exact⟨_,c,h⟩
   have rf:St B w0 (aq E (.slice none 0 0) ([]++[])::kl') F w:=⟨st1.agree,st1.le,st1.dW,⟨S,⟨[],S2,.inl ⟨rfl,rfl,rfl⟩,q2,e1⟩,hnd,hown⟩,st1.facts⟩
   exact xY hn hg (Sw hs (hx.trans JN) w.h) (hsm _ w rf) (next _ w rf)
  ·obtain⟨k,hk'⟩:∃k,bD.length=k+1:=⟨bD.length - 1,by have:=y9.2 hne;omega⟩
   rw[hk']at r1 r2;have key:∀h',Agree w.h h'->At h' w.h.next (.cells (aO E bD))->h'.next=w.h.next+1->∃w':Wd,w'.h=h'/\St B w0 (aq E (.slice (some ⟨w.h.next,0,some E.n⟩) (k+1) (k+1)) ([]++bD)::kl') F w':=λh' ag jV hnx=>by
    obtain⟨w',e1,dL⟩:=st1.tail.fresh ag jV hnx;refine⟨w',e1,dL.pM λS hp=>.inr ⟨w.h.next,E.n,by rw[iL,hk'],.inr rfl,hp.1,by rw[iL];exact hp.2,λp hp q hq=>?_⟩⟩;rw[iL]at hp;exact EI (dL.facts _ hf) p hp q hq
   refine Jt (c:=0) (k:=k) hn hg hs (by rw[hx];exact r1) (by rw[hx];exact r2) (by rw[hk']at hm;simpa using hm) (λh' ag jV hnx=>?_) λh' ag jV hnx=>?_
   ·obtain⟨w',rfl,dL⟩:=key h' ag jV hnx;exact hsm _ w' dL
   ·obtain⟨w',rfl,dL⟩:=key h' ag jV hnx;exact next _ w' dL
 ·have kP:St B w0 (pt b (.cells (aO E aa))::kl') F w:=⟨st1.agree,st1.le,st1.dW,⟨S,⟨_,S2,⟨rfl,hb⟩,q2,e1⟩,hnd,hown⟩,st1.facts⟩
  have AB:St B w0 (pt b (.cells (aO E aa))::kl') (mW E aa::F) w:=⟨kP.agree,kP.le,kP.dW,kP.own,λq hq=>by
   rcases bz.1 hq with rfl|hq
   ·exact hal
   ·exact kP.facts q hq⟩
  have key:∀(b' f' m':Nat),m'=(aa++bD).length->(f'=0\/f'=E.n)->∀w2,St B w0 (pt b' (.cells (aO E (aa++bD)))::kl') (mW E aa::F) w2->St B w0 (aq E (.slice (some ⟨b',0,some f'⟩) m' m') (aa++bD)::kl') F w2:=λb' f' m' hm' hf' w2 s2=>by
   have hA1:=s2.facts (mW E aa) (aT ..);have hA2:=EI (s2.facts _ (bB _ hf));have s3:St B w0 (pt b' (.cells (aO E (aa++bD)))::kl') F w2:=s2.sub (gJ.sub (.cons .here));exact s3.pM λS hp=>.inr ⟨b',f',by rw[hm'],hf',hp.1,hp.2,λp hp q hq=>(gZ.1 hp).elim (λh=>hA1 p h q hq) (λh=>hA2 p h q hq)⟩
  by_cases hne:bD=[]
  ·subst hne;obtain⟨a,c,JN⟩:∃a c,vx=.slice a 0 c:=by
    rcases hel with⟨_,a,c,h,_⟩|⟨i,o,f,c,cells,⟨h,_⟩,_⟩
    ·exact⟨a,c,h⟩
    ·exact⟨_,c,h⟩
   have TA:St B w0 (pt b (.cells (aO E (aa++[])))::kl') (mW E aa::F) ⟨w.h.set b (.cells (aO E aa)),w.z,λi hi=>w.iw i hi⟩:=by rw[jR];exact AB.write
   have rf:=key b f aa.length (by rw[jR]) hf0 _ TA;have hle:∀{a b:Nat},a<=b->Nat.ble a b=true:=λh=>by rw[kY];exact h
   rw[qp,oH]at hm;refine xY hn hg (v:=.slice (some ⟨b,0,some f⟩) aa.length aa.length) (h':=w.h.set b (.cells (aO E aa))) ?_ (hsm _ _ rf) (next _ _ rf);have hfl:=pV aa;have e1:w.h.storeAt b (Nat.add 0 (Nat.mul aa.length E.n)) []=some (w.h.set b (.cells (aO E aa))):=by
    have e2:eG (aO E aa) (Nat.add 0 (Nat.mul aa.length E.n)) []=some (aO E aa):=by
     rw[show Nat.add 0 (Nat.mul aa.length E.n)=(aO E aa).length by rw[hfl];exact eU _];exact Tk _
    unfold IH.storeAt;simp only[hb,e2]
   simp only[ae.run,hx,hs,r1,r2,kZ];rw[show Nat.add aa.length (List.length ([]:List (α×E.Y)))=aa.length from rfl,show aO E ([]:List (α×E.Y))=[]from rfl];rw[hle (show Nat.mul aa.length bytes<=small from hm.1),hle (show Nat.mul aa.length E.n<=small from hm.2.1),hle (show aa.length<=small from hm.2.2),hle (az aa.length)];simp only[BF,cond_true,e1]
  ·obtain⟨k,hk'⟩:∃k,bD.length=k+1:=⟨bD.length - 1,by have:=y9.2 hne;omega⟩
   have hat:At w.h b (.cells (aO E aa)):=kP.at_ .here;have hfl:=pV aa;have JO:∀h',qU w.h h' b (.cells (aO E aa++aO E bD))->∃w':Wd,w'.h=h'/\St B w0 (aq E (.slice (some ⟨w.h.next,0,some E.n⟩) (aa.length+(k+1)) (aa.length+(k+1))) (aa++bD)::kl') F w':=λh' mv=>by
    obtain⟨w',e1,dL,qX⟩:=AB.move mv;rw[<- x8]at dL;exact⟨w',e1,key _ _ _ (by rw[fE,hk']) (.inr rfl) w' dL⟩
   rw[hk']at r1 r2 hm;refine Js (b:=b) (o:=0) (m:=aa.length) (k:=k) (f:=some f) (old:=aO E aa) (xs:=aO E bD) hn hg hs (by rw[hx];exact r1) (by rw[hx];exact r2) ?_ (by rcases hf0 with h|h<;>rw[h];exact .inl rfl;exact .inr rfl) hm (λh' mv=>?_) λh' mv=>?_
   ·rw[hat.c.dx,jG,wo,jH,if_pos (by omega),oJ (by omega)]
   ·obtain⟨w',rfl,dL⟩:=JO h' mv;exact hsm _ w' dL
   ·obtain⟨w',rfl,dL⟩:=JO h' mv;exact next _ w' dL
end
theorem TB{x y:Operand}{b o m:Nat}{cs vs c:List Value}{v:Value}{re:List dN}(hg:bn l g=true)(hx:ev l x=.pointer (some ⟨b,o,none⟩))(hw:ev l y=v)(hy:cellsOf v=some vs)(hm:Nat.beq (eY vs) m=true)
 (hk:ak (pt b (.cells cs)) kl kl') (hv:eG cs o vs=some c) (hs:∀r∈re,sZ l r.guard=true):
 aV (R (λh=>ax P ds (⟨⟨none,g,.store m x y⟩,re⟩::rest) (act n l D pm ro) h K) B w0 kl F) (R (λh=>ax P ds rest (act n l D pm ro) h K) B w0 (pt b (.cells c)::kl') F):=
 ⟨λr w s=>by
  subst hw;have s':=(s.fC hk).write (o':=.cells c);refine .fQ (qQ hg) aZ (w.h.set b (.cells c)) (by rw[jM];simp only[ae.run,hx,hy,hm];simp only[IH.storeAt,(s.at_ hk).2,hv];rfl) (λq hq hne=>?_) (r _ s');exact absurd (JM (hs q hq)) hne⟩
theorem TC{op:ae}{v:Value}{re:List dN}(hn:Nat.blt d n=true)(hg:bn l g=true)(hp:Pu P (ev l) op v)(hs:∀r∈re,sZ ((d,v)::l) r.guard=true):
 aV (R (λh=>ax P ds (⟨⟨some d,g,op⟩,re⟩::rest) (act n l D pm ro) h K) B w0 kl F) (R (λh=>ax P ds rest (act n ((d,v)::l) D pm ro) h K) B w0 kl F):=
 ⟨λr w s=>by
  refine .fQ (qQ hg) v w.h (by rw[jM];exact hp w.h) (λq hq hne=>?_) (by rw[lu hn];exact r w s);rw[lu hn]at hne;exact absurd (JM (hs q hq)) hne⟩
end Go.Ideal
namespace Go.Ideal
inductive Ren(σ:Nat->Nat)(m n:Nat):Value->Value->Prop
 |free {v:Value} (h:bf v=true):Ren σ m n v v
 |sl {i o k c:Nat} {s:Option Nat} (h1:m<=i) (h2:i<n):Ren σ m n (.slice (some ⟨i,o,s⟩) k c) (.slice (some ⟨σ i,o,s⟩) k c)
inductive iF(σ:Nat->Nat)(m n:Nat):List Value->List Value->Prop
 |nil:iF σ m n [] []
 |cons {v v':Value} {l l':List Value} (h:Ren σ m n v v') (hl:iF σ m n l l'):iF σ m n (v::l) (v'::l')
theorem Ren.vr{σ:Nat->Nat}{m n:Nat}{β β':ai}{v v' w:Value}(hr:Ren σ m n v v')(hv:VR β v' w)(hβ:∀i,m<=i->i<n->β' i=β (σ i)):VR β' v w:=by
 cases hr with
 |free h=>
  rw[hv.iO h];exact VR.free h
 |sl h1 h2=>
  cases hv with
  |dV h hb hn ha=>exact .dV ((hβ _ h1 h2).trans h) hb hn ha
  |jh h hb hs hn hz hl ht hc ha=>exact .jh ((hβ _ h1 h2).trans h) hb hs hn hz hl ht hc ha
theorem iF.JP{σ:Nat->Nat}{m n:Nat}{β β':ai}(hβ:∀i,m<=i->i<n->β' i=β (σ i)):∀{l l':List Value},iF σ m n l l'->∀{w:List Value},aA β l' w->aA β' l w
 |_,_,.nil,_,hv=>by cases hv;exact .nil
 |_,_,.cons h hl,_,hv=>by
  cases hv with
  |cons h1 h2=>exact .cons (h.vr h1 hβ) (iF.JP hβ hl h2)
theorem iF.len{σ:Nat->Nat}{m n:Nat}:∀{l l':List Value},iF σ m n l l'->l'.length=l.length
 |_,_,.nil=>rfl
 |_,_,.cons _ hl=>by simp[iF.len hl]
theorem iF.get{σ:Nat->Nat}{m n:Nat}:∀{l l':List Value},iF σ m n l l'->∀{j:Nat} {v:Value},l[j]? =some v->∃v',l'[j]? =some v'/\Ren σ m n v v'
 |_,_,.nil,j,v,h=>by simp at h
 |_,_,.cons h hl,0,v,e=>by simp at e;subst e;exact⟨_,rfl,h⟩
 |_,_,.cons h hl,j+1,v,e=>by simpa using iF.get hl (by simpa using e)
theorem Ren.cell{σ:Nat->Nat}{m n:Nat}{v v':Value}(h:Ren σ m n v v')(hc:cellV v'=true):cellV v=true:=by
 cases h with
 |free _=>exact hc
 |sl _ _=>rfl
theorem iF.cells{σ:Nat->Nat}{m n:Nat}:∀{l l':List Value},iF σ m n l l'->l'.all cellV=true->l.all cellV=true
 |_,_,.nil,_=>rfl
 |_,_,.cons h hl,hc=>by
  simp only[tZ,di]at hc⊢;exact⟨h.cell hc.1,iF.cells hl hc.2⟩
theorem TD{P:Program}{q:aQ}{h:IH}{K:KR}(h2:IH)(l:List Value)(hn2:h.next<=h2.next)(hlo2:h2.low=h.low)(pY:∀j,j<h.next->h2.get j=h.get j)(TE:∀j o,h2.get j=some o->j<h2.next)
 (JQ:∀j o,h.next<=j->h2.get j=some o->∃cs,o=.cells cs) (M:KR) (hc:fJ P q {h with low:=h.next} M) (hq:q.pm=none)
 (h1:∀r pm h',M r pm h'->pm=none/\h'.low=h.next/\∃(σ:Nat->Nat) (l':List Value),r=.ok (.tuple ⟨l'⟩)/\iF σ h.next h2.next l l'/\(∀j,h.next<=j->j<h2.next->h.next<=σ j)/\
   (∀i j,h.next<=i->h.next<=j->h2.get i≠none->h2.get j≠none->σ i=σ j->i=j)/\∀j cs,h.next<=j->h2.get j=some (.cells cs)->∃cs',h'.get (σ j)=some (.cells cs')/\iF σ h.next h2.next cs cs')
 (hk:K (.ok (.tuple ⟨l⟩)) none h2):fJ P q h K:=by
 intro β w fn' args' cap' hG hW hfr ha hcap;obtain⟨nx,F0,n1,n2,n3⟩:=hc β w fn' args' cap' hG (hW.low _) hfr ha hcap;refine⟨nx,F0,n1,n2,λcs0 l6=>?_⟩;obtain⟨r,pm',h',β',w',r',cs1,q1,q2,q3,q4,q5,q6⟩:=n3 cs0 l6;obtain⟨hpm,hlow,σ,l',rfl,hl,hσ,hinj,hcl⟩:=h1 r pm' h' q1;subst hpm;cases q4 with
 | @ok v v' hv=>
   have hold:∀j,j<h.next->h'.get j=h.get j:=λj hj=>q3.kept j (by rw[hlow];exact hj) hj
   let β2:ai:=λj=>if j<h.next then β j else if j<h2.next then β' (σ j)else none
   have hb2:∀j k,β2 j=some k->(j<h.next/\β j=some k/\β' j=some k)\/(h.next<=j/\j<h2.next/\β' (σ j)=some k):=λj k hk=>by
    simp only[β2]at hk;split at hk
    ·rename_i hj;exact .inl ⟨hj,hk,(q3.agree j hj).trans hk⟩
    ·split at hk
     ·rename_i hj1 hj;exact .inr ⟨by omega,hj,hk⟩
     ·cases hk
   have hβ2:∀i,h.next<=i->i<h2.next->β2 i=β' (σ i):=λi hi hi2=>by
    simp only[β2];rw[if_neg (by omega),if_pos hi2]
   have hle2:β.le β2:=λj k hk=>by
    have:=hW.dom j k hk;simp only[β2];rw[if_pos this];exact hk
   have hσl:∀j x,h.next<=j->h2.get j=some x->∃cs',h'.get (σ j)=some (.cells cs'):=λj x hj hx=>by
    obtain⟨cs,rfl⟩:=JQ j x hj hx;obtain⟨cs',e,_⟩:=hcl j cs hj hx;exact⟨cs',e⟩
   have hW2:WR P β2 h2 w':=by
    refine⟨?_,TE,?_,?_⟩
    ·intro j k hk;rcases hb2 j k hk with⟨hj,_⟩|⟨_,hj,_⟩<;>omega
    ·intro j k x hk hx;rcases hb2 j k hk with⟨hj,hb,hb'⟩|⟨hj,hj2,hb'⟩
     ·rw[pY j hj]at hx;have hx':h'.get j=some x:=by rw[hold j hj];exact hx
      exact((hW.obj j k x hb hx).restrict (q3.le hW.dom) (q2.obj j k x hb' hx')).mono hle2
     ·obtain⟨cs,rfl⟩:=JQ j x hj hx;obtain⟨cs',e,hr⟩:=hcl j cs hj hx;obtain⟨o1,o2,o3,o4,o5,o6⟩:=q2.obj (σ j) k _ hb' e;refine⟨o1,by rw[<- hr.len];exact o2,o3,o4,hr.cells o5,λi v hi=>?_⟩;obtain⟨v',e1,TF⟩:=hr.get hi;obtain⟨u,e2,jm⟩:=o6 i v' e1;exact⟨u,e2,TF.vr jm hβ2⟩
    ·intro i j g k hg hk hi hj TG he;rcases hb2 i g hg with⟨hin,_,hb'⟩|⟨hin,hin2,hb'⟩
     ·rw[pY i hin]at hi;rcases hb2 j k hk with⟨hjn,_,tL⟩|⟨hjn,JR,tL⟩
      ·rw[pY j hjn]at hj;exact q2.inj i j g k hb' tL (by rw[hold i hin];exact hi) (by rw[hold j hjn];exact hj) (TG.imp (λq cs e=>q cs (by rw[pY i hin,<- hold i hin];exact e)) (λq cs e=>q cs (by rw[pY j hjn,<- hold j hjn];exact e))) he
      ·obtain⟨x,hx⟩:=Mk.1 hj;obtain⟨cs',e⟩:=hσl j x hjn hx;have:=q2.inj i (σ j) g k hb' tL (by rw[hold i hin];exact hi) (by rw[e];simp) (.inr (by rw[e];intro cs e;cases e)) he;have:=hσ j hjn JR;omega
     ·obtain⟨x,hx⟩:=Mk.1 hi;obtain⟨cs',e⟩:=hσl i x hin hx;rcases hb2 j k hk with⟨hjn,_,tL⟩|⟨hjn,JR,tL⟩
      ·rw[pY j hjn]at hj;have:=q2.inj (σ i) j g k hb' tL (by rw[e];simp) (by rw[hold j hjn];exact hj) (.inl (by rw[e];intro cs e;cases e)) he;have:=hσ i hin hin2;omega
      ·obtain⟨y,hy⟩:=Mk.1 hj;obtain⟨cs2,e2⟩:=hσl j y hjn hy;have:=q2.inj (σ i) (σ j) g k hb' tL (by rw[e];simp) (by rw[e2];simp) (.inl (by rw[e];intro cs e;cases e)) he;exact hinj i j hin hjn hi hj this
   have hE:Eff β h w β2 h2 w':=
    {agree:=λj hj=>by simp only[β2];rw[if_pos hj]
     next:=hn2
     alive:=λj hj hn=>by rw[pY j hj]at hn;exact hn
     hid:=λj hj _=>pY j hj
     low:=Nat.le_of_eq hlo2
     kept:=λj _ hj=>pY j hj
     os:=q3.os,tape:=q3.tape,output:=q3.output,drawn:=q3.drawn,size:=q3.size,keep:=q3.keep
     jI:=λj k _ hj hk hn hb=>q3.jI j k (by rw[hlow];exact hj) hj hk hn hb
     fresh:=λj k hk hj=>by
      rcases hb2 j k hk with⟨hjn,_⟩|⟨_,hj2,hb'⟩
      ·omega
      ·exact q3.fresh (σ j) k hb' (hσ j hj hj2)}
   have hfin:VR β2 (.tuple ⟨l⟩) v':=by
    cases hv with
    |aZ v=>cases hl;exact .aZ _
    |tuple hvs=>exact .tuple (hl.JP hβ2 hvs)
   exact⟨_,none,h2,β2,w',.returned _,cs1,hk,hW2,hE,.ok hfin,by rw[hq]at q5⊢;cases q5;exact .none _,by
    rcases q6 with h6|h6
    ·exact .inl h6
    ·exact .inr h6⟩
noncomputable def AC(i:Nat)(l:List (Nat×aM)):Bool:=not (sj (λp=>not (Nat.beq p.1 i)) l)
theorem TH{i:Nat}{l:List (Nat×aM)}(h:AC i l=true):∃o,(i,o)∈l:=by
 unfold AC at h;rw[wO,za,List.all_eq_false]at h;obtain⟨p,hp,hn⟩:=h;have:Nat.beq p.1 i=true:=by simpa using hn
 exact⟨p.2,by rw[<- eD this];exact hp⟩
noncomputable def yg(m low:Nat)(l:List (Nat×aM))(n:Nat)(v:Value):BR:=λr pm h=>
 match pm with
 |some _=>false
 |none=>match r with
  | .ok v'=>ik 50 v v'&&(Nat.beq h.next n&&(Nat.beq h.low low&&(sU l h&&sj (λi=>cond (AC i l) true (h.get i).isNone) (List.range m))))
  | .dU _=>false
noncomputable def ry(l0:List (Nat×aM))(n0 low:Nat)(l:List (Nat×aM))(n:Nat)(fn:Nat)(args:List Value)(v:Value):aQ->IH->Option (Value×IH):=λq h=>
 match q with
 |⟨.func f,vK,[],none⟩=>cond (Nat.beq f fn&&(ik 5 (.tuple ⟨args⟩) (.tuple ⟨vK⟩)&&(Nat.beq n0 h.next&&(Nat.beq low h.low&&tH 30 (heapT l0) h.t)))) (some (v,⟨heapT l,n,low⟩)) none
 |_=>none
theorem TI{l:List (Nat×aM)}{i:Nat}{o:aM}(h:(i,o)∈l):∃o',(heapT l).get i=some o':=by
 induction l with
 |nil=>cases h
 |cons p l ih=>
  obtain⟨j,x⟩:=p;simp only[heapT,T.gV];by_cases e:i=j
  ·rw[if_pos e];exact⟨x,rfl⟩
  ·rw[if_neg e];rcases bz.1 h with h|h
   ·cases h;exact absurd rfl e
   ·exact ih h
theorem EU{P:Program}{l0:List (Nat×aM)}{n0 low:Nat}{l:List (Nat×aM)}{n fn:Nat}{args:List Value}{v:Value}
 (hc:CALL P ⟨.func fn,args,[],none⟩ ⟨heapT l0,n0,low⟩ (λr pm h'=>yg n0 low l n v r pm h'=true))
 {q:aQ} {h:IH} {v':Value} {h':IH} (hk:ry l0 n0 low l n fn args v q h=some (v',h')):CALL P q h (λr pm h2=>r=.ok v'/\pm=none/\h2=h'):=by
 unfold ry at hk;split at hk
 ·rename_i f vK;cases hcd:(Nat.beq f fn&&(ik 5 (.tuple ⟨args⟩) (.tuple ⟨vK⟩)&&(Nat.beq n0 h.next&&(Nat.beq low h.low&&tH 30 (heapT l0) h.t))))with
  |false=>rw[hcd]at hk;cases hk
  |true=>
   rw[hcd]at hk;simp only[cond,aj,aP]at hk;obtain⟨rfl,rfl⟩:=hk;simp only[di]at hcd;obtain⟨h1,h2,h3,h4,h5⟩:=hcd;have h1:=eD h1;subst h1;have h2:=nS _ _ _ h2;injection h2 with h2;injection h2 with h2;subst h2;have e3:=eD h3;have e4:=eD h4;have e5:=Am _ h5;clear h3 h4 h5;obtain⟨t1,n1,l1⟩:=h;dsimp only at e3 e4 e5;subst e3 e4 e5;refine .forget _ hc ?_;intro r pm h' hl;unfold yg at hl;split at hl
   ·cases hl
   ·split at hl
    ·rename_i v';simp only[di]at hl;obtain⟨h1,h2,h3,h4,h5⟩:=hl;rw[wO,iA]at h5;refine⟨⟨heapT l,n,low⟩,(eD h2).symm,(eD h3).symm,?_,?_,rfl,rfl⟩
     ·intro i;rcases sV l i with e|⟨o,e1,e2⟩
      ·by_cases hin:i<n0
       ·left;have:=h5 i (List.mem_range.2 hin);cases hi:AC i l with
        |true=>
         obtain⟨o,ho⟩:=TH hi;obtain⟨o',ho'⟩:=TI ho;rw[e]at ho';cases ho'
        |false=>
         rw[hi]at this;have hn:h'.get i=none:=by
          cases hg:h'.get i with
          |none=>rfl
          |some o=>rw[hg]at this;cases this
         rw[hn];exact e
       ·exact .inr ⟨Nat.le_of_not_lt hin,e⟩
      ·left;exact e2.trans (Dy h4 i o e1).symm
     ·rw[nS _ _ _ h1]
    ·cases hl
 ·cases hk
noncomputable def EW(n0:Nat)(ends:List (List Value×List (Nat×aM))):BR:=λr pm h=>
 match pm with
 |some _=>false
 |none=>match r with
  | .ok v'=>Nat.beq h.low n0&&not (sj (λe=>not (ik 50 (.tuple ⟨e.1⟩) v'&&sU e.2 h)) ends)
  | .dU _=>false
structure EX(n0 n2:Nat)(lv:List Value)(l2:List (Nat×aM))(e:List Value×List (Nat×aM))(σ:Nat->Nat):Prop where
 val:iF σ n0 n2 lv e.1
 up:∀j,n0<=j->j<n2->n0<=σ j
 inj:∀i j,n0<=i->n0<=j->i<n2->j<n2->σ i=σ j->i=j
 get:∀p∈l2,n0<=p.1->∃cs cs',p.2=.cells cs/\(σ p.1,.cells cs')∈e.2/\iF σ n0 n2 cs cs'
theorem TJ{P:Program}(mQ:P.follows .mixedOrders=true){l0:List (Nat×aM)}{n0 low:Nat}{l2:List (Nat×aM)}{n2 fn:Nat}{args lv:List Value}{ends:List (List Value×List (Nat×aM))}
 (hc:CALL P ⟨.func fn,args,[],none⟩ ⟨heapT l0,n0,n0⟩ (λr pm h'=>EW n0 ends r pm h'=true)) (hE:∀e∈ends,∃σ,EX n0 n2 lv l2 e σ) (hn:n0<=n2) (hl2:∀p∈l2,p.1<n2/\∃cs,p.2=.cells cs) (hold:∀j,j<n0->(heapT l2).get j=(heapT l0).get j)
 {q:aQ} {h:IH} {v':Value} {h':IH} (hk:ry l0 n0 low l2 n2 fn args (.tuple ⟨lv⟩) q h=some (v',h')):CALL P q h (λr pm h2=>r=.ok v'/\pm=none/\h2=h'):=by
 unfold ry at hk;split at hk
 ·rename_i f vK;cases hcd:(Nat.beq f fn&&(ik 5 (.tuple ⟨args⟩) (.tuple ⟨vK⟩)&&(Nat.beq n0 h.next&&(Nat.beq low h.low&&tH 30 (heapT l0) h.t))))with
  |false=>rw[hcd]at hk;cases hk
  |true=>
   rw[hcd]at hk;simp only[cond,aj,aP]at hk;obtain⟨rfl,rfl⟩:=hk;simp only[di]at hcd;obtain⟨h1,h2,h3,h4,h5⟩:=hcd;have h1:=eD h1;subst h1;have h2:=nS _ _ _ h2;injection h2 with h2;injection h2 with h2;subst h2;have e3:=eD h3;have e4:=eD h4;have e5:=Am _ h5;clear h3 h4 h5;obtain⟨t1,n1,l1⟩:=h;dsimp only at e3 e4 e5;subst e3 e4 e5;refine .real (TD (h:=⟨heapT l0,n0,low⟩) ⟨heapT l2,n2,low⟩ lv hn rfl hold (λj o ho=>?_) (λj o hj ho=>?_) _ (Dr mQ hc) rfl ?_ ⟨rfl,rfl,rfl⟩)
   ·rcases sV l2 j with e|⟨o',e1,e2⟩
    ·exact absurd (e.symm.trans ho) (by simp)
    ·exact(hl2 _ e1).1
   ·rcases sV l2 j with e|⟨o',e1,e2⟩
    ·exact absurd (e.symm.trans ho) (by simp)
    ·have:o'=o:=Option.some.inj (e2.symm.trans ho);subst this;exact(hl2 _ e1).2
   ·intro r pm h' hl;unfold EW at hl;split at hl
    ·cases hl
    ·split at hl
     ·rename_i v';rw[di]at hl;obtain⟨g1,g2⟩:=hl;rw[wO,za,List.all_eq_false]at g2;obtain⟨e,he,g3⟩:=g2;have g3:ik 50 (.tuple ⟨e.1⟩) v'=true/\sU e.2 h'=true:=by simpa using g3
      obtain⟨σ,hσ⟩:=hE e he;have hv:=nS _ _ _ g3.1;subst hv;refine⟨rfl,eD g1,σ,e.1,rfl,hσ.val,hσ.up,λi j hi hj gi gj=>?_,λj cs hj hcs=>?_⟩
      ·have hb:∀{i:Nat},(heapT l2).get i≠none->i<n2:=λ{i} gi=>by
        rcases sV l2 i with e|⟨o',e1,e2⟩
        ·exact absurd e gi
        ·exact(hl2 _ e1).1
       exact hσ.inj i j hi hj (hb gi) (hb gj)
      ·rcases sV l2 j with e'|⟨o',e1,e2⟩
       ·exact absurd (e'.symm.trans hcs) (by simp)
       ·have:o'=.cells cs:=Option.some.inj (e2.symm.trans hcs);subst this;obtain⟨cs1,cs',q1,q2,q3⟩:=hσ.get _ e1 hj;cases q1;exact⟨cs',Dy g3.2 _ _ q2,q3⟩
     ·cases hl
 ·cases hk
