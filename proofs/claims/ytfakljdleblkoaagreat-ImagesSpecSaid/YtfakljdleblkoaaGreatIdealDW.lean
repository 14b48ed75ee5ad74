/-
  Part IdealDW.
-/
import Derived.Test.YtfakljdleblkoaaGreatIdealCW
set_option linter.all false
namespace Go.Ideal
variable {P:Program}
variable{β:aC}{h:IH}{w:World}
theorem WR.hide(hW:WR P β h w)(ob:dQ):WR P β (h.new ob) w/\Eff β h w β (h.new ob) w:=by
 have hget:∀i,i<h.next->(h.new ob).get i=h.get i:=λi hi=>by rw[IH.iZ,if_neg vj]
 refine⟨⟨?_,?_,?_,?_⟩,⟨λ_ _=>rfl,?_,?_,?_,bV _,?_,rfl,rfl,rfl,bV _,λ_ _ _=>rfl,?_,λ_ _ _ _ _ _ _=>rfl,bV _⟩⟩
 ·intro i g hi;have:=hW.dom i g hi;show i<h.next+1;omega
 ·intro i o hi;show i<h.next+1
  rw[IH.iZ]at hi;split at hi
  ·omega
  ·have:=hW.live i o hi;omega
 ·intro i g o hi ho;rw[hget i (hW.dom i g hi)]at ho;exact hW.obj i g o hi ho
 ·intro i j g k hi hj h1 h2 hr he;rw[hget i (hW.dom i g hi)]at h1;rw[hget j (hW.dom j k hj)]at h2;exact hW.inj i j g k hi hj h1 h2 (hr.imp (λq cs e=>q cs (by rw[hget i (hW.dom i g hi)];exact e)) (λq cs e=>q cs (by rw[hget j (hW.dom j k hj)];exact e))) he
 ·show h.next<=h.next+1;omega
 ·intro i hi hn;rw[hget i hi]at hn;exact hn
 ·intro i hi _;exact hget i hi
 ·intro i _ hi;exact hget i hi
 ·intro i g hg hi;exact absurd (hW.dom i g hg) vj
theorem WR.KN(hW:WR P β h w){id:Nat}(hb:β id=none)(hlt:id<h.next){ob:dQ}(hg:h.get id=some ob){o':Obj}{g:iD}(hgb:g.b=w.heap.size)
 (ho:OR P (β.add id g) g {w with heap:=w.heap.push o'} ob):WR P (β.add id g) h {w with heap:=w.heap.push o'}:=by
 have hle:β.le (β.add id g):=aC.wL g hb;have hheap:∀b,b<w.heap.size->({w with heap:=w.heap.push o'}:World).heap[b]? =w.heap[b]?:=λb hb=>by
  show(w.heap.push o')[b]? =_;rw[Fw,if_neg vj]
 have hold:∀j k,β j=some k->h.get j≠none->k.b<w.heap.size:=λj k hk hj=>by
  cases hx:h.get j with
  |none=>exact absurd hx hj
  |some o=>exact(hW.obj j k o hk hx).lt
 refine⟨?_,hW.live,?_,?_⟩
 ·intro j k hk;by_cases e:j=id
  ·subst e;exact hlt
  ·rw[aC.kV _ _ e]at hk;exact hW.dom j k hk
 ·intro j k o hk hx;by_cases e:j=id
  ·subst e;rw[aC.lV]at hk;cases hk;rw[hg]at hx;cases hx;exact ho
  ·rw[aC.kV _ _ e]at hk;exact((hW.obj j k o hk hx).mono hle).congr (hheap _ (hold j k hk (by rw[hx];simp)))
 ·intro j l k m hk hm hj hl hr he;by_cases ej:j=id
  ·by_cases el:l=id
   ·omega
   ·subst ej;rw[aC.lV]at hk;cases hk;rw[aC.kV _ _ el]at hm;have:=hold l m hm hl;omega
  ·rw[aC.kV _ _ ej]at hk;by_cases el:l=id
   ·subst el;rw[aC.lV]at hm;cases hm;have:=hold j k hk hj;omega
   ·rw[aC.kV _ _ el]at hm;exact hW.inj _ _ _ _ hk hm hj hl hr he
section
variable (P) (ops:Array Oper) (bO:Nat->Nat->Bool) (hv:Nat->Bool)
structure ul(done:List Nat)(i:Nat):Prop where
 lt:i<ops.size
 new:i∉done
 pre:∀j,bO i j=true->j∈done
 heavy:hv i=true->(∀j∈done,hv j=true->bO i j=true)/\∀j,j<ops.size->hv j=false->j∉done->∃k,bO j k=true/\k∉done
 own:hv i=false->∀o d,ops[i]? =some o->o.dst=some d->d∉looks ops o
 put:∀o d,ops[i]? =some o->o.dst=some d->∀j∈done,∀p,ops[j]? =some p->(d∈looks ops p\/p.dst=some d)->hv i=true/\bO i j=true
 look:∀o,ops[i]? =some o->∀j∈done,∀p,ops[j]? =some p->∀d,p.dst=some d->d∈looks ops o->bO i j=true
def DF:List Nat->Prop
 |[]=>True
 |i::d=>ul ops bO hv d i/\DF d
def ym:List Nat->List Nat->List bT->Prop
 |[],done,l=>l=[]/\∀i,i<ops.size->i∈done
 |i::rest,done,l=>ul ops bO hv done i/\∃s re r,l=⟨s,re⟩::r/\jM P ops i=some s/\(hv i=false->heavy s.op=false)/\
   (hv i=true->∀j∈done,hv j=false->bO i j=false->∀t,jM P ops j=some t->Bd t.op=true->t∈re)/\ym rest (i::done) r
def um:List Nat->List Nat->Prop
 |S,[]=>∀i,i<ops.size->i∉S->∃j,bO i j=true/\j∉S
 |S,i::r=>i<ops.size/\i∉S/\(∀j,bO i j=true->j∈S)/\um (i::S) r
theorem YA:∀(rest D:List Nat) (l:List bT),ym P ops bO hv rest D l->∀y∈D,hv y=true->∀x,x<ops.size->x∉D->hv x=true->bO x y=true:=by
 intro rest;induction rest with
 |nil=>intro D l hp y _ _ x hx hxd _;exact absurd (hp.2 x hx) hxd
 |cons i rest ih=>
  intro D l hp y hy P9 x hx hxd Bt;obtain⟨h1,s,re,r,_,_,_,_,h2⟩:=hp;by_cases e:x=i
  ·subst e;exact(h1.heavy Bt).1 y hy P9
  ·exact ih _ _ h2 y (by simp[hy]) P9 x hx (by simp[e,hxd]) Bt
theorem Qa:∀(done S:List Nat),DF ops bO hv done->(∃x∈done,x∉S)->∃x∈done,x∉S/\∀j,bO x j=true->j∈S:=by
 intro done;induction done with
 |nil=>intro S _ h;obtain⟨x,hx,_⟩:=h;simp at hx
 |cons i d ih=>
  intro S hd h;obtain⟨h1,h2⟩:=hd;by_cases hp:∃x∈d,x∉S
  ·obtain⟨x,a,b,c⟩:=ih S h2 hp;exact⟨x,by simp[a],b,c⟩
  ·have hall:∀x∈d,x∈S:=λx hx=>Decidable.byContradiction λhn=>hp ⟨x,hx,hn⟩;obtain⟨x,hx,hxs⟩:=h;rcases dH.1 hx with rfl|hx
   ·exact⟨x,vm,hxs,λj hj=>hall j (h1.pre j hj)⟩
   ·exact absurd (hall x hx) hxs
end
section
variable (P) (ops:Array Oper) (hv:Nat->Bool)
inductive Qb(β:aC)(lo:Nat)(a:aV)(h:IH)(al:Nat->Nat)(i:Nat):Prop
 |skip (o:Oper) (s:ik) (ho:ops[i]? =some o) (hs:jM P ops i=some s) (hl:heavy s.op=false) (hw:a.wants s.guard=some false) (hd:∀d,s.dst=some d->dF a.tmps d=si\/a.n<=d)
 |kW (o:Oper) (s:ik) (ho:ops[i]? =some o) (hs:jM P ops i=some s) (hl:heavy s.op=false) (hw:a.wants s.guard=some true) (hm:s.op.makes=false) (u:Value) (hr:s.op.run P a.eval h=some (u,h))
   (hd:∀d,s.dst=some d->dF a.tmps d=u\/a.n<=d)
 |make (o:Oper) (s:ik) (ho:ops[i]? =some o) (hs:jM P ops i=some s) (hl:heavy s.op=false) (hw:a.wants s.guard=some true) (hm:s.op.makes=true) (f:Nat->Value) (ob:dQ) (hr:s.op.alloc a.eval=some (f,ob))
   (hlo:lo<=al i) (hlt:al i<h.next) (hb:β (al i)=none) (hg:h.get (al i)=some ob) (hd:∀d,s.dst=some d->dF a.tmps d=f (al i)\/a.n<=d)
def waits(done S:List Nat)(t:Nat):Prop:=∃i o,i∈done/\i∉S/\ops[i]? =some o/\o.dst=some t
structure Inv(bO:Nat->Nat->Bool)(β0:aC)(h0:IH)(w0:World)(done S:List Nat)(β:aC)(a:aV)(h:IH)(w:World)(tm:Array Value)(df:List Deferred):Prop where
 sI:DF ops bO hv done
 sub:∀i∈S,i∈done
 DI:∀i∈done,hv i=true->i∈S
 pend:∃al:Nat->Nat,(∀i∈done,i∉S->Qb P ops β h0.next a h al i)/\∀i j,i∈done->j∈done->i∉S->j∉S->i≠j->(∃s,jM P ops i=some s/\s.op.makes=true/\a.wants s.guard=some true)->(∃s,jM P ops j=some s/\s.op.makes=true/\a.wants s.guard=some true)->al i≠al j
 act:AR β (waits ops done S) a tm df
 wr:WR P β h w
 sJ:Eff β0 h0 w0 β h w
end
variable{ops:Array Oper}{s:ik}
theorem nX{i:Nat}(h:jM P ops i=some s):∃o,ops[i]? =some o/\cop P o=some s.op/\s.dst=o.dst/\(∀x∈o.op.operands,zw P x=true)/\
 ((o.guard=none/\s.guard=none)\/∃j want t,o.guard=some (j,want)/\(ops[j]?).bind (·.dst)=some t/\s.guard=some (t,want)):=by
 unfold jM at h;cases ho:ops[i]? with
 |none=>rw[ho]at h;cases h
 |some o=>
  rw[ho]at h;simp only[iV]at h;refine⟨o,rfl,?_⟩;unfold C9 at h;split at h
  ·rename_i hall;have Qc:∀x∈o.op.operands,zw P x=true:=λx hx=>(kR.1 hall) x w8;split at h
   ·cases h
   ·rename_i c hc;split at h
    ·rename_i hg;simp only[aA]at h;subst h;exact⟨hc,rfl,Qc,.inl ⟨hg,rfl⟩⟩
    ·rename_i j want hg;split at h
     ·rename_i t ht;simp only[aA]at h;subst h;exact⟨hc,rfl,Qc,.inr ⟨j,want,t,hg,ht,rfl⟩⟩
     ·cases h
  ·cases h
variable{o:Oper}
theorem DJ{t:Nat}(h:(∃x∈o.op.operands,x=.tmp t)\/∃j want,o.guard=some (j,want)/\(ops[j]?).bind (·.dst)=some t):t∈looks ops o:=by
 unfold looks;rcases h with⟨x,hx,rfl⟩|⟨j,want,h1,h2⟩
 ·exact jW _ (FB.2 ⟨.tmp t,by simpa using hx,rfl⟩)
 ·refine oF _ ?_;rw[h1];simp[h2]
theorem Gl{X:Nat->Prop}{a:aV}{tm:Array Value}{df:List Deferred}(hg:(o.guard=none/\s.guard=none)\/∃j want t,o.guard=some (j,want)/\(ops[j]?).bind (·.dst)=some t/\s.guard=some (t,want))
 (k:AR β X a tm df) (hx:∀t,t∈looks ops o->¬X t) {r:Bool} (hw:a.wants s.guard=some r):Region.wanted o (yielded ops tm)=r:=by
 rcases hg with⟨h1,h2⟩|⟨j,want,t,h1,h2,h3⟩
 ·rw[h2]at hw;simp only[aV.wants,aA]at hw;simp[Region.wanted,h1,<- hw]
 ·rw[h3]at hw;have hv:=k.tmps t (hx t (DJ (.inr ⟨j,want,h1,h2⟩)));simp only[aV.wants]at hw;have hy:Region.wanted o (yielded ops tm)=((match tm[t]? with|some (.bool b)=>some b|_=>none)==some want):=by
   simp only[Region.wanted,h1,yielded,h2,iV];rfl
  rw[hy];split at hw
  ·rename_i b hb;rw[hb]at hv;have hv':=hv.F9;rw[rX]at hv';cases ht:tm[t]? with
   |none=>rw[ht]at hv';simp[undef]at hv'
   |some u=>
    rw[ht]at hv';simp only[uT]at hv';subst hv';simp only[aA]at hw;subst hw;cases b<;>cases want<;>rfl
  ·rename_i c hb;rw[hb]at hv;simp only[aA]at hw;subst hw;generalize hz:tm.getD t undef=z at hv;cases hv;rw[rX]at hz;cases ht:tm[t]? with
   |none=>rfl
   |some u=>
    rw[ht]at hz;simp only[uT]at hz;subst hz;rfl
  ·cases hw
end Go.Ideal
namespace Go.Ideal
variable {P:Program} {ops:Array Oper} {bO:Nat->Nat->Bool} {hv:Nat->Bool}
variable{β:aC}
theorem kz.le{β':aC}(h:β.le β')(k:kz P β):kz P β':=λg hg=>let⟨i,a,b⟩:=k g hg;⟨i,h _ _ a,b⟩
theorem Eff.KN{β0:aC}{h0 h:IH}{w0 w:World}(e:Eff β0 h0 w0 β h w){id:Nat}{g:iD}(hlo:h0.next<=id)(hgb:g.b=w.heap.size)(o':Obj):Eff β0 h0 w0 (β.add id g) h {w with heap:=w.heap.push o'} where
 agree i hi:=(aC.kV _ _ vj).trans (e.agree i hi)
 next:=e.next
 alive:=e.alive
 hid:=e.hid
 low:=e.low
 kept:=e.kept
 os:=e.os
 tape:=e.tape
 output:=e.output
 drawn:=e.drawn
 size:=by have:=e.size;simp;omega
 keep b hb hno:=by
  rw[<- e.keep b hb hno];have:=e.size;show(w.heap.push o')[b]? =_;rw[Fw,if_neg vj]
 fresh i k hk hi:=by
  by_cases ei:i=id
  ·subst ei;rw[aC.lV]at hk;cases hk;left;rw[hgb];exact e.size
  ·rw[aC.kV _ _ ei]at hk;exact e.fresh i k hk hi
 sF i k hl hi hk hn hb:=by
  rw[<- e.sF i k hl hi hk hn hb];have:=e.size;show(w.heap.push o')[k.b]? =_;rw[Fw,if_neg vj]
theorem KP:∀{done:List Nat},DF ops bO hv done->∀{x:Nat},x∈done->∃d,ul ops bO hv d x:=by
 intro done;induction done with
 |nil=>intro _ x hx;simp at hx
 |cons i d ih=>
  intro hd x hx;rcases dH.1 hx with rfl|hx
  ·exact⟨d,hd.1⟩
  ·exact ih hd.2 hx
theorem YB:∀{done:List Nat},DF ops bO hv done->∀{x y:Nat},x∈done->y∈done->x≠y->(∃d,ul ops bO hv d y/\x∈d)\/(∃d,ul ops bO hv d x/\y∈d):=by
 intro done;induction done with
 |nil=>intro _ x y hx;simp at hx
 |cons i d ih=>
  intro hd x y hx hy hne;rcases dH.1 hx with e1|hx'
  ·rcases dH.1 hy with e2|hy'
   ·exact absurd (e1.trans e2.symm) hne
   ·subst e1;exact .inr ⟨d,hd.1,hy'⟩
  ·rcases dH.1 hy with e2|hy'
   ·subst e2;exact .inl ⟨d,hd.1,hx'⟩
   ·exact ih hd.2 hx' hy' hne
section
variable {β0:aC} {h0:IH} {w0:World} {done S:List Nat} {β:aC} {a:aV} {h:IH} {w:World} {tm:Array Value} {df:List Deferred}
theorem Inv.KQ(hI:Inv P ops hv bO β0 h0 w0 done S β a h w tm df){x:Nat}(hx:x∈done)(hs:x∉S):hv x=false:=by
 cases hh:hv x with
 |false=>rfl
 |true=>exact absurd (hI.DI x hx hh) hs
theorem Inv.Gm(hI:Inv P ops hv bO β0 h0 w0 done S β a h w tm df){x:Nat}(hx:x∈done)(hs:x∉S)(hpre:∀j,bO x j=true->j∈S){o:Oper}(ho:ops[x]? =some o){t:Nat}(ht:t∈looks ops o):¬waits ops done S t:=by
 rintro⟨y,p,hy,hys,hp,kD⟩;by_cases e:x=y
 ·subst e;rw[ho]at hp;cases hp;obtain⟨d,hd⟩:=KP hI.sI hx;exact hd.own (hI.KQ hx hs) o t ho kD ht
 ·rcases YB hI.sI hx hy e with⟨d,hd,hxd⟩|⟨d,hd,YC⟩
  ·have:=(hd.put p t hp kD x hxd o ho (.inl ht)).1;rw[hI.KQ hy hys]at this;cases this
  ·exact hys (hpre y (hd.look o ho y YC p hp t kD ht))
theorem Inv.KS(hI:Inv P ops hv bO β0 h0 w0 done S β a h w tm df){x:Nat}(hx:x∈done)(hs:x∉S){o:Oper}(ho:ops[x]? =some o){β':aC}(hle:β.le β'){u v':Value}(hd:∀d,o.dst=some d->dF a.tmps d=u\/a.n<=d)(hv':VR β' u v'):
 AR β' (waits ops done (x::S)) a (oI tm o.dst v') df:=by
 have hA:=hI.act;refine⟨?_,λt ht=>?_,hA.out,hA.defers.mono hle⟩
 ·rw[<- hA.size];unfold oI;split<;>simp
 ·by_cases e:o.dst=some t
  ·rw[e];show VR β' _ ((tm.setIfInBounds t v').getD t undef);by_cases hlt:t<tm.size
   ·rw[Gg tm t v' t hlt,if_pos rfl];rcases hd t e with h1|h1
    ·rw[h1];exact hv'
    ·rw[hA.out t h1];exact .dO _
   ·rw[hA.out t (by rw[<- hA.size];omega)];exact .dO _
  ·have hnw:¬waits ops done S t:=by
    rintro⟨y,p,hy,hys,hp,kD⟩;refine ht ⟨y,p,hy,?_,hp,kD⟩;intro hc;rcases dH.1 hc with rfl|hc
    ·rw[ho]at hp;cases hp;exact e kD
    ·exact hys hc
   have qW:=(hA.tmps t hnw).mono hle;cases hd2:o.dst with
   |none=>exact qW
   |some d=>
    show VR β' _ ((tm.setIfInBounds d v').getD t undef);have hne:d≠t:=λe2=>e (by rw[hd2,e2]);rw[rX,Fx hne,<- rX];exact qW
theorem Inv.take(hI:Inv P ops hv bO β0 h0 w0 done S β a h w tm df)(hG:kz P β0)(hdom:∀i g,β0 i=some g->i<h0.next){x:Nat}(hx:x∈done)(hs:x∉S)(hpre:∀j,bO x j=true->j∈S)(b:Frame)(k:List Item)(cs:List Frame)(rest:List Nat):
 ∃β' w' tm',step P (lone (fr b tm df (.inRegion ops (x::rest)::k)) cs w)=.next (lone (fr b tm' df (.inRegion ops rest::k)) cs w')/\β.le β'/\Inv P ops hv bO β0 h0 w0 done (x::S) β' a h w' tm' df:=by
 obtain⟨al,hp,hal⟩:=hI.pend;have hGβ:kz P β:=hG.le (hI.sJ.le hdom);have KT:∀i∈done,hv i=true->i∈x::S:=λi hi hh=>dA _ (hI.DI i hi hh);have hsub:∀i∈x::S,i∈done:=λi hi=>by
  rcases dH.1 hi with rfl|hi
  ·exact hx
  ·exact hI.sub i hi
 have vB:∀y,y∉x::S->y∉S/\y≠x:=λy hy=>⟨λhc=>hy (dA _ hc),λe=>hy (by simp[e])⟩
 have Qd:∀{o:Oper},ops[x]? =some o->∀y∈o.op.operands,∀t,y=.tmp t->¬waits ops done S t:=λho y hy t ht=>hI.Gm hx hs hpre ho (DJ (.inl ⟨y,hy,ht⟩))
 -- what the others are behind a step that leaves the ideal machine alone
 have keep:∀(β':aC),(∀j,j∈done->j∉x::S->(∃s,jM P ops j=some s/\s.op.makes=true/\a.wants s.guard=some true)->β' (al j)=β (al j))->∀i∈done,i∉x::S->Qb P ops β' h0.next a h al i:=by
  intro β' hb i hi his;cases hp i hi (vB i his).1 with
  |skip o s ho hs hl hw hd=>exact .skip o s ho hs hl hw hd
  |kW o s ho hs hl hw hm u hr hd=>exact .kW o s ho hs hl hw hm u hr hd
  |make o s ho hs hl hw hm f ob hr hlo hlt hbb hg hd=>exact .make o s ho hs hl hw hm f ob hr hlo hlt (by rw[hb i hi his ⟨s,hs,hm,hw⟩];exact hbb) hg hd
 have KU:∀i j,i∈done->j∈done->i∉x::S->j∉x::S->i≠j->(∃s,jM P ops i=some s/\s.op.makes=true/\a.wants s.guard=some true)->(∃s,jM P ops j=some s/\s.op.makes=true/\a.wants s.guard=some true)->al i≠al j:=
  λi j hi hj his hjs=>hal i j hi hj (vB i his).1 (vB j hjs).1
 cases hp x hx hs with
 |skip o s ho hcs hl hw hd=>
  obtain⟨o',ho',gq,hdst,uo,hgd⟩:=nX hcs;rw[ho]at ho';cases ho';have hwant:=Gl hgd hI.act (λt ht=>hI.Gm hx hs hpre ho ht) hw;refine⟨β,w,oI tm o.dst undef,?_,λ_ _ e=>e,hI.sI,hsub,KT,⟨al,keep β λ_ _ _ _=>rfl,KU⟩,?_,hI.wr,hI.sJ⟩
  ·have:=P5 (P:=P) (b:=b) (tm:=tm) (df:=df) (k:=k) (cs:=cs) (w:=w) (ops:=ops) (i:=x) (rest:=rest) (by simp[ho,hwant]);rw[this,ho];rfl
  ·rw[hdst]at hd;exact hI.KS hx hs ho (λ_ _ e=>e) hd .skip
 |kW o s ho hcs hl hw hm u hr hd=>
  obtain⟨o',ho',gq,hdst,uo,hgd⟩:=nX hcs;rw[ho]at ho';cases ho';have hwant:=Gl hgd hI.act (λt ht=>hI.Gm hx hs hpre ho ht) hw;obtain⟨r,w',β',v',g1,g2,g3,g4,g5⟩:=PY (ρ':=Act.eval ⟨tm,df⟩) gq (λy hy=>hI.act.eval hGβ (uo y hy) (Qd ho y hy)) hr hI.wr;have hnd:∀c,o.op≠.defer c:=by
   exact gg
  have hle:=g5.le hI.wr.dom;refine⟨β',w',oI tm o.dst v',Gj ho hwant (.inr hnd) g1 g2,hle,hI.sI,hsub,KT,⟨al,keep β' λj hj hjs hjm=>?_,KU⟩,?_,g4,hI.sJ.trans g5⟩
  ·obtain⟨t,h1,h2,h3⟩:=hjm;cases hp j hj (vB j hjs).1 with
   |skip o2 s2 _ hs2 _ hw2 _=>rw[h1]at hs2;cases hs2;rw[h3]at hw2;cases hw2
   |kW o2 s2 _ hs2 _ _ hm2 _ _ _=>rw[h1]at hs2;cases hs2;rw[h2]at hm2;cases hm2
   |make o2 s2 _ _ _ _ _ _ _ _ _ hlt _ _ _=>exact g5.agree _ hlt
  ·rw[hdst]at hd;exact hI.KS hx hs ho hle hd g3
 |make o s ho hcs hl hw hm f ob hr hlo hlt hbn hget hd=>
  obtain⟨o',ho',gq,hdst,uo,hgd⟩:=nX hcs;rw[ho]at ho';cases ho';have hwant:=Gl hgd hI.act (λt ht=>hI.Gm hx hs hpre ho ht) hw;obtain⟨v',o',g,m1,m2,m3⟩:=PX (ρ':=Act.eval ⟨tm,df⟩) (w:=w) hm gq (λy hy=>hI.act.eval hGβ (uo y hy) (Qd ho y hy)) hr;have hle:=aC.wL (β:=β) g hbn;obtain⟨m4,m5⟩:=m3 (al x) _ hle (aC.lV _ _ _);have hnd:∀c,o.op≠.defer c:=by
   exact gg
  refine⟨β.add (al x) g,_,oI tm o.dst v',Gj ho hwant (.inr hnd) m1 (.inl rfl),hle,hI.sI,hsub,KT,⟨al,keep _ λj hj hjs hjm=>?_,KU⟩,?_,hI.wr.KN hbn hlt hget m2 m5,hI.sJ.KN hlo m2 o'⟩
  ·exact aC.kV _ _ (hal j x hj hx (vB j hjs).1 hs (vB j hjs).2 hjm ⟨s,hcs,hm,hw⟩)
  ·rw[hdst]at hd;exact hI.KS hx hs ho hle hd m4
theorem Inv.flush(hG:kz P β0)(hdom:∀i g,β0 i=some g->i<h0.next){i:Nat}(hstep:ul ops bO hv done i)(jG:hv i=true)(YD:∀x,x<ops.size->x∉done->x≠i->hv x=true->bO x i=true)
 (b:Frame) (k:List Item) (cs:List Frame):∀(ρ S:List Nat) (β:aC) (w:World) (tm:Array Value),Inv P ops hv bO β0 h0 w0 done S β a h w tm df->um ops bO S ρ->
 ∃S' β' w' tm' ρ',Steps P (lone (fr b tm df (.inRegion ops ρ::k)) cs w) (lone (fr b tm' df (.inRegion ops (i::ρ')::k)) cs w')/\β.le β'/\Inv P ops hv bO β0 h0 w0 done S' β' a h w' tm' df/\um ops bO S' (i::ρ'):=by
 intro ρ;induction ρ with
 |nil=>
  intro S β w tm hI hR
  exfalso
  by_cases hp:∃x∈done,x∉S
  ·obtain⟨x,h1,h2,h3⟩:=Qa ops bO hv done S hI.sI hp;obtain⟨d,hd⟩:=KP hI.sI h1;obtain⟨j,h4,h5⟩:=hR x hd.lt h2;exact h5 (h3 j h4)
  ·have hall:∀x∈done,x∈S:=λx hx=>Decidable.byContradiction λhn=>hp ⟨x,hx,hn⟩;obtain⟨j,h4,h5⟩:=hR i hstep.lt λhc=>hstep.new (hI.sub i hc);exact h5 (hall j (hstep.pre j h4))
 |cons x ρ ih=>
  intro S β w tm hI hR;by_cases e:x=i
  ·subst e;exact⟨S,β,w,tm,ρ,Steps.refl P _,λ_ _ e=>e,hI,hR⟩
  ·obtain⟨r1,r2,r3,r4⟩:=hR;have hx:x∈done:=by
    refine Decidable.byContradiction λhn=>?_;cases hh:hv x with
    |false=>
     obtain⟨j,h1,h2⟩:=(hstep.heavy jG).2 x r1 hh hn;exact h2 (hI.sub j (r3 j h1))
    |true=>exact hstep.new (hI.sub i (r3 i (YD x r1 hn e hh)))
   obtain⟨β',w',tm',s1,s0,s2⟩:=hI.take hG hdom hx r2 r3 b k cs ρ;obtain⟨S',β'',w'',KW,ρ',t1,t0,t2,t3⟩:=ih _ _ _ _ s2 r4;exact⟨S',β'',w'',KW,ρ',.head s1 t1,λ_ _ e=>t0 _ _ (s0 _ _ e),t2,t3⟩
theorem Inv.finish(hG:kz P β0)(hdom:∀i g,β0 i=some g->i<h0.next)(hall:∀i,i<ops.size->i∈done)
 (b:Frame) (k:List Item) (cs:List Frame):∀(ρ S:List Nat) (β:aC) (w:World) (tm:Array Value),Inv P ops hv bO β0 h0 w0 done S β a h w tm df->um ops bO S ρ->
 ∃β' w' tm',Steps P (lone (fr b tm df (.inRegion ops ρ::k)) cs w) (lone (fr b tm' df k) cs w')/\β.le β'/\AR β' none' a tm' df/\WR P β' h w'/\Eff β0 h0 w0 β' h w':=by
 intro ρ;induction ρ with
 |nil=>
  intro S β w tm hI hR;have hS:∀x∈done,x∈S:=λx hx=>Decidable.byContradiction λhn=>by
   obtain⟨y,h1,h2,h3⟩:=Qa ops bO hv done S hI.sI ⟨x,hx,hn⟩;obtain⟨d,hd⟩:=KP hI.sI h1;obtain⟨j,h4,h5⟩:=hR y hd.lt h2;exact h5 (h3 j h4)
  refine⟨β,w,tm,.one Yq,λ_ _ e=>e,⟨hI.act.size,λi _=>hI.act.tmps i ?_,hI.act.out,hI.act.defers⟩,hI.wr,hI.sJ⟩;rintro⟨y,p,hy,hys,_⟩;exact hys (hS y hy)
 |cons x ρ ih=>
  intro S β w tm hI hR;obtain⟨r1,r2,r3,r4⟩:=hR;obtain⟨β',w',tm',s1,s0,s2⟩:=hI.take hG hdom (hall x r1) r2 r3 b k cs ρ;obtain⟨β'',w'',KW,t1,t0,t2⟩:=ih _ _ _ _ s2 r4;exact⟨β'',w'',KW,.head s1 t1,λ_ _ e=>t0 _ _ (s0 _ _ e),t2⟩
end
end Go.Ideal
namespace Go.Ideal
variable {P:Program} {ops:Array Oper} {bO:Nat->Nat->Bool} {hv:Nat->Bool}
theorem sK(a:aV)(d:Option Tmp)(v:Value)(t:Nat):dF (a.put d v).tmps t=if d=some t/\t<a.n then v else dF a.tmps t:=by
 cases d with
 |none=>simp[aV.put]
 |some d=>
  show dF (a.set d v).tmps t=_;unfold aV.set;cases hb:Nat.blt d a.n with
  |true=>
   have hlt: @LT.lt Nat _ d a.n:=yb
   show dF (a.tmps.set d (some v)) t=_;rw[Bj];by_cases e:t=d
   ·subst e;rw[if_pos rfl,if_pos ⟨rfl,hlt⟩]
   ·rw[if_neg e,if_neg];rintro⟨h1,_⟩;simp at h1;exact e h1.symm
  |false=>
   show dF a.tmps t=_;rw[if_neg];rintro⟨h1,h2⟩;simp only[aA]at h1;subst h1;have:Nat.blt d a.n=true:=by simpa[rV]using h2
   rw[this]at hb;cases hb
theorem pG(a:aV)(d:Option Tmp)(v:Value):(a.put d v).n=a.n:=by
 cases d with
 |none=>rfl
 |some d=>show(a.set d v).n=_;unfold aV.set;cases Nat.blt d a.n<;>rfl
theorem put_defers(a:aV)(d:Option Tmp)(v:Value):(a.put d v).defers=a.defers:=by
 cases d with
 |none=>rfl
 |some d=>show(a.set d v).defers=_;unfold aV.set;cases Nat.blt d a.n<;>rfl
theorem uq(a:aV)(d:Option Tmp)(v:Value):(a.put d v).pm=a.pm:=by
 cases d with
 |none=>rfl
 |some d=>show(a.set d v).pm=_;unfold aV.set;cases Nat.blt d a.n<;>rfl
theorem uu(a:aV)(d:Option Tmp)(v:Value):(a.put d v).ro=a.ro:=by
 cases d with
 |none=>rfl
 |some d=>show(a.set d v).ro=_;unfold aV.set;cases Nat.blt d a.n<;>rfl
theorem Bv{a a2:aV}{o:Oper}{s:ik}{i:Nat}(hi:ops[i]? =some o)(hs:jM P ops i=some s)(h:∀t,t∈looks ops o->dF a2.tmps t=dF a.tmps t):
 (∀x∈o.op.operands,a2.eval x=a.eval x)/\a2.wants s.guard=a.wants s.guard:=by
 obtain⟨o',ho',_,_,_,hg⟩:=nX hs;rw[hi]at ho';cases ho';refine⟨λx hx=>?_,?_⟩
 ·cases x with
  |tmp t=>exact h t (DJ (.inl ⟨_,hx,rfl⟩))
  |const v=>rfl
  |global g=>rfl
  |func f=>rfl
 ·rcases hg with⟨_,h2⟩|⟨j,want,t,h1,h2,h3⟩
  ·rw[h2];rfl
  ·rw[h3];simp only[aV.wants,h t (DJ (.inr ⟨j,want,h1,h2⟩))]
section
variable {β0:aC} {h0:IH} {w0:World} {done S:List Nat} {β:aC} {a:aV} {h:IH} {w:World} {tm:Array Value} {df:List Deferred}
theorem Inv.sync(hI:Inv P ops hv bO β0 h0 w0 done S β a h w tm df){i:Nat}(hstep:ul ops bO hv done i){o:Oper}(ho:ops[i]? =some o)(hpre:∀j,bO i j=true->j∈S)
 {β2:aC} {h2:IH} {w2:World} (heff:Eff β h w β2 h2 w2) (hwr:WR P β2 h2 w2) {v v':Value} (hvv:VR β2 v v') {a2:aV} (ha2:∀t,dF a2.tmps t=dF (a.put o.dst v).tmps t) (hn:a2.n=a.n) {df2:List Deferred} (hdf:sH β2 a2.defers df2)
 (hre:h2=h\/∀j∈done,j∉S->∀t,jM P ops j=some t->Bd t.op=true->a2.wants t.guard≠some false->∃u h3,t.op.run P a2.eval h2=some (u,h3)/\∀d,t.dst=some d->dF a2.tmps d=u):
 Inv P ops hv bO β0 h0 w0 (i::done) (i::S) β2 a2 h2 w2 (oI tm o.dst v') df2:=by
 have hle:=heff.le hI.wr.dom;obtain⟨al,hp,hal⟩:=hI.pend;have vB:∀y,y∈i::done->y∉i::S->y∈done/\y∉S/\y≠i:=λy hy hys=>by
  have hne:y≠i:=λe=>hys (by simp[e]);exact⟨(dH.1 hy).resolve_left hne,λhc=>hys (dA _ hc),hne⟩
 -- what waits is not touched
 have free:∀j∈done,j∉S->∀p,ops[j]? =some p->(∀t∈looks ops p,o.dst≠some t)/\∀t,p.dst=some t->o.dst≠some t:=λj hj hjs p fF=>
  ⟨λt ht hd=>hjs (hpre j (hstep.put o t ho hd j hj p fF (.inl ht)).2),λt ht hd=>hjs (hpre j (hstep.put o t ho hd j hj p fF (.inr ht)).2)⟩
 have pI:∀t,o.dst≠some t->dF a2.tmps t=dF a.tmps t:=λt ht=>by rw[ha2,sK,if_neg (λhc=>ht hc.1)]
 have same:∀j∈done,j∉S->∀p s,ops[j]? =some p->jM P ops j=some s->(∀x∈p.op.operands,a2.eval x=a.eval x)/\a2.wants s.guard=a.wants s.guard:=λj hj hjs p s fF hsj=>
  Bv fF hsj λt ht=>pI t ((free j hj hjs p fF).1 t ht)
 have zM:∀j∈done,j∉S->(∃s,jM P ops j=some s/\s.op.makes=true/\a2.wants s.guard=some true)->∃s,jM P ops j=some s/\s.op.makes=true/\a.wants s.guard=some true:=λj hj hjs ⟨s,q1,q2,q3⟩=>by
  obtain⟨p,fF,_⟩:=nX q1;exact⟨s,q1,q2,by rw[<- (same j hj hjs p s fF q1).2];exact q3⟩
 refine⟨⟨hstep,hI.sI⟩,?_,?_,⟨al,?_,?_⟩,?_,hwr,hI.sJ.trans heff⟩
 ·intro x hx;rcases dH.1 hx with e|hx
  ·simp[e]
  ·exact dA _ (hI.sub x hx)
 ·intro x hx hh;rcases dH.1 hx with e|hx
  ·simp[e]
  ·exact dA _ (hI.DI x hx hh)
 ·intro j hj hjs;obtain⟨c1,c2,c3⟩:=vB j hj hjs;cases hp j c1 c2 with
  |skip p s fF hs hl hw hd=>
   obtain⟨f1,f2⟩:=free j c1 c2 p fF;obtain⟨_,nY,_,hdst,_⟩:=nX hs;rw[fF]at nY;cases nY;refine .skip p s fF hs hl (by rw[(same j c1 c2 p s fF hs).2];exact hw) λd hdd=>?_;rw[pI d (f2 d A1),hn];exact hd d hdd
  |kW p s fF hs hl hw hm u hr hd=>
   obtain⟨f1,f2⟩:=free j c1 c2 p fF;obtain⟨_,nY,gq,hdst,_⟩:=nX hs;rw[fF]at nY;cases nY;obtain⟨e1,e2⟩:=same j c1 c2 p s fF hs;have hcg:∀hh:IH,s.op.run P a2.eval hh=s.op.run P a.eval hh:=λhh=>(Bu gq e1 hh).1;cases hrd:Bd s.op with
   |false=>
    have hr2:s.op.run P a2.eval h2=some (u,h2):=by rw[hcg];exact Yy hl hm hrd hr h2
    refine .kW p s fF hs hl yp hm u hr2 λd hdd=>?_;rw[pI d (f2 d A1),hn];exact hd d hdd
   |true=>
    rcases hre with rfl|hre
    ·refine .kW p s fF hs hl yp hm u (by rw[hcg];exact hr) λd hdd=>?_;rw[pI d (f2 d A1),hn];exact hd d hdd
    obtain⟨u2,h3,g1,g2⟩:=hre j c1 c2 s hs hrd (by rw[e2,hw];simp);have YE:=P7 hl hm g1;subst YE;exact .kW p s fF hs hl yp hm u2 g1 λd hdd=>.inl (g2 d hdd)
  |make p s fF hs hl hw hm f ob hr hlo hlt hb hg hd=>
   obtain⟨f1,f2⟩:=free j c1 c2 p fF;obtain⟨_,nY,gq,hdst,_⟩:=nX hs;rw[fF]at nY;cases nY;obtain⟨e1,e2⟩:=same j c1 c2 p s fF hs;have hb2:β2 (al j)=none:=by rw[heff.agree _ hlt];exact hb
   have hg2:h2.get (al j)=some ob:=by rw[heff.hid _ hlt hb];exact hg
   refine .make p s fF hs hl yp hm f ob (by rw[(Bu gq e1 h).2];exact hr) hlo (lS hlt heff.next) hb2 hg2 λd hdd=>?_;rw[pI d (f2 d A1),hn];exact hd d hdd
 ·intro x y hx hy hxs hys hne mx my;obtain⟨c1,c2,_⟩:=vB x hx hxs;obtain⟨d1,d2,_⟩:=vB y hy hys;exact hal x y c1 d1 c2 d2 hne (zM x c1 c2 mx) (zM y d1 d2 my)
 ·have hA:=hI.act;refine⟨?_,λt ht=>?_,λt ht=>?_,hdf⟩
  ·rw[hn,<- hA.size];unfold oI;split<;>simp
  ·have hnw:¬waits ops done S t:=by
    rintro⟨y,p,hy,hys,hp',kD⟩;refine ht ⟨y,p,dA _ hy,?_,hp',kD⟩;intro hc;rcases dH.1 hc with e|hc
    ·subst e;exact hstep.new hy
    ·exact hys hc
   have qW:=(hA.tmps t hnw).mono hle;rw[ha2,sK];cases hd2:o.dst with
   |none=>
    rw[if_neg vm];exact qW
   |some d=>
    show VR β2 _ ((tm.setIfInBounds d v').getD t undef);have hsz:=hA.size;by_cases hdt:d=t
    ·subst hdt;by_cases hlt: @LT.lt Nat _ d a.n
     ·rw[if_pos ⟨rfl,hlt⟩,Gg tm d v' d vj,if_pos rfl];exact hvv
     ·rw[if_neg (λhc=>hlt hc.2)];rw[hA.out d vj];exact .dO _
    ·rw[if_neg (λhc=>hdt (by simpa using hc.1))];rw[rX,Fx hdt,<- rX];exact qW
  ·rw[ha2,sK,if_neg (λhc=>by have:=hc.2;omega)];exact hA.out t vj
theorem Inv.ahead(hI:Inv P ops hv bO β0 h0 w0 done S β a h w tm df){i:Nat}(hstep:ul ops bO hv done i)(hlt:hv i=false){o:Oper}{s:ik}(ho:ops[i]? =some o)(hs:jM P ops i=some s)(hl:heavy s.op=false)
 {v:Value} {h2:IH} (hcase:(a.wants s.guard=some false/\v=si/\h2=h)\/(a.wants s.guard=some true/\s.op.run P a.eval h=some (v,h2))):
 Inv P ops hv bO β0 h0 w0 (i::done) S β (a.put s.dst v) h2 w tm df:=by
 obtain⟨al,hp,hal⟩:=hI.pend;obtain⟨o',ho',gq,hdst,_,_⟩:=nX hs;rw[ho]at ho';cases ho';have sM:i∉S:=λhc=>hstep.new (hI.sub i hc);have pI:∀t,o.dst≠some t->dF (a.put s.dst v).tmps t=dF a.tmps t:=λt ht=>by rw[sK,hdst,if_neg (λhc=>ht hc.1)]
 have free:∀j∈done,∀p,ops[j]? =some p->(∀t∈looks ops p,o.dst≠some t)/\∀t,p.dst=some t->o.dst≠some t:=λj hj p fF=>
  ⟨λt ht hd=>(by have:=(hstep.put o t ho hd j hj p fF (.inl ht)).1;rw[hlt]at this;cases this),λt ht hd=>(by have:=(hstep.put o t ho hd j hj p fF (.inr ht)).1;rw[hlt]at this;cases this)⟩
 have own:∀t∈looks ops o,o.dst≠some t:=λt ht hd=>hstep.own hlt o t ho hd ht;have KX:∀d,s.dst=some d->dF (a.put s.dst v).tmps d=v\/(a.put s.dst v).n<=d:=λd hd=>by
  rw[sK,pG,hd];by_cases hh: @LT.lt Nat _ d a.n
  ·left;rw[if_pos ⟨rfl,hh⟩]
  ·right;exact Nat.le_of_not_lt hh
 -- the heap: the same, or with one more object
 have hheap:(h2=h/\((a.wants s.guard=some true)->s.op.makes=false))\/(a.wants s.guard=some true/\s.op.makes=true/\∃f ob,s.op.alloc a.eval=some (f,ob)/\v=f h.next/\h2=h.new ob):=by
  rcases hcase with⟨q1,_,q3⟩|⟨q1,q2⟩
  ·exact .inl ⟨q3,λhc=>by rw[q1]at hc;cases hc⟩
  ·cases hm:s.op.makes with
   |false=>exact .inl ⟨P7 hl hm q2,λ_=>rfl⟩
   |true=>
    rw[aB.PW hm]at q2;obtain⟨f,ob,e1,e2,e3⟩:=PV q2;exact .inr ⟨q1,rfl,f,ob,e1,e2,e3⟩
 have hsub:∀x ob,h.get x=some ob->h2.get x=some ob:=λx ob hx=>by
  rcases hheap with⟨e,_⟩|⟨_,_,f,KY,_,_,e⟩
  ·rw[e];exact hx
  ·rw[e];exact Yx hI.wr.live _ _ _ hx
 have hnext:h.next<=h2.next:=by
  rcases hheap with⟨e,_⟩|⟨_,_,f,KY,_,_,e⟩
  ·rw[e];exact bV _
  ·rw[e];exact AU _
 have Qe:WR P β h2 w/\Eff β h w β h2 w:=by
  rcases hheap with⟨e,_⟩|⟨_,_,f,KY,_,_,e⟩
  ·rw[e];exact⟨hI.wr,Eff.refl _ _ _ hI.wr.dom⟩
  ·rw[e];exact hI.wr.hide KY
 have hne:∀j∈done,j≠i:=λj hj e=>hstep.new (e▸hj);have zM:∀j∈done,(∃s',jM P ops j=some s'/\s'.op.makes=true/\(a.put s.dst v).wants s'.guard=some true)->∃s',jM P ops j=some s'/\s'.op.makes=true/\a.wants s'.guard=some true:=λj hj ⟨s',q1,q2,q3⟩=>by
  obtain⟨p,fF,_⟩:=nX q1;exact⟨s',q1,q2,by rw[<- (Bv fF q1 λt ht=>pI t ((free j hj p fF).1 t ht)).2];exact q3⟩
 have Qf:∀j∈done,j∉S->(∃s',jM P ops j=some s'/\s'.op.makes=true/\a.wants s'.guard=some true)->al j<h.next:=λj hj hjs ⟨s',q1,q2,q3⟩=>by
  cases hp j hj hjs with
  |skip p s2 _ hs2 _ hw2 _=>rw[q1]at hs2;cases hs2;rw[q3]at hw2;cases hw2
  |kW p s2 _ hs2 _ _ hm2 _ _ _=>rw[q1]at hs2;cases hs2;rw[q2]at hm2;cases hm2
  |make p s2 _ _ _ _ _ _ _ _ _ hlt2 _ _ _=>exact hlt2
 refine⟨⟨hstep,hI.sI⟩,λx hx=>dA _ (hI.sub x hx),?_,⟨λj=>if j=i then h.next else al j,?_,?_⟩,?_,Qe.1,hI.sJ.trans Qe.2⟩
 ·intro x hx hh;rcases dH.1 hx with e|hx
  ·subst e;rw[hlt]at hh;cases hh
  ·exact hI.DI x hx hh
 ·intro j hj hjs;rcases dH.1 hj with e|hj
  ·subst e;obtain⟨e1,e2⟩:=Bv (a:=a) (a2:=a.put s.dst v) ho hs λt ht=>pI t (own t ht);rcases hheap with⟨e,hm⟩|⟨q1,q2,f,ob,q3,q4,q5⟩
   ·rcases hcase with⟨q1,q2,q3⟩|⟨q1,q2⟩
    ·refine .skip o s ho hs hl (by rw[e2];exact q1) λd hd=>?_;rw[<- q2];exact KX d hd
    ·subst e;exact .kW o s ho hs hl (by rw[e2];exact q1) (hm q1) v (by rw[(Bu gq e1 h2).1];exact q2) KX
   ·refine .make o s ho hs hl (by rw[e2];exact q1) q2 f ob (by rw[(Bu gq e1 h2).2];exact q3) ?_ ?_ ?_ ?_ λd hd=>?_
    ·rw[if_pos rfl];exact hI.sJ.next
    ·rw[if_pos rfl,q5];exact wh _
    ·rw[if_pos rfl];exact hI.wr.x9
    ·rw[if_pos rfl,q5,IH.iZ,if_pos rfl]
    ·rw[if_pos rfl,<- q4];exact KX d hd
  ·have hji:=hne j hj;cases hp j hj hjs with
   |skip p s2 fF hs2 hl2 hw hd=>
    obtain⟨f1,f2⟩:=free j hj p fF;obtain⟨_,nY,_,DK,_⟩:=nX hs2;rw[fF]at nY;cases nY;obtain⟨e1,e2⟩:=Bv fF hs2 λt ht=>pI t (f1 t ht);refine .skip p s2 fF hs2 hl2 yp λd hdd=>?_;rw[pI d (f2 d B3),pG];exact hd d hdd
   |kW p s2 fF hs2 hl2 hw hm u hr hd=>
    obtain⟨f1,f2⟩:=free j hj p fF;obtain⟨_,nY,KZ,DK,_⟩:=nX hs2;rw[fF]at nY;cases nY;obtain⟨e1,e2⟩:=Bv fF hs2 λt ht=>pI t (f1 t ht);refine .kW p s2 fF hs2 hl2 yp hm u (by rw[(Bu KZ e1 h2).1];exact Yw hl2 hm hsub hr) λd hdd=>?_;rw[pI d (f2 d B3),pG];exact hd d hdd
   |make p s2 fF hs2 hl2 hw hm f ob hr hlo hlt2 hb hg hd=>
    obtain⟨f1,f2⟩:=free j hj p fF;obtain⟨_,nY,KZ,DK,_⟩:=nX hs2;rw[fF]at nY;cases nY;obtain⟨e1,e2⟩:=Bv fF hs2 λt ht=>pI t (f1 t ht);have DL:(if j=i then h.next else al j)=al j:=if_neg hji;refine .make p s2 fF hs2 hl2 yp hm f ob (by rw[(Bu KZ e1 h2).2];exact hr) (by rw[DL];exact hlo) (by rw[DL];exact lS hlt2 hnext) (by rw[DL];exact hb) (by rw[DL];exact hsub _ _ hg) λd hdd=>?_;rw[pI d (f2 d B3),pG,DL];exact hd d hdd
 ·intro x y hx hy hxs hys hxy mx my;show(if x=i then h.next else al x)≠(if y=i then h.next else al y);rcases dH.1 hx with ex|hx
  ·rcases dH.1 hy with ey|hy
   ·exact absurd (ex.trans ey.symm) hxy
   ·rw[if_pos ex,if_neg (hne y hy)];have:=Qf y hy hys (zM y hy my);omega
  ·rcases dH.1 hy with ey|hy
   ·rw[if_neg (hne x hx),if_pos ey];have:=Qf x hx hxs (zM x hx mx);omega
   ·rw[if_neg (hne x hx),if_neg (hne y hy)];exact hal x y hx hy hxs hys hxy (zM x hx mx) (zM y hy my)
 ·have hA:=hI.act;refine⟨by rw[pG];exact hA.size,λt ht=>?_,λt ht=>?_,by rw[put_defers];exact hA.defers⟩
  ·have hdt:o.dst≠some t:=λhd=>ht ⟨i,o,vm,sM,ho,hd⟩;rw[pI t hdt];refine hA.tmps t ?_;rintro⟨y,p,hy,hys,hp',kD⟩;exact ht ⟨y,p,dA _ hy,hys,hp',kD⟩
  ·rw[pG]at ht;rw[sK,if_neg (λhc=>by have:=hc.2;omega)];exact hA.out t ht
end
end Go.Ideal
namespace Go.Ideal
variable {P:Program}
def kindOf:Option FrameMode->CallKind
 |none=>.normal
 |some _=>.deferred
structure CX(P:Program)(β:aC)(pm:Option FrameMode)(ro:Option Nat)(b:Frame)(cs:List Frame):Prop where
 fn:∃f,P.funcs[b.fn]? =some f
 round:(ro=none/\b.roundOf=none)\/∃l g,ro=some l/\β l=some g/\b.roundOf=some g.b
 kind:b.kind=kindOf pm
 mode:∀m,pm=some m->∃c rest,cs=c::rest/\MR β m c.mode
inductive nJ(β':aC):Option FrameMode->Option FrameMode->List Frame->List Frame->Prop
 |none (cs:List Frame):nJ β' none none cs cs
 |some (m m':FrameMode) (c:Frame) (rest:List Frame) (mr:FrameMode) (h:MR β' m' mr):nJ β' (some m) (some m') (c::rest) ({c with mode:=mr}::rest)
variable{β β':aC}
theorem nJ.mono(h:β.le β'){p q:Option FrameMode}{cs cs':List Frame}(k:nJ β p q cs cs'):nJ β' p q cs cs':=by
 cases k with
 |none cs=>exact .none cs
 |some m m' c rest mr hm=>exact .some m m' c rest mr (hm.mono h)
variable{cs cs':List Frame}
theorem nJ.trans{p q r:Option FrameMode}{cs'':List Frame}(k:nJ β p q cs cs')(k2:nJ β' q r cs' cs''):nJ β' p r cs cs'':=by
 cases k with
 |none cs=>exact k2
 |some m m' c rest mr hm=>
  cases k2 with
  |some _ m'' _ _ K3 hm'=>exact .some m m'' c rest K3 hm'
variable{b:Frame}
theorem CX.start{pm:Option FrameMode}{ro:Option Nat}(k:CX P β pm ro b cs):nJ β pm pm cs cs:=by
 cases pm with
 |none=>exact .none cs
 |some m=>
  obtain⟨c,rest,rfl,hm⟩:=k.mode m rfl;have:=nJ.some (β':=β) m m c rest c.mode hm;exact this
theorem CX.after(hle:β.le β'){pm pm':Option FrameMode}{ro:Option Nat}{b:Frame}{cs cs':List Frame}(k:CX P β pm ro b cs)(hc:nJ β' pm pm' cs cs'):CX P β' pm' ro b cs' where
 fn:=k.fn
 round:=by
  rcases k.round with h|⟨l,g,h1,h2,h3⟩
  ·exact .inl h
  ·exact .inr ⟨l,g,h1,hle _ _ h2,h3⟩
 kind:=by
  have:=k.kind;cases hc with
  |none=>exact this
  |some=>exact this
 mode m hm:=by
  cases hc with
  |none=>cases hm
  |some m0 m' c rest mr h=>cases hm;exact⟨_,rest,rfl,h⟩
def Gn(P:Program)(M:Machine)(b:Frame)(k:List Item)(β':aC)(tm':Array Value)(fV:List Deferred)(cs':List Frame)(w':World):Out->Prop
 | .normal=>Steps P M (lone (fr b tm' fV k) cs' w')
 | .exit id=>∃todo,exitTo id todo=exitTo id k/\Steps P M (lone (fr b tm' fV (.code (.exit id)::todo)) cs' w')
 | .ret=>∃todo,Steps P M (lone (fr b tm' fV (.code .ret::todo)) cs' w')
 | .panic ch=>∃todo ch',nW β' ch ch'/\Steps P M (lone {fr b tm' fV todo with mode:=.panicking ch'} cs' w')
variable{M M':Machine}{k:List Item}
theorem Gn.of_steps{tm':Array Value}{fV:List Deferred}{w':World}{o:Out}(h:Steps P M M')(k2:Gn P M' b k β' tm' fV cs' w' o):Gn P M b k β' tm' fV cs' w' o:=by
 cases o with
 |normal=>exact h.trans k2
 |exit id=>obtain⟨todo,h1,h2⟩:=k2;exact⟨todo,h1,h.trans h2⟩
 |ret=>obtain⟨todo,h2⟩:=k2;exact⟨todo,h.trans h2⟩
 |panic ch=>obtain⟨todo,ch',h1,h2⟩:=k2;exact⟨todo,ch',h1,h.trans h2⟩
def Post(P:Program)(β0:aC)(h0:IH)(w0:World)(jA:Option FrameMode)(jg:Option Nat)(b:Frame)(cs0:List Frame)(k:List Item)(K:KO)(M:Machine):Prop:=
 ∃o a' h' β' w' tm' fV cs',K o a' h'/\WR P β' h' w'/\Eff β0 h0 w0 β' h' w'/\AR β' none' a' tm' fV/\nJ β' jA a'.pm cs0 cs'/\a'.ro=jg/\Gn P M b k β' tm' fV cs' w' o
theorem Post.of_steps{β0:aC}{h0:IH}{w0:World}{jA:Option FrameMode}{jg:Option Nat}{cs0:List Frame}{K:KO}(h:Steps P M M')(p:Post P β0 h0 w0 jA jg b cs0 k K M'):Post P β0 h0 w0 jA jg b cs0 k K M:=by
 obtain⟨o,a',h',β',w',tm',fV,cs',q1,q2,q3,q4,q5,q6,q7⟩:=p;exact⟨o,a',h',β',w',tm',fV,cs',q1,q2,q3,q4,q5,q6,.of_steps h q7⟩
def K4(code:Code)(it:Item):Prop:=it=.code code\/∃body,code=.loop body/\it=.inLoop body
def kX(P:Program)(c:dB)(a:aV)(h:IH)(K:KO):Prop:=
 ∀code it,compile P code=c->K4 code it->∀β w b tm df k cs,kz P β->WR P β h w->AR β none' a tm df->CX P β a.pm a.ro b cs->
  Post P β h w a.pm a.ro b cs k K (lone (fr b tm df (it::k)) cs w)
def nK(P:Program)(ds:List Tmp)(l:List bT)(a:aV)(h:IH)(K:KO):Prop:=
 ∀ops bO hv rest done S,ym P ops bO hv rest done l->(∀(i:Nat) o d,ops[i]? =some o->o.dst=some d->d∈ds)->
  ∀β0 h0 w0 jA jg cs0 β w b tm df k cs ρ,kz P β0->(∀i g,β0 i=some g->i<h0.next)->CX P β0 jA jg b cs0->Inv P ops hv bO β0 h0 w0 done S β a h w tm df->um ops bO S ρ->
  nJ β jA a.pm cs0 cs->a.ro=jg->Post P β0 h0 w0 jA jg b cs0 k K (lone (fr b tm df (.inRegion ops ρ::k)) cs w)
inductive RR(β:aC):iP->Ending->Prop
 |ok {v v':Value} (h:VR β v v'):RR β (.ok v) (.returned v')
 |fJ {ch ch':List PanicEntry} (h:nW β ch ch'):RR β (.fJ ch) (.panicked ch')
def entry(P:Program)(k:CallKind):Next->Option Frame
 | .enter f args=>some (Frame.enter P f args k)
 | .round l f tmps x y=>some (Frame.round l f tmps x y k)
 |_=>none
def recv(c:Frame):Ending->Frame
 | .returned v=>c.finish v
 | .panicked ch=>c.raise ch
 | .outgrown=>c
def mG(P:Program)(q:gD)(h:IH)(K:KR):Prop:=
 ∀β w fn' args' cap',kz P β->WR P β h w->FR β q.fn fn'->aZ β q.args args'->aZ β q.captured cap'->
  ∃nx F0,(invoke (.fn fn' ⟨cap'⟩) ⟨args'⟩).run P w=.ok nx w/\entry P (kindOf q.pm) nx=some F0/\
   ∀cs0,(∀m,q.pm=some m->∃c rest,cs0=c::rest/\MR β m c.mode)->∃r pm' h' β' w' r' cs1,K r pm' h'/\WR P β' h' w'/\Eff β h w β' h' w'/\RR β' r r'/\nJ β' q.pm pm' cs0 cs1/\
    ((∃f args F1,nx=.enter f args/\Steps P (lone F0 cs0 w) (lone F1 cs1 w')/\F1.fn=f/\F1.kind=kindOf q.pm/\F1.going P w' r')\/
     ((q.pm=none/\∃l,q.fn=.yield l)/\∀c rest,cs1=c::rest->Steps P (lone F0 cs0 w) (lone (recv c r') rest w')))
def wP(P:Program)(cf:gU)(ts:T Value)(ds:List Deferred)(m:FrameMode)(h:IH)(K:iP->IH->Prop):Prop:=
 ∀β w (F:Frame) cs fn,kz P β->WR P β h w->MR β m F.mode->sH β ds F.defers->(∀i,VR β (dF ts i) (F.tmps.getD i undef))->P.funcs[F.fn]? =some fn->tX P fn=some cf->
  ∃r h' β' w' F1 r',K r h'/\WR P β' h' w'/\Eff β h w β' h' w'/\RR β' r r'/\Steps P (lone F cs w) (lone F1 cs w')/\F1.kind=F.kind/\F1.fn=F.fn/\F1.going P w' r'
theorem mG.call{q:gD}{h:IH}{K:KR}(hM:mG P q h K)(hq:q.pm=none){β:aC}{w:World}{fn':Fn}{args' cap':List Value}(hG:kz P β)(hW:WR P β h w)(hf:FR β q.fn fn')(ha:aZ β q.args args')(hc:aZ β q.captured cap'):
 ∃nx F0,(invoke (.fn fn' ⟨cap'⟩) ⟨args'⟩).run P w=.ok nx w/\entry P .normal nx=some F0/\
  ∀c rest,∃r h' β' w' r',K r none h'/\WR P β' h' w'/\Eff β h w β' h' w'/\RR β' r r'/\Steps P (lone F0 (c::rest) w) (lone (recv c r') rest w'):=by
 obtain⟨nx,F0,h1,h2,h3⟩:=hM β w fn' args' cap' hG hW hf ha hc;rw[hq]at h2;refine⟨nx,F0,h1,h2,λc rest=>?_⟩;obtain⟨r,pm',h',β',w',r',cs1,q1,q2,q3,q4,q5,q6⟩:=h3 (c::rest) (by rw[hq];simp);rw[hq]at q5;cases q5;refine⟨r,h',β',w',r',q1,q2,q3,q4,?_⟩;rcases q6 with⟨f,args,F1,_,s1,s2,s3,s4⟩|⟨_,s1⟩
 ·rw[hq]at s3;refine s1.trans (.one ?_);cases q4 with
  |ok hv=>
   obtain⟨t1,t2,fn,t3,t4⟩:=s4;exact step_leave_returned ⟨t1,t2,s3,fn,t3,t4⟩
  |fJ hch=>
   obtain⟨t1,t2,fn,t3⟩:=s4;exact step_leave_panicked ⟨t1,t2,fn,t3⟩
 ·exact s1 c rest rfl
section
variable {ds:List Tmp} {a:aV} {h:IH} {K:KO}
theorem YF(hk:K .normal a h):nK P ds [] a h K:=by
 intro ops bO hv rest done S hp hds β0 h0 w0 jA jg cs0 β w b tm df k cs ρ hG hdom hcx hI hR hcs hro;cases rest with
 |cons i rest=>obtain⟨_,s,re,r,hl,_⟩:=hp;cases hl
 |nil=>
  obtain⟨β',w',tm',s1,s0,s2,s3,s4⟩:=Inv.finish hG hdom hp.2 b k cs ρ S β w tm hI hR;exact⟨.normal,a,h,β',w',tm',df,cs,hk,s3,s4,s2,hcs.mono s0,hro,s1⟩
variable{s:bT}{l:List bT}
theorem come{ops:Array Oper}{bO:Nat->Nat->Bool}{hv:Nat->Bool}{i:Nat}{rest done S:List Nat}(hp:ym P ops bO hv (i::rest) done (s::l))(jG:hv i=true)
 {β0:aC} {h0:IH} {w0:World} (hG:kz P β0) (hdom:∀i g,β0 i=some g->i<h0.next) {β:aC} {w:World} {tm:Array Value} {df:List Deferred} (hI:Inv P ops hv bO β0 h0 w0 done S β a h w tm df) {ρ:List Nat} (hR:um ops bO S ρ) (b:Frame) (k:List Item) (cs:List Frame):
 ∃o S' β' w' tm' ρ',ops[i]? =some o/\cop P o=some s.s.op/\s.s.dst=o.dst/\Steps P (lone (fr b tm df (.inRegion ops ρ::k)) cs w) (lone (fr b tm' df (.inRegion ops (i::ρ')::k)) cs w')/\β.le β'/\Inv P ops hv bO β0 h0 w0 done S' β' a h w' tm' df/\
  um ops bO (i::S') ρ'/\ul ops bO hv done i/\ym P ops bO hv rest (i::done) l/\(∀j,bO i j=true->j∈S')/\(∀r,a.wants s.s.guard=some r->Region.wanted o (yielded ops tm')=r)/\kz P β'/\(∀x∈o.op.operands,VR β' (a.eval x) (Act.eval ⟨tm',df⟩ x))/\
  (∀j∈done,j∉S'->∀t,jM P ops j=some t->Bd t.op=true->t∈s.re):=by
 obtain⟨hstep,s1,re,r,hl,hcs,_,hre,lD⟩:=hp;simp only[AZ]at hl;obtain⟨rfl,rfl⟩:=hl;obtain⟨o,ho,gq,hdst,uo,hgd⟩:=nX hcs;obtain⟨S',β',w',tm',ρ',t1,t0,t2,t3⟩:=Inv.flush hG hdom hstep jG (λx hx hxd hxi Bt=>YA P ops bO hv rest (i::done) l lD i vm jG x hx (by simp[hxd,hxi]) Bt) b k cs ρ S β w tm hI hR;obtain⟨r1,r2,r3,r4⟩:=t3;have Qg:∀t,t∈looks ops o->¬waits ops done S' t:=by
  rintro t ht ⟨y,p,hy,hys,hp',kD⟩;exact hys (r3 y (hstep.look o ho y hy p hp' t kD ht))
 have hG':kz P β':=hG.le (t2.sJ.le hdom);refine⟨o,S',β',w',tm',ρ',ho,gq,hdst,t1,t0,t2,r4,hstep,lD,r3,λr hr=>Gl hgd t2.act Qg hr,hG',λx hx=>t2.act.eval hG' (uo x hx) λt ht=>Qg t (DJ (.inl ⟨x,hx,ht⟩)),?_⟩;intro j hj hjs t ht hrd;have hb:bO i j=false:=by
  cases hh:bO i j with
  |false=>rfl
  |true=>exact absurd (r3 j hh) hjs
 exact hre jG j hj (t2.KQ hj hjs) hb t ht hrd
theorem YG(hw:a.wants s.s.guard=some false)(ih:nK P ds l (a.put s.s.dst si) h K):nK P ds (s::l) a h K:=by
 intro ops bO hv rest done S hp hds β0 h0 w0 jA jg cs0 β w b tm df k cs ρ hG hdom hcx hI hR hcs hro;cases rest with
 |nil=>cases hp.1
 |cons i rest=>
  cases jG:hv i with
  |false=>
   obtain⟨hstep,s1,re,r,hl,hc1,hlt,_,lD⟩:=hp;simp only[AZ]at hl;obtain⟨rfl,rfl⟩:=hl;obtain⟨o,ho,_⟩:=nX hc1;have hI2:=hI.ahead hstep jG ho hc1 (hlt jG) (.inl ⟨hw,rfl,rfl⟩);exact mA
  |true=>
   obtain⟨o,S',β',w',tm',ρ',ho,gq,hdst,t1,t0,t2,r4,hstep,lD,hpre,hwant,hG',qX,hrr⟩:=come hp jG hG hdom hI hR b k cs;have hs:=P5 (P:=P) (b:=b) (tm:=tm') (df:=df) (k:=k) (cs:=cs) (w:=w') (ops:=ops) (i:=i) (rest:=ρ') (by simp[ho,hwant _ hw]);rw[ho]at hs;simp only[iV]at hs;have hI2:=t2.sync hstep ho hpre (Eff.refl _ _ _ t2.wr.dom) t2.wr (v:=si) (v':=undef) .skip (a2:=a.put s.s.dst si) (λt=>by rw[hdst]) (pG _ _ _) (df2:=df) A2 (.inl rfl);exact iv
theorem YH(hw:a.wants s.s.guard=some true)(v:Value)(h':IH)(hr:s.s.op.run P a.eval h=some (v,h'))
 (hre:∀r∈s.re,(a.put s.s.dst v).wants r.guard≠some false->∃u h2,r.op.run P (a.put s.s.dst v).eval h'=some (u,h2)/\∀d,r.dst=some d->dF (a.put s.s.dst v).tmps d=u)
 (ih:nK P ds l (a.put s.s.dst v) h' K):nK P ds (s::l) a h K:=by
 intro ops bO hv rest done S hp hds β0 h0 w0 jA jg cs0 β w b tm df k cs ρ hG hdom hcx hI hR hcs hro;cases rest with
 |nil=>cases hp.1
 |cons i rest=>
  cases jG:hv i with
  |false=>
   obtain⟨hstep,s1,re,r,hl,hc1,hlt,_,lD⟩:=hp;simp only[AZ]at hl;obtain⟨rfl,rfl⟩:=hl;obtain⟨o,ho,_⟩:=nX hc1;have hI2:=hI.ahead hstep jG ho hc1 (hlt jG) (.inr ⟨hw,hr⟩);exact mA
  |true=>
   obtain⟨o,S',β',w',tm',ρ',ho,gq,hdst,t1,t0,t2,r4,hstep,lD,hpre,hwant,hG',qX,hrr⟩:=come hp jG hG hdom hI hR b k cs;obtain⟨nx,w2,β2,v',g1,g2,g3,g4,g5⟩:=PY (ρ':=Act.eval ⟨tm',df⟩) gq qX hr t2.wr;have hnd:∀c,o.op≠.defer c:=by
    intro cl hcl;obtain⟨dd,op,ty,ps,af,gd⟩:=o;simp only at hcl;subst hcl;obtain⟨callee,args,ats⟩:=cl;cases callee with
    |value f=>simp only[cop,aA]at gq;rw[<- gq]at hr;cases hr
    |invoke x n=>simp[cop]at gq
    |builtin bb=>simp[cop]at gq
   have hs:=Gj (P:=P) (b:=b) (k:=k) (cs:=cs) (rest:=ρ') ho (hwant _ hw) (.inr hnd) g1 g2;have hle:=g5.le t2.wr.dom;have hI2:=t2.sync hstep ho hpre g5 g4 g3 (a2:=a.put s.s.dst v) (λt=>by rw[hdst]) (pG _ _ _) (df2:=df) CH
    (.inr λj hj hjs t ht hrd hwt=>hre t (hrr j hj hjs t ht hrd) hwt)
   exact .of_steps (t1.trans (.one hs)) (ih ops bO hv rest (i::done) (i::S') lD hds β0 h0 w0 jA jg cs0 β2 w2 b _ df k cs ρ' hG hdom hcx hI2 r4 (by rw[uq];exact(hcs.mono t0).mono hle) y6)
end
end Go.Ideal
namespace Go.Ideal
section
variable (P:Program)
mutual
inductive EV:dB->aV->IH->KO->Prop
 |skip {a:aV} {h:IH} {K:KO} (hk:K .normal a h):EV .skip a h K
 |ops {ds:List Tmp} {l:List bT} {a:aV} {h:IH} {K:KO} (ho:aG ds l a h K):EV (.ops ds l) a h K
 |seq {x y:dB} {a:aV} {h:IH} {K:KO} (M:KO) (h1:EV x a h M) (h2:∀a' h',M .normal a' h'->EV y a' h' K)
   (h3:∀o a' h',M o a' h'->o≠.normal->K o a' h'):EV (.seq x y) a h K
 |K5 {c:Operand} {x y:dB} {a:aV} {h:IH} {K:KO} (hc:a.eval c=.bool true) (h1:EV x a h K):EV (.cond c x y) a h K
 |K6 {c:Operand} {x y:dB} {a:aV} {h:IH} {K:KO} (hc:a.eval c=.bool false) (h1:EV y a h K):EV (.cond c x y) a h K
 |block {id:Nat} {c:dB} {a:aV} {h:IH} {K:KO} (M:KO) (h1:EV c a h M) (h2:∀o a' h',M o a' h'->K (inBlock id o) a' h'):EV (.block id c) a h K
 |loop {c:dB} {a:aV} {h:IH} {K:KO} (M:KO) (h1:EV c a h M) (h2:∀a' h',M .normal a' h'->EV (.loop c) a' h' K)
   (h3:∀o a' h',M o a' h'->o≠.normal->K o a' h'):EV (.loop c) a h K
 |scope {c:dB} {a:aV} {h:IH} {K:KO} (h1:EV c a h K):EV (.scope c) a h K
 |exit {id:Nat} {a:aV} {h:IH} {K:KO} (hk:K (.exit id) a h):EV (.exit id) a h K
 |ret {a:aV} {h:IH} {K:KO} (hk:K .ret a h):EV .ret a h K
 |rangeFunc {f:Operand} {ps:List Tmp} {assign body:dB} {a:aV} {h:IH} {K:KO} (fn:Fn) (first captured:List Value)
   (hf:a.eval f=.func fn ⟨first⟩ ⟨captured⟩) (a1:aV) (h1:IH) (r:Nat)
   (hr:(a.ro=none/\a1={a with defers:={target:=.collected h.next,args:= #[]}::a.defers}/\h1=h.new (.iY true)/\r=h.next)\/
     (∃l0 r0,a.ro=some l0/\a1=a/\h1=h/\h.get l0=some (.loop r0)/\r=r0.defers))
   (M:KR)
   (hc:CALL ⟨fn,jY first [.func (.yield h1.next) #[] #[]],captured,none⟩
     (h1.new (.loop {state:=.ready,pending:=none,tmps:=a.tmps,n:=a.n,params:=ps,assign,body,defers:=r})) M)
   (hok:∀v pm h2,M (.ok v) pm h2->∃lp,h2.get h1.next=some (.loop lp)/\lp.state≠.busy/\K (lp.pending.getD .normal) a1 (h2.set h1.next (.loop {lp with state:=.exhausted})))
   (jH:∀ch pm h2,M (.fJ ch) pm h2->K (.panic ch) a1 h2):EV (.rangeFunc f ps assign body) a h K
 |weaken {c:dB} {a:aV} {h:IH} {K:KO} (a0:aV) (hw:∀i,dF a0.tmps i=dO\/dF a0.tmps i=dF a.tmps i)
   (hn:a0.n=a.n/\a0.defers=a.defers/\a0.pm=a.pm/\a0.ro=a.ro) (h1:EV c a0 h K):EV c a h K
inductive aG:List Tmp->List bT->aV->IH->KO->Prop
 |nil {ds:List Tmp} {a:aV} {h:IH} {K:KO} (hk:K .normal a h):aG ds [] a h K
 |skip {ds:List Tmp} {s:bT} {l:List bT} {a:aV} {h:IH} {K:KO} (hw:a.wants s.s.guard=some false) (h1:aG ds l (a.put s.s.dst si) h K):aG ds (s::l) a h K
 |kW {ds:List Tmp} {s:bT} {l:List bT} {a:aV} {h:IH} {K:KO} (hw:a.wants s.s.guard=some true) (v:Value) (h':IH) (hr:s.s.op.run P a.eval h=some (v,h'))
   (hs:∀r∈s.re,(a.put s.s.dst v).wants r.guard≠some false->∃u h2,r.op.run P (a.put s.s.dst v).eval h'=some (u,h2)/\∀d,r.dst=some d->dF (a.put s.s.dst v).tmps d=u)
   (h1:aG ds l (a.put s.s.dst v) h' K):aG ds (s::l) a h K
 |call {ds:List Tmp} {s:bT} {l:List bT} {a:aV} {h:IH} {K:KO} (hw:a.wants s.s.guard=some true) (q:gD) (hq:wH s.s.op a.eval=some q) (M:KR) (hc:CALL q h M)
   (hs:∀v pm h',M (.ok v) pm h'->∀r∈s.re,(a.put s.s.dst v).wants r.guard≠some false->∃u h2,r.op.run P (a.put s.s.dst v).eval h'=some (u,h2)/\∀d,r.dst=some d->dF (a.put s.s.dst v).tmps d=u)
   (hok:∀v pm h',M (.ok v) pm h'->aG ds l (a.put s.s.dst v) h' K)
   (jH:∀ch pm h',M (.fJ ch) pm h'->K (.panic ch) (forget ds a) h'):aG ds (s::l) a h K
 |Qh {ds:List Tmp} {s:bT} {l:List bT} {a:aV} {h:IH} {K:KO} (hw:a.wants s.s.guard=some true) (ho:s.s.op=.recover) (hre:s.re=[]) (hm:a.pm=none) (hro:a.ro=none)
   (h1:aG ds l (a.put s.s.dst .nilIface) h K):aG ds (s::l) a h K
 |recoverD {ds:List Tmp} {s:bT} {l:List bT} {a:aV} {h:IH} {K:KO} (hw:a.wants s.s.guard=some true) (ho:s.s.op=.recover) (hre:s.re=[]) (m:FrameMode) (hm:a.pm=some m) (hro:a.ro=none)
   (h1:aG ds l ({a with pm:=some (jy m).2}.put s.s.dst (jy m).1) h K):aG ds (s::l) a h K
 |panic {ds:List Tmp} {s:bT} {l:List bT} {a:aV} {h:IH} {K:KO} (hw:a.wants s.s.guard=some true) (x:Operand) (ho:s.s.op=.panic x) (t:TypeId) (v:Value) (hx:a.eval x=.iface t v)
   (hk:K (.panic [{v:=.iface t v,recovered:=false}]) (forget ds a) h):aG ds (s::l) a h K
 |defer {ds:List Tmp} {s:bT} {l:List bT} {a:aV} {h:IH} {K:KO} (hw:a.wants s.s.guard=some true) (f:Operand) (args:List Operand) (ho:s.s.op=.dcall f args) (hre:s.re=[]) (hro:a.ro=none)
   (fn:Fn) (first captured:List Value) (hf:a.eval f=.func fn ⟨first⟩ ⟨captured⟩)
   (h1:aG ds l ({a with defers:={target:=.fn fn ⟨captured⟩,args:=⟨jY first (lT a.eval args)⟩}::a.defers}.put s.s.dst dO) h K):aG ds (s::l) a h K
 |next {ds:List Tmp} {s:bT} {l:List bT} {a:aV} {h:IH} {K:KO} (hw:a.wants s.s.guard=some true) (x:Operand) (ho:s.s.op=.wC x) (hre:s.re=[]) (alts:List (Value×IH))
   (ha:zz (a.eval x) h=some alts) (h1:∀vh∈alts,aG ds l (a.put s.s.dst vh.1) vh.2 K):aG ds (s::l) a h K
inductive LEAVE:gU->T Value->List Deferred->FrameMode->IH->(iP->IH->Prop)->Prop
 |ret {cf:gU} {ts:T Value} {h:IH} {K:iP->IH->Prop} (v:Value) (hv:qh cf.results ts h=some v) (hk:K (.ok v) h):LEAVE cf ts [] .returning h K
 |fJ {cf:gU} {ts:T Value} {h:IH} {K:iP->IH->Prop} (ch:List PanicEntry) (hk:K (.fJ ch) h):LEAVE cf ts [] (.panicking ch) h K
 |coll {cf:gU} {ts:T Value} {args:Array Value} {ds:List Deferred} {m:FrameMode} {h:IH} {K:iP->IH->Prop} (hm:m≠.run) (r:Nat) (hr:h.get r=some (.iY true))
   (h1:LEAVE cf ts ds m (h.set r (.iY false)) K):LEAVE cf ts ({target:=.collected r,args}::ds) m h K
 |call {cf:gU} {ts:T Value} {fn:Fn} {captured args:List Value} {ds:List Deferred} {m:FrameMode} {h:IH} {K:iP->IH->Prop} (hm:m≠.run) (M:KR)
   (hc:CALL ⟨fn,args,captured,some m⟩ h M)
   (hpm:∀r pm h',M r pm h'->pm≠none)
   (hok:∀v m' h',M (.ok v) (some m') h'->LEAVE cf ts ds (xY m') h' K)
   (jH:∀ch m' h',M (.fJ ch) (some m') h'->LEAVE cf ts ds (Be m' ch) h' K):LEAVE cf ts ({target:=.fn fn ⟨captured⟩,args:=⟨args⟩}::ds) m h K
inductive CALL:gD->IH->KR->Prop
 |enter {q:gD} {h:IH} {K:KR} (f:FuncId) (args:List Value) (ht:target P q=some (f,args)) (fn:Func) (hf:P.funcs[f]? =some fn) (cf:gU) (hcf:tX P fn=some cf)
   (M:KO) (h1:EV cf.body (zy cf.ntmps args q.pm) h M)
   (h2:∀o a' h',M o a' h'->tY o≠none)
   (h3:∀o a' h' m,M o a' h'->tY o=some m->LEAVE cf a'.tmps a'.defers m h' λr h''=>K r a'.pm h''):CALL q h K
 |round {q:gD} {h:IH} {K:KR} (l:Nat) (hq:q.fn=.yield l) (hpm:q.pm=none) (r:oG) (hr:h.get l=some (.loop r)) (hargs:q.args.length=r.params.length)
   (M:KO) (h1:EV r.assign {n:=r.n,tmps:=tZ r.n r.params q.args r.tmps,defers:=[],pm:=none,ro:=some l} h M)
   (h2:∀o a' h',M o a' h'->o=.normal/\∃r1,h'.get l=some (.loop r1)/\r1.state=.ready)
   (h3:∀a' h' r1,M .normal a' h'->h'.get l=some (.loop r1)->
     EV r.body a' (h'.set l (.loop {r1 with state:=.busy})) λo a'' h''=>∃r2,h''.get l=some (.loop r2)/\a''.defers=[]/\
      match o with
      | .panic ch=>K (.fJ ch) none h''
      | .normal=>K (.ok (.bool true)) none (h''.set l (.loop {r2 with state:=.ready,pending:=none}))
      |o=>K (.ok (.bool false)) none (h''.set l (.loop {r2 with state:=.done,pending:=some o}))):CALL q h K
 |cut {q:gD} {h:IH} {K:KR} (cs:List Value) (n f:Nat) (hcs:fO cs=true) (hne:cs≠[]) (hf:f=0\/cs.length=n*f) (M:KR) (hc:CALL q {h with low:=h.next} M) (hq:q.pm=none)
   (h1:∀r pm h',M r pm h'->pm=none/\h'.low=h.next/\∃i o c,r=.ok (.slice (some ⟨i,o,some f⟩) n c)/\h.next<=i/\(f=0->c=n)/\h'.nT i o cs.length=some cs)
   (hk:K (.ok (.slice (some ⟨h.next,0,some f⟩) n n)) none (h.new (.cells cs))):CALL q h K
 |qY {q:gD} {h:IH} {K:KR} (M:KR) (hc:CALL q h M) (hk:∀r pm h',M r pm h'->K r pm h'):CALL q h K
 |forget {q:gD} {h:IH} {K:KR} (M:KR) (hc:CALL q h M)
   (hk:∀r pm h',M r pm h'->∃h'',h''.next=h'.next/\h''.low=h'.low/\(∀i,h''.get i=h'.get i\/(h.next<=i/\h''.get i=none))/\K r pm h''):CALL q h K
 |memo {q:gD} {h:IH} {K:KR} (h0:IH) (v:Value) (hv:bY v=true) (hq:q.pm=none) (hfn:nH h0.next (.func q.fn ⟨q.args⟩ ⟨q.captured⟩)=true)
   (hnext:h0.next<=h.next) (hgl:P.globals.size<=h0.next)
   (hsub:∀i o,h0.get i=some o->i<h0.next/\h.get i=some o/\De h0.next o=true)
   (M:KR) (hc:CALL q h0 M) (h1:∀r pm h',M r pm h'->pm=none/\r=.ok v/\h'.low=h0.next)
   (hk:K (.ok v) none h):CALL q h K
 /-- a call that is known of the model itself -/
 |real {q:gD} {h:IH} {K:KR} (hm:mG P q h K):CALL q h K
end
end
end Go.Ideal
namespace Go.Ideal
variable {P:Program}
variable{o:Oper}{args:List Operand}{f:Operand}
theorem YI(hc:cop P o=some (.call f args)):∃cl,o.op=.call cl/\cl.callee=.value f/\cl.args.toList=args:=by
 obtain⟨dst,op,type,pos,after,guard⟩:=o;simp only[cop]at hc;repeat' split at hc
 all_goals first
  |contradiction
  |(cases hc;done)
  |(simp only[aA,reduceCtorEq]at hc;done)
  |(simp only[jV,reduceCtorEq,and_false,exists_false]at hc;done)
  |(simp only[aA,aB.call.injEq]at hc
    obtain⟨rfl,rfl⟩:=hc;exact⟨_,rfl,rfl,rfl⟩)
variable{x:Operand}
theorem YJ{n:String}(hc:cop P o=some (.invoke x n args)):∃cl,o.op=.call cl/\cl.callee=.invoke x n/\cl.args.toList=args:=by
 obtain⟨dst,op,type,pos,after,guard⟩:=o;simp only[cop]at hc;repeat' split at hc
 all_goals first
  |contradiction
  |(cases hc;done)
  |(simp only[aA,reduceCtorEq]at hc;done)
  |(simp only[jV,reduceCtorEq,and_false,exists_false]at hc;done)
  |(simp only[aA,aB.invoke.injEq]at hc
    obtain⟨rfl,rfl,rfl⟩:=hc;exact⟨_,rfl,rfl,rfl⟩)
theorem YK(hc:cop P o=some .recover):∃cl,o.op=.call cl/\cl.callee=.builtin .recover:=by
 obtain⟨dst,op,type,pos,after,guard⟩:=o;simp only[cop]at hc;repeat' split at hc
 all_goals first
  |contradiction
  |(cases hc;done)
  |(simp only[aA,reduceCtorEq]at hc;done)
  |(simp only[jV,reduceCtorEq,and_false,exists_false]at hc;done)
  |exact⟨_,rfl,rfl⟩
theorem YL(hc:cop P o=some (.panic x)):o.op=.panic x\/∃cl,o.op=.call cl/\cl.callee=.builtin .panic/\cl.args.toList=[x]:=by
 obtain⟨dst,op,type,pos,after,guard⟩:=o;simp only[cop]at hc;repeat' split at hc
 all_goals first
  |contradiction
  |(cases hc;done)
  |(simp only[aA,reduceCtorEq]at hc;done)
  |(simp only[jV,reduceCtorEq,and_false,exists_false]at hc;done)
  |(simp only[aA,aB.panic.injEq]at hc;subst hc;exact .inl rfl)
  |(simp only[aA,aB.panic.injEq]at hc;subst hc;exact .inr ⟨_,rfl,rfl,by assumption⟩)
theorem YM(hc:cop P o=some (.dcall f args)):∃cl,o.op=.defer cl/\cl.callee=.value f/\cl.args.toList=args:=by
 obtain⟨dst,op,type,pos,after,guard⟩:=o;simp only[cop]at hc;repeat' split at hc
 all_goals first
  |contradiction
  |(cases hc;done)
  |(simp only[aA,reduceCtorEq]at hc;done)
  |(simp only[jV,reduceCtorEq,and_false,exists_false]at hc;done)
  |(simp only[aA,aB.dcall.injEq]at hc
    obtain⟨rfl,rfl⟩:=hc;exact⟨_,rfl,rfl,rfl⟩)
theorem YN(hc:cop P o=some (.wC x)):o.op=.next x false:=by
 obtain⟨dst,op,type,pos,after,guard⟩:=o;simp only[cop]at hc;repeat' split at hc
 all_goals first
  |contradiction
  |(cases hc;done)
  |(simp only[aA,reduceCtorEq]at hc;done)
  |(simp only[jV,reduceCtorEq,and_false,exists_false]at hc;done)
  |(simp only[aA,aB.wC.injEq]at hc;subst hc;rfl)
variable{c:aB}{q:gD}{β:aC}{ρ:Operand->Value}
theorem YO{ρ':Operand->Value}(hc:cop P o=some c)(hq:wH c ρ=some q)(hρ:∀x∈o.op.operands,VR β (ρ x) (ρ' x)):
 q.pm=none/\∃fn' args' cap',FR β q.fn fn'/\aZ β q.args args'/\aZ β q.captured cap'/\(∀w,(execOp ρ' o).run P w=(invoke (.fn fn' ⟨cap'⟩) ⟨args'⟩).run P w)/\∃cl,o.op=.call cl:=by
 unfold wH at hq;split at hq
 ·rename_i f args;obtain⟨cl,h1,h2,h3⟩:=YI hc;obtain⟨callee,kE,ats⟩:=cl;simp only at h2 h3;subst h2 h3;have hops:∀x∈(Op.call {callee:=.value f,args:=kE,argTypes:=ats}).operands,VR β (ρ x) (ρ' x):=by rw[<- h1];exact hρ
  have hf:=hops f B4;have ha:∀x∈kE.toList,VR β (ρ x) (ρ' x):=λx hx=>hops x Ds;split at hq
  ·rename_i fn first captured wQ
   simp only[aA]at hq;subst hq;rw[wQ]at hf;obtain⟨fn',f',c',k1,k2,k3,k4⟩:=hf.zI;refine⟨rfl,fn',f'++kE.toList.map ρ',c',k1,?_,k3,λw=>?_,_,h1⟩
   ·show aZ β (jY first (lT ρ kE.toList)) _;rw[jF];exact k2.append (aZ.of_map ha)
   ·obtain⟨dst,op,type,pos,after,guard⟩:=o;simp only at h1;subst h1;have he:(⟨f'⟩:Array Value)++kE.map ρ'=⟨f'++kE.toList.map ρ'⟩:=by apply Array.ext';simp
    simp only[execOp,resolve,k4,Deferred.ofValue,dz,eX,dD,he]
  ·cases hq
 ·rename_i x name args;obtain⟨cl,h1,h2,h3⟩:=YJ hc;obtain⟨callee,kE,ats⟩:=cl;simp only at h2 h3;subst h2 h3;have hops:∀y∈(Op.call {callee:=.invoke x name,args:=kE,argTypes:=ats}).operands,VR β (ρ y) (ρ' y):=by rw[<- h1];exact hρ
  have hx:=hops x B4;have ha:∀x∈kE.toList,VR β (ρ x) (ρ' x):=λx hx=>hops x Ds;simp only[aA]at hq;subst hq;refine⟨rfl,.method name,ρ' x::kE.toList.map ρ',[],.method name,.cons hx (aZ.of_map ha),.nil,λw=>?_,_,h1⟩;obtain⟨dst,op,type,pos,after,guard⟩:=o;simp only at h1;subst h1;have he:(#[ρ' x]:Array Value)++kE.map ρ'=⟨ρ' x::kE.toList.map ρ'⟩:=zc
  simp only[execOp,resolve,dz,eX,dD,he]
 ·cases hq
theorem YP(hq:wH c ρ=some q):heavy c=true:=by
 unfold wH at hq;split at hq
 ·rfl
 ·rfl
 ·cases hq
theorem YQ(d:Tmp)(ds:List Tmp)(a:aV):forget (d::ds) a=forget ds (a.set d dO):=rfl
theorem K7(ds:List Tmp):∀(a:aV),(∀i,a.n<=i->dF a.tmps i=dO)->(forget ds a).n=a.n/\(forget ds a).defers=a.defers/\(forget ds a).pm=a.pm/\(forget ds a).ro=a.ro/\(∀i,a.n<=i->dF (forget ds a).tmps i=dO)/\
 ∀t,dF (forget ds a).tmps t=dO\/(t∉ds/\dF (forget ds a).tmps t=dF a.tmps t):=by
 induction ds with
 |nil=>intro a ho;exact⟨rfl,rfl,rfl,rfl,ho,λt=>.inr ⟨vm,rfl⟩⟩
 |cons d ds ih=>
  intro a ho;rw[YQ];have hput:a.set d dO=a.put (some d) dO:=rfl;have ho2:∀i,(a.set d dO).n<=i->dF (a.set d dO).tmps i=dO:=λi hi=>by
   rw[hput,pG]at hi;rw[hput,sK,if_neg (λhc=>by have:=hc.2;omega)];exact ho i hi
  obtain⟨h1,h2,h3,h4,h5,h6⟩:=ih (a.set d dO) ho2;rw[hput,pG]at h1 h5;rw[hput,put_defers]at h2;rw[hput,uq]at h3;rw[hput,uu]at h4;refine⟨h1,h2,h3,h4,h5,λt=>?_⟩;rcases h6 t with e|⟨e1,e2⟩
  ·exact .inl e
  ·rw[hput,sK]at e2;by_cases hd:some d=some t/\t<a.n
   ·rw[if_pos hd]at e2;exact .inl e2
   ·rw[if_neg hd]at e2;by_cases hdt:d=t
    ·subst hdt;have hge:a.n<=d:=Nat.le_of_not_lt λhh=>hd ⟨rfl,hh⟩;exact .inl (e2.trans (ho d hge))
    ·refine .inr ⟨?_,e2⟩;intro hc;rcases dH.1 hc with e|e
     ·exact hdt e.symm
     ·exact e1 e
theorem AR.forget{X:Nat->Prop}{a:aV}{tm:Array Value}{df:List Deferred}(k:AR β X a tm df){ds:List Tmp}(h:∀t,X t->t∈ds):AR β none' (Ideal.forget ds a) tm df:=by
 obtain⟨h1,h2,h3,h4,h5,h6⟩:=K7 ds a k.out;refine⟨by rw[h1];exact k.size,λt _=>?_,by rw[h1];exact h5,by rw[h2];exact k.defers⟩;rcases h6 t with e|⟨e1,e2⟩
 ·rw[e];exact .dO _
 ·rw[e2];exact k.tmps t λhx=>e1 (h t hx)
section
variable {ds:List Tmp} {a:aV} {h:IH} {K:KO}
variable{s:bT}{l:List bT}
theorem Bw{ops:Array Oper}{bO:Nat->Nat->Bool}{hv:Nat->Bool}{i:Nat}{rest done:List Nat}(hp:ym P ops bO hv (i::rest) done (s::l))(hh:heavy s.s.op=true):hv i=true:=by
 obtain⟨_,s1,re,r,hl,_,hlt,_⟩:=hp;simp only[AZ]at hl;obtain⟨rfl,rfl⟩:=hl;cases jG:hv i with
 |true=>rfl
 |false=>rw[hlt jG]at hh;cases hh
theorem YR(hw:a.wants s.s.guard=some true)(q:gD)(hq:wH s.s.op a.eval=some q)(M:KR)(hc:mG P q h M)
 (hre:∀v pm h',M (.ok v) pm h'->∀r∈s.re,(a.put s.s.dst v).wants r.guard≠some false->∃u h2,r.op.run P (a.put s.s.dst v).eval h'=some (u,h2)/\∀d,r.dst=some d->dF (a.put s.s.dst v).tmps d=u)
 (ih:∀v pm h',M (.ok v) pm h'->nK P ds l (a.put s.s.dst v) h' K)
 (jH:∀ch pm h',M (.fJ ch) pm h'->K (.panic ch) (forget ds a) h'):nK P ds (s::l) a h K:=by
 intro ops bO hv rest done S hp hds β0 h0 w0 jA jg cs0 β w b tm df k cs ρ hG hdom hcx hI hR hcs hro;cases rest with
 |nil=>cases hp.1
 |cons i rest=>
  have jG:=Bw hp (YP hq);obtain⟨o,S',β',w',tm',ρ',ho,gq,hdst,t1,t0,t2,r4,hstep,lD,hpre,hwant,hG',qX,hrr⟩:=come hp jG hG hdom hI hR b k cs;obtain⟨YS,fn',args',cap',k1,k2,k3,k4,cl,k5⟩:=YO (ρ':=Act.eval ⟨tm',df⟩) gq hq qX;have hnd:∀c,o.op≠.defer c:=by rw[k5];simp
  obtain⟨nx,F0,n1,n2,n3⟩:=hc.call YS hG' t2.wr k1 k2 k3;rw[<- k4]at n1
  -- the callee is entered
  have henter:step P (lone (fr b tm' df (.inRegion ops (i::ρ')::k)) cs w')=.next (lone F0 (fr b tm' df (.inRegion ops (i::ρ')::k)::cs) w'):=by
   cases nx<;>simp only[entry,aA,reduceCtorEq]at n2
   ·subst n2;exact Yr ho (hwant _ hw) (.inr hnd) n1
   ·subst n2;exact Yt ho (hwant _ hw) (.inr hnd) n1
  obtain⟨r,h',β2,w2,r',q1,q2,q3,q4,q5⟩:=n3 (fr b tm' df (.inRegion ops (i::ρ')::k)) cs;have hle:=q3.le t2.wr.dom;cases q4 with
  | @ok v v' hvv=>
    have hfin:recv (fr b tm' df (.inRegion ops (i::ρ')::k)) (.returned v')=fr b (oI tm' o.dst v') df (.inRegion ops ρ'::k):=by
     have:=DD (b:=b) (tm:=tm') (df:=df) (k:=k) (ops:=ops) (i:=i) (rest:=ρ') (v:=v');rw[ho]at this;exact this
    rw[hfin]at q5;have hI2:=t2.sync hstep ho hpre q3 q2 hvv (a2:=a.put s.s.dst v) (λt=>by rw[hdst]) (pG _ _ _) (df2:=df) CH
     (.inr λj hj hjs t ht hrd hwt=>hre v none h' q1 t (hrr j hj hjs t ht hrd) hwt)
    exact .of_steps (t1.trans (.head henter q5)) (ih v none h' q1 ops bO hv rest (i::done) (i::S') lD hds β0 h0 w0 jA jg cs0 β2 w2 b _ df k cs ρ' hG hdom hcx hI2 r4 (by rw[uq];exact(hcs.mono t0).mono hle) y6)
  | @fJ ch ch' hch=>
    have hx:∀t,waits ops done S' t->t∈ds:=by
     rintro t ⟨y,p,_,_,hp',kD⟩;exact hds y p t hp' kD
    obtain⟨f1,f2,f3,f4,_,_⟩:=K7 ds a t2.act.out;refine .of_steps (t1.trans (.head henter q5)) ⟨.panic ch,forget ds a,h',β2,w2,tm',df,cs,jH ch none h' q1,q2,t2.sJ.trans q3,(t2.act.forget hx).mono hle,by rw[f3];exact(hcs.mono t0).mono hle,by rw[f4];exact hro,.inRegion ops (i::ρ')::k,ch',hch,?_⟩;exact Steps.refl P _
theorem YT(hw:a.wants s.s.guard=some true)(x:Operand)(hop:s.s.op=.panic x)(t:TypeId)(v:Value)(hx:a.eval x=.iface t v)
 (hk:K (.panic [{v:=.iface t v,recovered:=false}]) (forget ds a) h):nK P ds (s::l) a h K:=by
 intro ops bO hv rest done S hp hds β0 h0 w0 jA jg cs0 β w b tm df k cs ρ hG hdom hcx hI hR hcs hro;cases rest with
 |nil=>cases hp.1
 |cons i rest=>
  have jG:=Bw hp AD;obtain⟨o,S',β',w',tm',ρ',ho,gq,hdst,t1,t0,t2,r4,hstep,lD,hpre,hwant,hG',qX,hrr⟩:=come hp jG hG hdom hI hR b k cs;rw[hop]at gq;have hrun:∃v',VR β' v v'/\(execOp (Act.eval ⟨tm',df⟩) o).run P w'=.halt (.panic (.iface t v')) w'/\∀c,o.op≠.defer c:=by
   rcases YL gq with h1|⟨cl,h1,h2,h3⟩
   ·have hxv:=qX x (by rw[h1];simp[Op.operands]);rw[hx]at hxv;obtain⟨v',hv',he⟩:=hxv.zH;refine⟨v',hv',?_,by rw[h1];simp⟩;obtain⟨dst,op,type,pos,after,guard⟩:=o;simp only at h1;subst h1;simp[execOp,he,Instr.panic]
   ·obtain⟨callee,kE,ats⟩:=cl;simp only at h2 h3;subst h2
    have hxv:=qX x (by rw[h1];simp only[Op.operands,Call.operands,xQ];right;have:x∈kE.toList:=by rw[h3];simp
                       simpa using this)
    rw[hx]at hxv;obtain⟨v',hv',he⟩:=hxv.zH;obtain rfl:kE= #[x]:=by apply Array.ext';exact h3
    refine⟨v',hv',?_,by rw[h1];simp⟩;obtain⟨dst,op,type,pos,after,guard⟩:=o;simp only at h1;subst h1;rw[yj];simp[builtin,he,Instr.panic]
  obtain⟨v',hv',hr,hnd⟩:=hrun;have hs:=Yu (P:=P) (b:=b) (k:=k) (cs:=cs) (rest:=ρ') ho (hwant _ hw) (.inr hnd) hr;have YU:∀t,waits ops done S' t->t∈ds:=by
   rintro t ⟨y,p,_,_,hp',kD⟩;exact hds y p t hp' kD
  obtain⟨f1,f2,f3,f4,_,_⟩:=K7 ds a t2.act.out;exact .of_steps (t1.trans (.one hs)) ⟨_,forget ds a,h,β',w',tm',df,cs,hk,t2.wr,t2.sJ,t2.act.forget YU,by rw[f3];exact hcs.mono t0,by rw[f4];exact hro,.inRegion ops (i::ρ')::k,[{v:=.iface t v',recovered:=false}],.cons (.iface t hv') rfl rfl .nil,Steps.refl P _⟩
theorem YV(hw:a.wants s.s.guard=some true)(f:Operand)(args:List Operand)(hop:s.s.op=.dcall f args)(hre:s.re=[])(DN:a.ro=none)
 (fn:Fn) (first captured:List Value) (hf:a.eval f=.func fn ⟨first⟩ ⟨captured⟩)
 (ih:nK P ds l ({a with defers:={target:=.fn fn ⟨captured⟩,args:=⟨jY first (lT a.eval args)⟩}::a.defers}.put s.s.dst dO) h K):nK P ds (s::l) a h K:=by
 intro ops bO hv rest done S hp hds β0 h0 w0 jA jg cs0 β w b tm df k cs ρ hG hdom hcx hI hR hcs hro;cases rest with
 |nil=>cases hp.1
 |cons i rest=>
  have jG:=Bw hp AD;obtain⟨o,S',β',w',tm',ρ',ho,gq,hdst,t1,t0,t2,r4,hstep,lD,hpre,hwant,hG',qX,hrr⟩:=come hp jG hG hdom hI hR b k cs;rw[hop]at gq;obtain⟨cl,h1,h2,h3⟩:=YM gq;obtain⟨callee,kE,ats⟩:=cl;simp only at h2 h3;subst h2 h3;have hops:∀x∈(Op.defer {callee:=.value f,args:=kE,argTypes:=ats}).operands,VR β' (a.eval x) (Act.eval ⟨tm',df⟩ x):=by rw[<- h1];exact qX
  have wQ:=hops f B4;have K8:∀x∈kE.toList,VR β' (a.eval x) (Act.eval ⟨tm',df⟩ x):=λx hx=>hops x Ds;rw[hf]at wQ;obtain⟨fn',f',c',k1,k2,k3,k4⟩:=wQ.zI;have DR:b.roundOf=none:=by
   exact lB
  have hr:(execOp (Act.eval ⟨tm',df⟩) o).run P w'=.ok (.defer {target:=.fn fn' ⟨c'⟩,args:=⟨f'++kE.toList.map (Act.eval ⟨tm',df⟩)⟩}) w':=by
   obtain⟨dst,op,type,pos,after,guard⟩:=o;simp only at h1;subst h1;have he:(⟨f'⟩:Array Value)++kE.map (Act.eval ⟨tm',df⟩)=⟨f'++kE.toList.map (Act.eval ⟨tm',df⟩)⟩:=zc
   simp only[execOp,resolve,k4,Deferred.ofValue,dz,eX,dD,he]
  have hs:=Yv (P:=P) (b:=b) (k:=k) (cs:=cs) (rest:=ρ') ho (hwant _ hw) DR hr;have hI2:=t2.sync hstep ho hpre (Eff.refl _ _ _ t2.wr.dom) t2.wr (v:=dO) (v':=undef) (.dO _) (a2:=({a with defers:={target:=.fn fn ⟨captured⟩,args:=⟨jY first (lT a.eval kE.toList)⟩}::a.defers}:aV).put s.s.dst dO)
   (λt=>by rw[sK,sK,hdst]) (pG _ _ _) (df2:={target:=.fn fn' ⟨c'⟩,args:=⟨f'++kE.toList.map (Act.eval ⟨tm',df⟩)⟩}::df) (by
     rw[put_defers];refine .fn k1 k3 ?_ t2.act.defers;rw[jF];exact k2.append (aZ.of_map K8)) (.inl rfl)
  exact .of_steps (t1.trans (.one hs)) (ih ops bO hv rest (i::done) (i::S') lD hds β0 h0 w0 jA jg cs0 β' w' b _ _ k cs ρ' hG hdom hcx hI2 r4 (by rw[uq];exact hcs.mono t0) y6)
theorem Qi{o:Oper}(hc:cop P o=some .recover)(ρ:Operand->Value)(w:World):(execOp ρ o).run P w=.ok .recover w:=by
 obtain⟨cl,h1,h2⟩:=YK hc;obtain⟨callee,kE,ats⟩:=cl;simp only at h2;subst h2;obtain⟨dst,op,type,pos,after,guard⟩:=o;simp only at h1;subst h1;rw[yj];rfl
theorem YW(hw:a.wants s.s.guard=some true)(hop:s.s.op=.recover)(hre:s.re=[])(hm:a.pm=none)(DN:a.ro=none)(ih:nK P ds l (a.put s.s.dst .nilIface) h K):nK P ds (s::l) a h K:=by
 intro ops bO hv rest done S hp hds β0 h0 w0 jA jg cs0 β w b tm df k cs ρ hG hdom hcx hI hR hcs hro;cases rest with
 |nil=>cases hp.1
 |cons i rest=>
  have jG:=Bw hp AD;obtain⟨o,S',β',w',tm',ρ',ho,gq,hdst,t1,t0,t2,r4,hstep,lD,hpre,hwant,hG',qX,hrr⟩:=come hp jG hG hdom hI hR b k cs;rw[hop]at gq;have DR:b.roundOf=none:=by
   exact lB
  have hkind:b.kind=.normal:=by
   have h1:=hcx.kind;rw[hm]at hcs;cases hcs;exact h1
  have hs:=P6 (P:=P) (b:=b) (df:=df) (k:=k) (cs:=cs) (rest:=ρ') ho (hwant _ hw) DR (Qi gq (Act.eval ⟨tm',df⟩) w');have htr:tryRecover (fr b tm' df (.inRegion ops (i::ρ')::k)) cs=none:=by
   have:(fr b tm' df (.inRegion ops (i::ρ')::k)).kind=.normal:=hkind;unfold tryRecover;rw[this]
  rw[htr]at hs;have hI2:=t2.sync hstep ho hpre (Eff.refl _ _ _ t2.wr.dom) t2.wr (v:=.nilIface) (v':=.nilIface) .nilIface (a2:=a.put s.s.dst .nilIface) (λt=>by rw[hdst]) (pG _ _ _) (df2:=df) A2 (.inl rfl);exact iv
theorem YX{β:aC}{m:FrameMode}{c:Frame}(hm:MR β m c.mode)(rest:List Frame):(∃v' mr,recoverD (c::rest)=some (v',{c with mode:=mr}::rest)/\VR β (jy m).1 v'/\MR β (jy m).2 mr)\/(recoverD (c::rest)=none/\(jy m).1=.nilIface/\(jy m).2=m):=by
 cases hcm:c.mode with
 |run=>rw[hcm]at hm;cases hm;right;simp[recoverD,hcm,jy]
 |returning=>rw[hcm]at hm;cases hm;right;simp[recoverD,hcm,jy]
 |panicking ch=>
  rw[hcm]at hm;cases hm with
  |panicking hp=>
   cases hp with
   |nil=>right;simp[recoverD,hcm,jy]
   | @cons e e' l l' hv hr hg hl=>
     obtain⟨ev,er,eg⟩:=e';simp only at hv hr hg;cases her:e.recovered with
     |true=>right;rw[her]at hr;subst hr;simp[recoverD,hcm,jy,her]
     |false=>
      cases DT:e.goexit with
      |true=>right;rw[DT]at hg;subst hg;simp[recoverD,hcm,jy,her,DT]
      |false=>
       rw[her]at hr;rw[DT]at hg;subst hr hg;left;refine⟨ev,.panicking ({v:=ev,recovered:=true}::l'),by simp[recoverD,hcm],?_,?_⟩
       ·simp only[jy,her,DT,Bool.or_false,cond_false];exact hv
       ·simp only[jy,her,DT,Bool.or_false,cond_false];exact .panicking (.cons hv rfl rfl hl)
theorem YY(hw:a.wants s.s.guard=some true)(hop:s.s.op=.recover)(hre:s.re=[])(m:FrameMode)(hm:a.pm=some m)(DN:a.ro=none)
 (ih:nK P ds l ({a with pm:=some (jy m).2}.put s.s.dst (jy m).1) h K):nK P ds (s::l) a h K:=by
 intro ops bO hv rest done S hp hds β0 h0 w0 jA jg cs0 β w b tm df k cs ρ hG hdom hcx hI hR hcs hro;cases rest with
 |nil=>cases hp.1
 |cons i rest=>
  have jG:=Bw hp AD;obtain⟨o,S',β',w',tm',ρ',ho,gq,hdst,t1,t0,t2,r4,hstep,lD,hpre,hwant,hG',qX,hrr⟩:=come hp jG hG hdom hI hR b k cs;rw[hop]at gq;have DR:b.roundOf=none:=by
   exact lB
  have hcs2:=hcs.mono t0;rw[hm]at hcs2;have YZ:=hcx.kind;cases hcs2 with
  |some m0 _ c0 Bz mr hmr=>
  have hkind:(fr b tm' df (.inRegion ops (i::ρ')::k)).kind=.deferred:=YZ;have hs:=P6 (P:=P) (b:=b) (df:=df) (k:=k) (cs:={c0 with mode:=mr}::Bz) (rest:=ρ') ho (hwant _ hw) DR (Qi gq (Act.eval ⟨tm',df⟩) w');rw[tryRecover_deferred hkind]at hs;have sync:∀(v':Value),VR β' (jy m).1 v'->Inv P ops hv bO β0 h0 w0 (i::done) (i::S') β' ({a with pm:=some (jy m).2}.put s.s.dst (jy m).1) h w' (oI tm' o.dst v') df:=λv' hv'=>
   t2.sync hstep ho hpre (Eff.refl _ _ _ t2.wr.dom) t2.wr (v:=(jy m).1) (v':=v') hv' (a2:=({a with pm:=some (jy m).2}:aV).put s.s.dst (jy m).1)
    (λt=>by rw[sK,sK,hdst]) (pG _ _ _) (df2:=df) A2 (.inl rfl)
  rcases YX (c:={c0 with mode:=mr}) hmr Bz with⟨v',K3,e1,e2,e3⟩|⟨e1,e2,e3⟩
  ·rw[e1]at hs;exact .of_steps (t1.trans (.one hs)) (ih ops bO hv rest (i::done) (i::S') lD hds β0 h0 w0 (some m0) jg (c0::Bz) β' w' b _ df k _ ρ' hG hdom hcx (sync v' e2) r4 (by rw[uq];exact .some m0 _ c0 Bz K3 e3) y6)
  ·rw[e1]at hs;exact .of_steps (t1.trans (.one hs)) (ih ops bO hv rest (i::done) (i::S') lD hds β0 h0 w0 (some m0) jg (c0::Bz) β' w' b _ df k _ ρ' hG hdom hcx (sync .nilIface (by rw[e2];exact .nilIface)) r4 (by rw[uq,e3];exact .some m0 _ c0 Bz mr hmr) y6)
end
end Go.Ideal
namespace Go.Ideal
variable {P:Program}
variable{β:aC}
theorem fP.filter(p:Nat->Bool){l l':List MapEntry}(he:fP β l l'):fP β (l.filter λe=>p e.born) (l'.filter λe=>p e.born):=by
 induction he with
 |nil=>exact .nil
 | @cons e e' l l' hk hf hb hv hl ih=>
   simp only[FC,hb];split
   ·exact .cons hk hf hb hv ih
   ·exact ih
variable{l l':List MapEntry}
theorem fP.mem(he:fP β l l'){e':MapEntry}(hm:e'∈l'):∃e∈l,e'.key=e.key/\bY e.key=true/\e'.born=e.born/\VR β e.val e'.val:=by
 induction he with
 |nil=>simp at hm
 | @cons e e1 l l' hk hf hb hv hl ih=>
   rcases dH.1 hm with rfl|hm
   ·exact⟨e,vm,hk,hf,hb,hv⟩
   ·obtain⟨x,hx,h⟩:=ih hm;exact⟨x,by simp[hx],h⟩
theorem fP.append{r r':List MapEntry}(he:fP β l l')(h2:fP β r r'):fP β (l++r) (l'++r'):=by
 induction he with
 |nil=>exact h2
 |cons hk hf hb hv hl ih=>exact .cons hk hf hb hv ih
theorem fP.all(p:Nat->Bool){l l':List MapEntry}(he:fP β l l'):(l'.all λe=>p e.born)=l.all λe=>p e.born:=by
 induction he with
 |nil=>rfl
 |cons hk hf hb hv hl ih=>simp only[List.all_cons,hb,ih]
theorem fP.isEmpty(he:fP β l l'):l'.isEmpty=l.isEmpty:=by cases he<;>rfl
theorem Y0(n:Nat)(hn:0<n)(w:World):∃k w1,(choose (.mapNext n)).run P w=.ok k w1/\k<n/\w1.heap=w.heap/\w1.os=w.os/\w1.tape=w.tape/\w1.output=w.output/\w.drawn<=w1.drawn:=by
 rw[run_choose];by_cases h:n<=1
 ·exact⟨0,w,by simp[Question.forced,h],hn,rfl,rfl,rfl,rfl,bV _⟩
 ·exact⟨(Question.mapNext n).cut (w.tape w.drawn (.mapNext n)),{w with drawn:=w.drawn+1},by rw[if_neg (by simp[Question.forced];omega)],aht _ hn,rfl,rfl,rfl,rfl,AU _⟩
variable{h:IH}
theorem Y1{w:World}{v v':Value}{alts:List (Value×IH)}(ha:zz v h=some alts)(hv:VR β v v')(hW:WR P β h w)(ty:TypeId):
 ∃vh∈alts,∃r' w',(Instr.next v' false ty).run P w=.ok r' w'/\VR β vh.1 r'/\WR P β vh.2 w'/\Eff β h w β vh.2 w':=by
 unfold zz at ha;split at ha
 ·rename_i r;obtain⟨g,hb,hv'⟩:=hv.uk;split at ha
  ·rename_i since seen last hg;simp only[aA]at ha;subst ha;obtain⟨m',seen',o1,o2,o3,o4⟩:=hW.obj r g _ hb hg;rw[o4]at hv';have hm':m'=none:=by cases o3;rfl
   subst hm';refine⟨_,bK.2 rfl,.tuple #[.bool false],w,?_,.tuple (.cons (.bool _) .nil),hW,Eff.refl _ _ _ hW.dom⟩;subst hv';simp only[Instr.next,AV,dz,wO o1 vm,dD,eX]
  ·rename_i m since seen last hg;split at ha
   ·rename_i es clock hgm;obtain⟨m',seen',o1,o2,o3,o4⟩:=hW.obj r g _ hb hg;rw[o4]at hv';obtain⟨gm,Gd,hm'⟩:∃gm,β m=some gm/\m'=some gm.b:=by
     obtain⟨gm,a,b⟩:=o3.Br;exact⟨gm,a,AT⟩
    subst hm' hv';obtain⟨es',p1,p2⟩:=hW.obj m gm _ Gd hgm;cases hc:(!seen.isEmpty&&!es.isEmpty&&es.all (λe=>Nat.ble last e.born))with
    |true=>rw[hc]at ha;cases ha
    |false=>
    rw[hc]at ha;simp only[cond_false,aA]at ha
    -- the lists on both sides
    let left:=es.filter λe=>!seen.contains e.born
    let left':=es'.filter λe=>!seen'.contains e.born
    have hcont:∀n,seen'.contains n=seen.contains n:=λn=>by rw[<- o2];simp
    have hleft:fP β left left'.toList:=by
     have:=p2.filter (λn=>!seen.contains n);have h2:left'.toList=es'.toList.filter λe=>!seen.contains e.born:=by
      show(es'.filter λe=>!seen'.contains e.born).toList=_;rw[Array.toList_filter];simp only[hcont]
     rw[h2];exact this
    have hold:fP β (left.filter λe=>Nat.blt e.born since) (left'.filter (·.born<since)).toList:=by
     have:=hleft.filter (λn=>Nat.blt n since);rw[Array.toList_filter];have h2:(left'.toList.filter λe=>decide (e.born<since))=left'.toList.filter λe=>Nat.blt e.born since:=by
      congr 1;funext e;rw[uQ];simp[rV]
     rw[h2];exact this
    have hnew:fP β (left.filter λe=>Nat.ble since e.born) (left'.filter (·.born>=since)).toList:=by
     have:=hleft.filter (λn=>Nat.ble since n);rw[Array.toList_filter];have h2:(left'.toList.filter λe=>decide (e.born>=since))=left'.toList.filter λe=>Nat.ble since e.born:=by
      congr 1;funext e;rw[uQ];simp[uR]
     rw[h2];exact this
    let old:=left.filter λe=>Nat.blt e.born since
    let new:=left.filter λe=>Nat.ble since e.born
    let old':=left'.filter (·.born<since)
    let new':=left'.filter (·.born>=since)
    let wR:=(if old'.isEmpty then #[none]else #[])++(old'++new').map some
    have hold':fP β old old'.toList:=hold;have Y2:fP β new new'.toList:=hnew;have hoe:old'.isEmpty=old.isEmpty:=by
     have:=hold'.isEmpty;rw[<- this];cases old' with|mk l=>cases l<;>rfl
    have hpos:0<wR.size:=by
     show 0<((if old'.isEmpty then #[none]else #[])++(old'++new').map some:Array (Option MapEntry)).size;cases he:old'.isEmpty with
     |true=>simp;omega
     |false=>
      have:0<old'.size:=by
       rcases JL old'.size with h0|h0
       ·have:old'= #[]:=WC h0;rw[this]at he;simp at he
       ·exact h0
      simp;omega
    obtain⟨k,w1,k1,k2,k3,k4,k5,k6,k7⟩:=Y0 (P:=P) wR.size hpos w;have hW1:WR P β h w1:=hW.uh k3;have hE1:Eff β h w β h w1:=Eff.uh hW.dom k3 k4 k5 k6 k7;have hguard:(!seen'.isEmpty&&!es'.isEmpty&&es'.all (·.born>=last))=false:=by
     rw[<- hc];have e1:seen'.isEmpty=seen.isEmpty:=by rw[<- o2];cases seen' with|mk l=>cases l<;>rfl
     have e2:es'.isEmpty=es.isEmpty:=by rw[<- p2.isEmpty];cases es' with|mk l=>cases l<;>rfl
     have e3:es'.all (·.born>=last)=es.all (λe=>Nat.ble last e.born):=by
      rw[<- p2.all (λn=>Nat.ble last n),<- Array.all_toList];congr 1;funext e;rw[uQ];simp[uR]
     rw[e1,e2,e3]
    have hck:wR[k]? =some wR[k]:=by simp[k2]
    have hrun:∀(x:Option MapEntry),wR[k]? =some x->(Instr.next (.pointer (some ⟨g.b,0,none⟩)) false ty).run P w=
     (match x with
     |some e=>do setObj g.b (.mapIter (some gm.b) since (seen'.push e.born) clock);pure (.tuple #[.bool true,e.key,e.val])
     |none=>pure (.tuple #[.bool false]):Sem Value).run P w1:=λx hx=>by
     simp only[Instr.next,dz,wO o1 vm,wO p1 vm,dD,hguard,uS,if_false];have k1':=k1;simp only[wR,old',new',left']at k1' hx;simp only[dz,eX,dD,k1',hx];cases x<;>rfl
    have hmem:wR[k]∈wR.toList:=vm
    cases hx:wR[k]with
    |none=>
     rw[hx]at hmem hck;have hemp:old.isEmpty=true:=by
      rw[<- hoe];cases he:old'.isEmpty with
      |true=>rfl
      |false=>
       exfalso
       have:none∈((if old'.isEmpty then #[none]else #[])++(old'++new').map some:Array (Option MapEntry)).toList:=hmem;rw[he]at this;simp at this
     refine⟨(.tuple #[.bool false],h),?_,.tuple #[.bool false],w1,by rw[hrun none hck];rfl,.tuple (.cons (.bool _) .nil),hW1,hE1⟩;rw[<- ha];refine jW _ ?_;have:(left.filter λe=>Nat.blt e.born since).isEmpty=true:=hemp;rw[if_pos this];simp
    |some e'=>
     rw[hx]at hmem hck;have Y3:e'∈old'.toList++new'.toList:=by
      have:some e'∈((if old'.isEmpty then #[none]else #[])++(old'++new').map some:Array (Option MapEntry)).toList:=hmem;simp only[Array.toList_append,JK,dW,eG,aA,exists_eq_right]at this;rcases this with h1|h1
      ·exfalso;split at h1<;>simp at h1
      ·simpa using h1
     obtain⟨e,he,q1,q2,q3,q4⟩:=(hold'.append Y2).mem Y3;have hlt:g.b<w1.heap.size:=by
      rw[k3];exact tf
     have Y4:w1.heap[g.b]? =some (.mapIter (some gm.b) since seen' last):=by rw[k3];exact o1
     obtain⟨z1,z2,z3⟩:=Dx (w:=w1) (o:=.mapIter (some gm.b) since (seen'.push e'.born) clock) hlt;obtain⟨y1,y2⟩:=hW1.write hb hg (.mapIter (some m) since (seen++[e.born]) clock) z1 z2 rfl rfl rfl (bV _)
      ⟨some gm.b,seen'.push e'.born,z3,by rw[Array.toList_push,o2,q3],o3,o4⟩
     refine⟨(.tuple #[.bool true,e.key,e.val],h.set r (.mapIter (some m) since (seen++[e.born]) clock)),?_,.tuple #[.bool true,e'.key,e'.val],_,?_,?_,y1,hE1.trans y2⟩
     ·rw[<- ha];refine oF _ (eG.2 ⟨e,he,rfl⟩)
     ·rw[hrun (some e') hck];simp only[dz,KD Y4 vm,dD,eX]
     ·refine .tuple (.cons (.bool _) (.cons ?_ (.cons q4 .nil)));rw[q1];exact VR.free q2
   ·cases ha
  ·cases ha
 ·cases ha
theorem Y5{ds:List Tmp}{a:aV}{K:KO}{s:bT}{l:List bT}(hw:a.wants s.s.guard=some true)(x:Operand)(hop:s.s.op=.wC x)(hre:s.re=[])(alts:List (Value×IH))(ha:zz (a.eval x) h=some alts)
 (ih:∀vh∈alts,nK P ds l (a.put s.s.dst vh.1) vh.2 K):nK P ds (s::l) a h K:=by
 intro ops bO hv rest done S hp hds β0 h0 w0 jA jg cs0 β w b tm df k cs ρ hG hdom hcx hI hR hcs hro;cases rest with
 |nil=>cases hp.1
 |cons i rest=>
  have jG:=Bw hp AD;obtain⟨o,S',β',w',tm',ρ',ho,gq,hdst,t1,t0,t2,r4,hstep,lD,hpre,hwant,hG',qX,hrr⟩:=come hp jG hG hdom hI hR b k cs;rw[hop]at gq;have h1:=YN gq;have hxv:=qX x (by rw[h1];simp[Op.operands]);obtain⟨vh,hm,r',w2,n1,n2,n3,n4⟩:=Y1 ha hxv t2.wr o.type;have hr:(execOp (Act.eval ⟨tm',df⟩) o).run P w'=.ok (.value r') w2:=by
   obtain⟨dst,op,type,pos,after,guard⟩:=o;simp only at h1;subst h1;exact wM n1
  have hs:=Gj (P:=P) (b:=b) (k:=k) (cs:=cs) (rest:=ρ') ho (hwant _ hw) (.inr (by rw[h1];simp)) hr (.inl rfl);have hI2:=t2.sync hstep ho hpre n4 n3 n2 (a2:=a.put s.s.dst vh.1) (λt=>by rw[hdst]) (pG _ _ _) (df2:=df) A2
   (.inr λj hj hjs t ht hrd hwt=>by have:=hrr j hj hjs t ht hrd;rw[hre]at this;cases this)
  exact .of_steps (t1.trans (.one hs)) (ih vh hm ops bO hv rest (i::done) (i::S') lD hds β0 h0 w0 jA jg cs0 β' w2 b _ df k cs ρ' hG hdom hcx hI2 r4 (by rw[uq];exact hcs.mono t0) y6)
