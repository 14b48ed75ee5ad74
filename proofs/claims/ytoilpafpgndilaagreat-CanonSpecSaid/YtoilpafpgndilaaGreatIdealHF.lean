/- Part. -/
import Derived.Test.YtoilpafpgndilaaGreatIdealGF
import Derived.ChangeStays
import Derived.ChangeSame
import Derived.ChangeSlices
import Derived.ProofKit
set_option linter.all false
namespace Go.Ideal
variable {P:Program}
def At(h:IH)(b:Nat)(o:dN):Prop:=b<h.next/\h.get b=some o
structure Agree(h h':IH):Prop where
 next:h.next<=h'.next
 get:∀i,i<h.next->h'.get i=h.get i
 low:h.low<=h.next->h'.low=h.low
def Agree.refl(h:IH):Agree h h:=⟨bT _,λ_ _=>rfl,λ_=>rfl⟩
variable{h:IH}
def Agree.trans{h1 h2:IH}(a:Agree h h1)(b:Agree h1 h2):Agree h h2:=
 ⟨pQ a.next b.next,λi hi=>(b.get i (mM hi a.next)).trans (a.get i hi),λhl=>(b.low (by rw[a.low hl];exact pQ hl a.next)).trans (a.low hl)⟩
variable{h':IH}{b:Nat}
def At.agree{o:dN}(a:At h b o)(g:Agree h h'):At h' b o:=⟨mM a.1 g.next,(g.get b a.1).trans a.2⟩
def Md(h:IH)(o:dN):Agree h (h.new o):=⟨BI _,λi hi=>by rw[IH.jc,if_neg z7],λ_=>rfl⟩
def Me(h:IH)(o:dN):At (h.new o) h.next o:=⟨wN _,by rw[IH.jc,if_pos rfl]⟩
structure Mf(h h':IH)(b:Nat)(o:dN):Prop where
 next:h'.next=h.next
 get:∀i,i≠b->h'.get i=h.get i
 at_:At h' b o
 low:h.low<=b->h'.low=h.low
def Cells(h:IH)(b:Nat)(cs:kI vI):Prop:=b<h.next/\(h.get b=some (.cells cs)\/h.get b=some (.jl cs))
variable{cs:kI vI}
def At.c(a:At h b (.cells cs)):Cells h b cs:=⟨a.1,.inl a.2⟩
def Cells.agree(a:Cells h b cs)(g:Agree h h'):Cells h' b cs:=⟨mM a.1 g.next,by rw[g.get b a.1];exact a.2⟩
def Cells.om(a:Cells h b cs)(o:Nat):h.om b o=cs[o]?:=by
 rcases a.2 with e|e<;>simp only[IH.om,e,sZ]
def Cells.iM(a:Cells h b cs)(o m:Nat):h.iM b o m=jf (jH cs o) m:=by
 rcases a.2 with e|e<;>simp only[IH.iM,e]
def xG(h:IH)(v:vI)(xs:kI Int):Prop:=
 (xs=[]/\∃a m c,v=.slice a m c/\m=0)\/
 ∃i o f c cs,v=.slice (some ⟨i,o,some f⟩) xs.length c/\Cells h i cs/\∀(k:Nat) x,xs[k]? =some x->cs[o+k]? =some (.int .i64 x)
variable{v:vI}{xs:kI Int}
def xG.agree(a:xG h v xs)(g:Agree h h'):xG h' v xs:=by
 rcases a with h1|⟨i,o,f,c,cs,h1,h2,h3⟩
 .exact .inl h1
 .exact .inr ⟨i,o,f,c,cs,h1,h2.agree g,h3⟩
def xG.form(a:xG h v xs):∃b c,v=.slice b xs.length c:=by
 exact pP
def cZ(l:qr)(g:x8 (Tmp×Bool)):Bool:=
 match g with
 |none=>true
 |some (t,w)=>match lk l t with
  | .bool b=>cond w b (!b)
  |_=>false
def Mg(l:qr)(g:x8 (Tmp×Bool)):Bool:=
 match g with
 |none=>false
 |some (t,w)=>match lk l t with
  | .bool b=>cond w (!b) b
  | .chan _=>true
  |_=>false
def RI(n:Nat):goInt n=.int .i64 (n:Int):=rfl
section
variable {ds:kI Tmp} {rest:kI bV} {n:Nat} {l:qr} {D:kI Deferred} {pm:x8 FrameMode} {ro:x8 Nat} {h:IH} {K:KO} {d:Nat} {g:x8 (Tmp×Bool)}
def vV(hg:cZ l g=true):(act n l D pm ro).wants g=some true:=by
 cases g with
 |none=>rfl
 |some p=>
  obtain⟨t,w⟩:=p;rw[He];simp only[cZ]at hg;split at hg
  .rename_i b hb;rw[hb];simp only[hg]
  .cases hg
def aa9(hn:Nat.blt d n=true)(hg:Mg l g=true){op:aF}{re:kI iq}(next:aH P ds rest (act n ((d,sS)::l) D pm ro) h K):aH P ds (⟨⟨some d,g,op⟩,re⟩::rest) (act n l D pm ro) h K:=by
 refine .skip ?_ DB;show(act n l D pm ro).wants g=some false;cases g with
 |none=>cases hg
 |some p=>
  obtain⟨t,w⟩:=p;rw[He];simp only[Mg]at hg;split at hg
  .rename_i b hb;rw[hb];cases w<;>cases b<;>simp_all
  .rename_i b hb;rw[hb]
  .cases hg
variable{v:vI}{op:aF}{h':IH}
def mq(hn:Nat.blt d n=true)(hg:cZ l g=true)(hr:op.run P (ev l) h=some (v,h'))
 (next:aH P ds rest (act n ((d,v)::l) D pm ro) h' K):aH P ds (⟨⟨some d,g,op⟩,[]⟩::rest) (act n l D pm ro) h K:=
 .lu (vV hg) v h' Cp DA DB
def Mh(hg:cZ l g=true)(hr:op.run P (ev l) h=some (v,h'))
 (next:aH P ds rest (act n l D pm ro) h' K):aH P ds (⟨⟨none,g,op⟩,[]⟩::rest) (act n l D pm ro) h K:=
 .lu (vV hg) v h' Cp DA next
variable{x:aaB}{m c:Nat}
def RJ{a:x8 Addr}(hn:Nat.blt d n=true)(hg:cZ l g=true)(hx:ev l x=.slice a m c)
 (next:aH P ds rest (act n ((d,.int .i64 (m:Int))::l) D pm ro) h K):aH P ds (⟨⟨some d,g,.wW x⟩,[]⟩::rest) (act n l D pm ro) h K:=
 mq hn hg (by simp only[aF.run,hx,RI]) next
def xH(op:BinOp)(t:adH)(x y:aaB)(a b:Int)(v:vI)(hv:oZ op .i64 a b=some v):mg P op t x y (.int .i64 a) (.int .i64 b)=some v:=by
 simp only[mg,uA,cond,hv]
def EF{m:Int}(h1: -9223372036854775808<=m)(h2:m<9223372036854775808):DN .i64 m=m:=by
 rw[Al];exact IntWalk.i64_in m ⟨h1,z7⟩
variable{b:Nat}
def Mi{a:Nat}(h:a<b):Nat.blt a b=true:=by simp only[sJ];exact h
variable{o:Nat}
def Mj{i:aaB}{size:Nat}{f:x8 Nat}{k:Int}{kk:IntKind}(hn:Nat.blt d n=true)(hg:cZ l g=true)(hx:ev l x=.slice (some ⟨b,o,f⟩) m c)(hi:ev l i=.int kk k)
 (h0:0<=k) (h1:k<m) (next:aH P ds rest (act n ((d,.pointer (some ⟨b,o+k.toNat*size,none⟩))::l) D pm ro) h K):aH P ds (⟨⟨some d,g,.nQ size x i⟩,[]⟩::rest) (act n l D pm ro) h K:=by
 obtain⟨j,rfl⟩:=jA h0;refine mq hn hg ?_ next
 simp only[aF.run,hx,hi];show cond (Nat.blt j m) _ _=_;rw[Mi z7];rfl
variable{cs:kI vI}
def Hg(hn:Nat.blt d n=true)(hg:cZ l g=true)(hx:ev l x=.pointer (some ⟨b,o,none⟩))(ha:At h b (.cells cs))(hv:cs[o]? =some v)
 (next:aH P ds rest (act n ((d,v)::l) D pm ro) h K):aH P ds (⟨⟨some d,g,.ah2 x⟩,[]⟩::rest) (act n l D pm ro) h K:=
 mq hn hg (by simp only[aF.run,hx,ha.c.om,hv]) next
def aba{r:kI vI}(hn:Nat.blt d n=true)(hg:cZ l g=true)(hx:ev l x=.pointer (some ⟨b,o,none⟩))(ha:At h b (.cells cs))(hv:jf (jH cs o) m=some r)
 (next:aH P ds rest (act n ((d,.agg ⟨r⟩)::l) D pm ro) h K):aH P ds (⟨⟨some d,g,.pW m x⟩,[]⟩::rest) (act n l D pm ro) h K:=
 mq hn hg (by simp only[aF.run,hx,ha.c.iM,hv]) next
def Hl:∀(cs:kI vI) (o:Nat) (v:vI),o<cs.length->jV cs o [v]=some (cs.set o v)
 |[],o,v,h=>by simp at h
 |c::cs,0,v,_=>by rw[KH];cases cs<;>rfl
 |c::cs,o+1,v,h=>by rw[KI,Hl cs o v AH];rfl
def s_call{f:aaB}{args:kI aaB}{re:kI iq}(hn:Nat.blt d n=true)(hg:cZ l g=true)(fn:Fn){first captured:kI vI}(hf:ev l f=.func fn ⟨first⟩ ⟨captured⟩)(M:KR)
 (hc:CALL P ⟨fn,first++args.map (ev l),captured,none⟩ h M)
 (hs:∀v h',M (.ok v) none h'->∀r∈re,∃u h2,r.op.run P (ev ((d,v)::l)) h'=some (u,h2)/\∀d',r.dst=some d'->lk ((d,v)::l) d'=u)
 (hok:∀v h',M (.ok v) none h'->aH P ds rest (act n ((d,v)::l) D pm ro) h' K)
 (jM:∀ch h',M (.fT ch) none h'->K (.panic ch) (forget ds (act n l D pm ro)) h') (hno:∀r p h',M r p h'->p=none):aH P ds (⟨⟨some d,g,.call f args⟩,re⟩::rest) (act n l D pm ro) h K:=by
 refine .call (vV hg) ⟨fn,first++args.map (ev l),captured,none⟩ (by simp only[w9,nI,hf,jK,vQ]) M hc ?_ ?_ ?_
 .intro v p h' hm r hr _;have:=hno _ _ _ hm;subst this;obtain⟨u,h2,e1,e2⟩:=hs v h' hm r hr;exact kx
 .intro v p h' hm;have:=hno _ _ _ hm;subst this;rw[qf hn];exact hok v h' hm
 .intro ch p h' hm;have:=hno _ _ _ hm;subst this;exact jM ch h' hm
section
variable {a:aV} {x y:dI} {i j m0:Nat} {I:Nat->aV->IH->Prop} {ch:kI PanicEntry}
def abb(e:Nat.beq j i=true)(k:K .normal a h):xD i K (.exit j) a h:=by
 have:j=i:=kR e;subst this;show K (inBlock j (.exit j)) a h;simp only[inBlock];rw[e];exact k
def abd(e:Nat.beq j i=false)(k:K (.exit j) a h):xD i K (.exit j) a h:=by
 show K (inBlock i (.exit j)) a h;simp only[inBlock];rw[e];exact k
end
def abe{l0:qr}{I:Nat->aV->IH->Prop}{m0:Nat}(m':Nat)(hlt:m'<m0)(hs:sub l0 l)(k:I m' (act n l0 D pm ro) h):xE I m0 K .normal (act n l D pm ro) h:=
 ⟨m',_,hlt,L9 hs,k⟩
end
end Go.Ideal
namespace Go.Ideal
variable {P:Program}
section
variable {ds:kI Tmp} {rest:kI bV} {n:Nat} {l:qr} {D:kI Deferred} {pm:x8 FrameMode} {ro:x8 Nat} {h:IH} {K:KO} {d:Nat} {g:x8 (Tmp×Bool)}
structure Av(h h':IH)(b:Nat)(o:dN):Prop where
 next:h'.next=h.next+1
 get:∀i,i<h.next->i≠b->h'.get i=h.get i
 at_:At h' h.next o
 low:h.low<=b->h'.low=h.low
variable{b o m size bytes k:Nat}{x s:aaB}{e:adH}{xs:kI vI}
def Mk{f:x8 Nat}{old:kI vI}(hn:Nat.blt d n=true)(hg:cZ l g=true)
 (hs:ev l s=.slice (some ⟨b,o,f⟩) m m) (hx:oW (ev l x)=some (k+1)) (hxs:nE size (k+1) (ev l x) h=some xs) (hold:h.iM b o (m*size)=some old)
 (hf:f=some 0\/f=some size) (hm:(m+(k+1))*bytes<=1073741824/\(m+(k+1))*size<=1073741824/\m+(k+1)<=1073741824)
 (next:∀h',Av h h' b (.cells (old++xs))->aH P ds rest (act n ((d,.slice (some ⟨h.next,0,some size⟩) (m+(k+1)) (m+(k+1)))::l) D pm ro) h' K):
 aH P ds (⟨⟨some d,g,.append e size bytes s x⟩,[]⟩::rest) (act n l D pm ro) h K:=by
 have hle:∀{a b:Nat},a<=b->Nat.ble a b=true:=λh=>by rw[vH];exact h
 have hlt:Nat.ble (m+(k+1)) m=false:=by
  exact tx
 have hc:(Nat.ble (Nat.mul (m+(k+1)) bytes) small&&Nat.ble (Nat.mul (m+(k+1)) size) small&&Nat.ble (m+(k+1)) small)=true:=by
  exact lP
 have hrun:∃h',(aF.append e size bytes s x).run P (ev l) h=some (.slice (some ⟨h.next,0,some size⟩) (m+(k+1)) (m+(k+1)),h')/\Av h h' b (.cells (old++xs)):=by
  exact cE
 obtain⟨h',hr,hM⟩:=hrun;exact mq hn hg hr (next h' hM)
def abf{c:Nat}(hn:Nat.blt d n=true)(hg:cZ l g=true)
 (hs:ev l s=.slice none 0 0) (hx:oW (ev l x)=some (k+1)) (hxs:nE size (k+1) (ev l x) h=some xs)
 (hm:(k+1)*bytes<=1073741824/\(k+1)*size<=1073741824/\(k+1)<=1073741824)
 (next:∀h',Agree h h'->At h' h.next (.cells xs)->h'.next=h.next+1->aH P ds rest (act n ((d,.slice (some ⟨h.next,0,some size⟩) (k+1) (k+1))::l) D pm ro) h' K):
 aH P ds (⟨⟨some d,g,.append e size bytes s x⟩,[]⟩::rest) (act n l D pm ro) h K:=by
 have hle:∀{a b:Nat},a<=b->Nat.ble a b=true:=λh=>by rw[vH];exact h
 have e0:Nat.add 0 (k+1)=k+1:=fo _;refine mq hn hg (h':=h.new (.cells xs)) ?_ (next _ (Md _ _) (Me _ _) rfl);have Aw:yG size (k+1) (ev l x) h=some xs:=hxs;simp only[aF.run,hx,Aw,hs,wX,e0];rw[hle (show Nat.mul (k+1) bytes<=small from hm.1),hle (show Nat.mul (k+1) size<=small from hm.2.1),hle (show k+1<=small from hm.2.2)];have e1:nE size 0 (.slice none 0 0) h=some []:=by
  exact vj
 have e2:Nat.ble (k+1) 0=false:=rfl;simp only[Kl,cond_true,e2,cond_false,e1,jK,dY]
variable{cs r:kI vI}
def At.nR(a:At h b (.cells cs))(hr:jf (jH cs o) m=some r):h.nR b o m=some r:=by
 simp only[IH.nR,a.2,hr]
def RN(x:vI):∀n,zeros [x] n=List.replicate n x
 |0=>rfl
 |n+1=>by
  show ko [x] (zeros [x] n)=_;rw[RN x n,jK];rfl
def At.iM(a:At h b (.cells cs))(hr:jf (jH cs o) m=some r):h.iM b o m=some r:=by
 rw[a.c.iM,hr]
def Ay(ds:kI Tmp)(n:Nat)(l:qr):qr:=
 match ds with
 |[]=>l
 |d::ds=>Ay ds n (cond (Nat.blt d n) ((d,dU)::l) l)
def Ho:∀(ds:kI Tmp) (l:qr),forget ds (act n l D pm ro)=act n (Ay ds n l) D pm ro
 |[],l=>rfl
 |d::ds,l=>by
  show forget ds ((act n l D pm ro).set d dU)=_;simp only[Ay];cases hb:Nat.blt d n with
  |true=>
   rw[show(act n l D pm ro).set d dU=act n ((d,dU)::l) D pm ro from qf hb];exact Ho ds _
  |false=>
   rw[show(act n l D pm ro).set d dU=act n l D pm ro by simp only[aV.set,act,hb,cond]];exact Ho ds _
def abg{t:adH}{v:vI}{dst:x8 Tmp}{re:kI iq}(hg:cZ l g=true)(hx:ev l x=.iface t v)
 (hk:K (.panic [{v:=.iface t v,recovered:=false}]) (act n (Ay ds n l) D pm ro) h):aH P ds (⟨⟨dst,g,.panic x⟩,re⟩::rest) (act n l D pm ro) h K:=
 .panic (vV hg) x rfl t v (by rw[nI];exact hx) (by rw[Ho];exact hk)
def abh{f:aaB}{args:kI aaB}{fn:Fn}{first captured:kI vI}(hg:cZ l g=true)(hro:ro=none)(hf:ev l f=.func fn ⟨first⟩ ⟨captured⟩)
 (next:aH P ds rest (act n l ({target:=.fn fn ⟨captured⟩,args:=⟨first++args.map (ev l)⟩}::D) pm ro) h K):aH P ds (⟨⟨none,g,.dcall f args⟩,[]⟩::rest) (act n l D pm ro) h K:=by
 refine .defer (vV hg) f args rfl rfl hro fn first captured (by rw[nI];exact hf) ?_
 rw[nI];rw[<- jK,<- vQ]at next
 exact next
def abj{m:FrameMode}(hn:Nat.blt d n=true)(hg:cZ l g=true)(hro:ro=none)
 (next:aH P ds rest (act n ((d,(jI m).1)::l) D (some (jI m).2) ro) h K):aH P ds (⟨⟨some d,g,.recover⟩,[]⟩::rest) (act n l D (some m) ro) h K:=by
 refine .recoverD (vV hg) rfl rfl m rfl hro ?_;have:({act n l D (some m) ro with pm:=some (jI m).2}:aV)=act n l D (some (jI m).2) ro:=rfl;rw[this,qf hn];exact next
def RO{f:agR}{args cap:kI vI}{pm:x8 FrameMode}{h:IH}{K:KR}(cf:gV)(fn:Func)(hf:P.funcs[f]? =some fn)(hcf:uB P fn=some cf)
 (hb:EV P cf.body (Ab cf.ntmps (args++cap) pm) h (λo a h'=>match uC o with
   |none=>False
   |some m=>LEAVE P cf a.tmps a.defers m h' λr h''=>K r a.pm h'')):CALL P ⟨.func f,args,cap,pm⟩ h K:=by
 refine .enter f (args++cap) (by simp only[target,jK]) fn hf cf hcf _ hb ?_ ?_
 .intro o a h hm e;rw[e]at hm;exact hm
 .intro o a h' m hm he;rw[he]at hm;exact hm
end
end Go.Ideal
namespace Go.Ideal
open Go.RowKit
variable {P:Program}
noncomputable def Ct:Nat->kI (x8 (kI vI))->T dN
 |_,[]=>.leaf
 |i,c::l=>(Ct (i+1) l).set i (c.map .jl)
def RP:∀(l:kI (x8 (kI vI))) (i j:Nat),(Ct i l).get j=if i<=j then(l[j - i]?).bind (λc=>c.map .jl)else none
 |[],i,j=>by simp[Ct,T.D5]
 |c::l,i,j=>by
  simp only[Ct,T.nH];by_cases e:j=i
  .subst e;simp
  .rw[if_neg e,RP l (i+1) j];by_cases h:i<=j
   .rw[if_pos z7,if_pos h];obtain⟨k,hk⟩:∃k,j - i=k+1:=⟨j - i - 1,z7⟩
    rw[hk,qZ,show j - (i+1)=k by omega]
   .rw[if_neg z7,if_neg h]
abbrev Lay:=kI (x8 iJ×x8 (kI vI))
noncomputable def ku(L:Lay):IH:=⟨Ct 0 (L.map (·.2)),L.length,L.length⟩
def jY(L:Lay):aG:=λi=>(L[i]?).bind (·.1)
def Ml(L:Lay)(i:Nat):(ku L).get i=(L[i]?).bind λp=>p.2.map .jl:=by
 show(Ct 0 (L.map (·.2))).get i=_;rw[RP,if_pos (bR _),Dz,dm];cases L[i]?<;>rfl
variable{L:Lay}
def abk{i:Nat}{g:x8 iJ}{cs:kI vI}(h:L[i]? =some (g,some cs)):Cells (ku L) i cs:=
 ⟨(bq.1 h).1,.inr (by rw[Ml,h];rfl)⟩
structure Cu(L:Lay)(w:World)(g:iJ)(cs:List Value):Prop where
 block:∃c t fz,w.heap[g.b]? =some (.cells c t fz)/\(g.top=0\/c.size=g.top)
 sz:g.sz=0
 all:cs.all cellV=true
 cell:∀(j:Nat) v,cs[j]? =some v->∃v',w.cell? ⟨g.b,g.off+j,none⟩=some v'/\VR (jY L) v v'
def abl{w:World}(hL:∀(i:Nat) g cs,L[i]? =some (some g,some cs)->Cu L w g cs):WR P (jY L) (ku L) w:=by
 have hb:∀i g,jY L i=some g->∃cs,L[i]? =some (some g,cs):=λi g h=>by
  unfold jY at h;cases e:L[i]? with
  |none=>rw[e]at h;cases h
  |some p=>
   rw[e]at h;obtain⟨a,cs⟩:=p;have h:a=some g:=h;subst h;exact⟨cs,rfl⟩
 have hlive:∀i o,(ku L).get i=some o->∃g cs,L[i]? =some (g,some cs)/\o=.jl cs:=λi o h=>by
  rw[Ml]at h;cases e:L[i]? with
  |none=>rw[e]at h;cases h
  |some p=>
   obtain⟨g,c⟩:=p;rw[e]at h;cases c with
   |none=>cases h
   |some cs=>cases h;exact⟨g,cs,rfl,rfl⟩
 refine⟨?_,?_,?_,?_⟩
 .intro i g h;obtain⟨cs,e⟩:=hb i g h;exact(bq.1 e).1
 .intro i o h;obtain⟨g,cs,e,_⟩:=hlive i o h;exact(bq.1 e).1
 .intro i g o h ho;obtain⟨c,e⟩:=hb i g h;obtain⟨g',cs,e',rfl⟩:=hlive i o ho;rw[e]at e';cases e';have k:=hL i g cs e;exact⟨k.block,k.sz,k.all,k.cell⟩
 .intro i j g k hi hj hgi hgj hr he
  exfalso
  rcases hr with q|q
  .cases e:(ku L).get i with
   |none=>exact hgi e
   |some o=>
    obtain⟨_,cs,_,rfl⟩:=hlive i o e;exact q cs e
  .cases e:(ku L).get j with
   |none=>exact hgj e
   |some o=>
    obtain⟨_,cs,_,rfl⟩:=hlive j o e;exact q cs e
def abm(Aq:P.follows .mixedOrders=true)(hgl:P.globals.size=0){f:agR}(fn:Func)(hfn:P.funcs[f]? =some fn)(hbody:fn.body.isNone=false)(hname:(fn.name== "runtime.NumGoroutine")=false){args args':kI vI}{L:Lay}{w:World}{v:vI}
 (hL:∀(i:Nat) g cs,L[i]? =some (some g,some cs)->Cu L w g cs) (hargs:aW (jY L) args args') (hv:cK v=true)
 (hc:CALL P ⟨.func f,args,[],none⟩ (ku L) (λr pm h'=>pm=none/\r=.ok v/\Agree (ku L) h')):
 Calls P f ⟨args'⟩ w (λe w'=>e=.returned v/\Below w.heap.size w w'):=by
 have hM:=aaU Aq hc;have hW:WR P (jY L) (ku L) w:=abl hL;obtain⟨nx,F0,n1,n2,n3⟩:=hM (jY L) w (.func f) args' [] (λg hg=>by rw[hgl]at hg;omega) hW (.func f) hargs .nil;have hnx:nx=.enter f ⟨args'⟩:=by
  have hcall:(callFunc f ⟨args'⟩).run P w=.ok (.enter f ⟨args'⟩) w:=by
   simp only[callFunc,dG,run_program,dJ,hfn,hname,hbody,vJ,if_false,fw]
  have e:(⟨args'⟩:Array vI)++(⟨[]⟩:Array vI)=⟨args'⟩:=BH
  have n1:(invoke (.fn (.func f) ⟨[]⟩) ⟨args'⟩).run P w=.ok nx w:=n1;simp only[invoke,e]at n1;rw[hcall]at n1;cases n1;rfl
 subst hnx;have Az:F0=Frame.enter P f ⟨args'⟩ .normal:=by
  have:entry P .normal (.enter f ⟨args'⟩)=some (Frame.enter P f ⟨args'⟩ .normal):=rfl;have n2:entry P .normal (.enter f ⟨args'⟩)=some F0:=n2;rw[this]at n2;exact(Option.some.inj n2).symm
 subst Az;intro cs;obtain⟨r,pm',h',β',w',r',cs1,q1,q2,q3,q4,q5,q6⟩:=n3 cs (by intro m hm;cases hm);obtain⟨hp,rfl,hag⟩:=q1;cases q5;cases q4 with
 | @ok v v' rF=>
   have:=rF.qb hv;subst this;rcases q6 with⟨f1,a1,F1,e1,e2,e3,e4,e5⟩|⟨⟨_,l,e1⟩,_⟩
   .cases e1;refine⟨.returned v',w',F1,⟨rfl,?_⟩,e2,e3,?_⟩
    .refine⟨q3.os,q3.tape,q3.output,q3.size,λk hk=>?_⟩;by_cases hx:∀i g,jY L i=some g->(ku L).get i≠none->g.b≠k
     .exact q3.keep k hk hx
     .have hx:∃i g,jY L i=some g/\(ku L).get i≠none/\g.b=k:=by
       exact sx
      obtain⟨i,g,hi,hg,rfl⟩:=hx;have hin:=hW.dom i g hi;exact q3.tq i g (by rw[hag.low (bT _)];exact hin) hin hi hg hk
    .exact uc
   .cases e1
open Go.WideShapes Go.ChangeShapes
section
variable {H:Type} {enc:adH×vI->H}
variable{w w':World}
def abn(hb:Below w.heap.size w w'){a:Addr}(ha:a.block<w.heap.size):w'.cell? a=w.cell? a:=by
 simp only[World.cell?,hb.block _ ha]
def abo(hb:Below w.heap.size w w'){p:MemPlace}(hp:p.block<w.heap.size):w.sameAt w' p:=by
 cases p with
 |cell b off=>exact abn hb hp
 |map b=>exact hb.block b hp
def Mm{T:adH->Prop}(K:Kids P T)(hsz:∀{t e:adH},T t->P.underlying t=some (.slice e)->0<P.cellsOf e){w w':World}(hb:Below w.heap.size w w'){sp:Nat->Bool}:∀{ts:kI adH} {vs:kI vI} {ds:kI (DataW H)} {ps:kI MemPlace},
 (∀t∈ts,T t)->DataW.TrodAll enc P w 0 (λ_=>true) true ts vs ds ps->(∀p∈ps,sp p.block=true)->DataW.TrodAll enc P w' 0 sp true ts vs ds ps
 |[],[],[],_,_,h,_=>h
 |t::_,v::_,d::_,_,hT,⟨p,q,⟨n,h1⟩,h2,e⟩,hs=>by
  refine⟨p,q,⟨n,?_⟩,Mm K hsz hb (λt ht=>hT t (dx.2 (.inr ht))) h2 (λx hx=>hs x (by rw[e];exact nA _ hx)),e⟩;exact DataW.trod_stays K hsz (λh=>by cases h) (hT t (dx.2 (.inl rfl))) h1 (λx hx=>abo hb (DataW.trod_lt n _ _ _ h1 x hx)) (λx hx=>hs x (by rw[e];exact je _ hx))
def abp(hb:Below w.heap.size w w')(may:MemPlace->Prop):w.keptBut w' may:=by
 refine⟨hb.os,hb.output,λi hi=>?_⟩;rw[hb.block i hi];cases h:w.heap[i]? with
 |none=>rfl
 |some o=>cases o<;>simp
def RQ{f:Func}{s:ChangeSpec}{apart fresh handsOn again:Bool}{W W':World}{args:Array vI}{v:vI}{ds gs:kI (DataW H)}{before pa pv:kI MemPlace}
 (hW:DataW.Whole enc P f.params.toList s.vars apart W args.toList ds gs before)
 (hres:∀(b:Nat) (sp:Nat->Bool) (hd:Bool),DataW.TrodAll enc P W' b sp hd f.resultTypes.toList (v.resultList f.resultTypes.size) (s.fn H (ds++gs)).results [])
 (hargs:∀sp:Nat->Bool,(∀p∈before,sp p.block=true)->DataW.TrodAll enc P W' 0 sp true f.params.toList args.toList (s.fn H (ds++gs)).args pa)
 (hvars:∀sp:Nat->Bool,(∀p∈before,sp p.block=true)->DataW.TrodVars enc P W' sp s.vars (s.fn H (ds++gs)).vars pv)
 (hps:before=pa++pv) (hb:Below W.heap.size W W')
 (hok:∀(j:Nat) (t:adH) (r:vI),f.resultTypes[j]? =some t->(v.resultList f.resultTypes.size)[j]? =some r->Value.okWide P W' .any 0 t r):
 s.post enc P f apart fresh handsOn again W args v W':=by
 have hlt:=hW.lt;have hold:∀p∈before,(λb=>decide (b<W.heap.size)) p.block=true:=λp hp=>dK (hlt p hp);refine⟨ds,gs,before,[],pa,pv,hW,hres _ _ _,hargs _ hold,hvars _ hold,abp hb _,λ_=>?_⟩;obtain⟨_,_,_,_,_,hz,hn⟩:=hW;refine⟨hok,_,_,([]++pa)++pv,⟨[]++pa,pv,trodAll_append (hargs _ (λ_ _=>rfl)) (hres _ _ _),hvars _ (λ_ _=>rfl),rfl,?_,?_⟩,?_⟩
 .intro b off hp;have hm:MemPlace.cell b off∈before:=by rw[hps];simpa using hp
  have h1:b<W.heap.size:=hlt _ hm;have:=hz b off hm;simp only[World.frozen?,hb.block b h1]at this⊢;exact this
 .intro ha;have:=hn ha;rw[hps]at this;simpa using this
 .intro p hp _;rw[hps];simpa using hp
end
end Go.Ideal
namespace Go.Ideal
open Go.ChangeShapes Go.WideShapes Go.ChangeAt Go.RowKit
section
variable {H:Type} {enc:adH×vI->H} {P:Program} {W:World} {t e:adH}
end
