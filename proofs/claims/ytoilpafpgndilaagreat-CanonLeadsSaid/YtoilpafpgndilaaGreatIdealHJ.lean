/- Part. -/
import Derived.Test.YtoilpafpgndilaaGreatIdealGJ
import Derived.ChangeStays
import Derived.ChangeSame
import Derived.ChangeSlices
import Derived.ProofKit
set_option linter.all false
namespace Go.Ideal
variable {P:Program}
def At(h:IH)(b:Nat)(o:dL):Prop:=b<h.next/\h.get b=some o
structure Agree(h h':IH):Prop where
 next:h.next<=h'.next
 get:∀i,i<h.next->h'.get i=h.get i
 low:h.low<=h.next->h'.low=h.low
def Agree.refl(h:IH):Agree h h:=⟨aZ _,λ_ _=>rfl,λ_=>rfl⟩
variable{h:IH}
def Agree.trans{h1 h2:IH}(a:Agree h h1)(b:Agree h1 h2):Agree h h2:=
 ⟨oH a.next b.next,λi hi=>(b.get i (pu hi a.next)).trans (a.get i hi),λhl=>(b.low (by rw[a.low hl];exact oH hl a.next)).trans (a.low hl)⟩
variable{h':IH}{b:Nat}{o:dL}
def At.agree(a:At h b o)(g:Agree h h'):At h' b o:=⟨pu a.1 g.next,(g.get b a.1).trans a.2⟩
def QW(h:IH)(o:dL):Agree h (h.new o):=⟨Dw _,λi hi=>by rw[IH.jq,if_neg s6],λ_=>rfl⟩
def QX(h:IH)(o:dL):At (h.new o) h.next o:=⟨zY _,by rw[IH.jq,if_pos rfl]⟩
structure QY(h h':IH)(b:Nat)(o:dL):Prop where
 next:h'.next=h.next
 get:∀i,i≠b->h'.get i=h.get i
 at_:At h' b o
 low:h.low<=b->h'.low=h.low
variable{c:Nat}
def At.turn{o':dL}(a:At h c o')(t:QY h h' b o)(hn:c≠b):At h' c o':=⟨by rw[t.next];exact a.1,(t.get c hn).trans a.2⟩
def Agree.turn{h0:IH}(a:Agree h0 h)(t:QY h h' b o)(hn:h0.next<=b):Agree h0 h':=
 ⟨by rw[t.next];exact a.next,λi hi=>(t.get i s6).trans (a.get i hi),λhl=>(t.low (by rw[a.low hl];omega)).trans (a.low hl)⟩
def Cells(h:IH)(b:Nat)(cs:ae ah):Prop:=b<h.next/\(h.get b=some (.cells cs)\/h.get b=some (.jV cs))
variable{cs:ae ah}
def At.cX(a:At h b (.cells cs)):Cells h b cs:=⟨a.1,.inl a.2⟩
def Cells.agree(a:Cells h b cs)(g:Agree h h'):Cells h' b cs:=⟨pu a.1 g.next,by rw[g.get b a.1];exact a.2⟩
def Cells.turn(a:Cells h c cs)(t:QY h h' b o)(hn:c≠b):Cells h' c cs:=⟨by rw[t.next];exact a.1,by rw[t.get c hn];exact a.2⟩
def Cells.qF(a:Cells h b cs)(o:Nat):h.qF b o=cs[o]?:=by
 rcases a.2 with e|e<;>simp only[IH.qF,e,uw]
def Cells.jd(a:Cells h b cs)(o m:Nat):h.jd b o m=jM (kw cs o) m:=by
 rcases a.2 with e|e<;>simp only[IH.jd,e]
def AL(h:IH)(v:ah)(xs:ae Int):Prop:=
 (xs=[]/\∃a m c,v=.slice a m c/\m=0)\/
 ∃i o f c cs,v=.slice (some ⟨i,o,some f⟩) xs.length c/\Cells h i cs/\∀(k:Nat) x,xs[k]? =some x->cs[o+k]? =some (.int .i64 x)
variable{v:ah}{xs:ae Int}
def AL.agree(a:AL h v xs)(g:Agree h h'):AL h' v xs:=by
 rcases a with h1|⟨i,o,f,c,cs,h1,h2,h3⟩
 .exact .inl h1
 .exact .inr ⟨i,o,f,c,cs,h1,h2.agree g,h3⟩
def AL.form(a:AL h v xs):∃b c,v=.slice b xs.length c:=by
 exact lR
def bO(l:qr)(g:ak (Tmp×Bool)):Bool:=
 match g with
 |none=>true
 |some (t,w)=>match lk l t with
  | .bool b=>cond w b (!b)
  |_=>false
def F4(l:qr)(g:ak (Tmp×Bool)):Bool:=
 match g with
 |none=>false
 |some (t,w)=>match lk l t with
  | .bool b=>cond w (!b) b
  | .chan _=>true
  |_=>false
def XY(n:Nat):goInt n=.int .i64 (n:Int):=rfl
section
variable {ds:ae Tmp} {rest:ae bN} {n:Nat} {l:qr} {D:ae Deferred} {pm:ak FrameMode} {ro:ak Nat} {h:IH} {K:KO} {d:Nat} {g:ak (Tmp×Bool)}
def zn(hg:bO l g=true):(act n l D pm ro).wants g=some true:=by
 cases g with
 |none=>rfl
 |some p=>
  obtain⟨t,w⟩:=p;rw[I8];simp only[bO]at hg;split at hg
  .rename_i b hb;rw[hb];simp only[hg]
  .cases hg
def ag1(hn:Nat.blt d n=true)(hg:F4 l g=true){op:aK}{re:ae jc}(next:aM P ds rest (act n ((d,wF)::l) D pm ro) h K):aM P ds (⟨⟨some d,g,op⟩,re⟩::rest) (act n l D pm ro) h K:=by
 refine .skip ?_ x7;show(act n l D pm ro).wants g=some false;exact fh
variable{v:ah}{op:aK}{h':IH}
def mV(hn:Nat.blt d n=true)(hg:bO l g=true)(hr:op.run P (ev l) h=some (v,h'))
 (next:aM P ds rest (act n ((d,v)::l) D pm ro) h' K):aM P ds (⟨⟨some d,g,op⟩,[]⟩::rest) (act n l D pm ro) h K:=
 .mg (zn hg) v h' wx x6 x7
def LH(hg:bO l g=true)(hr:op.run P (ev l) h=some (v,h'))
 (next:aM P ds rest (act n l D pm ro) h' K):aM P ds (⟨⟨none,g,op⟩,[]⟩::rest) (act n l D pm ro) h K:=
 .mg (zn hg) v h' wx x6 next
variable{x:ay}{m c:Nat}
def XZ{a:ak Addr}(hn:Nat.blt d n=true)(hg:bO l g=true)(hx:ev l x=.slice a m c)
 (next:aM P ds rest (act n ((d,.int .i64 (m:Int))::l) D pm ro) h K):aM P ds (⟨⟨some d,g,.pR x⟩,[]⟩::rest) (act n l D pm ro) h K:=
 mV hn hg (by simp only[aK.run,hx,XY]) next
def AO(op:BinOp)(t:aD)(x y:ay)(a b:Int)(v:ah)(hv:rJ op .i64 a b=some v):l7 P op t x y (.int .i64 a) (.int .i64 b)=some v:=by
 simp only[l7,xR,cond,hv]
def Jb{m:Int}(h1: -9223372036854775808<=m)(h2:m<9223372036854775808):H9 .i64 m=m:=by
 rw[Ea];exact IntWalk.i64_in m ⟨h1,s6⟩
variable{b:Nat}
def QZ{a:Nat}(h:a<b):Nat.blt a b=true:=by simp only[wy];exact h
variable{o:Nat}
def LJ{i:ay}{size:Nat}{f:ak Nat}{k:Int}{kk:IntKind}(hn:Nat.blt d n=true)(hg:bO l g=true)(hx:ev l x=.slice (some ⟨b,o,f⟩) m c)(hi:ev l i=.int kk k)
 (h0:0<=k) (h1:k<m) (next:aM P ds rest (act n ((d,.pointer (some ⟨b,o+k.toNat*size,none⟩))::l) D pm ro) h K):aM P ds (⟨⟨some d,g,.jw size x i⟩,[]⟩::rest) (act n l D pm ro) h K:=by
 obtain⟨j,rfl⟩:=gV h0;refine mV hn hg ?_ next
 simp only[aK.run,hx,hi];show cond (Nat.blt j m) _ _=_;rw[QZ s6];rfl
variable{cs:ae ah}
def Jc(hn:Nat.blt d n=true)(hg:bO l g=true)(hx:ev l x=.pointer (some ⟨b,o,none⟩))(ha:At h b (.cells cs))(hv:cs[o]? =some v)
 (next:aM P ds rest (act n ((d,v)::l) D pm ro) h K):aM P ds (⟨⟨some d,g,.fE x⟩,[]⟩::rest) (act n l D pm ro) h K:=
 mV hn hg (by simp only[aK.run,hx,ha.cX.qF,hv]) next
def ag2{r:ae ah}(hn:Nat.blt d n=true)(hg:bO l g=true)(hx:ev l x=.pointer (some ⟨b,o,none⟩))(ha:At h b (.cells cs))(hv:jM (kw cs o) m=some r)
 (next:aM P ds rest (act n ((d,.agg ⟨r⟩)::l) D pm ro) h K):aM P ds (⟨⟨some d,g,.sH m x⟩,[]⟩::rest) (act n l D pm ro) h K:=
 mV hn hg (by simp only[aK.run,hx,ha.cX.jd,hv]) next
def LK:∀(cs:ae ah) (o:Nat) (v:ah),o<cs.length->jH cs o [v]=some (cs.set o v)
 |[],o,v,h=>by simp at h
 |c::cs,0,v,_=>by rw[Ld];cases cs<;>rfl
 |c::cs,o+1,v,h=>by rw[PS,LK cs o v tf];rfl
def s_call{f:ay}{args:ae ay}{re:ae jc}(hn:Nat.blt d n=true)(hg:bO l g=true)(fn:Fn){first captured:ae ah}(hf:ev l f=.func fn ⟨first⟩ ⟨captured⟩)(M:KR)
 (hc:CALL P ⟨fn,first++args.map (ev l),captured,none⟩ h M)
 (hs:∀v h',M (.ok v) none h'->∀r∈re,∃u h2,r.op.run P (ev ((d,v)::l)) h'=some (u,h2)/\∀d',r.dst=some d'->lk ((d,v)::l) d'=u)
 (hok:∀v h',M (.ok v) none h'->aM P ds rest (act n ((d,v)::l) D pm ro) h' K)
 (jC:∀ch h',M (.gI ch) none h'->K (.panic ch) (forget ds (act n l D pm ro)) h') (hno:∀r p h',M r p h'->p=none):aM P ds (⟨⟨some d,g,.call f args⟩,re⟩::rest) (act n l D pm ro) h K:=by
 refine .call (zn hg) ⟨fn,first++args.map (ev l),captured,none⟩ (by simp only[Ap,pY,hf,jW,zg]) M hc ?_ ?_ ?_
 .intro v p h' hm r hr _;have:=hno _ _ _ hm;subst this;obtain⟨u,h2,e1,e2⟩:=hs v h' hm r hr;exact fW
 .intro v p h' hm;have:=hno _ _ _ hm;subst this;rw[sO hn];exact hok v h' hm
 .intro ch p h' hm;have:=hno _ _ _ hm;subst this;exact jC ch h' hm
section
variable {a:bi} {x y:dz} {i j m0:Nat} {I:Nat->bi->IH->Prop} {ch:ae PanicEntry}
def ag3(e:Nat.beq j i=true)(k:K .normal a h):AJ i K (.exit j) a h:=by
 have:j=i:=mU e;subst this;show K (inBlock j (.exit j)) a h;simp only[inBlock];rw[e];exact k
def ag4(e:Nat.beq j i=false)(k:K (.exit j) a h):AJ i K (.exit j) a h:=by
 show K (inBlock i (.exit j)) a h;simp only[inBlock];rw[e];exact k
end
def ag5{l0:qr}{I:Nat->bi->IH->Prop}{m0:Nat}(m':Nat)(hlt:m'<m0)(hs:sub l0 l)(k:I m' (act n l0 D pm ro) h):yu I m0 K .normal (act n l D pm ro) h:=
 ⟨m',_,hlt,QT hs,k⟩
end
end Go.Ideal
namespace Go.Ideal
variable {P:Program}
section
variable {ds:ae Tmp} {rest:ae bN} {n:Nat} {l:qr} {D:ae Deferred} {pm:ak FrameMode} {ro:ak Nat} {h:IH} {K:KO} {d:Nat} {g:ak (Tmp×Bool)}
structure Cr(h h':IH)(b:Nat)(o:dL):Prop where
 next:h'.next=h.next+1
 get:∀i,i<h.next->i≠b->h'.get i=h.get i
 at_:At h' h.next o
 low:h.low<=b->h'.low=h.low
variable{b o m size bytes k:Nat}{x s:ay}{e:aD}{xs:ae ah}
def Q0{f:ak Nat}{old:ae ah}(hn:Nat.blt d n=true)(hg:bO l g=true)
 (hs:ev l s=.slice (some ⟨b,o,f⟩) m m) (hx:ql (ev l x)=some (k+1)) (hxs:pE size (k+1) (ev l x) h=some xs) (hold:h.jd b o (m*size)=some old)
 (hf:f=some 0\/f=some size) (hm:(m+(k+1))*bytes<=1073741824/\(m+(k+1))*size<=1073741824/\m+(k+1)<=1073741824)
 (next:∀h',Cr h h' b (.cells (old++xs))->aM P ds rest (act n ((d,.slice (some ⟨h.next,0,some size⟩) (m+(k+1)) (m+(k+1)))::l) D pm ro) h' K):
 aM P ds (⟨⟨some d,g,.append e size bytes s x⟩,[]⟩::rest) (act n l D pm ro) h K:=by
 have hle:∀{a b:Nat},a<=b->Nat.ble a b=true:=λh=>by rw[uY];exact h
 have hlt:Nat.ble (m+(k+1)) m=false:=by
  exact ph
 have hc:(Nat.ble (Nat.mul (m+(k+1)) bytes) small&&Nat.ble (Nat.mul (m+(k+1)) size) small&&Nat.ble (m+(k+1)) small)=true:=by
  exact gA
 have hrun:∃h',(aK.append e size bytes s x).run P (ev l) h=some (.slice (some ⟨h.next,0,some size⟩) (m+(k+1)) (m+(k+1)),h')/\Cr h h' b (.cells (old++xs)):=by
  exact cA
 obtain⟨h',hr,hM⟩:=hrun;exact mV hn hg hr (next h' hM)
def X0{c:Nat}(hn:Nat.blt d n=true)(hg:bO l g=true)
 (hs:ev l s=.slice none 0 0) (hx:ql (ev l x)=some (k+1)) (hxs:pE size (k+1) (ev l x) h=some xs)
 (hm:(k+1)*bytes<=1073741824/\(k+1)*size<=1073741824/\(k+1)<=1073741824)
 (next:∀h',Agree h h'->At h' h.next (.cells xs)->h'.next=h.next+1->aM P ds rest (act n ((d,.slice (some ⟨h.next,0,some size⟩) (k+1) (k+1))::l) D pm ro) h' K):
 aM P ds (⟨⟨some d,g,.append e size bytes s x⟩,[]⟩::rest) (act n l D pm ro) h K:=by
 have hle:∀{a b:Nat},a<=b->Nat.ble a b=true:=λh=>by rw[uY];exact h
 have e0:Nat.add 0 (k+1)=k+1:=eB _;refine mV hn hg (h':=h.new (.cells xs)) ?_ (next _ (QW _ _) (QX _ _) rfl);have Eg:Al size (k+1) (ev l x) h=some xs:=hxs;simp only[aK.run,hx,Eg,hs,zb,e0];rw[hle (show Nat.mul (k+1) bytes<=small from hm.1),hle (show Nat.mul (k+1) size<=small from hm.2.1),hle (show k+1<=small from hm.2.2)];have e1:pE size 0 (.slice none 0 0) h=some []:=by
  exact qu
 have e2:Nat.ble (k+1) 0=false:=rfl;simp only[Pk,cond_true,e2,cond_false,e1,jW,cK]
variable{cs r:ae ah}
def At.qj(a:At h b (.cells cs))(hr:jM (kw cs o) m=some r):h.qj b o m=some r:=by
 simp only[IH.qj,a.2,hr]
def X3(x:ah):∀n,zeros [x] n=List.replicate n x
 |0=>rfl
 |n+1=>by
  show lM [x] (zeros [x] n)=_;rw[X3 x n,jW];rfl
def At.jd(a:At h b (.cells cs))(hr:jM (kw cs o) m=some r):h.jd b o m=some r:=by
 rw[a.cX.jd,hr]
def Eh(ds:ae Tmp)(n:Nat)(l:qr):qr:=
 match ds with
 |[]=>l
 |d::ds=>Eh ds n (cond (Nat.blt d n) ((d,dX)::l) l)
def LM:∀(ds:ae Tmp) (l:qr),forget ds (act n l D pm ro)=act n (Eh ds n l) D pm ro
 |[],l=>rfl
 |d::ds,l=>by
  show forget ds ((act n l D pm ro).set d dX)=_;simp only[Eh];cases hb:Nat.blt d n with
  |true=>
   rw[show(act n l D pm ro).set d dX=act n ((d,dX)::l) D pm ro from sO hb];exact LM ds _
  |false=>
   rw[show(act n l D pm ro).set d dX=act n l D pm ro by simp only[bi.set,act,hb,cond]];exact LM ds _
def ag6{t:aD}{v:ah}{dst:ak Tmp}{re:ae jc}(hg:bO l g=true)(hx:ev l x=.iface t v)
 (hk:K (.panic [{v:=.iface t v,recovered:=false}]) (act n (Eh ds n l) D pm ro) h):aM P ds (⟨⟨dst,g,.panic x⟩,re⟩::rest) (act n l D pm ro) h K:=
 .panic (zn hg) x rfl t v (by rw[pY];exact hx) (by rw[LM];exact hk)
def ag7{f:ay}{args:ae ay}{fn:Fn}{first captured:ae ah}(hg:bO l g=true)(hro:ro=none)(hf:ev l f=.func fn ⟨first⟩ ⟨captured⟩)
 (next:aM P ds rest (act n l ({target:=.fn fn ⟨captured⟩,args:=⟨first++args.map (ev l)⟩}::D) pm ro) h K):aM P ds (⟨⟨none,g,.dcall f args⟩,[]⟩::rest) (act n l D pm ro) h K:=by
 refine .defer (zn hg) f args rfl rfl hro fn first captured (by rw[pY];exact hf) ?_
 rw[pY];rw[<- jW,<- zg]at next
 exact next
def ag8{m:FrameMode}(hn:Nat.blt d n=true)(hg:bO l g=true)(hro:ro=none)
 (next:aM P ds rest (act n ((d,(kV m).1)::l) D (some (kV m).2) ro) h K):aM P ds (⟨⟨some d,g,.recover⟩,[]⟩::rest) (act n l D (some m) ro) h K:=by
 refine .recoverD (zn hg) rfl rfl m rfl hro ?_;have:({act n l D (some m) ro with pm:=some (kV m).2}:bi)=act n l D (some (kV m).2) ro:=rfl;rw[this,sO hn];exact next
def X4{f:fO}{args cap:ae ah}{pm:ak FrameMode}{h:IH}{K:KR}(cf:iG)(fn:Func)(hf:P.funcs[f]? =some fn)(hcf:xS P fn=some cf)
 (hb:EV P cf.body (DW cf.ntmps (args++cap) pm) h (λo a h'=>match wJ o with
   |none=>False
   |some m=>LEAVE P cf a.tmps a.defers m h' λr h''=>K r a.pm h'')):CALL P ⟨.func f,args,cap,pm⟩ h K:=by
 refine .enter f (args++cap) (by simp only[target,jW]) fn hf cf hcf _ hb ?_ ?_
 .intro o a h hm e;rw[e]at hm;exact hm
 .intro o a h' m hm he;rw[he]at hm;exact hm
end
end Go.Ideal
namespace Go.Ideal
open Go.RowKit
variable {P:Program}
noncomputable def F5:Nat->ae (ak (ae ah))->T dL
 |_,[]=>.leaf
 |i,c::l=>(F5 (i+1) l).set i (c.map .jV)
def X5:∀(l:ae (ak (ae ah))) (i j:Nat),(F5 i l).get j=if i<=j then(l[j - i]?).bind (λc=>c.map .jV)else none
 |[],i,j=>by simp[F5,T.Ik]
 |c::l,i,j=>by
  simp only[F5,T.nJ];by_cases e:j=i
  .subst e;simp
  .rw[if_neg e,X5 l (i+1) j];by_cases h:i<=j
   .rw[if_pos s6,if_pos h];obtain⟨k,hk⟩:∃k,j - i=k+1:=⟨j - i - 1,s6⟩
    rw[hk,uf,show j - (i+1)=k by omega]
   .rw[if_neg s6,if_neg h]
abbrev Lay:=ae (ak je×ak (ae ah))
noncomputable def mh(L:Lay):IH:=⟨F5 0 (L.map (·.2)),L.length,L.length⟩
def lS(L:Lay):aJ:=λi=>(L[i]?).bind (·.1)
def Q3(L:Lay)(i:Nat):(mh L).get i=(L[i]?).bind λp=>p.2.map .jV:=by
 show(F5 0 (L.map (·.2))).get i=_;rw[X5,if_pos (bM _),xN,bU];cases L[i]?<;>rfl
variable{L:Lay}
def ag9{i:Nat}{g:ak je}{cs:ae ah}(h:L[i]? =some (g,some cs)):Cells (mh L) i cs:=
 ⟨(aV.1 h).1,.inr (by rw[Q3,h];rfl)⟩
structure F6(L:Lay)(w:World)(g:je)(cs:List Value):Prop where
 block:∃c t fz,w.heap[g.b]? =some (.cells c t fz)/\(g.top=0\/c.size=g.top)
 sz:g.sz=0
 all:cs.all cellV=true
 cell:∀(j:Nat) v,cs[j]? =some v->∃v',w.cell? ⟨g.b,g.off+j,none⟩=some v'/\VR (lS L) v v'
def aha{w:World}(hL:∀(i:Nat) g cs,L[i]? =some (some g,some cs)->F6 L w g cs):WR P (lS L) (mh L) w:=by
 have hb:∀i g,lS L i=some g->∃cs,L[i]? =some (some g,cs):=λi g h=>by
  unfold lS at h;cases e:L[i]? with
  |none=>rw[e]at h;cases h
  |some p=>
   rw[e]at h;obtain⟨a,cs⟩:=p;have h:a=some g:=h;subst h;exact⟨cs,rfl⟩
 have hlive:∀i o,(mh L).get i=some o->∃g cs,L[i]? =some (g,some cs)/\o=.jV cs:=λi o h=>by
  rw[Q3]at h;cases e:L[i]? with
  |none=>rw[e]at h;cases h
  |some p=>
   obtain⟨g,c⟩:=p;rw[e]at h;cases c with
   |none=>cases h
   |some cs=>cases h;exact⟨g,cs,rfl,rfl⟩
 refine⟨?_,?_,?_,?_⟩
 .intro i g h;obtain⟨cs,e⟩:=hb i g h;exact(aV.1 e).1
 .intro i o h;obtain⟨g,cs,e,_⟩:=hlive i o h;exact(aV.1 e).1
 .intro i g o h ho;obtain⟨c,e⟩:=hb i g h;obtain⟨g',cs,e',rfl⟩:=hlive i o ho;rw[e]at e';cases e';have k:=hL i g cs e;exact⟨k.block,k.sz,k.all,k.cell⟩
 .intro i j g k hi hj hgi hgj hr he
  exfalso
  rcases hr with q|q
  .cases e:(mh L).get i with
   |none=>exact hgi e
   |some o=>
    obtain⟨_,cs,_,rfl⟩:=hlive i o e;exact q cs e
  .cases e:(mh L).get j with
   |none=>exact hgj e
   |some o=>
    obtain⟨_,cs,_,rfl⟩:=hlive j o e;exact q cs e
def ahb(sN:P.follows .mixedOrders=true)(hgl:P.globals.size=0){f:fO}(fn:Func)(hfn:P.funcs[f]? =some fn)(hbody:fn.body.isNone=false)(hname:(fn.name== "runtime.NumGoroutine")=false){args args':ae ah}{L:Lay}{w:World}{v:ah}
 (hL:∀(i:Nat) g cs,L[i]? =some (some g,some cs)->F6 L w g cs) (hargs:aW (lS L) args args') (hv:dG v=true)
 (hc:CALL P ⟨.func f,args,[],none⟩ (mh L) (λr pm h'=>pm=none/\r=.ok v/\Agree (mh L) h')):
 Calls P f ⟨args'⟩ w (λe w'=>e=.returned v/\Below w.heap.size w w'):=by
 have hM:=XM sN hc;have hW:WR P (lS L) (mh L) w:=aha hL;obtain⟨nx,F0,n1,n2,n3⟩:=hM (lS L) w (.func f) args' [] (λg hg=>by rw[hgl]at hg;omega) hW (.func f) hargs .nil;have hnx:nx=.enter f ⟨args'⟩:=by
  have hcall:(callFunc f ⟨args'⟩).run P w=.ok (.enter f ⟨args'⟩) w:=by
   simp only[callFunc,dM,run_program,dR,hfn,hname,hbody,ww,if_false,fG]
  have e:(⟨args'⟩:Array ah)++(⟨[]⟩:Array ah)=⟨args'⟩:=uv
  have n1:(invoke (.fn (.func f) ⟨[]⟩) ⟨args'⟩).run P w=.ok nx w:=n1;simp only[invoke,e]at n1;rw[hcall]at n1;cases n1;rfl
 subst hnx;have AP:F0=Frame.enter P f ⟨args'⟩ .normal:=by
  have:entry P .normal (.enter f ⟨args'⟩)=some (Frame.enter P f ⟨args'⟩ .normal):=rfl;have n2:entry P .normal (.enter f ⟨args'⟩)=some F0:=n2;rw[this]at n2;exact(Option.some.inj n2).symm
 subst AP;intro cs;obtain⟨r,pm',h',β',w',r',cs1,q1,q2,q3,q4,q5,q6⟩:=n3 cs (by intro m hm;cases hm);obtain⟨hp,rfl,hag⟩:=q1;cases q5;cases q4 with
 | @ok v v' pX=>
   have:=pX.rM hv;subst this;rcases q6 with⟨f1,a1,F1,e1,e2,e3,e4,e5⟩|⟨⟨_,l,e1⟩,_⟩
   .cases e1;refine⟨.returned v',w',F1,⟨rfl,?_⟩,e2,e3,?_⟩
    .refine⟨q3.os,q3.tape,q3.output,q3.size,λk hk=>?_⟩;by_cases hx:∀i g,lS L i=some g->(mh L).get i≠none->g.b≠k
     .exact q3.keep k hk hx
     .have hx:∃i g,lS L i=some g/\(mh L).get i≠none/\g.b=k:=by
       exact nt
      obtain⟨i,g,hi,hg,rfl⟩:=hx;have hin:=hW.dom i g hi;exact q3.vD i g (by rw[hag.low (aZ _)];exact hin) hin hi hg hk
    .exact pZ
   .cases e1
open Go.WideShapes Go.ChangeShapes
section
variable {H:Type} {enc:aD×ah->H}
variable{w w':World}
def ahc(hb:Below w.heap.size w w'){a:Addr}(ha:a.block<w.heap.size):w'.cell? a=w.cell? a:=by
 simp only[World.cell?,hb.block _ ha]
def ahd(hb:Below w.heap.size w w'){p:MemPlace}(hp:p.block<w.heap.size):w.sameAt w' p:=by
 cases p with
 |cell b off=>exact ahc hb hp
 |map b=>exact hb.block b hp
def LP{T:aD->Prop}(K:Kids P T)(hsz:∀{t e:aD},T t->P.underlying t=some (.slice e)->0<P.cellsOf e){w w':World}(hb:Below w.heap.size w w'){sp:Nat->Bool}:∀{ts:ae aD} {vs:ae ah} {ds:ae (DataW H)} {ps:ae MemPlace},
 (∀t∈ts,T t)->DataW.TrodAll enc P w 0 (λ_=>true) true ts vs ds ps->(∀p∈ps,sp p.block=true)->DataW.TrodAll enc P w' 0 sp true ts vs ds ps
 |[],[],[],_,_,h,_=>h
 |t::_,v::_,d::_,_,hT,⟨p,q,⟨n,h1⟩,h2,e⟩,hs=>by
  refine⟨p,q,⟨n,?_⟩,LP K hsz hb (λt ht=>hT t (bH.2 (.inr ht))) h2 (λx hx=>hs x (by rw[e];exact nD _ hx)),e⟩;exact DataW.trod_stays K hsz (λh=>by cases h) (hT t (bH.2 (.inl rfl))) h1 (λx hx=>ahd hb (DataW.trod_lt n _ _ _ h1 x hx)) (λx hx=>hs x (by rw[e];exact jl _ hx))
def ahe(hb:Below w.heap.size w w')(may:MemPlace->Prop):w.keptBut w' may:=by
 refine⟨hb.os,hb.output,λi hi=>?_⟩;rw[hb.block i hi];cases h:w.heap[i]? with
 |none=>rfl
 |some o=>cases o<;>simp
def Q4{f:Func}{s:ChangeSpec}{apart fresh handsOn again:Bool}{W W':World}{args:Array ah}{v:ah}{ds gs:ae (DataW H)}{before pa pv:ae MemPlace}
 (hW:DataW.Whole enc P f.params.toList s.vars apart W args.toList ds gs before)
 (hres:∀(b:Nat) (sp:Nat->Bool) (hd:Bool),DataW.TrodAll enc P W' b sp hd f.resultTypes.toList (v.resultList f.resultTypes.size) (s.fn H (ds++gs)).results [])
 (hargs:∀sp:Nat->Bool,(∀p∈before,sp p.block=true)->DataW.TrodAll enc P W' 0 sp true f.params.toList args.toList (s.fn H (ds++gs)).args pa)
 (hvars:∀sp:Nat->Bool,(∀p∈before,sp p.block=true)->DataW.TrodVars enc P W' sp s.vars (s.fn H (ds++gs)).vars pv)
 (hps:before=pa++pv) (hb:Below W.heap.size W W')
 (hok:∀(j:Nat) (t:aD) (r:ah),f.resultTypes[j]? =some t->(v.resultList f.resultTypes.size)[j]? =some r->Value.okWide P W' .any 0 t r):
 s.post enc P f apart fresh handsOn again W args v W':=by
 have hlt:=hW.lt;have hold:∀p∈before,(λb=>decide (b<W.heap.size)) p.block=true:=λp hp=>eT (hlt p hp);refine⟨ds,gs,before,[],pa,pv,hW,hres _ _ _,hargs _ hold,hvars _ hold,ahe hb _,λ_=>?_⟩;obtain⟨_,_,_,_,_,hz,hn⟩:=hW;refine⟨hok,_,_,([]++pa)++pv,⟨[]++pa,pv,trodAll_append (hargs _ (λ_ _=>rfl)) (hres _ _ _),hvars _ (λ_ _=>rfl),rfl,?_,?_⟩,?_⟩
 .intro b off hp;have hm:MemPlace.cell b off∈before:=by rw[hps];simpa using hp
  have h1:b<W.heap.size:=hlt _ hm;have:=hz b off hm;simp only[World.frozen?,hb.block b h1]at this⊢;exact this
 .intro ha;have:=hn ha;rw[hps]at this;simpa using this
 .intro p hp _;rw[hps];simpa using hp
end
end Go.Ideal
namespace Go.Ideal
open Go.ChangeShapes Go.WideShapes Go.ChangeAt Go.RowKit
section
variable {H:Type} {enc:aD×ah->H} {P:Program} {W:World} {t e:aD}
end
