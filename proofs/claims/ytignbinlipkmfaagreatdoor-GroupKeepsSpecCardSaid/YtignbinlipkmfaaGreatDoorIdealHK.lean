/- Part. -/
import Derived.Test.YtignbinlipkmfaaGreatDoorIdealGK
import Derived.ChangeStays
import Derived.ChangeSame
import Derived.ChangeSlices
import Derived.ProofKit
set_option linter.all false
namespace Go.Ideal
variable {P:Program}
def At(h:IH)(b:Nat)(o:bO):Prop:=b<h.next/\h.get b=some o
structure Agree(h h':IH):Prop where
 next:h.next<=h'.next
 get:∀i,i<h.next->h'.get i=h.get i
 low:h.low<=h.next->h'.low=h.low
def Agree.refl(h:IH):Agree h h:=⟨bQ _,λ_ _=>rfl,λ_=>rfl⟩
variable{h:IH}
def Agree.trans{h1 h2:IH}(a:Agree h h1)(b:Agree h1 h2):Agree h h2:=
 ⟨ql a.next b.next,λi hi=>(b.get i (mY hi a.next)).trans (a.get i hi),λhl=>(b.low (by rw[a.low hl];exact ql hl a.next)).trans (a.low hl)⟩
variable{h':IH}{b:Nat}
def At.agree{o:bO}(a:At h b o)(g:Agree h h'):At h' b o:=⟨mY a.1 g.next,(g.get b a.1).trans a.2⟩
def Ob(h:IH)(o:bO):Agree h (h.new o):=⟨AP _,λi hi=>by rw[IH.jF,if_neg tr],λ_=>rfl⟩
def Oc(h:IH)(o:bO):At (h.new o) h.next o:=⟨xW _,by rw[IH.jF,if_pos rfl]⟩
structure aoC(h h':IH)(b:Nat)(o:bO):Prop where
 next:h'.next=h.next
 get:∀i,i≠b->h'.get i=h.get i
 at_:At h' b o
 low:h.low<=b->h'.low=h.low
def Cells(h:IH)(b:Nat)(cs:ae ah):Prop:=b<h.next/\(h.get b=some (.cells cs)\/h.get b=some (.jO cs))
variable{cs:ae ah}
def At.c(a:At h b (.cells cs)):Cells h b cs:=⟨a.1,.inl a.2⟩
def Cells.agree(a:Cells h b cs)(g:Agree h h'):Cells h' b cs:=⟨mY a.1 g.next,by rw[g.get b a.1];exact a.2⟩
def Cells.pK(a:Cells h b cs)(o:Nat):h.pK b o=cs[o]?:=by
 rcases a.2 with e|e<;>simp only[IH.pK,e,rJ]
def Cells.jh(a:Cells h b cs)(o m:Nat):h.jh b o m=jN (kF cs o) m:=by
 rcases a.2 with e|e<;>simp only[IH.jh,e]
def yK(h:IH)(v:ah)(xs:ae Int):Prop:=
 (xs=[]/\∃a m c,v=.slice a m c/\m=0)\/
 ∃i o f c cs,v=.slice (some ⟨i,o,some f⟩) xs.length c/\Cells h i cs/\∀(k:Nat) x,xs[k]? =some x->cs[o+k]? =some (.int .i64 x)
variable{v:ah}{xs:ae Int}
def yK.agree(a:yK h v xs)(g:Agree h h'):yK h' v xs:=by
 rcases a with h1|⟨i,o,f,c,cs,h1,h2,h3⟩
 .exact .inl h1
 .exact .inr ⟨i,o,f,c,cs,h1,h2.agree g,h3⟩
def yK.form(a:yK h v xs):∃b c,v=.slice b xs.length c:=by
 exact mB
def cO(l:qr)(g:ak (Tmp×Bool)):Bool:=
 match g with
 |none=>true
 |some (t,w)=>match lk l t with
  | .bool b=>cond w b (!b)
  |_=>false
def Od(l:qr)(g:ak (Tmp×Bool)):Bool:=
 match g with
 |none=>false
 |some (t,w)=>match lk l t with
  | .bool b=>cond w (!b) b
  | .chan _=>true
  |_=>false
def TY(n:Nat):goInt n=.int .i64 (n:Int):=rfl
section
variable {ds:ae Tmp} {rest:ae bY} {n:Nat} {l:qr} {D:ae Deferred} {pm:ak FrameMode} {ro:ak Nat} {h:IH} {K:KO} {d:Nat} {g:ak (Tmp×Bool)}
def xC(hg:cO l g=true):(act n l D pm ro).wants g=some true:=by
 cases g with
 |none=>rfl
 |some p=>
  obtain⟨t,w⟩:=p;rw[IZ];simp only[cO]at hg;split at hg
  .rename_i b hb;rw[hb];simp only[hg]
  .cases hg
def aeo(hn:Nat.blt d n=true)(hg:Od l g=true){op:aH}{re:ae iU}(next:aJ P ds rest (act n ((d,uA)::l) D pm ro) h K):aJ P ds (⟨⟨some d,g,op⟩,re⟩::rest) (act n l D pm ro) h K:=by
 refine .skip ?_ y4;show(act n l D pm ro).wants g=some false;cases g with
 |none=>cases hg
 |some p=>
  obtain⟨t,w⟩:=p;rw[IZ];simp only[Od]at hg;split at hg
  .rename_i b hb;rw[hb];cases w<;>cases b<;>simp_all
  .rename_i b hb;rw[hb]
  .cases hg
variable{v:ah}{op:aH}{h':IH}
def ni(hn:Nat.blt d n=true)(hg:cO l g=true)(hr:op.run P (ev l) h=some (v,h'))
 (next:aJ P ds rest (act n ((d,v)::l) D pm ro) h' K):aJ P ds (⟨⟨some d,g,op⟩,[]⟩::rest) (act n l D pm ro) h K:=
 .mo (xC hg) v h' xf y3 y4
def Oe(hg:cO l g=true)(hr:op.run P (ev l) h=some (v,h'))
 (next:aJ P ds rest (act n l D pm ro) h' K):aJ P ds (⟨⟨none,g,op⟩,[]⟩::rest) (act n l D pm ro) h K:=
 .mo (xC hg) v h' xf y3 next
variable{x:ay}{m c:Nat}
def TZ{a:ak Addr}(hn:Nat.blt d n=true)(hg:cO l g=true)(hx:ev l x=.slice a m c)
 (next:aJ P ds rest (act n ((d,.int .i64 (m:Int))::l) D pm ro) h K):aJ P ds (⟨⟨some d,g,.yj x⟩,[]⟩::rest) (act n l D pm ro) h K:=
 ni hn hg (by simp only[aH.run,hx,TY]) next
def yL(op:BinOp)(t:aC)(x y:ay)(a b:Int)(v:ah)(hv:qp op .i64 a b=some v):mZ P op t x y (.int .i64 a) (.int .i64 b)=some v:=by
 simp only[mZ,vN,cond,hv]
def T9{m:Int}(h1: -9223372036854775808<=m)(h2:m<9223372036854775808):EI .i64 m=m:=by
 rw[IC];exact IntWalk.i64_in m ⟨h1,tr⟩
variable{b:Nat}
def Og{a:Nat}(h:a<b):Nat.blt a b=true:=by simp only[uo];exact h
variable{o:Nat}
def Oh{i:ay}{size:Nat}{f:ak Nat}{k:Int}{kk:IntKind}(hn:Nat.blt d n=true)(hg:cO l g=true)(hx:ev l x=.slice (some ⟨b,o,f⟩) m c)(hi:ev l i=.int kk k)
 (h0:0<=k) (h1:k<m) (next:aJ P ds rest (act n ((d,.pointer (some ⟨b,o+k.toNat*size,none⟩))::l) D pm ro) h K):aJ P ds (⟨⟨some d,g,.oq size x i⟩,[]⟩::rest) (act n l D pm ro) h K:=by
 obtain⟨j,rfl⟩:=iO h0;refine ni hn hg ?_ next
 simp only[aH.run,hx,hi];show cond (Nat.blt j m) _ _=_;rw[Og tr];rfl
variable{cs:ae ah}
def I5(hn:Nat.blt d n=true)(hg:cO l g=true)(hx:ev l x=.pointer (some ⟨b,o,none⟩))(ha:At h b (.cells cs))(hv:cs[o]? =some v)
 (next:aJ P ds rest (act n ((d,v)::l) D pm ro) h K):aJ P ds (⟨⟨some d,g,.iE x⟩,[]⟩::rest) (act n l D pm ro) h K:=
 ni hn hg (by simp only[aH.run,hx,ha.c.pK,hv]) next
def aep{r:ae ah}(hn:Nat.blt d n=true)(hg:cO l g=true)(hx:ev l x=.pointer (some ⟨b,o,none⟩))(ha:At h b (.cells cs))(hv:jN (kF cs o) m=some r)
 (next:aJ P ds rest (act n ((d,.agg ⟨r⟩)::l) D pm ro) h K):aJ P ds (⟨⟨some d,g,.rz m x⟩,[]⟩::rest) (act n l D pm ro) h K:=
 ni hn hg (by simp only[aH.run,hx,ha.c.jh,hv]) next
def Ua:∀(cs:ae ah) (o:Nat) (v:ah),o<cs.length->kG cs o [v]=some (cs.set o v)
 |[],o,v,h=>by simp at h
 |c::cs,0,v,_=>by rw[MW];cases cs<;>rfl
 |c::cs,o+1,v,h=>by rw[MX,Ua cs o v tE];rfl
def s_call{f:ay}{args:ae ay}{re:ae iU}(hn:Nat.blt d n=true)(hg:cO l g=true)(fn:Fn){first captured:ae ah}(hf:ev l f=.func fn ⟨first⟩ ⟨captured⟩)(M:KR)
 (hc:CALL P ⟨fn,first++args.map (ev l),captured,none⟩ h M)
 (hs:∀v h',M (.ok v) none h'->∀r∈re,∃u h2,r.op.run P (ev ((d,v)::l)) h'=some (u,h2)/\∀d',r.dst=some d'->lk ((d,v)::l) d'=u)
 (hok:∀v h',M (.ok v) none h'->aJ P ds rest (act n ((d,v)::l) D pm ro) h' K)
 (kJ:∀ch h',M (.fU ch) none h'->K (.panic ch) (forget ds (act n l D pm ro)) h') (hno:∀r p h',M r p h'->p=none):aJ P ds (⟨⟨some d,g,.call f args⟩,re⟩::rest) (act n l D pm ro) h K:=by
 refine .call (xC hg) ⟨fn,first++args.map (ev l),captured,none⟩ (by simp only[yx,oz,hf,jQ,vU]) M hc ?_ ?_ ?_
 .intro v p h' hm r hr _;have:=hno _ _ _ hm;subst this;obtain⟨u,h2,e1,e2⟩:=hs v h' hm r hr;exact gk
 .intro v p h' hm;have:=hno _ _ _ hm;subst this;rw[qH hn];exact hok v h' hm
 .intro ch p h' hm;have:=hno _ _ _ hm;subst this;exact kJ ch h' hm
section
variable {a:bi} {x y:dA} {i j m0:Nat} {I:Nat->bi->IH->Prop} {ch:ae PanicEntry}
def aeq(e:Nat.beq j i=true)(k:K .normal a h):yJ i K (.exit j) a h:=by
 have:j=i:=jG e;subst this;show K (inBlock j (.exit j)) a h;simp only[inBlock];rw[e];exact k
def aer(e:Nat.beq j i=false)(k:K (.exit j) a h):yJ i K (.exit j) a h:=by
 show K (inBlock i (.exit j)) a h;simp only[inBlock];rw[e];exact k
end
def aes{l0:qr}{I:Nat->bi->IH->Prop}{m0:Nat}(m':Nat)(hlt:m'<m0)(hs:sub l0 l)(k:I m' (act n l0 D pm ro) h):wz I m0 K .normal (act n l D pm ro) h:=
 ⟨m',_,hlt,N8 hs,k⟩
end
end Go.Ideal
namespace Go.Ideal
variable {P:Program}
section
variable {ds:ae Tmp} {rest:ae bY} {n:Nat} {l:qr} {D:ae Deferred} {pm:ak FrameMode} {ro:ak Nat} {h:IH} {K:KO} {d:Nat} {g:ak (Tmp×Bool)}
structure Bu(h h':IH)(b:Nat)(o:bO):Prop where
 next:h'.next=h.next+1
 get:∀i,i<h.next->i≠b->h'.get i=h.get i
 at_:At h' h.next o
 low:h.low<=b->h'.low=h.low
variable{b o m size bytes k:Nat}{x s:ay}{e:aC}{xs:ae ah}
def Oi{f:ak Nat}{old:ae ah}(hn:Nat.blt d n=true)(hg:cO l g=true)
 (hs:ev l s=.slice (some ⟨b,o,f⟩) m m) (hx:pM (ev l x)=some (k+1)) (hxs:nJ size (k+1) (ev l x) h=some xs) (hold:h.jh b o (m*size)=some old)
 (hf:f=some 0\/f=some size) (hm:(m+(k+1))*bytes<=1073741824/\(m+(k+1))*size<=1073741824/\m+(k+1)<=1073741824)
 (next:∀h',Bu h h' b (.cells (old++xs))->aJ P ds rest (act n ((d,.slice (some ⟨h.next,0,some size⟩) (m+(k+1)) (m+(k+1)))::l) D pm ro) h' K):
 aJ P ds (⟨⟨some d,g,.append e size bytes s x⟩,[]⟩::rest) (act n l D pm ro) h K:=by
 have hle:∀{a b:Nat},a<=b->Nat.ble a b=true:=λh=>by rw[wV];exact h
 have hlt:Nat.ble (m+(k+1)) m=false:=by
  exact pS
 have hc:(Nat.ble (Nat.mul (m+(k+1)) bytes) small&&Nat.ble (Nat.mul (m+(k+1)) size) small&&Nat.ble (m+(k+1)) small)=true:=by
  exact hJ
 have hrun:∃h',(aH.append e size bytes s x).run P (ev l) h=some (.slice (some ⟨h.next,0,some size⟩) (m+(k+1)) (m+(k+1)),h')/\Bu h h' b (.cells (old++xs)):=by
  exact cm
 obtain⟨h',hr,hM⟩:=hrun;exact ni hn hg hr (next h' hM)
def Ub{c:Nat}(hn:Nat.blt d n=true)(hg:cO l g=true)
 (hs:ev l s=.slice none 0 0) (hx:pM (ev l x)=some (k+1)) (hxs:nJ size (k+1) (ev l x) h=some xs)
 (hm:(k+1)*bytes<=1073741824/\(k+1)*size<=1073741824/\(k+1)<=1073741824)
 (next:∀h',Agree h h'->At h' h.next (.cells xs)->h'.next=h.next+1->aJ P ds rest (act n ((d,.slice (some ⟨h.next,0,some size⟩) (k+1) (k+1))::l) D pm ro) h' K):
 aJ P ds (⟨⟨some d,g,.append e size bytes s x⟩,[]⟩::rest) (act n l D pm ro) h K:=by
 have hle:∀{a b:Nat},a<=b->Nat.ble a b=true:=λh=>by rw[wV];exact h
 have e0:Nat.add 0 (k+1)=k+1:=fq _;refine ni hn hg (h':=h.new (.cells xs)) ?_ (next _ (Ob _ _) (Oc _ _) rfl);have Bv:zC size (k+1) (ev l x) h=some xs:=hxs;simp only[aH.run,hx,Bv,hs,ym,e0];rw[hle (show Nat.mul (k+1) bytes<=small from hm.1),hle (show Nat.mul (k+1) size<=small from hm.2.1),hle (show k+1<=small from hm.2.2)];have e1:nJ size 0 (.slice none 0 0) h=some []:=by
  exact rL
 have e2:Nat.ble (k+1) 0=false:=rfl;simp only[Mq,cond_true,e2,cond_false,e1,jQ,dU]
variable{cs r:ae ah}
def At.oO(a:At h b (.cells cs))(hr:jN (kF cs o) m=some r):h.oO b o m=some r:=by
 simp only[IH.oO,a.2,hr]
def Uc(x:ah):∀n,zeros [x] n=List.replicate n x
 |0=>rfl
 |n+1=>by
  show lC [x] (zeros [x] n)=_;rw[Uc x n,jQ];rfl
def At.jh(a:At h b (.cells cs))(hr:jN (kF cs o) m=some r):h.jh b o m=some r:=by
 rw[a.c.jh,hr]
def Bw(ds:ae Tmp)(n:Nat)(l:qr):qr:=
 match ds with
 |[]=>l
 |d::ds=>Bw ds n (cond (Nat.blt d n) ((d,dR)::l) l)
def I6:∀(ds:ae Tmp) (l:qr),forget ds (act n l D pm ro)=act n (Bw ds n l) D pm ro
 |[],l=>rfl
 |d::ds,l=>by
  show forget ds ((act n l D pm ro).set d dR)=_;simp only[Bw];cases hb:Nat.blt d n with
  |true=>
   rw[show(act n l D pm ro).set d dR=act n ((d,dR)::l) D pm ro from qH hb];exact I6 ds _
  |false=>
   rw[show(act n l D pm ro).set d dR=act n l D pm ro by simp only[bi.set,act,hb,cond]];exact I6 ds _
def aet{t:aC}{v:ah}{dst:ak Tmp}{re:ae iU}(hg:cO l g=true)(hx:ev l x=.iface t v)
 (hk:K (.panic [{v:=.iface t v,recovered:=false}]) (act n (Bw ds n l) D pm ro) h):aJ P ds (⟨⟨dst,g,.panic x⟩,re⟩::rest) (act n l D pm ro) h K:=
 .panic (xC hg) x rfl t v (by rw[oz];exact hx) (by rw[I6];exact hk)
def aeu{f:ay}{args:ae ay}{fn:Fn}{first captured:ae ah}(hg:cO l g=true)(hro:ro=none)(hf:ev l f=.func fn ⟨first⟩ ⟨captured⟩)
 (next:aJ P ds rest (act n l ({target:=.fn fn ⟨captured⟩,args:=⟨first++args.map (ev l)⟩}::D) pm ro) h K):aJ P ds (⟨⟨none,g,.dcall f args⟩,[]⟩::rest) (act n l D pm ro) h K:=by
 refine .defer (xC hg) f args rfl rfl hro fn first captured (by rw[oz];exact hf) ?_
 rw[oz];rw[<- jQ,<- vU]at next
 exact next
def aev{m:FrameMode}(hn:Nat.blt d n=true)(hg:cO l g=true)(hro:ro=none)
 (next:aJ P ds rest (act n ((d,(ko m).1)::l) D (some (ko m).2) ro) h K):aJ P ds (⟨⟨some d,g,.recover⟩,[]⟩::rest) (act n l D (some m) ro) h K:=by
 refine .recoverD (xC hg) rfl rfl m rfl hro ?_;have:({act n l D (some m) ro with pm:=some (ko m).2}:bi)=act n l D (some (ko m).2) ro:=rfl;rw[this,qH hn];exact next
def Ud{f:iI}{args cap:ae ah}{pm:ak FrameMode}{h:IH}{K:KR}(cf:iF)(fn:Func)(hf:P.funcs[f]? =some fn)(hcf:vO P fn=some cf)
 (hb:EV P cf.body (Be cf.ntmps (args++cap) pm) h (λo a h'=>match vP o with
   |none=>False
   |some m=>LEAVE P cf a.tmps a.defers m h' λr h''=>K r a.pm h'')):CALL P ⟨.func f,args,cap,pm⟩ h K:=by
 refine .enter f (args++cap) (by simp only[target,jQ]) fn hf cf hcf _ hb ?_ ?_
 .intro o a h hm e;rw[e]at hm;exact hm
 .intro o a h' m hm he;rw[he]at hm;exact hm
end
end Go.Ideal
namespace Go.Ideal
open Go.RowKit
variable {P:Program}
noncomputable def Dn:Nat->ae (ak (ae ah))->T bO
 |_,[]=>.leaf
 |i,c::l=>(Dn (i+1) l).set i (c.map .jO)
def Ue:∀(l:ae (ak (ae ah))) (i j:Nat),(Dn i l).get j=if i<=j then(l[j - i]?).bind (λc=>c.map .jO)else none
 |[],i,j=>by simp[Dn,T.ER]
 |c::l,i,j=>by
  simp only[Dn,T.nM];by_cases e:j=i
  .subst e;simp
  .rw[if_neg e,Ue l (i+1) j];by_cases h:i<=j
   .rw[if_pos tr,if_pos h];obtain⟨k,hk⟩:∃k,j - i=k+1:=⟨j - i - 1,tr⟩
    rw[hk,sI,show j - (i+1)=k by omega]
   .rw[if_neg tr,if_neg h]
abbrev Lay:=ae (ak jf×ak (ae ah))
noncomputable def lG(L:Lay):IH:=⟨Dn 0 (L.map (·.2)),L.length,L.length⟩
def kw(L:Lay):aI:=λi=>(L[i]?).bind (·.1)
def Oj(L:Lay)(i:Nat):(lG L).get i=(L[i]?).bind λp=>p.2.map .jO:=by
 show(Dn 0 (L.map (·.2))).get i=_;rw[Ue,if_pos (bP _),ED,dN];cases L[i]?<;>rfl
variable{L:Lay}
def aew{i:Nat}{g:ak jf}{cs:ae ah}(h:L[i]? =some (g,some cs)):Cells (lG L) i cs:=
 ⟨(bC.1 h).1,.inr (by rw[Oj,h];rfl)⟩
structure Dp(L:Lay)(w:World)(g:jf)(cs:List Value):Prop where
 block:∃c t fz,w.heap[g.b]? =some (.cells c t fz)/\(g.top=0\/c.size=g.top)
 sz:g.sz=0
 all:cs.all cellV=true
 cell:∀(j:Nat) v,cs[j]? =some v->∃v',w.cell? ⟨g.b,g.off+j,none⟩=some v'/\VR (kw L) v v'
def aex{w:World}(hL:∀(i:Nat) g cs,L[i]? =some (some g,some cs)->Dp L w g cs):WR P (kw L) (lG L) w:=by
 have hb:∀i g,kw L i=some g->∃cs,L[i]? =some (some g,cs):=λi g h=>by
  unfold kw at h;cases e:L[i]? with
  |none=>rw[e]at h;cases h
  |some p=>
   rw[e]at h;obtain⟨a,cs⟩:=p;have h:a=some g:=h;subst h;exact⟨cs,rfl⟩
 have hlive:∀i o,(lG L).get i=some o->∃g cs,L[i]? =some (g,some cs)/\o=.jO cs:=λi o h=>by
  rw[Oj]at h;cases e:L[i]? with
  |none=>rw[e]at h;cases h
  |some p=>
   obtain⟨g,c⟩:=p;rw[e]at h;cases c with
   |none=>cases h
   |some cs=>cases h;exact⟨g,cs,rfl,rfl⟩
 refine⟨?_,?_,?_,?_⟩
 .intro i g h;obtain⟨cs,e⟩:=hb i g h;exact(bC.1 e).1
 .intro i o h;obtain⟨g,cs,e,_⟩:=hlive i o h;exact(bC.1 e).1
 .intro i g o h ho;obtain⟨c,e⟩:=hb i g h;obtain⟨g',cs,e',rfl⟩:=hlive i o ho;rw[e]at e';cases e';have k:=hL i g cs e;exact⟨k.block,k.sz,k.all,k.cell⟩
 .intro i j g k hi hj hgi hgj hr he
  exfalso
  rcases hr with q|q
  .cases e:(lG L).get i with
   |none=>exact hgi e
   |some o=>
    obtain⟨_,cs,_,rfl⟩:=hlive i o e;exact q cs e
  .cases e:(lG L).get j with
   |none=>exact hgj e
   |some o=>
    obtain⟨_,cs,_,rfl⟩:=hlive j o e;exact q cs e
open Go.WideShapes Go.ChangeShapes
section
variable {H:Type} {enc:aC×ah->H}
variable{w w':World}
def aey(hb:Below w.heap.size w w'){a:Addr}(ha:a.block<w.heap.size):w'.cell? a=w.cell? a:=by
 simp only[World.cell?,hb.block _ ha]
def aez(hb:Below w.heap.size w w'){p:MemPlace}(hp:p.block<w.heap.size):w.sameAt w' p:=by
 cases p with
 |cell b off=>exact aey hb hp
 |map b=>exact hb.block b hp
def Ol{T:aC->Prop}(K:Kids P T)(hsz:∀{t e:aC},T t->P.underlying t=some (.slice e)->0<P.cellsOf e){w w':World}(hb:Below w.heap.size w w'){sp:Nat->Bool}:∀{ts:ae aC} {vs:ae ah} {ds:ae (DataW H)} {ps:ae MemPlace},
 (∀t∈ts,T t)->DataW.TrodAll enc P w 0 (λ_=>true) true ts vs ds ps->(∀p∈ps,sp p.block=true)->DataW.TrodAll enc P w' 0 sp true ts vs ds ps
 |[],[],[],_,_,h,_=>h
 |t::_,v::_,d::_,_,hT,⟨p,q,⟨n,h1⟩,h2,e⟩,hs=>by
  refine⟨p,q,⟨n,?_⟩,Ol K hsz hb (λt ht=>hT t (bT.2 (.inr ht))) h2 (λx hx=>hs x (by rw[e];exact pI _ hx)),e⟩;exact DataW.trod_stays K hsz (λh=>by cases h) (hT t (bT.2 (.inl rfl))) h1 (λx hx=>aez hb (DataW.trod_lt n _ _ _ h1 x hx)) (λx hx=>hs x (by rw[e];exact lq _ hx))
def aeA(hb:Below w.heap.size w w')(may:MemPlace->Prop):w.keptBut w' may:=by
 refine⟨hb.os,hb.output,λi hi=>?_⟩;rw[hb.block i hi];cases h:w.heap[i]? with
 |none=>rfl
 |some o=>cases o<;>simp
def Uf{f:Func}{s:ChangeSpec}{apart fresh handsOn again:Bool}{W W':World}{args:Array ah}{v:ah}{ds gs:ae (DataW H)}{before pa pv:ae MemPlace}
 (hW:DataW.Whole enc P f.params.toList s.vars apart W args.toList ds gs before)
 (hres:∀(b:Nat) (sp:Nat->Bool) (hd:Bool),DataW.TrodAll enc P W' b sp hd f.resultTypes.toList (v.resultList f.resultTypes.size) (s.fn H (ds++gs)).results [])
 (hargs:∀sp:Nat->Bool,(∀p∈before,sp p.block=true)->DataW.TrodAll enc P W' 0 sp true f.params.toList args.toList (s.fn H (ds++gs)).args pa)
 (hvars:∀sp:Nat->Bool,(∀p∈before,sp p.block=true)->DataW.TrodVars enc P W' sp s.vars (s.fn H (ds++gs)).vars pv)
 (hps:before=pa++pv) (hb:Below W.heap.size W W')
 (hok:∀(j:Nat) (t:aC) (r:ah),f.resultTypes[j]? =some t->(v.resultList f.resultTypes.size)[j]? =some r->Value.okWide P W' .any 0 t r):
 s.post enc P f apart fresh handsOn again W args v W':=by
 have hlt:=hW.lt;have hold:∀p∈before,(λb=>decide (b<W.heap.size)) p.block=true:=λp hp=>eB (hlt p hp);refine⟨ds,gs,before,[],pa,pv,hW,hres _ _ _,hargs _ hold,hvars _ hold,aeA hb _,λ_=>?_⟩;obtain⟨_,_,_,_,_,hz,hn⟩:=hW;refine⟨hok,_,_,([]++pa)++pv,⟨[]++pa,pv,trodAll_append (hargs _ (λ_ _=>rfl)) (hres _ _ _),hvars _ (λ_ _=>rfl),rfl,?_,?_⟩,?_⟩
 .intro b off hp;have hm:MemPlace.cell b off∈before:=by rw[hps];simpa using hp
  have h1:b<W.heap.size:=hlt _ hm;have:=hz b off hm;simp only[World.frozen?,hb.block b h1]at this⊢;exact this
 .intro ha;have:=hn ha;rw[hps]at this;simpa using this
 .intro p hp _;rw[hps];simpa using hp
end
end Go.Ideal
namespace Go.Ideal
open Go.ChangeShapes Go.WideShapes Go.ChangeAt Go.RowKit
section
variable {H:Type} {enc:aC×ah->H} {P:Program} {W:World} {t e:aC}
end
