/- Part. -/
import Derived.Test.YtgimfpcgbmpkhaaGreatIdealGT
import Derived.ChangeStays
import Derived.ChangeSame
import Derived.ChangeSlices
import Derived.ProofKit
set_option linter.all false
namespace Go.Ideal
variable {P:Program}
def At(h:IH)(b:Nat)(o:fw):Prop:=b<h.next/\h.get b=some o
structure Agree(h h':IH):Prop where
 next:h.next<=h'.next
 get:∀i,i<h.next->h'.get i=h.get i
 low:h.low<=h.next->h'.low=h.low
def Agree.refl(h:IH):Agree h h:=⟨bG _,λ_ _=>rfl,λ_=>rfl⟩
variable{h:IH}
def Agree.trans{h1 h2:IH}(a:Agree h h1)(b:Agree h1 h2):Agree h h2:=
 ⟨lZ a.next b.next,λi hi=>(b.get i (oZ hi a.next)).trans (a.get i hi),λhl=>(b.low (by rw[a.low hl];exact lZ hl a.next)).trans (a.low hl)⟩
variable{h':IH}{b:Nat}
def At.agree{o:fw}(a:At h b o)(g:Agree h h'):At h' b o:=⟨oZ a.1 g.next,(g.get b a.1).trans a.2⟩
def Sj(h:IH)(o:fw):Agree h (h.new o):=⟨FB _,λi hi=>by rw[IH.jD,if_neg s6],λ_=>rfl⟩
def Sk(h:IH)(o:fw):At (h.new o) h.next o:=⟨yY _,by rw[IH.jD,if_pos rfl]⟩
structure auO(h h':IH)(b:Nat)(o:fw):Prop where
 next:h'.next=h.next
 get:∀i,i≠b->h'.get i=h.get i
 at_:At h' b o
 low:h.low<=b->h'.low=h.low
def Cells(h:IH)(b:Nat)(cs:ae ah):Prop:=b<h.next/\(h.get b=some (.cells cs)\/h.get b=some (.lD cs))
variable{cs:ae ah}
def At.cX(a:At h b (.cells cs)):Cells h b cs:=⟨a.1,.inl a.2⟩
def Cells.agree(a:Cells h b cs)(g:Agree h h'):Cells h' b cs:=⟨oZ a.1 g.next,by rw[g.get b a.1];exact a.2⟩
def Cells.qK(a:Cells h b cs)(o:Nat):h.qK b o=cs[o]?:=by
 rcases a.2 with e|e<;>simp only[IH.qK,e,uE]
def Cells.je(a:Cells h b cs)(o m:Nat):h.je b o m=jR (kD cs o) m:=by
 rcases a.2 with e|e<;>simp only[IH.je,e]
def AJ(h:IH)(v:ah)(xs:ae Int):Prop:=
 (xs=[]/\∃a m c,v=.slice a m c/\m=0)\/
 ∃i o f c cs,v=.slice (some ⟨i,o,some f⟩) xs.length c/\Cells h i cs/\∀(k:Nat) x,xs[k]? =some x->cs[o+k]? =some (.int .i64 x)
variable{v:ah}{xs:ae Int}
def AJ.agree(a:AJ h v xs)(g:Agree h h'):AJ h' v xs:=by
 rcases a with h1|⟨i,o,f,c,cs,h1,h2,h3⟩
 .exact .inl h1
 .exact .inr ⟨i,o,f,c,cs,h1,h2.agree g,h3⟩
def AJ.form(a:AJ h v xs):∃b c,v=.slice b xs.length c:=by
 exact mL
def bJ(l:qr)(g:az (Tmp×Bool)):Bool:=
 match g with
 |none=>true
 |some (t,w)=>match lk l t with
  | .bool b=>cond w b (!b)
  |_=>false
def Sl(l:qr)(g:az (Tmp×Bool)):Bool:=
 match g with
 |none=>false
 |some (t,w)=>match lk l t with
  | .bool b=>cond w (!b) b
  | .chan _=>true
  |_=>false
def YH(n:Nat):goInt n=.int .i64 (n:Int):=rfl
section
variable {ds:ae Tmp} {rest:ae bV} {n:Nat} {l:qr} {D:ae Deferred} {pm:az FrameMode} {ro:az Nat} {h:IH} {K:KO} {d:Nat} {g:az (Tmp×Bool)}
def zz(hg:bJ l g=true):(act n l D pm ro).wants g=some true:=by
 cases g with
 |none=>rfl
 |some p=>
  rw[Na];simp only[bJ]at hg
  grind
def ahZ(hn:Nat.blt d n=true)(hg:Sl l g=true){op:aR}{re:ae jh}(next:aO P ds rest (act n ((d,xR)::l) D pm ro) h K):aO P ds (⟨⟨some d,g,op⟩,re⟩::rest) (act n l D pm ro) h K:=by
 refine .skip ?_ xF;cases g with
 |none=>cases hg
 |some p=>
  rw[Na];simp only[Sl]at hg
  grind
variable{v:ah}{op:aR}{h':IH}
def mG(hn:Nat.blt d n=true)(hg:bJ l g=true)(hr:op.run P (ev l) h=some (v,h'))
 (next:aO P ds rest (act n ((d,v)::l) D pm ro) h' K):aO P ds (⟨⟨some d,g,op⟩,[]⟩::rest) (act n l D pm ro) h K:=
 .nL (zz hg) v h' we xp xF
def Nf(hg:bJ l g=true)(hr:op.run P (ev l) h=some (v,h'))
 (next:aO P ds rest (act n l D pm ro) h' K):aO P ds (⟨⟨none,g,op⟩,[]⟩::rest) (act n l D pm ro) h K:=
 .nL (zz hg) v h' we xp next
variable{x:aB}{m c:Nat}
def YI{a:az Addr}(hn:Nat.blt d n=true)(hg:bJ l g=true)(hx:ev l x=.slice a m c)
 (next:aO P ds rest (act n ((d,.int .i64 (m:Int))::l) D pm ro) h K):aO P ds (⟨⟨some d,g,.pV x⟩,[]⟩::rest) (act n l D pm ro) h K:=
 mG hn hg (by simp only[aR.run,hx,YH]) next
def AL(op:BinOp)(t:aM)(x y:aB)(a b:Int)(v:ah)(hv:sP op .i64 a b=some v):mD P op t x y (.int .i64 a) (.int .i64 b)=some v:=by
 simp only[mD,Ak,cond,hv]
def YJ{m:Int}(h1: -9223372036854775808<=m)(h2:m<9223372036854775808):I6 .i64 m=m:=by
 rw[MN];exact IntWalk.i64_in m ⟨h1,s6⟩
variable{b:Nat}
def Sm{a:Nat}(h:a<b):Nat.blt a b=true:=by simp only[wN];exact h
variable{o:Nat}
def JM{i:aB}{size:Nat}{f:az Nat}{k:Int}{kk:IntKind}(hn:Nat.blt d n=true)(hg:bJ l g=true)(hx:ev l x=.slice (some ⟨b,o,f⟩) m c)(hi:ev l i=.int kk k)
 (h0:0<=k) (h1:k<m) (next:aO P ds rest (act n ((d,.pointer (some ⟨b,o+k.toNat*size,none⟩))::l) D pm ro) h K):aO P ds (⟨⟨some d,g,.jw size x i⟩,[]⟩::rest) (act n l D pm ro) h K:=by
 obtain⟨j,rfl⟩:=dW h0;refine mG hn hg ?_ next
 simp only[aR.run,hx,hi];rw[Sm s6];rfl
variable{cs:ae ah}
def Gq(hn:Nat.blt d n=true)(hg:bJ l g=true)(hx:ev l x=.pointer (some ⟨b,o,none⟩))(ha:At h b (.cells cs))(hv:cs[o]? =some v)
 (next:aO P ds rest (act n ((d,v)::l) D pm ro) h K):aO P ds (⟨⟨some d,g,.fG x⟩,[]⟩::rest) (act n l D pm ro) h K:=
 mG hn hg (by simp only[aR.run,hx,ha.cX.qK,hv]) next
def ah0{r:ae ah}(hn:Nat.blt d n=true)(hg:bJ l g=true)(hx:ev l x=.pointer (some ⟨b,o,none⟩))(ha:At h b (.cells cs))(hv:jR (kD cs o) m=some r)
 (next:aO P ds rest (act n ((d,.agg ⟨r⟩)::l) D pm ro) h K):aO P ds (⟨⟨some d,g,.sO m x⟩,[]⟩::rest) (act n l D pm ro) h K:=
 mG hn hg (by simp only[aR.run,hx,ha.cX.je,hv]) next
def YK:∀(cs:ae ah) (o:Nat) (v:ah),o<cs.length->jV cs o [v]=some (cs.set o v)
 |[],o,v,h=>by simp at h
 |c::cs,0,v,_=>by cases cs<;>rfl
 |c::cs,o+1,v,h=>by rw[Q7,YK cs o v tj];rfl
def s_call{f:aB}{args:ae aB}{re:ae jh}(hn:Nat.blt d n=true)(hg:bJ l g=true)(fn:Fn){first captured:ae ah}(hf:ev l f=.func fn ⟨first⟩ ⟨captured⟩)(M:KR)
 (hc:CALL P ⟨fn,first++args.map (ev l),captured,none⟩ h M)
 (hs:∀v h',M (.ok v) none h'->∀r∈re,∃u h2,r.op.run P (ev ((d,v)::l)) h'=some (u,h2)/\∀d',r.dst=some d'->lk ((d,v)::l) d'=u)
 (hok:∀v h',M (.ok v) none h'->aO P ds rest (act n ((d,v)::l) D pm ro) h' K)
 (jM:∀ch h',M (.iy ch) none h'->K (.panic ch) (forget ds (act n l D pm ro)) h') (hno:∀r p h',M r p h'->p=none):aO P ds (⟨⟨some d,g,.call f args⟩,re⟩::rest) (act n l D pm ro) h K:=by
 refine .call (zz hg) ⟨fn,first++args.map (ev l),captured,none⟩ (by simp only[Ao,qa,hf,kR,xW]) M hc ?_ ?_ ?_
 .intro v p h' hm r hr _;have:=hno _ _ _ hm;subst this;obtain⟨u,h2,e1,e2⟩:=hs v h' hm r hr;exact gO
 .intro v p h' hm;have:=hno _ _ _ hm;subst this;rw[sZ hn];exact hok v h' hm
 grind
section
variable {a:bE} {x y:dD} {i j m0:Nat} {I:Nat->bE->IH->Prop} {ch:ae PanicEntry}
def ah1(e:Nat.beq j i=true)(k:K .normal a h):AC i K (.exit j) a h:=by
 have:=p9 e;subst this;show K (inBlock j (.exit j)) a h;simp only[inBlock];rw[e];exact k
def ah2(e:Nat.beq j i=false)(k:K (.exit j) a h):AC i K (.exit j) a h:=by
 show K (inBlock i (.exit j)) a h;simp only[inBlock];rw[e];exact k
end
def YL{l0:qr}{I:Nat->bE->IH->Prop}{m0:Nat}(m':Nat)(hlt:m'<m0)(hs:sub l0 l)(k:I m' (act n l0 D pm ro) h):vT I m0 K .normal (act n l D pm ro) h:=
 ⟨m',_,hlt,Nc hs,k⟩
end
end Go.Ideal
namespace Go.Ideal
variable {P:Program}
section
variable {ds:ae Tmp} {rest:ae bV} {n:Nat} {l:qr} {D:ae Deferred} {pm:az FrameMode} {ro:az Nat} {h:IH} {K:KO} {d:Nat} {g:az (Tmp×Bool)}
structure Cv(h h':IH)(b:Nat)(o:fw):Prop where
 next:h'.next=h.next+1
 get:∀i,i<h.next->i≠b->h'.get i=h.get i
 at_:At h' h.next o
 low:h.low<=b->h'.low=h.low
variable{b o m size bytes k:Nat}{x s:aB}{e:aM}{xs:ae ah}
def Sn{f:az Nat}{old:ae ah}(hn:Nat.blt d n=true)(hg:bJ l g=true)
 (hs:ev l s=.slice (some ⟨b,o,f⟩) m m) (hx:qp (ev l x)=some (k+1)) (hxs:pg size (k+1) (ev l x) h=some xs) (hold:h.je b o (m*size)=some old)
 (hf:f=some 0\/f=some size) (hm:(m+(k+1))*bytes<=1073741824/\(m+(k+1))*size<=1073741824/\m+(k+1)<=1073741824)
 (next:∀h',Cv h h' b (.cells (old++xs))->aO P ds rest (act n ((d,.slice (some ⟨h.next,0,some size⟩) (m+(k+1)) (m+(k+1)))::l) D pm ro) h' K):
 aO P ds (⟨⟨some d,g,.append e size bytes s x⟩,[]⟩::rest) (act n l D pm ro) h K:=by
 have hle:∀{a b:Nat},a<=b->Nat.ble a b=true:=λh=>by rw[vH];exact h
 have hlt:Nat.ble (m+(k+1)) m=false:=by
  exact pD
 have hc:(Nat.ble (Nat.mul (m+(k+1)) bytes) small&&Nat.ble (Nat.mul (m+(k+1)) size) small&&Nat.ble (m+(k+1)) small)=true:=by
  exact ij
 have hrun:∃h',(aR.append e size bytes s x).run P (ev l) h=some (.slice (some ⟨h.next,0,some size⟩) (m+(k+1)) (m+(k+1)),h')/\Cv h h' b (.cells (old++xs)):=by
  exact cM
 obtain⟨h',hr,hM⟩:=hrun;exact mG hn hg hr (next h' hM)
def YM{c:Nat}(hn:Nat.blt d n=true)(hg:bJ l g=true)
 (hs:ev l s=.slice none 0 0) (hx:qp (ev l x)=some (k+1)) (hxs:pg size (k+1) (ev l x) h=some xs)
 (hm:(k+1)*bytes<=1073741824/\(k+1)*size<=1073741824/\(k+1)<=1073741824)
 (next:∀h',Agree h h'->At h' h.next (.cells xs)->h'.next=h.next+1->aO P ds rest (act n ((d,.slice (some ⟨h.next,0,some size⟩) (k+1) (k+1))::l) D pm ro) h' K):
 aO P ds (⟨⟨some d,g,.append e size bytes s x⟩,[]⟩::rest) (act n l D pm ro) h K:=by
 have hle:∀{a b:Nat},a<=b->Nat.ble a b=true:=λh=>by rw[vH];exact h
 have e0:Nat.add 0 (k+1)=k+1:=gq _;refine mG hn hg ?_ (next _ (Sj _ _) (Sk _ _) rfl);have Er:Aj size (k+1) (ev l x) h=some xs:=hxs;simp only[aR.run,hx,Er,hs,Cf,e0];rw[hle (show Nat.mul (k+1) bytes<=small from hm.1),hle (show Nat.mul (k+1) size<=small from hm.2.1),hle (show k+1<=small from hm.2.2)];have e1:pg size 0 (.slice none 0 0) h=some []:=by
  rfl
 have e2:Nat.ble (k+1) 0=false:=rfl;simp only[Bool.and_self,cond_true,e2,cond_false,e1,kR,bP]
variable{cs r:ae ah}
def At.kL(a:At h b (.cells cs))(hr:jR (kD cs o) m=some r):h.kL b o m=some r:=by
 simp only[IH.kL,a.2,hr]
def JN(x:ah):∀n,zeros [x] n=List.replicate n x
 |0=>rfl
 |n+1=>by
  show mq [x] (zeros [x] n)=_;rw[JN x n];rfl
def At.je(a:At h b (.cells cs))(hr:jR (kD cs o) m=some r):h.je b o m=some r:=by
 rw[a.cX.je,hr]
def Es(ds:ae Tmp)(n:Nat)(l:qr):qr:=
 match ds with
 |[]=>l
 |d::ds=>Es ds n (cond (Nat.blt d n) ((d,eY)::l) l)
def Ng:∀(ds:ae Tmp) (l:qr),forget ds (act n l D pm ro)=act n (Es ds n l) D pm ro
 |[],l=>rfl
 |d::ds,l=>by
  show forget ds ((act n l D pm ro).set d eY)=_;simp only[Es];cases hb:Nat.blt d n with
  |true=>
   rw[show(act n l D pm ro).set d eY=act n ((d,eY)::l) D pm ro from sZ hb];exact Ng ds _
  |false=>
   rw[show(act n l D pm ro).set d eY=act n l D pm ro by simp only[bE.set,act,hb,cond]];exact Ng ds _
def ah3{t:aM}{v:ah}{dst:az Tmp}{re:ae jh}(hg:bJ l g=true)(hx:ev l x=.iface t v)
 (hk:K (.panic [{v:=.iface t v,recovered:=false}]) (act n (Es ds n l) D pm ro) h):aO P ds (⟨⟨dst,g,.panic x⟩,re⟩::rest) (act n l D pm ro) h K:=
 .panic (zz hg) x rfl t v (by rw[qa];exact hx) (by rw[Ng];exact hk)
def ah4{f:aB}{args:ae aB}{fn:Fn}{first captured:ae ah}(hg:bJ l g=true)(hro:ro=none)(hf:ev l f=.func fn ⟨first⟩ ⟨captured⟩)
 (next:aO P ds rest (act n l ({target:=.fn fn ⟨captured⟩,args:=⟨first++args.map (ev l)⟩}::D) pm ro) h K):aO P ds (⟨⟨none,g,.dcall f args⟩,[]⟩::rest) (act n l D pm ro) h K:=by
 refine .defer (zz hg) f args rfl rfl hro fn first captured (by rw[qa];exact hf) ?_
 rw[qa];rw[<- kR,<- xW]at next
 exact next
def ah5{m:FrameMode}(hn:Nat.blt d n=true)(hg:bJ l g=true)(hro:ro=none)
 (next:aO P ds rest (act n ((d,(mZ m).1)::l) D (some (mZ m).2) ro) h K):aO P ds (⟨⟨some d,g,.recover⟩,[]⟩::rest) (act n l D (some m) ro) h K:=by
 refine .recoverD (zz hg) rfl rfl m rfl hro ?_;have:({act n l D (some m) ro with pm:=some (mZ m).2})=act n l D (some (mZ m).2) ro:=rfl;rw[this,sZ hn];exact next
def YN{f:gy}{args cap:ae ah}{pm:az FrameMode}{h:IH}{K:KR}(cf:iJ)(fn:Func)(hf:P.funcs[f]? =some fn)(hcf:xU P fn=some cf)
 (hb:EV P cf.body (Ea cf.ntmps (args++cap) pm) h (λo a h'=>match wW o with
   |none=>False
   |some m=>LEAVE P cf a.tmps a.defers m h' λr h''=>K r a.pm h'')):CALL P ⟨.func f,args,cap,pm⟩ h K:=by
 refine .enter f (args++cap) (by simp only[target,kR]) fn hf cf hcf _ hb ?_ ?_
 .grind
 grind
end
end Go.Ideal
namespace Go.Ideal
open Go.RowKit
variable {P:Program}
noncomputable def Gr:Nat->ae (az (ae ah))->T fw
 |_,[]=>.leaf
 |i,c::l=>(Gr (i+1) l).set i (c.map .lD)
def YO:∀(l:ae (az (ae ah))) (i j:Nat),(Gr i l).get j=if i<=j then(l[j - i]?).bind (λc=>c.map .lD)else none
 |[],i,j=>by simp[Gr,T.Je]
 |c::l,i,j=>by
  simp only[Gr,T.og];by_cases e:j=i
  .subst e;simp
  .rw[YO l (i+1) j]
   grind
abbrev Lay:=ae (az jk×az (ae ah))
noncomputable def mH(L:Lay):IH:=⟨Gr 0 (L.map (·.2)),L.length,L.length⟩
def l6(L:Lay):aQ:=λi=>(L[i]?).bind (·.1)
def Sq(L:Lay)(i:Nat):(mH L).get i=(L[i]?).bind λp=>p.2.map .lD:=by
 show(Gr 0 (L.map (·.2))).get i=_;rw[YO,eF];cases L[i]?<;>rfl
variable{L:Lay}
def ah6{i:Nat}{g:az jk}{cs:ae ah}(h:L[i]? =some (g,some cs)):Cells (mH L) i cs:=
 ⟨(bz.1 h).1,.inr (by rw[Sq,h];rfl)⟩
structure Gs(L:Lay)(w:World)(g:jk)(cs:List Value):Prop where
 block:∃c t fz,w.heap[g.b]? =some (.cells c t fz)/\(g.top=0\/c.size=g.top)
 sz:g.sz=0
 all:cs.all cellV=true
 cell:∀(j:Nat) v,cs[j]? =some v->∃v',w.cell? ⟨g.b,g.off+j,none⟩=some v'/\VR (l6 L) v v'
def ah7{w:World}(hL:∀(i:Nat) g cs,L[i]? =some (some g,some cs)->Gs L w g cs):WR P (l6 L) (mH L) w:=by
 have hb:∀i g,l6 L i=some g->∃cs,L[i]? =some (some g,cs):=λi g h=>by
  unfold l6 at h
  grind
 have hlive:∀i o,(mH L).get i=some o->∃g cs,L[i]? =some (g,some cs)/\o=.lD cs:=λi o h=>by
  rw[Sq]at h;cases e:L[i]? with
  |none=>rw[e]at h;cases h
  |some p=>
   obtain⟨g,c⟩:=p;rw[e]at h;cases c with
   |none=>cases h
   |some cs=>grind
 refine⟨?_,?_,?_,?_⟩
 .intro i g h;obtain⟨cs,e⟩:=hb i g h;exact(bz.1 e).1
 .intro i o h;obtain⟨g,cs,e,_⟩:=hlive i o h;exact(bz.1 e).1
 .intro i g o h ho;obtain⟨c,e⟩:=hb i g h;obtain⟨g',cs,e',rfl⟩:=hlive i o ho;rw[e]at e';cases e';have k:=hL i g cs e;exact⟨k.block,k.sz,k.all,k.cell⟩
 .intro i j g k hi hj hgi hgj hr he
  exfalso
  rcases hr with q|q
  .cases e:(mH L).get i with
   |none=>exact hgi e
   |some o=>
    grind
  .cases e:(mH L).get j with
   |none=>exact hgj e
   |some o=>
    grind
def ah8(sW:P.follows .mixedOrders=true)(hgl:P.globals.size=0){f:gy}(fn:Func)(hfn:P.funcs[f]? =some fn)(hbody:fn.body.isNone=false)(hname:(fn.name== "runtime.NumGoroutine")=false){args args':ae ah}{L:Lay}{w:World}{v:ah}
 (hL:∀(i:Nat) g cs,L[i]? =some (some g,some cs)->Gs L w g cs) (hargs:bB (l6 L) args args') (hv:dQ v=true)
 (hc:CALL P ⟨.func f,args,[],none⟩ (mH L) (λr pm h'=>pm=none/\r=.ok v/\Agree (mH L) h')):
 Calls P f ⟨args'⟩ w (λe w'=>e=.returned v/\Below w.heap.size w w'):=by
 have hM:=Yz sW hc;have hW:WR P (l6 L) (mH L) w:=ah7 hL;obtain⟨nx,F0,n1,n2,n3⟩:=hM (l6 L) w (.func f) args' [] (λg hg=>by rw[hgl]at hg;omega) hW (.func f) hargs .nil;have hnx:nx=.enter f ⟨args'⟩:=by
  have hcall:(callFunc f ⟨args'⟩).run P w=.ok (.enter f ⟨args'⟩) w:=by
   simp only[callFunc,dY,run_program,eZ,hfn,hname,hbody,DR,if_false,fZ]
  have e:(⟨args'⟩:Array ah)++(⟨[]⟩:Array ah)=⟨args'⟩:=uc
  simp only[invoke,e]at n1
  grind
 subst hnx;have yx:F0=Frame.enter P f ⟨args'⟩ .normal:=by
  have:entry P .normal (.enter f ⟨args'⟩)=some (Frame.enter P f ⟨args'⟩ .normal):=rfl;have n2:entry P .normal (.enter f ⟨args'⟩)=some F0:=n2
  grind
 subst yx;intro cs;obtain⟨r,pm',h',β',w',r',cs1,q1,q2,q3,q4,q5,q6⟩:=n3 cs (by intro m hm;cases hm);obtain⟨hp,rfl,hag⟩:=q1;cases q5;cases q4 with
 | @ok v v' oL=>
   have:=oL.sQ hv;subst this;rcases q6 with⟨f1,a1,F1,e1,e2,e3,e4,e5⟩|⟨⟨_,l,e1⟩,_⟩
   .cases e1;refine⟨.returned v',w',F1,⟨rfl,?_⟩,e2,e3,?_⟩
    .refine⟨q3.os,q3.tape,q3.output,q3.size,λk hk=>?_⟩;by_cases hx:∀i g,l6 L i=some g->(mH L).get i≠none->g.b≠k
     .exact q3.keep k hk hx
     .have hx:∃i g,l6 L i=some g/\(mH L).get i≠none/\g.b=k:=by
       grind
      obtain⟨i,g,hi,hg,rfl⟩:=hx;have hin:=hW.dom i g hi;exact q3.vO i g (by rw[hag.low (bG _)];exact hin) hin hi hg hk
    .exact qu
   .cases e1
open Go.WideShapes Go.ChangeShapes
section
variable {H:Type} {enc:aM×ah->H}
variable{w w':World}
def ah9(hb:Below w.heap.size w w'){a:Addr}(ha:a.block<w.heap.size):w'.cell? a=w.cell? a:=by
 simp only[World.cell?,hb.block _ ha]
def aia(hb:Below w.heap.size w w'){p:MemPlace}(hp:p.block<w.heap.size):w.sameAt w' p:=by
 cases p with
 |cell b off=>exact ah9 hb hp
 |map b=>exact hb.block b hp
def YP{T:aM->Prop}(K:Kids P T)(hsz:∀{t e:aM},T t->P.underlying t=some (.slice e)->0<P.cellsOf e){w w':World}(hb:Below w.heap.size w w'){sp:Nat->Bool}:∀{ts:ae aM} {vs:ae ah} {ds:ae (DataW H)} {ps:ae MemPlace},
 (∀t∈ts,T t)->DataW.TrodAll enc P w 0 (λ_=>true) true ts vs ds ps->(∀p∈ps,sp p.block=true)->DataW.TrodAll enc P w' 0 sp true ts vs ds ps
 |[],[],[],_,_,h,_=>h
 |t::_,v::_,d::_,_,hT,⟨p,q,⟨n,h1⟩,h2,e⟩,hs=>by
  refine⟨p,q,⟨n,?_⟩,YP K hsz hb (by grind) h2 (by grind),e⟩;exact DataW.trod_stays K hsz (λh=>by cases h) (by grind) h1 (λx hx=>aia hb (DataW.trod_lt n _ _ _ h1 x hx)) (by grind)
def aib(hb:Below w.heap.size w w')(may:MemPlace->Prop):w.keptBut w' may:=by
 refine⟨hb.os,hb.output,λi hi=>?_⟩;rw[hb.block i hi]
 grind
def aic{f:Func}{s:ChangeSpec}{apart fresh handsOn again:Bool}{W W':World}{args:Array ah}{v:ah}{ds gs:ae (DataW H)}{before pa pv:ae MemPlace}
 (hW:DataW.Whole enc P f.params.toList s.vars apart W args.toList ds gs before)
 (hres:∀(b:Nat) (sp:Nat->Bool) (hd:Bool),DataW.TrodAll enc P W' b sp hd f.resultTypes.toList (v.resultList f.resultTypes.size) (s.fn H (ds++gs)).results [])
 (hargs:∀sp:Nat->Bool,(∀p∈before,sp p.block=true)->DataW.TrodAll enc P W' 0 sp true f.params.toList args.toList (s.fn H (ds++gs)).args pa)
 (hvars:∀sp:Nat->Bool,(∀p∈before,sp p.block=true)->DataW.TrodVars enc P W' sp s.vars (s.fn H (ds++gs)).vars pv)
 (hps:before=pa++pv) (hb:Below W.heap.size W W')
 (hok:∀(j:Nat) (t:aM) (r:ah),f.resultTypes[j]? =some t->(v.resultList f.resultTypes.size)[j]? =some r->Value.okWide P W' .any 0 t r):
 s.post enc P f apart fresh handsOn again W args v W':=by
 have hlt:=hW.lt;have hold:=λp hp=>eB (hlt p hp);refine⟨ds,gs,before,[],pa,pv,hW,hres _ _ _,hargs _ hold,hvars _ hold,aib hb _,λ_=>?_⟩;obtain⟨_,_,_,_,_,hz,hn⟩:=hW;refine⟨hok,_,_,([]++pa)++pv,⟨[]++pa,pv,trodAll_append (hargs _ (λ_ _=>rfl)) (hres _ _ _),hvars _ (λ_ _=>rfl),rfl,?_,?_⟩,?_⟩
 .intro b off hp;have hm:MemPlace.cell b off∈before:=by rw[hps];simpa using hp
  have h1:=hlt _ hm;have:=hz b off hm;simp only[World.frozen?,hb.block b h1]at this⊢;exact this
 .intro ha;have:=hn ha;rw[hps]at this;simpa using this
 .intro p hp _;rw[hps];simpa using hp
end
end Go.Ideal
namespace Go.Ideal
open Go.ChangeShapes Go.WideShapes Go.ChangeAt Go.RowKit
section
variable {H:Type} {enc:aM×ah->H} {P:Program} {W:World} {t e:aM}
end
