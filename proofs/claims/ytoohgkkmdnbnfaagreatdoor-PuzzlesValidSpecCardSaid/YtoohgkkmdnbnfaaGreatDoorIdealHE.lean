/-
  The ideal machine, 40: single steps, as laws.
-/
import Derived.Test.YtoohgkkmdnbnfaaGreatDoorIdealGE
import Derived.ChangeStays
import Derived.ChangeSame
import Derived.ChangeSlices
import Derived.ProofKit
set_option linter.all false
namespace Go.Ideal
variable {P:Program}
def At(h:IH)(b:Nat)(o:bQ):Prop:=b<h.next/\h.get b=some o
structure Agree(h h':IH):Prop where
 next:h.next<=h'.next
 get:∀i,i<h.next->h'.get i=h.get i
 low:h.low<=h.next->h'.low=h.low
theorem Agree.refl(h:IH):Agree h h:=⟨bn _,λ_ _=>rfl,λ_=>rfl⟩
theorem Agree.trans{h h1 h2:IH}(a:Agree h h1)(b:Agree h1 h2):Agree h h2:=
 ⟨lF a.next b.next,λi hi=>(b.get i (jQ hi a.next)).trans (a.get i hi),λhl=>(b.low (by rw[a.low hl];exact lF hl a.next)).trans (a.low hl)⟩
theorem At.agree{h h':IH}{b:Nat}{o:bQ}(a:At h b o)(g:Agree h h'):At h' b o:=⟨jQ a.1 g.next,(g.get b a.1).trans a.2⟩
theorem IV(h:IH)(o:bQ):Agree h (h.new o):=⟨wM _,λi hi=>by rw[IH.gP,if_neg (by omega)],λ_=>rfl⟩
theorem IW(h:IH)(o:bQ):At (h.new o) h.next o:=⟨sP _,by rw[IH.gP,if_pos rfl]⟩
structure ae5(h h':IH)(b:Nat)(o:bQ):Prop where
 next:h'.next=h.next
 get:∀i,i≠b->h'.get i=h.get i
 at_:At h' b o
 low:h.low<=b->h'.low=h.low
def Cells(h:IH)(b:Nat)(cs:List Value):Prop:=b<h.next/\(h.get b=some (.cells cs)\/h.get b=some (.gZ cs))
theorem At.c{h:IH}{b:Nat}{cs:List Value}(a:At h b (.cells cs)):Cells h b cs:=⟨a.1,.inl a.2⟩
theorem Cells.agree{h h':IH}{b:Nat}{cs:List Value}(a:Cells h b cs)(g:Agree h h'):Cells h' b cs:=⟨jQ a.1 g.next,by rw[g.get b a.1];exact a.2⟩
theorem Cells.lH{h:IH}{b:Nat}{cs:List Value}(a:Cells h b cs)(o:Nat):h.lH b o=cs[o]?:=by
 rcases a.2 with e|e<;>simp only[IH.lH,e,pO]
theorem Cells.gz{h:IH}{b:Nat}{cs:List Value}(a:Cells h b cs)(o m:Nat):h.gz b o m=gV (iK cs o) m:=by
 rcases a.2 with e|e<;>simp only[IH.gz,e]
def uh(h:IH)(v:Value)(xs:List Int):Prop:=
 (xs=[]/\∃a m c,v=.slice a m c/\m=0)\/
 ∃i o f c cs,v=.slice (some ⟨i,o,some f⟩) xs.length c/\Cells h i cs/\∀(k:Nat) x,xs[k]? =some x->cs[o+k]? =some (.int .i64 x)
theorem uh.agree{h h':IH}{v:Value}{xs:List Int}(a:uh h v xs)(g:Agree h h'):uh h' v xs:=by
 rcases a with h1|⟨i,o,f,c,cs,h1,h2,h3⟩
 ·exact .inl h1
 ·exact .inr ⟨i,o,f,c,cs,h1,h2.agree g,h3⟩
theorem uh.form{h:IH}{v:Value}{xs:List Int}(a:uh h v xs):∃b c,v=.slice b xs.length c:=by
 rcases a with⟨rfl,a,m,c,rfl,rfl⟩|⟨i,o,f,c,cs,h1,_⟩
 ·exact⟨a,c,rfl⟩
 ·exact⟨_,c,h1⟩
def bE(l:List (Nat×Value))(g:Option (Tmp×Bool)):Bool:=
 match g with
 |none=>true
 |some (t,w)=>match lk l t with
  | .bool b=>cond w b (!b)
  |_=>false
def IX(l:List (Nat×Value))(g:Option (Tmp×Bool)):Bool:=
 match g with
 |none=>false
 |some (t,w)=>match lk l t with
  | .bool b=>cond w (!b) b
  | .chan _=>true
  |_=>false
theorem Oc(n:Nat):goInt n=.int .i64 (n:Int):=rfl
section
variable {ds:List Tmp} {rest:List bz} {n:Nat} {l:List (Nat×Value)} {D:List Deferred} {pm:Option FrameMode} {ro:Option Nat} {h:IH} {K:KO} {d:Nat} {g:Option (Tmp×Bool)}
theorem rY(hg:bE l g=true):(act n l D pm ro).wants g=some true:=by
 cases g with
 |none=>rfl
 |some p=>
  obtain⟨t,w⟩:=p;rw[EC];simp only[bE]at hg;split at hg
  ·rename_i b hb;rw[hb];simp only[hg]
  ·cases hg
theorem XQ(hn:Nat.blt d n=true)(hg:IX l g=true){op:aA}{re:List fT}(next:aD P ds rest (act n ((d,pF)::l) D pm ro) h K):aD P ds (⟨⟨some d,g,op⟩,re⟩::rest) (act n l D pm ro) h K:=by
 refine .skip ?_ (by rw[mY hn];exact next);show(act n l D pm ro).wants g=some false;cases g with
 |none=>cases hg
 |some p=>
  obtain⟨t,w⟩:=p;rw[EC];simp only[IX]at hg;split at hg
  ·rename_i b hb;rw[hb];cases w<;>cases b<;>simp_all
  ·rename_i b hb;rw[hb]
  ·cases hg
theorem jU{op:aA}{v:Value}{h':IH}(hn:Nat.blt d n=true)(hg:bE l g=true)(hr:op.run P (ev l) h=some (v,h'))
 (next:aD P ds rest (act n ((d,v)::l) D pm ro) h' K):aD P ds (⟨⟨some d,g,op⟩,[]⟩::rest) (act n l D pm ro) h K:=
 .jH (rY hg) v h' (by rw[kQ];exact hr) (by intro r hr;cases hr) (by rw[mY hn];exact next)
theorem IY{op:aA}{v:Value}{h':IH}(hg:bE l g=true)(hr:op.run P (ev l) h=some (v,h'))
 (next:aD P ds rest (act n l D pm ro) h' K):aD P ds (⟨⟨none,g,op⟩,[]⟩::rest) (act n l D pm ro) h K:=
 .jH (rY hg) v h' (by rw[kQ];exact hr) (by intro r hr;cases hr) next
theorem Od{x:Operand}{a:Option Addr}{m c:Nat}(hn:Nat.blt d n=true)(hg:bE l g=true)(hx:ev l x=.slice a m c)
 (next:aD P ds rest (act n ((d,.int .i64 (m:Int))::l) D pm ro) h K):aD P ds (⟨⟨some d,g,.sW x⟩,[]⟩::rest) (act n l D pm ro) h K:=
 jU hn hg (by simp only[aA.run,hx,Oc]) next
theorem vI(op:BinOp)(t:TypeId)(x y:Operand)(a b:Int)(v:Value)(hv:mR op .i64 a b=some v):jS P op t x y (.int .i64 a) (.int .i64 b)=some v:=by
 simp only[jS,pJ,cond,hv]
theorem Oe{m:Int}(h1: -9223372036854775808<=m)(h2:m<9223372036854775808):BA .i64 m=m:=by
 rw[Hg];exact IntWalk.i64_in m ⟨h1,by omega⟩
theorem IZ{a b:Nat}(h:a<b):Nat.blt a b=true:=by simp only[pu];exact h
theorem Og{x i:Operand}{size b o m c:Nat}{f:Option Nat}{k:Int}{kk:IntKind}(hn:Nat.blt d n=true)(hg:bE l g=true)(hx:ev l x=.slice (some ⟨b,o,f⟩) m c)(hi:ev l i=.int kk k)
 (h0:0<=k) (h1:k<m) (next:aD P ds rest (act n ((d,.pointer (some ⟨b,o+k.toNat*size,none⟩))::l) D pm ro) h K):aD P ds (⟨⟨some d,g,.mh size x i⟩,[]⟩::rest) (act n l D pm ro) h K:=by
 obtain⟨j,rfl⟩:=qB h0;refine jU hn hg ?_ next
 simp only[aA.run,hx,hi];show cond (Nat.blt j m) _ _=_;rw[IZ (by omega)];rfl
theorem I1{x:Operand}{b o:Nat}{cs:List Value}{v:Value}(hn:Nat.blt d n=true)(hg:bE l g=true)(hx:ev l x=.pointer (some ⟨b,o,none⟩))(ha:At h b (.cells cs))(hv:cs[o]? =some v)
 (next:aD P ds rest (act n ((d,v)::l) D pm ro) h K):aD P ds (⟨⟨some d,g,.fH x⟩,[]⟩::rest) (act n l D pm ro) h K:=
 jU hn hg (by simp only[aA.run,hx,ha.c.lH,hv]) next
theorem XR{x:Operand}{b o m:Nat}{cs r:List Value}(hn:Nat.blt d n=true)(hg:bE l g=true)(hx:ev l x=.pointer (some ⟨b,o,none⟩))(ha:At h b (.cells cs))(hv:gV (iK cs o) m=some r)
 (next:aD P ds rest (act n ((d,.agg ⟨r⟩)::l) D pm ro) h K):aD P ds (⟨⟨some d,g,.nH m x⟩,[]⟩::rest) (act n l D pm ro) h K:=
 jU hn hg (by simp only[aA.run,hx,ha.c.gz,hv]) next
theorem Oh:∀(cs:List Value) (o:Nat) (v:Value),o<cs.length->iQ cs o [v]=some (cs.set o v)
 |[],o,v,h=>by simp at h
 |c::cs,0,v,_=>by rw[GZ];cases cs<;>rfl
 |c::cs,o+1,v,h=>by rw[G5,Oh cs o v (by simpa using h)];rfl
theorem s_call{f:Operand}{args:List Operand}{re:List fT}(hn:Nat.blt d n=true)(hg:bE l g=true)(fn:Fn){first captured:List Value}(hf:ev l f=.func fn ⟨first⟩ ⟨captured⟩)(M:KR)
 (hc:CALL P ⟨fn,first++args.map (ev l),captured,none⟩ h M)
 (hs:∀v h',M (.ok v) none h'->∀r∈re,∃u h2,r.op.run P (ev ((d,v)::l)) h'=some (u,h2)/\∀d',r.dst=some d'->lk ((d,v)::l) d'=u)
 (hok:∀v h',M (.ok v) none h'->aD P ds rest (act n ((d,v)::l) D pm ro) h' K)
 (iq:∀ch h',M (.dW ch) none h'->K (.panic ch) (forget ds (act n l D pm ro)) h') (hno:∀r p h',M r p h'->p=none):aD P ds (⟨⟨some d,g,.call f args⟩,re⟩::rest) (act n l D pm ro) h K:=by
 refine .call (rY hg) ⟨fn,first++args.map (ev l),captured,none⟩ (by simp only[tC,kQ,hf,ig,pM]) M hc ?_ ?_ ?_
 ·intro v p h' hm r hr _;have:=hno _ _ _ hm;subst this;obtain⟨u,h2,e1,e2⟩:=hs v h' hm r hr;rw[mY hn];exact⟨u,h2,by rw[kQ];exact e1,λd' hd=>by rw[<- e2 d' hd];exact qQ _ _⟩
 ·intro v p h' hm;have:=hno _ _ _ hm;subst this;rw[mY hn];exact hok v h' hm
 ·intro ch p h' hm;have:=hno _ _ _ hm;subst this;exact iq ch h' hm
section
variable {a:aI} {x y:bK} {i j m0:Nat} {I:Nat->aI->IH->Prop} {ch:List PanicEntry}
theorem XT(e:Nat.beq j i=true)(k:K .normal a h):ug i K (.exit j) a h:=by
 have:j=i:=gW e;subst this;show K (inBlock j (.exit j)) a h;simp only[inBlock];rw[e];exact k
theorem XU(e:Nat.beq j i=false)(k:K (.exit j) a h):ug i K (.exit j) a h:=by
 show K (inBlock i (.exit j)) a h;simp only[inBlock];rw[e];exact k
end
theorem Oi{l0:List (Nat×Value)}{I:Nat->aI->IH->Prop}{m0:Nat}(m':Nat)(hlt:m'<m0)(hs:sub l0 l)(k:I m' (act n l0 D pm ro) h):qR I m0 K .normal (act n l D pm ro) h:=
 ⟨m',_,hlt,ED hs,k⟩
end
end Go.Ideal
namespace Go.Ideal
variable {P:Program}
section
variable {ds:List Tmp} {rest:List bz} {n:Nat} {l:List (Nat×Value)} {D:List Deferred} {pm:Option FrameMode} {ro:Option Nat} {h:IH} {K:KO} {d:Nat} {g:Option (Tmp×Bool)}
structure xH(h h':IH)(b:Nat)(o:bQ):Prop where
 next:h'.next=h.next+1
 get:∀i,i<h.next->i≠b->h'.get i=h.get i
 at_:At h' h.next o
 low:h.low<=b->h'.low=h.low
theorem I4{e:TypeId}{size bytes b o m k:Nat}{f:Option Nat}{s x:Operand}{old xs:List Value}(hn:Nat.blt d n=true)(hg:bE l g=true)
 (hs:ev l s=.slice (some ⟨b,o,f⟩) m m) (hx:lI (ev l x)=some (k+1)) (hxs:kw size (k+1) (ev l x) h=some xs) (hold:h.gz b o (m*size)=some old)
 (hf:f=some 0\/f=some size) (hm:(m+(k+1))*bytes<=1073741824/\(m+(k+1))*size<=1073741824/\m+(k+1)<=1073741824)
 (next:∀h',xH h h' b (.cells (old++xs))->aD P ds rest (act n ((d,.slice (some ⟨h.next,0,some size⟩) (m+(k+1)) (m+(k+1)))::l) D pm ro) h' K):
 aD P ds (⟨⟨some d,g,.append e size bytes s x⟩,[]⟩::rest) (act n l D pm ro) h K:=by
 have hle:∀{a b:Nat},a<=b->Nat.ble a b=true:=λh=>by rw[rF];exact h
 have hlt:Nat.ble (m+(k+1)) m=false:=by
  cases hb:Nat.ble (m+(k+1)) m with
  |false=>rfl
  |true=>have:=jd hb;omega
 have hc:(Nat.ble (Nat.mul (m+(k+1)) bytes) small&&Nat.ble (Nat.mul (m+(k+1)) size) small&&Nat.ble (m+(k+1)) small)=true:=by
  rw[hle (show Nat.mul (m+(k+1)) bytes<=small from hm.1),hle (show Nat.mul (m+(k+1)) size<=small from hm.2.1),hle (show m+(k+1)<=small from hm.2.2)];rfl
 have hrun:∃h',(aA.append e size bytes s x).run P (ev l) h=some (.slice (some ⟨h.next,0,some size⟩) (m+(k+1)) (m+(k+1)),h')/\xH h h' b (.cells (old++xs)):=by
  have xI:uV size (k+1) (ev l x) h=some xs:=hxs;simp only[aA.run,hx,xI,hs,sZ];have e1:kw size m (.slice (some ⟨b,o,f⟩) m m) h=some old:=hold;show∃h',(cond (Nat.ble (Nat.mul (m+(k+1)) bytes) small&&Nat.ble (Nat.mul (m+(k+1)) size) small&&Nat.ble (m+(k+1)) small) _ _)=_/\_;rw[hc];show∃h',(cond (Nat.ble (m+(k+1)) m) _ _)=_/\_;rw[hlt];simp only[cond,e1];rcases hf with rfl|rfl
  ·refine⟨_,rfl,?_⟩;exact⟨rfl,λi hi _=>by rw[IH.gP,if_neg (by omega)],⟨sP _,by rw[IH.gP,if_pos rfl,ig]⟩,λ_=>rfl⟩
  ·cases size with
   |zero=>
    refine⟨_,rfl,?_⟩;exact⟨rfl,λi hi _=>by rw[IH.gP,if_neg (by omega)],⟨sP _,by rw[IH.gP,if_pos rfl,ig]⟩,λ_=>rfl⟩
   |succ j=>
    have hj:Nat.beq (Nat.succ j) (j+1)=true:=Nat.beq_refl _;refine⟨(h.kill b).new (.cells (old++xs)),?_,?_⟩
    ·show cond (Nat.beq (Nat.succ j) (j+1)) _ _=_;rw[hj,ig];rfl
    ·exact⟨rfl,λi hi hb=>by rw[IH.gP,if_neg (by show i≠h.next;omega),IH.qG,if_neg hb],⟨sP _,by rw[IH.gP];exact if_pos rfl⟩,λhl=>by rw[IH.GX,IH.xu];omega⟩
 obtain⟨h',hr,hM⟩:=hrun;exact jU hn hg hr (next h' hM)
theorem Oj{e:TypeId}{size bytes k c:Nat}{s x:Operand}{xs:List Value}(hn:Nat.blt d n=true)(hg:bE l g=true)
 (hs:ev l s=.slice none 0 0) (hx:lI (ev l x)=some (k+1)) (hxs:kw size (k+1) (ev l x) h=some xs)
 (hm:(k+1)*bytes<=1073741824/\(k+1)*size<=1073741824/\(k+1)<=1073741824)
 (next:∀h',Agree h h'->At h' h.next (.cells xs)->h'.next=h.next+1->aD P ds rest (act n ((d,.slice (some ⟨h.next,0,some size⟩) (k+1) (k+1))::l) D pm ro) h' K):
 aD P ds (⟨⟨some d,g,.append e size bytes s x⟩,[]⟩::rest) (act n l D pm ro) h K:=by
 have hle:∀{a b:Nat},a<=b->Nat.ble a b=true:=λh=>by rw[rF];exact h
 have e0:Nat.add 0 (k+1)=k+1:=eG _;refine jU hn hg (h':=h.new (.cells xs)) ?_ (next _ (IV _ _) (IW _ _) rfl);have xI:uV size (k+1) (ev l x) h=some xs:=hxs;simp only[aA.run,hx,xI,hs,sZ,e0];rw[hle (show Nat.mul (k+1) bytes<=small from hm.1),hle (show Nat.mul (k+1) size<=small from hm.2.1),hle (show k+1<=small from hm.2.2)];have e1:kw size 0 (.slice none 0 0) h=some []:=by
  show(match (0:Nat)with|0=>some ([]:List Value)|_=>none)=_;rfl
 have e2:Nat.ble (k+1) 0=false:=rfl;simp only[Gs,cond_true,e2,cond_false,e1,ig,di]
theorem At.mi{b o m:Nat}{cs r:List Value}(a:At h b (.cells cs))(hr:gV (iK cs o) m=some r):h.mi b o m=some r:=by
 simp only[IH.mi,a.2,hr]
theorem Ol(x:Value):∀n,zeros [x] n=List.replicate n x
 |0=>rfl
 |n+1=>by
  show jf [x] (zeros [x] n)=_;rw[Ol x n,ig];rfl
theorem At.gz{b o m:Nat}{cs r:List Value}(a:At h b (.cells cs))(hr:gV (iK cs o) m=some r):h.gz b o m=some r:=by
 rw[a.c.gz,hr]
def xJ(ds:List Tmp)(n:Nat)(l:List (Nat×Value)):List (Nat×Value):=
 match ds with
 |[]=>l
 |d::ds=>xJ ds n (cond (Nat.blt d n) ((d,bZ)::l) l)
theorem EG:∀(ds:List Tmp) (l:List (Nat×Value)),forget ds (act n l D pm ro)=act n (xJ ds n l) D pm ro
 |[],l=>rfl
 |d::ds,l=>by
  show forget ds ((act n l D pm ro).set d bZ)=_;simp only[xJ];cases hb:Nat.blt d n with
  |true=>
   rw[show(act n l D pm ro).set d bZ=act n ((d,bZ)::l) D pm ro from mY hb];exact EG ds _
  |false=>
   rw[show(act n l D pm ro).set d bZ=act n l D pm ro by simp only[aI.set,act,hb,cond]];exact EG ds _
theorem XV{x:Operand}{t:TypeId}{v:Value}{dst:Option Tmp}{re:List fT}(hg:bE l g=true)(hx:ev l x=.iface t v)
 (hk:K (.panic [{v:=.iface t v,recovered:=false}]) (act n (xJ ds n l) D pm ro) h):aD P ds (⟨⟨dst,g,.panic x⟩,re⟩::rest) (act n l D pm ro) h K:=
 .panic (rY hg) x rfl t v (by rw[kQ];exact hx) (by rw[EG];exact hk)
theorem XW{f:Operand}{args:List Operand}{fn:Fn}{first captured:List Value}(hg:bE l g=true)(hro:ro=none)(hf:ev l f=.func fn ⟨first⟩ ⟨captured⟩)
 (next:aD P ds rest (act n l ({target:=.fn fn ⟨captured⟩,args:=⟨first++args.map (ev l)⟩}::D) pm ro) h K):aD P ds (⟨⟨none,g,.dcall f args⟩,[]⟩::rest) (act n l D pm ro) h K:=by
 refine .defer (rY hg) f args rfl rfl hro fn first captured (by rw[kQ];exact hf) ?_
 rw[kQ];rw[<- ig,<- pM]at next
 exact next
theorem XX{m:FrameMode}(hn:Nat.blt d n=true)(hg:bE l g=true)(hro:ro=none)
 (next:aD P ds rest (act n ((d,(iL m).1)::l) D (some (iL m).2) ro) h K):aD P ds (⟨⟨some d,g,.recover⟩,[]⟩::rest) (act n l D (some m) ro) h K:=by
 refine .recoverD (rY hg) rfl rfl m rfl hro ?_;have:({act n l D (some m) ro with pm:=some (iL m).2}:aI)=act n l D (some (iL m).2) ro:=rfl;rw[this,mY hn];exact next
theorem Om{f:FuncId}{args cap:List Value}{pm:Option FrameMode}{h:IH}{K:KR}(cf:fI)(fn:Func)(hf:P.funcs[f]? =some fn)(hcf:qD P fn=some cf)
 (hb:EV P cf.body (xe cf.ntmps (args++cap) pm) h (λo a h'=>match qE o with
   |none=>False
   |some m=>LEAVE P cf a.tmps a.defers m h' λr h''=>K r a.pm h'')):CALL P ⟨.func f,args,cap,pm⟩ h K:=by
 refine .enter f (args++cap) (by simp only[target,ig]) fn hf cf hcf _ hb ?_ ?_
 ·intro o a h hm e;rw[e]at hm;exact hm
 ·intro o a h' m hm he;rw[he]at hm;exact hm
end
end Go.Ideal
namespace Go.Ideal
open Go.RowKit
variable {P:Program}
noncomputable def zy:Nat->List (Option (List Value))->T bQ
 |_,[]=>.leaf
 |i,c::l=>(zy (i+1) l).set i (c.map .gZ)
theorem Oo:∀(l:List (Option (List Value))) (i j:Nat),(zy i l).get j=if i<=j then(l[j - i]?).bind (λc=>c.map .gZ)else none
 |[],i,j=>by simp[zy,T.BK]
 |c::l,i,j=>by
  simp only[zy,T.kN];by_cases e:j=i
  ·subst e;simp
  ·rw[if_neg e,Oo l (i+1) j];by_cases h:i<=j
   ·rw[if_pos (by omega),if_pos h];obtain⟨k,hk⟩:∃k,j - i=k+1:=⟨j - i - 1,by omega⟩
    rw[hk,ol,show j - (i+1)=k by omega]
   ·rw[if_neg (by omega),if_neg h]
abbrev Lay:=List (Option gu×Option (List Value))
noncomputable def jg(L:Lay):IH:=⟨zy 0 (L.map (·.2)),L.length,L.length⟩
def iN(L:Lay):az:=λi=>(L[i]?).bind (·.1)
theorem I5(L:Lay)(i:Nat):(jg L).get i=(L[i]?).bind λp=>p.2.map .gZ:=by
 show(zy 0 (L.map (·.2))).get i=_;rw[Oo,if_pos (dD _),Bq,eX];cases L[i]?<;>rfl
theorem XY{L:Lay}{i:Nat}{g:Option gu}{cs:List Value}(h:L[i]? =some (g,some cs)):Cells (jg L) i cs:=
 ⟨(bA.1 h).1,.inr (by rw[I5,h];rfl)⟩
structure zz(L:Lay)(w:World)(g:gu)(cs:List Value):Prop where
 block:∃c t fz,w.heap[g.b]? =some (.cells c t fz)
 sz:g.sz=0
 all:cs.all cellV=true
 cell:∀(j:Nat) v,cs[j]? =some v->∃v',w.cell? ⟨g.b,g.off+j,none⟩=some v'/\VR (iN L) v v'
theorem XZ{L:Lay}{w:World}(hL:∀(i:Nat) g cs,L[i]? =some (some g,some cs)->zz L w g cs):WR P (iN L) (jg L) w:=by
 have hb:∀i g,iN L i=some g->∃cs,L[i]? =some (some g,cs):=λi g h=>by
  unfold iN at h;cases e:L[i]? with
  |none=>rw[e]at h;cases h
  |some p=>
   rw[e]at h;obtain⟨a,cs⟩:=p;have h:a=some g:=h;subst h;exact⟨cs,rfl⟩
 have hlive:∀i o,(jg L).get i=some o->∃g cs,L[i]? =some (g,some cs)/\o=.gZ cs:=λi o h=>by
  rw[I5]at h;cases e:L[i]? with
  |none=>rw[e]at h;cases h
  |some p=>
   obtain⟨g,c⟩:=p;rw[e]at h;cases c with
   |none=>cases h
   |some cs=>cases h;exact⟨g,cs,rfl,rfl⟩
 refine⟨?_,?_,?_,?_⟩
 ·intro i g h;obtain⟨cs,e⟩:=hb i g h;exact(bA.1 e).1
 ·intro i o h;obtain⟨g,cs,e,_⟩:=hlive i o h;exact(bA.1 e).1
 ·intro i g o h ho;obtain⟨c,e⟩:=hb i g h;obtain⟨g',cs,e',rfl⟩:=hlive i o ho;rw[e]at e';cases e';have k:=hL i g cs e;exact⟨k.block,k.sz,k.all,k.cell⟩
 ·intro i j g k hi hj hgi hgj hr he
  exfalso
  rcases hr with q|q
  ·cases e:(jg L).get i with
   |none=>exact hgi e
   |some o=>
    obtain⟨_,cs,_,rfl⟩:=hlive i o e;exact q cs e
  ·cases e:(jg L).get j with
   |none=>exact hgj e
   |some o=>
    obtain⟨_,cs,_,rfl⟩:=hlive j o e;exact q cs e
open Go.WideShapes Go.ChangeShapes
section
variable {H:Type} {enc:TypeId×Value->H}
theorem X0{w w':World}(hb:Below w.heap.size w w'){a:Addr}(ha:a.block<w.heap.size):w'.cell? a=w.cell? a:=by
 simp only[World.cell?,hb.block _ ha]
theorem X3{w w':World}(hb:Below w.heap.size w w'){p:MemPlace}(hp:p.block<w.heap.size):w.sameAt w' p:=by
 cases p with
 |cell b off=>exact X0 hb hp
 |map b=>exact hb.block b hp
theorem Oq{T:TypeId->Prop}(K:Kids P T)(hsz:∀{t e:TypeId},T t->P.underlying t=some (.slice e)->0<P.cellsOf e){w w':World}(hb:Below w.heap.size w w'){sp:Nat->Bool}:∀{ts:List TypeId} {vs:List Value} {ds:List (DataW H)} {ps:List MemPlace},
 (∀t∈ts,T t)->DataW.TrodAll enc P w 0 (λ_=>true) true ts vs ds ps->(∀p∈ps,sp p.block=true)->DataW.TrodAll enc P w' 0 sp true ts vs ds ps
 |[],[],[],_,_,h,_=>h
 |t::_,v::_,d::_,_,hT,⟨p,q,⟨n,h1⟩,h2,e⟩,hs=>by
  refine⟨p,q,⟨n,?_⟩,Oq K hsz hb (λt ht=>hT t (cK.2 (.inr ht))) h2 (λx hx=>hs x (by rw[e];exact pE _ hx)),e⟩;exact DataW.trod_stays K hsz (λh=>by cases h) (hT t (cK.2 (.inl rfl))) h1 (λx hx=>X3 hb (DataW.trod_lt n _ _ _ h1 x hx)) (λx hx=>hs x (by rw[e];exact jO _ hx))
theorem X4{w w':World}(hb:Below w.heap.size w w')(may:MemPlace->Prop):w.keptBut w' may:=by
 refine⟨hb.os,hb.output,λi hi=>?_⟩;rw[hb.block i hi];cases h:w.heap[i]? with
 |none=>rfl
 |some o=>cases o<;>simp
theorem X5{f:Func}{s:ChangeSpec}{apart fresh handsOn again:Bool}{W W':World}{args:Array Value}{v:Value}{ds gs:List (DataW H)}{before pa pv:List MemPlace}
 (hW:DataW.Whole enc P f.params.toList s.vars apart W args.toList ds gs before)
 (hres:∀(b:Nat) (sp:Nat->Bool) (hd:Bool),DataW.TrodAll enc P W' b sp hd f.resultTypes.toList (v.resultList f.resultTypes.size) (s.fn H (ds++gs)).results [])
 (hargs:∀sp:Nat->Bool,(∀p∈before,sp p.block=true)->DataW.TrodAll enc P W' 0 sp true f.params.toList args.toList (s.fn H (ds++gs)).args pa)
 (hvars:∀sp:Nat->Bool,(∀p∈before,sp p.block=true)->DataW.TrodVars enc P W' sp s.vars (s.fn H (ds++gs)).vars pv)
 (hps:before=pa++pv) (hb:Below W.heap.size W W')
 (hok:∀(j:Nat) (t:TypeId) (r:Value),f.resultTypes[j]? =some t->(v.resultList f.resultTypes.size)[j]? =some r->Value.okWide P W' .any 0 t r):
 s.post enc P f apart fresh handsOn again W args v W':=by
 have hlt:=hW.lt;have hold:∀p∈before,(λb=>decide (b<W.heap.size)) p.block=true:=λp hp=>dU (hlt p hp);refine⟨ds,gs,before,[],pa,pv,hW,hres _ _ _,hargs _ hold,hvars _ hold,X4 hb _,λ_=>?_⟩;obtain⟨_,_,_,_,_,hz,hn⟩:=hW;refine⟨hok,_,_,([]++pa)++pv,⟨[]++pa,pv,trodAll_append (hargs _ (λ_ _=>rfl)) (hres _ _ _),hvars _ (λ_ _=>rfl),rfl,?_,?_⟩,?_⟩
 ·intro b off hp;have hm:MemPlace.cell b off∈before:=by rw[hps];simpa using hp
  have h1:b<W.heap.size:=hlt _ hm;have:=hz b off hm;simp only[World.frozen?,hb.block b h1]at this⊢;exact this
 ·intro ha;have:=hn ha;rw[hps]at this;simpa using this
 ·intro p hp _;rw[hps];simpa using hp
end
end Go.Ideal
namespace Go.Ideal
open Go.ChangeShapes Go.WideShapes Go.ChangeAt Go.RowKit
section
variable {H:Type} {enc:TypeId×Value->H} {P:Program} {W:World} {t e:TypeId}
end
