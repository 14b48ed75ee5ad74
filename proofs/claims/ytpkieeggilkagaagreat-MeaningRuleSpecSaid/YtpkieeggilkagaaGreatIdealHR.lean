/-
  Part IdealHR.
-/
import Derived.Test.YtpkieeggilkagaaGreatIdealGR
import Derived.ChangeStays
import Derived.ChangeSame
import Derived.ChangeSlices
import Derived.ProofKit
set_option linter.all false
namespace Go.Ideal
variable {P:Program}
def At(h:IH)(b:Nat)(o:dH):Prop:=b<h.next/\h.get b=some o
structure Agree(h h':IH):Prop where
 next:h.next<=h'.next
 get:∀i,i<h.next->h'.get i=h.get i
 low:h.low<=h.next->h'.low=h.low
theorem Agree.refl(h:IH):Agree h h:=⟨bU _,λ_ _=>rfl,λ_=>rfl⟩
theorem Agree.trans{h h1 h2:IH}(a:Agree h h1)(b:Agree h1 h2):Agree h h2:=
 ⟨oU a.next b.next,λi hi=>(b.get i (mJ hi a.next)).trans (a.get i hi),λhl=>(b.low (by rw[a.low hl];exact oU hl a.next)).trans (a.low hl)⟩
theorem At.agree{h h':IH}{b:Nat}{o:dH}(a:At h b o)(g:Agree h h'):At h' b o:=⟨mJ a.1 g.next,(g.get b a.1).trans a.2⟩
theorem Me(h:IH)(o:dH):Agree h (h.new o):=⟨Bu _,λi hi=>by rw[IH.jk,if_neg (by omega)],λ_=>rfl⟩
theorem Mf(h:IH)(o:dH):At (h.new o) h.next o:=⟨uX _,by rw[IH.jk,if_pos rfl]⟩
structure ajL(h h':IH)(b:Nat)(o:dH):Prop where
 next:h'.next=h.next
 get:∀i,i≠b->h'.get i=h.get i
 at_:At h' b o
 low:h.low<=b->h'.low=h.low
def Cells(h:IH)(b:Nat)(cs:List Value):Prop:=b<h.next/\(h.get b=some (.cells cs)\/h.get b=some (.jw cs))
theorem At.c{h:IH}{b:Nat}{cs:List Value}(a:At h b (.cells cs)):Cells h b cs:=⟨a.1,.inl a.2⟩
theorem Cells.agree{h h':IH}{b:Nat}{cs:List Value}(a:Cells h b cs)(g:Agree h h'):Cells h' b cs:=⟨mJ a.1 g.next,by rw[g.get b a.1];exact a.2⟩
theorem Cells.oD{h:IH}{b:Nat}{cs:List Value}(a:Cells h b cs)(o:Nat):h.oD b o=cs[o]?:=by
 rcases a.2 with e|e<;>simp only[IH.oD,e,sI]
theorem Cells.je{h:IH}{b:Nat}{cs:List Value}(a:Cells h b cs)(o m:Nat):h.je b o m=jv (jR cs o) m:=by
 rcases a.2 with e|e<;>simp only[IH.je,e]
def wX(h:IH)(v:Value)(xs:List Int):Prop:=
 (xs=[]/\∃a m c,v=.slice a m c/\m=0)\/
 ∃i o f c cs,v=.slice (some ⟨i,o,some f⟩) xs.length c/\Cells h i cs/\∀(k:Nat) x,xs[k]? =some x->cs[o+k]? =some (.int .i64 x)
theorem wX.agree{h h':IH}{v:Value}{xs:List Int}(a:wX h v xs)(g:Agree h h'):wX h' v xs:=by
 rcases a with h1|⟨i,o,f,c,cs,h1,h2,h3⟩
 ·exact .inl h1
 ·exact .inr ⟨i,o,f,c,cs,h1,h2.agree g,h3⟩
theorem wX.form{h:IH}{v:Value}{xs:List Int}(a:wX h v xs):∃b c,v=.slice b xs.length c:=by
 rcases a with⟨rfl,a,m,c,rfl,rfl⟩|⟨i,o,f,c,cs,h1,_⟩
 ·exact⟨a,c,rfl⟩
 ·exact⟨_,c,h1⟩
def bW(l:List (Nat×Value))(g:Option (Tmp×Bool)):Bool:=
 match g with
 |none=>true
 |some (t,w)=>match lk l t with
  | .bool b=>cond w b (!b)
  |_=>false
def Mg(l:List (Nat×Value))(g:Option (Tmp×Bool)):Bool:=
 match g with
 |none=>false
 |some (t,w)=>match lk l t with
  | .bool b=>cond w (!b) b
  | .chan _=>true
  |_=>false
theorem Rv(n:Nat):goInt n=.int .i64 (n:Int):=rfl
section
variable {ds:List Tmp} {rest:List bT} {n:Nat} {l:List (Nat×Value)} {D:List Deferred} {pm:Option FrameMode} {ro:Option Nat} {h:IH} {K:KO} {d:Nat} {g:Option (Tmp×Bool)}
theorem vK(hg:bW l g=true):(act n l D pm ro).wants g=some true:=by
 cases g with
 |none=>rfl
 |some p=>
  obtain⟨t,w⟩:=p;rw[He];simp only[bW]at hg;split at hg
  ·rename_i b hb;rw[hb];simp only[hg]
  ·cases hg
theorem aax(hn:Nat.blt d n=true)(hg:Mg l g=true){op:aG}{re:List iD}(next:aK P ds rest (act n ((d,sw)::l) D pm ro) h K):aK P ds (⟨⟨some d,g,op⟩,re⟩::rest) (act n l D pm ro) h K:=by
 refine .skip ?_ (by rw[pV hn];exact next);show(act n l D pm ro).wants g=some false;cases g with
 |none=>cases hg
 |some p=>
  obtain⟨t,w⟩:=p;rw[He];simp only[Mg]at hg;split at hg
  ·rename_i b hb;rw[hb];cases w<;>cases b<;>simp_all
  ·rename_i b hb;rw[hb]
  ·cases hg
theorem lT{op:aG}{v:Value}{h':IH}(hn:Nat.blt d n=true)(hg:bW l g=true)(hr:op.run P (ev l) h=some (v,h'))
 (next:aK P ds rest (act n ((d,v)::l) D pm ro) h' K):aK P ds (⟨⟨some d,g,op⟩,[]⟩::rest) (act n l D pm ro) h K:=
 .lq (vK hg) v h' (by rw[nK];exact hr) (by intro r hr;cases hr) (by rw[pV hn];exact next)
theorem Mh{op:aG}{v:Value}{h':IH}(hg:bW l g=true)(hr:op.run P (ev l) h=some (v,h'))
 (next:aK P ds rest (act n l D pm ro) h' K):aK P ds (⟨⟨none,g,op⟩,[]⟩::rest) (act n l D pm ro) h K:=
 .lq (vK hg) v h' (by rw[nK];exact hr) (by intro r hr;cases hr) next
theorem Rw{x:Operand}{a:Option Addr}{m c:Nat}(hn:Nat.blt d n=true)(hg:bW l g=true)(hx:ev l x=.slice a m c)
 (next:aK P ds rest (act n ((d,.int .i64 (m:Int))::l) D pm ro) h K):aK P ds (⟨⟨some d,g,.wE x⟩,[]⟩::rest) (act n l D pm ro) h K:=
 lT hn hg (by simp only[aG.run,hx,Rv]) next
theorem yR(op:BinOp)(t:TypeId)(x y:Operand)(a b:Int)(v:Value)(hv:pJ op .i64 a b=some v):l8 P op t x y (.int .i64 a) (.int .i64 b)=some v:=by
 simp only[l8,uq,cond,hv]
theorem Rx{m:Int}(h1: -9223372036854775808<=m)(h2:m<9223372036854775808):DW .i64 m=m:=by
 rw[KZ];exact IntWalk.i64_in m ⟨h1,by omega⟩
theorem Mi{a b:Nat}(h:a<b):Nat.blt a b=true:=by simp only[si];exact h
theorem Mj{x i:Operand}{size b o m c:Nat}{f:Option Nat}{k:Int}{kk:IntKind}(hn:Nat.blt d n=true)(hg:bW l g=true)(hx:ev l x=.slice (some ⟨b,o,f⟩) m c)(hi:ev l i=.int kk k)
 (h0:0<=k) (h1:k<m) (next:aK P ds rest (act n ((d,.pointer (some ⟨b,o+k.toNat*size,none⟩))::l) D pm ro) h K):aK P ds (⟨⟨some d,g,.nT size x i⟩,[]⟩::rest) (act n l D pm ro) h K:=by
 obtain⟨j,rfl⟩:=dZ h0;refine lT hn hg ?_ next
 simp only[aG.run,hx,hi];show cond (Nat.blt j m) _ _=_;rw[Mi (by omega)];rfl
theorem Ho{x:Operand}{b o:Nat}{cs:List Value}{v:Value}(hn:Nat.blt d n=true)(hg:bW l g=true)(hx:ev l x=.pointer (some ⟨b,o,none⟩))(ha:At h b (.cells cs))(hv:cs[o]? =some v)
 (next:aK P ds rest (act n ((d,v)::l) D pm ro) h K):aK P ds (⟨⟨some d,g,.gT x⟩,[]⟩::rest) (act n l D pm ro) h K:=
 lT hn hg (by simp only[aG.run,hx,ha.c.oD,hv]) next
theorem aay{x:Operand}{b o m:Nat}{cs r:List Value}(hn:Nat.blt d n=true)(hg:bW l g=true)(hx:ev l x=.pointer (some ⟨b,o,none⟩))(ha:At h b (.cells cs))(hv:jv (jR cs o) m=some r)
 (next:aK P ds rest (act n ((d,.agg ⟨r⟩)::l) D pm ro) h K):aK P ds (⟨⟨some d,g,.qw m x⟩,[]⟩::rest) (act n l D pm ro) h K:=
 lT hn hg (by simp only[aG.run,hx,ha.c.je,hv]) next
theorem Ry:∀(cs:List Value) (o:Nat) (v:Value),o<cs.length->jY cs o [v]=some (cs.set o v)
 |[],o,v,h=>by simp at h
 |c::cs,0,v,_=>by rw[KM];cases cs<;>rfl
 |c::cs,o+1,v,h=>by rw[KN,Ry cs o v (by simpa using h)];rfl
theorem s_call{f:Operand}{args:List Operand}{re:List iD}(hn:Nat.blt d n=true)(hg:bW l g=true)(fn:Fn){first captured:List Value}(hf:ev l f=.func fn ⟨first⟩ ⟨captured⟩)(M:KR)
 (hc:CALL P ⟨fn,first++args.map (ev l),captured,none⟩ h M)
 (hs:∀v h',M (.ok v) none h'->∀r∈re,∃u h2,r.op.run P (ev ((d,v)::l)) h'=some (u,h2)/\∀d',r.dst=some d'->lk ((d,v)::l) d'=u)
 (hok:∀v h',M (.ok v) none h'->aK P ds rest (act n ((d,v)::l) D pm ro) h' K)
 (iY:∀ch h',M (.fQ ch) none h'->K (.panic ch) (forget ds (act n l D pm ro)) h') (hno:∀r p h',M r p h'->p=none):aK P ds (⟨⟨some d,g,.call f args⟩,re⟩::rest) (act n l D pm ro) h K:=by
 refine .call (vK hg) ⟨fn,first++args.map (ev l),captured,none⟩ (by simp only[wJ,nK,hf,jS,vF]) M hc ?_ ?_ ?_
 ·intro v p h' hm r hr _;have:=hno _ _ _ hm;subst this;obtain⟨u,h2,e1,e2⟩:=hs v h' hm r hr;rw[pV hn];exact⟨u,h2,by rw[nK];exact e1,λd' hd=>by rw[<- e2 d' hd];exact uJ _ _⟩
 ·intro v p h' hm;have:=hno _ _ _ hm;subst this;rw[pV hn];exact hok v h' hm
 ·intro ch p h' hm;have:=hno _ _ _ hm;subst this;exact iY ch h' hm
section
variable {a:aX} {x y:dm} {i j m0:Nat} {I:Nat->aX->IH->Prop} {ch:List PanicEntry}
theorem aaz(e:Nat.beq j i=true)(k:K .normal a h):wW i K (.exit j) a h:=by
 have:j=i:=j4 e;subst this;show K (inBlock j (.exit j)) a h;simp only[inBlock];rw[e];exact k
theorem aaA(e:Nat.beq j i=false)(k:K (.exit j) a h):wW i K (.exit j) a h:=by
 show K (inBlock i (.exit j)) a h;simp only[inBlock];rw[e];exact k
end
theorem Rz{l0:List (Nat×Value)}{I:Nat->aX->IH->Prop}{m0:Nat}(m':Nat)(hlt:m'<m0)(hs:sub l0 l)(k:I m' (act n l0 D pm ro) h):uK I m0 K .normal (act n l D pm ro) h:=
 ⟨m',_,hlt,Hf hs,k⟩
end
end Go.Ideal
namespace Go.Ideal
variable {P:Program}
section
variable {ds:List Tmp} {rest:List bT} {n:Nat} {l:List (Nat×Value)} {D:List Deferred} {pm:Option FrameMode} {ro:Option Nat} {h:IH} {K:KO} {d:Nat} {g:Option (Tmp×Bool)}
structure Ae(h h':IH)(b:Nat)(o:dH):Prop where
 next:h'.next=h.next+1
 get:∀i,i<h.next->i≠b->h'.get i=h.get i
 at_:At h' h.next o
 low:h.low<=b->h'.low=h.low
theorem RA{e:TypeId}{size bytes b o m k:Nat}{f:Option Nat}{s x:Operand}{old xs:List Value}(hn:Nat.blt d n=true)(hg:bW l g=true)
 (hs:ev l s=.slice (some ⟨b,o,f⟩) m m) (hx:oZ (ev l x)=some (k+1)) (hxs:nE size (k+1) (ev l x) h=some xs) (hold:h.je b o (m*size)=some old)
 (hf:f=some 0\/f=some size) (hm:(m+(k+1))*bytes<=1073741824/\(m+(k+1))*size<=1073741824/\m+(k+1)<=1073741824)
 (next:∀h',Ae h h' b (.cells (old++xs))->aK P ds rest (act n ((d,.slice (some ⟨h.next,0,some size⟩) (m+(k+1)) (m+(k+1)))::l) D pm ro) h' K):
 aK P ds (⟨⟨some d,g,.append e size bytes s x⟩,[]⟩::rest) (act n l D pm ro) h K:=by
 have hle:∀{a b:Nat},a<=b->Nat.ble a b=true:=λh=>by rw[tZ];exact h
 have hlt:Nat.ble (m+(k+1)) m=false:=by
  cases hb:Nat.ble (m+(k+1)) m with
  |false=>rfl
  |true=>have:=mI hb;omega
 have hc:(Nat.ble (Nat.mul (m+(k+1)) bytes) small&&Nat.ble (Nat.mul (m+(k+1)) size) small&&Nat.ble (m+(k+1)) small)=true:=by
  rw[hle (show Nat.mul (m+(k+1)) bytes<=small from hm.1),hle (show Nat.mul (m+(k+1)) size<=small from hm.2.1),hle (show m+(k+1)<=small from hm.2.2)];rfl
 have hrun:∃h',(aG.append e size bytes s x).run P (ev l) h=some (.slice (some ⟨h.next,0,some size⟩) (m+(k+1)) (m+(k+1)),h')/\Ae h h' b (.cells (old++xs)):=by
  have Af:yC size (k+1) (ev l x) h=some xs:=hxs;simp only[aG.run,hx,Af,hs,wG];have e1:nE size m (.slice (some ⟨b,o,f⟩) m m) h=some old:=hold;show∃h',(cond (Nat.ble (Nat.mul (m+(k+1)) bytes) small&&Nat.ble (Nat.mul (m+(k+1)) size) small&&Nat.ble (m+(k+1)) small) _ _)=_/\_;rw[hc];show∃h',(cond (Nat.ble (m+(k+1)) m) _ _)=_/\_;rw[hlt];simp only[cond,e1];rcases hf with rfl|rfl
  ·refine⟨_,rfl,?_⟩;exact⟨rfl,λi hi _=>by rw[IH.jk,if_neg (by omega)],⟨uX _,by rw[IH.jk,if_pos rfl,jS]⟩,λ_=>rfl⟩
  ·cases size with
   |zero=>
    refine⟨_,rfl,?_⟩;exact⟨rfl,λi hi _=>by rw[IH.jk,if_neg (by omega)],⟨uX _,by rw[IH.jk,if_pos rfl,jS]⟩,λ_=>rfl⟩
   |succ j=>
    have hj:Nat.beq (Nat.succ j) (j+1)=true:=Gh _;refine⟨(h.kill b).new (.cells (old++xs)),?_,?_⟩
    ·show cond (Nat.beq (Nat.succ j) (j+1)) _ _=_;rw[hj,jS];rfl
    ·exact⟨rfl,λi hi hb=>by rw[IH.jk,if_neg (by show i≠h.next;omega),IH.uy,if_neg hb],⟨uX _,by rw[IH.jk];exact if_pos rfl⟩,λhl=>by rw[IH.KJ,IH.zT];omega⟩
 obtain⟨h',hr,hM⟩:=hrun;exact lT hn hg hr (next h' hM)
theorem aaB{e:TypeId}{size bytes k c:Nat}{s x:Operand}{xs:List Value}(hn:Nat.blt d n=true)(hg:bW l g=true)
 (hs:ev l s=.slice none 0 0) (hx:oZ (ev l x)=some (k+1)) (hxs:nE size (k+1) (ev l x) h=some xs)
 (hm:(k+1)*bytes<=1073741824/\(k+1)*size<=1073741824/\(k+1)<=1073741824)
 (next:∀h',Agree h h'->At h' h.next (.cells xs)->h'.next=h.next+1->aK P ds rest (act n ((d,.slice (some ⟨h.next,0,some size⟩) (k+1) (k+1))::l) D pm ro) h' K):
 aK P ds (⟨⟨some d,g,.append e size bytes s x⟩,[]⟩::rest) (act n l D pm ro) h K:=by
 have hle:∀{a b:Nat},a<=b->Nat.ble a b=true:=λh=>by rw[tZ];exact h
 have e0:Nat.add 0 (k+1)=k+1:=fC _;refine lT hn hg (h':=h.new (.cells xs)) ?_ (next _ (Me _ _) (Mf _ _) rfl);have Af:yC size (k+1) (ev l x) h=some xs:=hxs;simp only[aG.run,hx,Af,hs,wG,e0];rw[hle (show Nat.mul (k+1) bytes<=small from hm.1),hle (show Nat.mul (k+1) size<=small from hm.2.1),hle (show k+1<=small from hm.2.2)];have e1:nE size 0 (.slice none 0 0) h=some []:=by
  show(match (0:Nat)with|0=>some ([]:List Value)|_=>none)=_;rfl
 have e2:Nat.ble (k+1) 0=false:=rfl;simp only[Kk,cond_true,e2,cond_false,e1,jS,bY]
theorem At.kR{b o m:Nat}{cs r:List Value}(a:At h b (.cells cs))(hr:jv (jR cs o) m=some r):h.kR b o m=some r:=by
 simp only[IH.kR,a.2,hr]
theorem EK(x:Value):∀n,zeros [x] n=List.replicate n x
 |0=>rfl
 |n+1=>by
  show kv [x] (zeros [x] n)=_;rw[EK x n,jS];rfl
theorem At.je{b o m:Nat}{cs r:List Value}(a:At h b (.cells cs))(hr:jv (jR cs o) m=some r):h.je b o m=some r:=by
 rw[a.c.je,hr]
def Ag(ds:List Tmp)(n:Nat)(l:List (Nat×Value)):List (Nat×Value):=
 match ds with
 |[]=>l
 |d::ds=>Ag ds n (cond (Nat.blt d n) ((d,dR)::l) l)
theorem Hq:∀(ds:List Tmp) (l:List (Nat×Value)),forget ds (act n l D pm ro)=act n (Ag ds n l) D pm ro
 |[],l=>rfl
 |d::ds,l=>by
  show forget ds ((act n l D pm ro).set d dR)=_;simp only[Ag];cases hb:Nat.blt d n with
  |true=>
   rw[show(act n l D pm ro).set d dR=act n ((d,dR)::l) D pm ro from pV hb];exact Hq ds _
  |false=>
   rw[show(act n l D pm ro).set d dR=act n l D pm ro by simp only[aX.set,act,hb,cond]];exact Hq ds _
theorem aaC{x:Operand}{t:TypeId}{v:Value}{dst:Option Tmp}{re:List iD}(hg:bW l g=true)(hx:ev l x=.iface t v)
 (hk:K (.panic [{v:=.iface t v,recovered:=false}]) (act n (Ag ds n l) D pm ro) h):aK P ds (⟨⟨dst,g,.panic x⟩,re⟩::rest) (act n l D pm ro) h K:=
 .panic (vK hg) x rfl t v (by rw[nK];exact hx) (by rw[Hq];exact hk)
theorem aaD{f:Operand}{args:List Operand}{fn:Fn}{first captured:List Value}(hg:bW l g=true)(hro:ro=none)(hf:ev l f=.func fn ⟨first⟩ ⟨captured⟩)
 (next:aK P ds rest (act n l ({target:=.fn fn ⟨captured⟩,args:=⟨first++args.map (ev l)⟩}::D) pm ro) h K):aK P ds (⟨⟨none,g,.dcall f args⟩,[]⟩::rest) (act n l D pm ro) h K:=by
 refine .defer (vK hg) f args rfl rfl hro fn first captured (by rw[nK];exact hf) ?_
 rw[nK];rw[<- jS,<- vF]at next
 exact next
theorem aaE{m:FrameMode}(hn:Nat.blt d n=true)(hg:bW l g=true)(hro:ro=none)
 (next:aK P ds rest (act n ((d,(jM m).1)::l) D (some (jM m).2) ro) h K):aK P ds (⟨⟨some d,g,.recover⟩,[]⟩::rest) (act n l D (some m) ro) h K:=by
 refine .recoverD (vK hg) rfl rfl m rfl hro ?_;have:({act n l D (some m) ro with pm:=some (jM m).2}:aX)=act n l D (some (jM m).2) ro:=rfl;rw[this,pV hn];exact next
theorem RB{f:FuncId}{args cap:List Value}{pm:Option FrameMode}{h:IH}{K:KR}(cf:gW)(fn:Func)(hf:P.funcs[f]? =some fn)(hcf:uu P fn=some cf)
 (hb:EV P cf.body (zP cf.ntmps (args++cap) pm) h (λo a h'=>match uw o with
   |none=>False
   |some m=>LEAVE P cf a.tmps a.defers m h' λr h''=>K r a.pm h'')):CALL P ⟨.func f,args,cap,pm⟩ h K:=by
 refine .enter f (args++cap) (by simp only[target,jS]) fn hf cf hcf _ hb ?_ ?_
 ·intro o a h hm e;rw[e]at hm;exact hm
 ·intro o a h' m hm he;rw[he]at hm;exact hm
end
end Go.Ideal
namespace Go.Ideal
open Go.RowKit
variable {P:Program}
noncomputable def Cm:Nat->List (Option (List Value))->T dH
 |_,[]=>.leaf
 |i,c::l=>(Cm (i+1) l).set i (c.map .jw)
theorem RD:∀(l:List (Option (List Value))) (i j:Nat),(Cm i l).get j=if i<=j then(l[j - i]?).bind (λc=>c.map .jw)else none
 |[],i,j=>by simp[Cm,T.Eb]
 |c::l,i,j=>by
  simp only[Cm,T.nJ];by_cases e:j=i
  ·subst e;simp
  ·rw[if_neg e,RD l (i+1) j];by_cases h:i<=j
   ·rw[if_pos (by omega),if_pos h];obtain⟨k,hk⟩:∃k,j - i=k+1:=⟨j - i - 1,by omega⟩
    rw[hk,qV,show j - (i+1)=k by omega]
   ·rw[if_neg (by omega),if_neg h]
abbrev Lay:=List (Option iN×Option (List Value))
noncomputable def kz(L:Lay):IH:=⟨Cm 0 (L.map (·.2)),L.length,L.length⟩
def j5(L:Lay):aI:=λi=>(L[i]?).bind (·.1)
theorem Mk(L:Lay)(i:Nat):(kz L).get i=(L[i]?).bind λp=>p.2.map .jw:=by
 show(Cm 0 (L.map (·.2))).get i=_;rw[RD,if_pos (bJ _),Dy,fw];cases L[i]?<;>rfl
theorem aaF{L:Lay}{i:Nat}{g:Option iN}{cs:List Value}(h:L[i]? =some (g,some cs)):Cells (kz L) i cs:=
 ⟨(bK.1 h).1,.inr (by rw[Mk,h];rfl)⟩
structure Cn(L:Lay)(w:World)(g:iN)(cs:List Value):Prop where
 block:∃c t fz,w.heap[g.b]? =some (.cells c t fz)/\(g.top=0\/c.size=g.top)
 sz:g.sz=0
 all:cs.all cellV=true
 cell:∀(j:Nat) v,cs[j]? =some v->∃v',w.cell? ⟨g.b,g.off+j,none⟩=some v'/\VR (j5 L) v v'
theorem aaG{L:Lay}{w:World}(hL:∀(i:Nat) g cs,L[i]? =some (some g,some cs)->Cn L w g cs):WR P (j5 L) (kz L) w:=by
 have hb:∀i g,j5 L i=some g->∃cs,L[i]? =some (some g,cs):=λi g h=>by
  unfold j5 at h;cases e:L[i]? with
  |none=>rw[e]at h;cases h
  |some p=>
   rw[e]at h;obtain⟨a,cs⟩:=p;have h:a=some g:=h;subst h;exact⟨cs,rfl⟩
 have hlive:∀i o,(kz L).get i=some o->∃g cs,L[i]? =some (g,some cs)/\o=.jw cs:=λi o h=>by
  rw[Mk]at h;cases e:L[i]? with
  |none=>rw[e]at h;cases h
  |some p=>
   obtain⟨g,c⟩:=p;rw[e]at h;cases c with
   |none=>cases h
   |some cs=>cases h;exact⟨g,cs,rfl,rfl⟩
 refine⟨?_,?_,?_,?_⟩
 ·intro i g h;obtain⟨cs,e⟩:=hb i g h;exact(bK.1 e).1
 ·intro i o h;obtain⟨g,cs,e,_⟩:=hlive i o h;exact(bK.1 e).1
 ·intro i g o h ho;obtain⟨c,e⟩:=hb i g h;obtain⟨g',cs,e',rfl⟩:=hlive i o ho;rw[e]at e';cases e';have k:=hL i g cs e;exact⟨k.block,k.sz,k.all,k.cell⟩
 ·intro i j g k hi hj hgi hgj hr he
  exfalso
  rcases hr with q|q
  ·cases e:(kz L).get i with
   |none=>exact hgi e
   |some o=>
    obtain⟨_,cs,_,rfl⟩:=hlive i o e;exact q cs e
  ·cases e:(kz L).get j with
   |none=>exact hgj e
   |some o=>
    obtain⟨_,cs,_,rfl⟩:=hlive j o e;exact q cs e
theorem aaH(Ab:P.follows .mixedOrders=true)(hgl:P.globals.size=0){f:FuncId}(fn:Func)(hfn:P.funcs[f]? =some fn)(hbody:fn.body.isNone=false)(hname:(fn.name== "runtime.NumGoroutine")=false){args args':List Value}{L:Lay}{w:World}{v:Value}
 (hL:∀(i:Nat) g cs,L[i]? =some (some g,some cs)->Cn L w g cs) (hargs:bi (j5 L) args args') (hv:cz v=true)
 (hc:CALL P ⟨.func f,args,[],none⟩ (kz L) (λr pm h'=>pm=none/\r=.ok v/\Agree (kz L) h')):
 Calls P f ⟨args'⟩ w (λe w'=>e=.returned v/\Below w.heap.size w w'):=by
 have hM:=aak Ab hc;have hW:WR P (j5 L) (kz L) w:=aaG hL;obtain⟨nx,F0,n1,n2,n3⟩:=hM (j5 L) w (.func f) args' [] (λg hg=>by rw[hgl]at hg;omega) hW (.func f) hargs .nil;have hnx:nx=.enter f ⟨args'⟩:=by
  have hcall:(callFunc f ⟨args'⟩).run P w=.ok (.enter f ⟨args'⟩) w:=by
   simp only[callFunc,dF,run_program,dI,hfn,hname,hbody,u7,if_false,fq]
  have e:(⟨args'⟩:Array Value)++(⟨[]⟩:Array Value)=⟨args'⟩:=by apply Array.ext';simp
  have n1:(invoke (.fn (.func f) ⟨[]⟩) ⟨args'⟩).run P w=.ok nx w:=n1;simp only[invoke,e]at n1;rw[hcall]at n1;cases n1;rfl
 subst hnx;have wY:F0=Frame.enter P f ⟨args'⟩ .normal:=by
  have:entry P .normal (.enter f ⟨args'⟩)=some (Frame.enter P f ⟨args'⟩ .normal):=rfl;have n2:entry P .normal (.enter f ⟨args'⟩)=some F0:=n2;rw[this]at n2;exact(Option.some.inj n2).symm
 subst wY;intro cs;obtain⟨r,pm',h',β',w',r',cs1,q1,q2,q3,q4,q5,q6⟩:=n3 cs (by intro m hm;cases hm);obtain⟨hp,rfl,hag⟩:=q1;cases q5;cases q4 with
 | @ok v v' rF=>
   have:=rF.pQ hv;subst this;rcases q6 with⟨f1,a1,F1,e1,e2,e3,e4,e5⟩|⟨⟨_,l,e1⟩,_⟩
   ·cases e1;refine⟨.returned v',w',F1,⟨rfl,?_⟩,e2,e3,?_⟩
    ·refine⟨q3.os,q3.tape,q3.output,q3.size,λk hk=>?_⟩;by_cases hx:∀i g,j5 L i=some g->(kz L).get i≠none->g.b≠k
     ·exact q3.keep k hk hx
     ·have hx:∃i g,j5 L i=some g/\(kz L).get i≠none/\g.b=k:=by
       apply Classical.byContradiction;intro hc;exact hx λi g hi hg hb=>hc ⟨i,g,hi,hg,hb⟩
      obtain⟨i,g,hi,hg,rfl⟩:=hx;have hin:=hW.dom i g hi;exact q3.sK i g (by rw[hag.low (bU _)];exact hin) hin hi hg hk
    ·obtain⟨t1,t2,fn,t3,t4⟩:=e5;exact⟨t1,t2,e4,fn,t3,t4⟩
   ·cases e1
open Go.WideShapes Go.ChangeShapes
section
variable {H:Type} {enc:TypeId×Value->H}
theorem aaI{w w':World}(hb:Below w.heap.size w w'){a:Addr}(ha:a.block<w.heap.size):w'.cell? a=w.cell? a:=by
 simp only[World.cell?,hb.block _ ha]
theorem aaJ{w w':World}(hb:Below w.heap.size w w'){p:MemPlace}(hp:p.block<w.heap.size):w.sameAt w' p:=by
 cases p with
 |cell b off=>exact aaI hb hp
 |map b=>exact hb.block b hp
theorem RG{T:TypeId->Prop}(K:Kids P T)(hsz:∀{t e:TypeId},T t->P.underlying t=some (.slice e)->0<P.cellsOf e){w w':World}(hb:Below w.heap.size w w'){sp:Nat->Bool}:∀{ts:List TypeId} {vs:List Value} {ds:List (DataW H)} {ps:List MemPlace},
 (∀t∈ts,T t)->DataW.TrodAll enc P w 0 (λ_=>true) true ts vs ds ps->(∀p∈ps,sp p.block=true)->DataW.TrodAll enc P w' 0 sp true ts vs ds ps
 |[],[],[],_,_,h,_=>h
 |t::_,v::_,d::_,_,hT,⟨p,q,⟨n,h1⟩,h2,e⟩,hs=>by
  refine⟨p,q,⟨n,?_⟩,RG K hsz hb (λt ht=>hT t (dG.2 (.inr ht))) h2 (λx hx=>hs x (by rw[e];exact qp _ hx)),e⟩;exact DataW.trod_stays K hsz (λh=>by cases h) (hT t (dG.2 (.inl rfl))) h1 (λx hx=>aaJ hb (DataW.trod_lt n _ _ _ h1 x hx)) (λx hx=>hs x (by rw[e];exact kZ _ hx))
theorem aaK{w w':World}(hb:Below w.heap.size w w')(may:MemPlace->Prop):w.keptBut w' may:=by
 refine⟨hb.os,hb.output,λi hi=>?_⟩;rw[hb.block i hi];cases h:w.heap[i]? with
 |none=>rfl
 |some o=>cases o<;>simp
theorem aaL{f:Func}{s:ChangeSpec}{apart fresh handsOn again:Bool}{W W':World}{args:Array Value}{v:Value}{ds gs:List (DataW H)}{before pa pv:List MemPlace}
 (hW:DataW.Whole enc P f.params.toList s.vars apart W args.toList ds gs before)
 (hres:∀(b:Nat) (sp:Nat->Bool) (hd:Bool),DataW.TrodAll enc P W' b sp hd f.resultTypes.toList (v.resultList f.resultTypes.size) (s.fn H (ds++gs)).results [])
 (hargs:∀sp:Nat->Bool,(∀p∈before,sp p.block=true)->DataW.TrodAll enc P W' 0 sp true f.params.toList args.toList (s.fn H (ds++gs)).args pa)
 (hvars:∀sp:Nat->Bool,(∀p∈before,sp p.block=true)->DataW.TrodVars enc P W' sp s.vars (s.fn H (ds++gs)).vars pv)
 (hps:before=pa++pv) (hb:Below W.heap.size W W')
 (hok:∀(j:Nat) (t:TypeId) (r:Value),f.resultTypes[j]? =some t->(v.resultList f.resultTypes.size)[j]? =some r->Value.okWide P W' .any 0 t r):
 s.post enc P f apart fresh handsOn again W args v W':=by
 have hlt:=hW.lt;have hold:∀p∈before,(λb=>decide (b<W.heap.size)) p.block=true:=λp hp=>dQ (hlt p hp);refine⟨ds,gs,before,[],pa,pv,hW,hres _ _ _,hargs _ hold,hvars _ hold,aaK hb _,λ_=>?_⟩;obtain⟨_,_,_,_,_,hz,hn⟩:=hW;refine⟨hok,_,_,([]++pa)++pv,⟨[]++pa,pv,trodAll_append (hargs _ (λ_ _=>rfl)) (hres _ _ _),hvars _ (λ_ _=>rfl),rfl,?_,?_⟩,?_⟩
 ·intro b off hp;have hm:MemPlace.cell b off∈before:=by rw[hps];simpa using hp
  have h1:b<W.heap.size:=hlt _ hm;have:=hz b off hm;simp only[World.frozen?,hb.block b h1]at this⊢;exact this
 ·intro ha;have:=hn ha;rw[hps]at this;simpa using this
 ·intro p hp _;rw[hps];simpa using hp
end
end Go.Ideal
namespace Go.Ideal
open Go.ChangeShapes Go.WideShapes Go.ChangeAt Go.RowKit
section
variable {H:Type} {enc:TypeId×Value->H} {P:Program} {W:World} {t e:TypeId}
end
