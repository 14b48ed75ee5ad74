/-
  The ideal machine, 40: single steps, as laws.
-/
import Derived.Test.YtfakljdleblkoaaGreatIdealGM
import Derived.ChangeStays
import Derived.ChangeSame
import Derived.ChangeSlices
import Derived.ProofKit
set_option linter.all false
namespace Go.Ideal
variable {P:Program}
def At(h:IH)(b:Nat)(o:dJ):Prop:=b<h.next/\h.get b=some o
structure Agree(h h':IH):Prop where
 next:h.next<=h'.next
 get:∀i,i<h.next->h'.get i=h.get i
 low:h.low<=h.next->h'.low=h.low
theorem Agree.refl(h:IH):Agree h h:=⟨bB _,λ_ _=>rfl,λ_=>rfl⟩
theorem Agree.trans{h h1 h2:IH}(a:Agree h h1)(b:Agree h1 h2):Agree h h2:=
 ⟨qD a.next b.next,λi hi=>(b.get i (mK hi a.next)).trans (a.get i hi),λhl=>(b.low (by rw[a.low hl];exact qD hl a.next)).trans (a.low hl)⟩
theorem At.agree{h h':IH}{b:Nat}{o:dJ}(a:At h b o)(g:Agree h h'):At h' b o:=⟨mK a.1 g.next,(g.get b a.1).trans a.2⟩
theorem NB(h:IH)(o:dJ):Agree h (h.new o):=⟨BV _,λi hi=>by rw[IH.jc,if_neg (by omega)],λ_=>rfl⟩
theorem NC(h:IH)(o:dJ):At (h.new o) h.next o:=⟨vT _,by rw[IH.jc,if_pos rfl]⟩
structure amP(h h':IH)(b:Nat)(o:dJ):Prop where
 next:h'.next=h.next
 get:∀i,i≠b->h'.get i=h.get i
 at_:At h' b o
 low:h.low<=b->h'.low=h.low
def Cells(h:IH)(b:Nat)(cs:List Value):Prop:=b<h.next/\(h.get b=some (.cells cs)\/h.get b=some (.jr cs))
theorem At.c{h:IH}{b:Nat}{cs:List Value}(a:At h b (.cells cs)):Cells h b cs:=⟨a.1,.inl a.2⟩
theorem Cells.agree{h h':IH}{b:Nat}{cs:List Value}(a:Cells h b cs)(g:Agree h h'):Cells h' b cs:=⟨mK a.1 g.next,by rw[g.get b a.1];exact a.2⟩
theorem Cells.ou{h:IH}{b:Nat}{cs:List Value}(a:Cells h b cs)(o:Nat):h.ou b o=cs[o]?:=by
 rcases a.2 with e|e<;>simp only[IH.ou,e,qK]
theorem Cells.iW{h:IH}{b:Nat}{cs:List Value}(a:Cells h b cs)(o m:Nat):h.iW b o m=jh (jK cs o) m:=by
 rcases a.2 with e|e<;>simp only[IH.iW,e]
def xL(h:IH)(v:Value)(xs:List Int):Prop:=
 (xs=[]/\∃a m c,v=.slice a m c/\m=0)\/
 ∃i o f c cs,v=.slice (some ⟨i,o,some f⟩) xs.length c/\Cells h i cs/\∀(k:Nat) x,xs[k]? =some x->cs[o+k]? =some (.int .i64 x)
theorem xL.agree{h h':IH}{v:Value}{xs:List Int}(a:xL h v xs)(g:Agree h h'):xL h' v xs:=by
 rcases a with h1|⟨i,o,f,c,cs,h1,h2,h3⟩
 ·exact .inl h1
 ·exact .inr ⟨i,o,f,c,cs,h1,h2.agree g,h3⟩
theorem xL.form{h:IH}{v:Value}{xs:List Int}(a:xL h v xs):∃b c,v=.slice b xs.length c:=by
 rcases a with⟨rfl,a,m,c,rfl,rfl⟩|⟨i,o,f,c,cs,h1,_⟩
 ·exact⟨a,c,rfl⟩
 ·exact⟨_,c,h1⟩
def bM(l:List (Nat×Value))(g:Option (Tmp×Bool)):Bool:=
 match g with
 |none=>true
 |some (t,w)=>match lk l t with
  | .bool b=>cond w b (!b)
  |_=>false
def ND(l:List (Nat×Value))(g:Option (Tmp×Bool)):Bool:=
 match g with
 |none=>false
 |some (t,w)=>match lk l t with
  | .bool b=>cond w (!b) b
  | .chan _=>true
  |_=>false
theorem TZ(n:Nat):goInt n=.int .i64 (n:Int):=rfl
section
variable {ds:List Tmp} {rest:List bP} {n:Nat} {l:List (Nat×Value)} {D:List Deferred} {pm:Option FrameMode} {ro:Option Nat} {h:IH} {K:KO} {d:Nat} {g:Option (Tmp×Bool)}
theorem wu(hg:bM l g=true):(act n l D pm ro).wants g=some true:=by
 cases g with
 |none=>rfl
 |some p=>
  obtain⟨t,w⟩:=p;rw[Ik];simp only[bM]at hg;split at hg
  ·rename_i b hb;rw[hb];simp only[hg]
  ·cases hg
theorem ac1(hn:Nat.blt d n=true)(hg:ND l g=true){op:aF}{re:List iw}(next:aI P ds rest (act n ((d,sU)::l) D pm ro) h K):aI P ds (⟨⟨some d,g,op⟩,re⟩::rest) (act n l D pm ro) h K:=by
 refine .skip ?_ (by rw[qh hn];exact next);show(act n l D pm ro).wants g=some false;cases g with
 |none=>cases hg
 |some p=>
  obtain⟨t,w⟩:=p;rw[Ik];simp only[ND]at hg;split at hg
  ·rename_i b hb;rw[hb];cases w<;>cases b<;>simp_all
  ·rename_i b hb;rw[hb]
  ·cases hg
theorem lW{op:aF}{v:Value}{h':IH}(hn:Nat.blt d n=true)(hg:bM l g=true)(hr:op.run P (ev l) h=some (v,h'))
 (next:aI P ds rest (act n ((d,v)::l) D pm ro) h' K):aI P ds (⟨⟨some d,g,op⟩,[]⟩::rest) (act n l D pm ro) h K:=
 .lu (wu hg) v h' (by rw[nu];exact hr) (by intro r hr;cases hr) (by rw[qh hn];exact next)
theorem Io{op:aF}{v:Value}{h':IH}(hg:bM l g=true)(hr:op.run P (ev l) h=some (v,h'))
 (next:aI P ds rest (act n l D pm ro) h' K):aI P ds (⟨⟨none,g,op⟩,[]⟩::rest) (act n l D pm ro) h K:=
 .lu (wu hg) v h' (by rw[nu];exact hr) (by intro r hr;cases hr) next
theorem T9{x:Operand}{a:Option Addr}{m c:Nat}(hn:Nat.blt d n=true)(hg:bM l g=true)(hx:ev l x=.slice a m c)
 (next:aI P ds rest (act n ((d,.int .i64 (m:Int))::l) D pm ro) h K):aI P ds (⟨⟨some d,g,.xg x⟩,[]⟩::rest) (act n l D pm ro) h K:=
 lW hn hg (by simp only[aF.run,hx,TZ]) next
theorem zq(op:BinOp)(t:TypeId)(x y:Operand)(a b:Int)(v:Value)(hv:pX op .i64 a b=some v):kD P op t x y (.int .i64 a) (.int .i64 b)=some v:=by
 simp only[kD,uJ,cond,hv]
theorem Ua{m:Int}(h1: -9223372036854775808<=m)(h2:m<9223372036854775808):Ew .i64 m=m:=by
 rw[Mx];exact IntWalk.i64_in m ⟨h1,by omega⟩
theorem NE{a b:Nat}(h:a<b):Nat.blt a b=true:=by simp only[sQ];exact h
theorem Ip{x i:Operand}{size b o m c:Nat}{f:Option Nat}{k:Int}{kk:IntKind}(hn:Nat.blt d n=true)(hg:bM l g=true)(hx:ev l x=.slice (some ⟨b,o,f⟩) m c)(hi:ev l i=.int kk k)
 (h0:0<=k) (h1:k<m) (next:aI P ds rest (act n ((d,.pointer (some ⟨b,o+k.toNat*size,none⟩))::l) D pm ro) h K):aI P ds (⟨⟨some d,g,.mX size x i⟩,[]⟩::rest) (act n l D pm ro) h K:=by
 obtain⟨j,rfl⟩:=eO h0;refine lW hn hg ?_ next
 simp only[aF.run,hx,hi];show cond (Nat.blt j m) _ _=_;rw[NE (by omega)];rfl
theorem Fu{x:Operand}{b o:Nat}{cs:List Value}{v:Value}(hn:Nat.blt d n=true)(hg:bM l g=true)(hx:ev l x=.pointer (some ⟨b,o,none⟩))(ha:At h b (.cells cs))(hv:cs[o]? =some v)
 (next:aI P ds rest (act n ((d,v)::l) D pm ro) h K):aI P ds (⟨⟨some d,g,.gI x⟩,[]⟩::rest) (act n l D pm ro) h K:=
 lW hn hg (by simp only[aF.run,hx,ha.c.ou,hv]) next
theorem ac2{x:Operand}{b o m:Nat}{cs r:List Value}(hn:Nat.blt d n=true)(hg:bM l g=true)(hx:ev l x=.pointer (some ⟨b,o,none⟩))(ha:At h b (.cells cs))(hv:jh (jK cs o) m=some r)
 (next:aI P ds rest (act n ((d,.agg ⟨r⟩)::l) D pm ro) h K):aI P ds (⟨⟨some d,g,.pW m x⟩,[]⟩::rest) (act n l D pm ro) h K:=
 lW hn hg (by simp only[aF.run,hx,ha.c.iW,hv]) next
theorem Ub:∀(cs:List Value) (o:Nat) (v:Value),o<cs.length->jq cs o [v]=some (cs.set o v)
 |[],o,v,h=>by simp at h
 |c::cs,0,v,_=>by rw[Mk];cases cs<;>rfl
 |c::cs,o+1,v,h=>by rw[Ml,Ub cs o v (by simpa using h)];rfl
theorem s_call{f:Operand}{args:List Operand}{re:List iw}(hn:Nat.blt d n=true)(hg:bM l g=true)(fn:Fn){first captured:List Value}(hf:ev l f=.func fn ⟨first⟩ ⟨captured⟩)(M:KR)
 (hc:CALL P ⟨fn,first++args.map (ev l),captured,none⟩ h M)
 (hs:∀v h',M (.ok v) none h'->∀r∈re,∃u h2,r.op.run P (ev ((d,v)::l)) h'=some (u,h2)/\∀d',r.dst=some d'->lk ((d,v)::l) d'=u)
 (hok:∀v h',M (.ok v) none h'->aI P ds rest (act n ((d,v)::l) D pm ro) h' K)
 (iC:∀ch h',M (.fT ch) none h'->K (.panic ch) (forget ds (act n l D pm ro)) h') (hno:∀r p h',M r p h'->p=none):aI P ds (⟨⟨some d,g,.call f args⟩,re⟩::rest) (act n l D pm ro) h K:=by
 refine .call (wu hg) ⟨fn,first++args.map (ev l),captured,none⟩ (by simp only[xy,nu,hf,jE,vZ]) M hc ?_ ?_ ?_
 ·intro v p h' hm r hr _;have:=hno _ _ _ hm;subst this;obtain⟨u,h2,e1,e2⟩:=hs v h' hm r hr;rw[qh hn];exact⟨u,h2,by rw[nu];exact e1,λd' hd=>by rw[<- e2 d' hd];exact uU _ _⟩
 ·intro v p h' hm;have:=hno _ _ _ hm;subst this;rw[qh hn];exact hok v h' hm
 ·intro ch p h' hm;have:=hno _ _ _ hm;subst this;exact iC ch h' hm
section
variable {a:aV} {x y:dm} {i j m0:Nat} {I:Nat->aV->IH->Prop} {ch:List PanicEntry}
theorem ac3(e:Nat.beq j i=true)(k:K .normal a h):xK i K (.exit j) a h:=by
 have:j=i:=kT e;subst this;show K (inBlock j (.exit j)) a h;simp only[inBlock];rw[e];exact k
theorem ac4(e:Nat.beq j i=false)(k:K (.exit j) a h):xK i K (.exit j) a h:=by
 show K (inBlock i (.exit j)) a h;simp only[inBlock];rw[e];exact k
end
theorem Uc{l0:List (Nat×Value)}{I:Nat->aV->IH->Prop}{m0:Nat}(m':Nat)(hlt:m'<m0)(hs:sub l0 l)(k:I m' (act n l0 D pm ro) h):uV I m0 K .normal (act n l D pm ro) h:=
 ⟨m',_,hlt,Il hs,k⟩
end
end Go.Ideal
namespace Go.Ideal
variable {P:Program}
section
variable {ds:List Tmp} {rest:List bP} {n:Nat} {l:List (Nat×Value)} {D:List Deferred} {pm:Option FrameMode} {ro:Option Nat} {h:IH} {K:KO} {d:Nat} {g:Option (Tmp×Bool)}
structure A9(h h':IH)(b:Nat)(o:dJ):Prop where
 next:h'.next=h.next+1
 get:∀i,i<h.next->i≠b->h'.get i=h.get i
 at_:At h' h.next o
 low:h.low<=b->h'.low=h.low
theorem Ud{e:TypeId}{size bytes b o m k:Nat}{f:Option Nat}{s x:Operand}{old xs:List Value}(hn:Nat.blt d n=true)(hg:bM l g=true)
 (hs:ev l s=.slice (some ⟨b,o,f⟩) m m) (hx:pq (ev l x)=some (k+1)) (hxs:mY size (k+1) (ev l x) h=some xs) (hold:h.iW b o (m*size)=some old)
 (hf:f=some 0\/f=some size) (hm:(m+(k+1))*bytes<=1073741824/\(m+(k+1))*size<=1073741824/\m+(k+1)<=1073741824)
 (next:∀h',A9 h h' b (.cells (old++xs))->aI P ds rest (act n ((d,.slice (some ⟨h.next,0,some size⟩) (m+(k+1)) (m+(k+1)))::l) D pm ro) h' K):
 aI P ds (⟨⟨some d,g,.append e size bytes s x⟩,[]⟩::rest) (act n l D pm ro) h K:=by
 have hle:∀{a b:Nat},a<=b->Nat.ble a b=true:=λh=>by rw[sP];exact h
 have hlt:Nat.ble (m+(k+1)) m=false:=by
  cases hb:Nat.ble (m+(k+1)) m with
  |false=>rfl
  |true=>have:=mJ hb;omega
 have hc:(Nat.ble (Nat.mul (m+(k+1)) bytes) small&&Nat.ble (Nat.mul (m+(k+1)) size) small&&Nat.ble (m+(k+1)) small)=true:=by
  rw[hle (show Nat.mul (m+(k+1)) bytes<=small from hm.1),hle (show Nat.mul (m+(k+1)) size<=small from hm.2.1),hle (show m+(k+1)<=small from hm.2.2)];rfl
 have hrun:∃h',(aF.append e size bytes s x).run P (ev l) h=some (.slice (some ⟨h.next,0,some size⟩) (m+(k+1)) (m+(k+1)),h')/\A9 h h' b (.cells (old++xs)):=by
  have Ba:yZ size (k+1) (ev l x) h=some xs:=hxs;simp only[aF.run,hx,Ba,hs,xm];have e1:mY size m (.slice (some ⟨b,o,f⟩) m m) h=some old:=hold;show∃h',(cond (Nat.ble (Nat.mul (m+(k+1)) bytes) small&&Nat.ble (Nat.mul (m+(k+1)) size) small&&Nat.ble (m+(k+1)) small) _ _)=_/\_;rw[hc];show∃h',(cond (Nat.ble (m+(k+1)) m) _ _)=_/\_;rw[hlt];simp only[cond,e1];rcases hf with rfl|rfl
  ·refine⟨_,rfl,?_⟩;exact⟨rfl,λi hi _=>by rw[IH.jc,if_neg (by omega)],⟨vT _,by rw[IH.jc,if_pos rfl,jE]⟩,λ_=>rfl⟩
  ·cases size with
   |zero=>
    refine⟨_,rfl,?_⟩;exact⟨rfl,λi hi _=>by rw[IH.jc,if_neg (by omega)],⟨vT _,by rw[IH.jc,if_pos rfl,jE]⟩,λ_=>rfl⟩
   |succ j=>
    have hj:Nat.beq (Nat.succ j) (j+1)=true:=Cc _;refine⟨(h.kill b).new (.cells (old++xs)),?_,?_⟩
    ·show cond (Nat.beq (Nat.succ j) (j+1)) _ _=_;rw[hj,jE];rfl
    ·exact⟨rfl,λi hi hb=>by rw[IH.jc,if_neg (by show i≠h.next;omega),IH.tC,if_neg hb],⟨vT _,by rw[IH.jc];exact if_pos rfl⟩,λhl=>by rw[IH.Mj,IH.AL];omega⟩
 obtain⟨h',hr,hM⟩:=hrun;exact lW hn hg hr (next h' hM)
theorem ac5{e:TypeId}{size bytes k c:Nat}{s x:Operand}{xs:List Value}(hn:Nat.blt d n=true)(hg:bM l g=true)
 (hs:ev l s=.slice none 0 0) (hx:pq (ev l x)=some (k+1)) (hxs:mY size (k+1) (ev l x) h=some xs)
 (hm:(k+1)*bytes<=1073741824/\(k+1)*size<=1073741824/\(k+1)<=1073741824)
 (next:∀h',Agree h h'->At h' h.next (.cells xs)->h'.next=h.next+1->aI P ds rest (act n ((d,.slice (some ⟨h.next,0,some size⟩) (k+1) (k+1))::l) D pm ro) h' K):
 aI P ds (⟨⟨some d,g,.append e size bytes s x⟩,[]⟩::rest) (act n l D pm ro) h K:=by
 have hle:∀{a b:Nat},a<=b->Nat.ble a b=true:=λh=>by rw[sP];exact h
 have e0:Nat.add 0 (k+1)=k+1:=fw _;refine lW hn hg (h':=h.new (.cells xs)) ?_ (next _ (NB _ _) (NC _ _) rfl);have Ba:yZ size (k+1) (ev l x) h=some xs:=hxs;simp only[aF.run,hx,Ba,hs,xm,e0];rw[hle (show Nat.mul (k+1) bytes<=small from hm.1),hle (show Nat.mul (k+1) size<=small from hm.2.1),hle (show k+1<=small from hm.2.2)];have e1:mY size 0 (.slice none 0 0) h=some []:=by
  show(match (0:Nat)with|0=>some ([]:List Value)|_=>none)=_;rfl
 have e2:Nat.ble (k+1) 0=false:=rfl;simp only[LQ,cond_true,e2,cond_false,e1,jE,bH]
theorem At.jv{b o m:Nat}{cs r:List Value}(a:At h b (.cells cs))(hr:jh (jK cs o) m=some r):h.jv b o m=some r:=by
 simp only[IH.jv,a.2,hr]
theorem Fv(x:Value):∀n,zeros [x] n=List.replicate n x
 |0=>rfl
 |n+1=>by
  show kz [x] (zeros [x] n)=_;rw[Fv x n,jE];rfl
theorem At.iW{b o m:Nat}{cs r:List Value}(a:At h b (.cells cs))(hr:jh (jK cs o) m=some r):h.iW b o m=some r:=by
 rw[a.c.iW,hr]
def Bb(ds:List Tmp)(n:Nat)(l:List (Nat×Value)):List (Nat×Value):=
 match ds with
 |[]=>l
 |d::ds=>Bb ds n (cond (Nat.blt d n) ((d,dO)::l) l)
theorem Iq:∀(ds:List Tmp) (l:List (Nat×Value)),forget ds (act n l D pm ro)=act n (Bb ds n l) D pm ro
 |[],l=>rfl
 |d::ds,l=>by
  show forget ds ((act n l D pm ro).set d dO)=_;simp only[Bb];cases hb:Nat.blt d n with
  |true=>
   rw[show(act n l D pm ro).set d dO=act n ((d,dO)::l) D pm ro from qh hb];exact Iq ds _
  |false=>
   rw[show(act n l D pm ro).set d dO=act n l D pm ro by simp only[aV.set,act,hb,cond]];exact Iq ds _
theorem ac6{x:Operand}{t:TypeId}{v:Value}{dst:Option Tmp}{re:List iw}(hg:bM l g=true)(hx:ev l x=.iface t v)
 (hk:K (.panic [{v:=.iface t v,recovered:=false}]) (act n (Bb ds n l) D pm ro) h):aI P ds (⟨⟨dst,g,.panic x⟩,re⟩::rest) (act n l D pm ro) h K:=
 .panic (wu hg) x rfl t v (by rw[nu];exact hx) (by rw[Iq];exact hk)
theorem ac7{f:Operand}{args:List Operand}{fn:Fn}{first captured:List Value}(hg:bM l g=true)(hro:ro=none)(hf:ev l f=.func fn ⟨first⟩ ⟨captured⟩)
 (next:aI P ds rest (act n l ({target:=.fn fn ⟨captured⟩,args:=⟨first++args.map (ev l)⟩}::D) pm ro) h K):aI P ds (⟨⟨none,g,.dcall f args⟩,[]⟩::rest) (act n l D pm ro) h K:=by
 refine .defer (wu hg) f args rfl rfl hro fn first captured (by rw[nu];exact hf) ?_
 rw[nu];rw[<- jE,<- vZ]at next
 exact next
theorem ac8{m:FrameMode}(hn:Nat.blt d n=true)(hg:bM l g=true)(hro:ro=none)
 (next:aI P ds rest (act n ((d,(jL m).1)::l) D (some (jL m).2) ro) h K):aI P ds (⟨⟨some d,g,.recover⟩,[]⟩::rest) (act n l D (some m) ro) h K:=by
 refine .recoverD (wu hg) rfl rfl m rfl hro ?_;have:({act n l D (some m) ro with pm:=some (jL m).2}:aV)=act n l D (some (jL m).2) ro:=rfl;rw[this,qh hn];exact next
theorem Ue{f:FuncId}{args cap:List Value}{pm:Option FrameMode}{h:IH}{K:KR}(cf:gU)(fn:Func)(hf:P.funcs[f]? =some fn)(hcf:uK P fn=some cf)
 (hb:EV P cf.body (AA cf.ntmps (args++cap) pm) h (λo a h'=>match tq o with
   |none=>False
   |some m=>LEAVE P cf a.tmps a.defers m h' λr h''=>K r a.pm h'')):CALL P ⟨.func f,args,cap,pm⟩ h K:=by
 refine .enter f (args++cap) (by simp only[target,jE]) fn hf cf hcf _ hb ?_ ?_
 ·intro o a h hm e;rw[e]at hm;exact hm
 ·intro o a h' m hm he;rw[he]at hm;exact hm
end
end Go.Ideal
namespace Go.Ideal
open Go.RowKit
variable {P:Program}
noncomputable def CS:Nat->List (Option (List Value))->T dJ
 |_,[]=>.leaf
 |i,c::l=>(CS (i+1) l).set i (c.map .jr)
theorem Uf:∀(l:List (Option (List Value))) (i j:Nat),(CS i l).get j=if i<=j then(l[j - i]?).bind (λc=>c.map .jr)else none
 |[],i,j=>by simp[CS,T.EG]
 |c::l,i,j=>by
  simp only[CS,T.ng];by_cases e:j=i
  ·subst e;simp
  ·rw[if_neg e,Uf l (i+1) j];by_cases h:i<=j
   ·rw[if_pos (by omega),if_pos h];obtain⟨k,hk⟩:∃k,j - i=k+1:=⟨j - i - 1,by omega⟩
    rw[hk,rC,show j - (i+1)=k by omega]
   ·rw[if_neg (by omega),if_neg h]
abbrev Lay:=List (Option iy×Option (List Value))
noncomputable def kE(L:Lay):IH:=⟨CS 0 (L.map (·.2)),L.length,L.length⟩
def kg(L:Lay):aG:=λi=>(L[i]?).bind (·.1)
theorem NF(L:Lay)(i:Nat):(kE L).get i=(L[i]?).bind λp=>p.2.map .jr:=by
 show(CS 0 (L.map (·.2))).get i=_;rw[Uf,if_pos (dK _),Ak,dR];cases L[i]?<;>rfl
theorem ac9{L:Lay}{i:Nat}{g:Option iy}{cs:List Value}(h:L[i]? =some (g,some cs)):Cells (kE L) i cs:=
 ⟨(aW.1 h).1,.inr (by rw[NF,h];rfl)⟩
structure CU(L:Lay)(w:World)(g:iy)(cs:List Value):Prop where
 block:∃c t fz,w.heap[g.b]? =some (.cells c t fz)/\(g.top=0\/c.size=g.top)
 sz:g.sz=0
 all:cs.all cellV=true
 cell:∀(j:Nat) v,cs[j]? =some v->∃v',w.cell? ⟨g.b,g.off+j,none⟩=some v'/\VR (kg L) v v'
theorem ada{L:Lay}{w:World}(hL:∀(i:Nat) g cs,L[i]? =some (some g,some cs)->CU L w g cs):WR P (kg L) (kE L) w:=by
 have hb:∀i g,kg L i=some g->∃cs,L[i]? =some (some g,cs):=λi g h=>by
  unfold kg at h;cases e:L[i]? with
  |none=>rw[e]at h;cases h
  |some p=>
   rw[e]at h;obtain⟨a,cs⟩:=p;have h:a=some g:=h;subst h;exact⟨cs,rfl⟩
 have hlive:∀i o,(kE L).get i=some o->∃g cs,L[i]? =some (g,some cs)/\o=.jr cs:=λi o h=>by
  rw[NF]at h;cases e:L[i]? with
  |none=>rw[e]at h;cases h
  |some p=>
   obtain⟨g,c⟩:=p;rw[e]at h;cases c with
   |none=>cases h
   |some cs=>cases h;exact⟨g,cs,rfl,rfl⟩
 refine⟨?_,?_,?_,?_⟩
 ·intro i g h;obtain⟨cs,e⟩:=hb i g h;exact(aW.1 e).1
 ·intro i o h;obtain⟨g,cs,e,_⟩:=hlive i o h;exact(aW.1 e).1
 ·intro i g o h ho;obtain⟨c,e⟩:=hb i g h;obtain⟨g',cs,e',rfl⟩:=hlive i o ho;rw[e]at e';cases e';have k:=hL i g cs e;exact⟨k.block,k.sz,k.all,k.cell⟩
 ·intro i j g k hi hj hgi hgj hr he
  exfalso
  rcases hr with q|q
  ·cases e:(kE L).get i with
   |none=>exact hgi e
   |some o=>
    obtain⟨_,cs,_,rfl⟩:=hlive i o e;exact q cs e
  ·cases e:(kE L).get j with
   |none=>exact hgj e
   |some o=>
    obtain⟨_,cs,_,rfl⟩:=hlive j o e;exact q cs e
theorem adb(qg:P.follows .mixedOrders=true)(hgl:P.globals.size=0){f:FuncId}(fn:Func)(hfn:P.funcs[f]? =some fn)(hbody:fn.body.isNone=false)(hname:(fn.name== "runtime.NumGoroutine")=false){args args':List Value}{L:Lay}{w:World}{v:Value}
 (hL:∀(i:Nat) g cs,L[i]? =some (some g,some cs)->CU L w g cs) (hargs:aS (kg L) args args') (hv:dF v=true)
 (hc:CALL P ⟨.func f,args,[],none⟩ (kE L) (λr pm h'=>pm=none/\r=.ok v/\Agree (kE L) h')):
 Calls P f ⟨args'⟩ w (λe w'=>e=.returned v/\Below w.heap.size w w'):=by
 have hM:=TM qg hc;have hW:WR P (kg L) (kE L) w:=ada hL;obtain⟨nx,F0,n1,n2,n3⟩:=hM (kg L) w (.func f) args' [] (λg hg=>by rw[hgl]at hg;omega) hW (.func f) hargs .nil;have hnx:nx=.enter f ⟨args'⟩:=by
  have hcall:(callFunc f ⟨args'⟩).run P w=.ok (.enter f ⟨args'⟩) w:=by
   simp only[callFunc,dG,run_program,dI,hfn,hname,hbody,uE,if_false,fo]
  have e:(⟨args'⟩:Array Value)++(⟨[]⟩:Array Value)=⟨args'⟩:=by apply Array.ext';simp
  have n1:(invoke (.fn (.func f) ⟨[]⟩) ⟨args'⟩).run P w=.ok nx w:=n1;simp only[invoke,e]at n1;rw[hcall]at n1;cases n1;rfl
 subst hnx;have uW:F0=Frame.enter P f ⟨args'⟩ .normal:=by
  have:entry P .normal (.enter f ⟨args'⟩)=some (Frame.enter P f ⟨args'⟩ .normal):=rfl;have n2:entry P .normal (.enter f ⟨args'⟩)=some F0:=n2;rw[this]at n2;exact(Option.some.inj n2).symm
 subst uW;intro cs;obtain⟨r,pm',h',β',w',r',cs1,q1,q2,q3,q4,q5,q6⟩:=n3 cs (by intro m hm;cases hm);obtain⟨hp,rfl,hag⟩:=q1;cases q5;cases q4 with
 | @ok v v' oD=>
   have:=oD.qc hv;subst this;rcases q6 with⟨f1,a1,F1,e1,e2,e3,e4,e5⟩|⟨⟨_,l,e1⟩,_⟩
   ·cases e1;refine⟨.returned v',w',F1,⟨rfl,?_⟩,e2,e3,?_⟩
    ·refine⟨q3.os,q3.tape,q3.output,q3.size,λk hk=>?_⟩;by_cases hx:∀i g,kg L i=some g->(kE L).get i≠none->g.b≠k
     ·exact q3.keep k hk hx
     ·have hx:∃i g,kg L i=some g/\(kE L).get i≠none/\g.b=k:=by
       apply Classical.byContradiction;intro hc;exact hx λi g hi hg hb=>hc ⟨i,g,hi,hg,hb⟩
      obtain⟨i,g,hi,hg,rfl⟩:=hx;have hin:=hW.dom i g hi;exact q3.rP i g (by rw[hag.low (bB _)];exact hin) hin hi hg hk
    ·obtain⟨t1,t2,fn,t3,t4⟩:=e5;exact⟨t1,t2,e4,fn,t3,t4⟩
   ·cases e1
open Go.WideShapes Go.ChangeShapes
section
variable {H:Type} {enc:TypeId×Value->H}
theorem ade{w w':World}(hb:Below w.heap.size w w'){a:Addr}(ha:a.block<w.heap.size):w'.cell? a=w.cell? a:=by
 simp only[World.cell?,hb.block _ ha]
theorem adf{w w':World}(hb:Below w.heap.size w w'){p:MemPlace}(hp:p.block<w.heap.size):w.sameAt w' p:=by
 cases p with
 |cell b off=>exact ade hb hp
 |map b=>exact hb.block b hp
theorem Ir{T:TypeId->Prop}(K:Kids P T)(hsz:∀{t e:TypeId},T t->P.underlying t=some (.slice e)->0<P.cellsOf e){w w':World}(hb:Below w.heap.size w w'){sp:Nat->Bool}:∀{ts:List TypeId} {vs:List Value} {ds:List (DataW H)} {ps:List MemPlace},
 (∀t∈ts,T t)->DataW.TrodAll enc P w 0 (λ_=>true) true ts vs ds ps->(∀p∈ps,sp p.block=true)->DataW.TrodAll enc P w' 0 sp true ts vs ds ps
 |[],[],[],_,_,h,_=>h
 |t::_,v::_,d::_,_,hT,⟨p,q,⟨n,h1⟩,h2,e⟩,hs=>by
  refine⟨p,q,⟨n,?_⟩,Ir K hsz hb (λt ht=>hT t (bN.2 (.inr ht))) h2 (λx hx=>hs x (by rw[e];exact om _ hx)),e⟩;exact DataW.trod_stays K hsz (λh=>by cases h) (hT t (bN.2 (.inl rfl))) h1 (λx hx=>adf hb (DataW.trod_lt n _ _ _ h1 x hx)) (λx hx=>hs x (by rw[e];exact kK _ hx))
theorem adg{w w':World}(hb:Below w.heap.size w w')(may:MemPlace->Prop):w.keptBut w' may:=by
 refine⟨hb.os,hb.output,λi hi=>?_⟩;rw[hb.block i hi];cases h:w.heap[i]? with
 |none=>rfl
 |some o=>cases o<;>simp
theorem NG{f:Func}{s:ChangeSpec}{apart fresh handsOn again:Bool}{W W':World}{args:Array Value}{v:Value}{ds gs:List (DataW H)}{before pa pv:List MemPlace}
 (hW:DataW.Whole enc P f.params.toList s.vars apart W args.toList ds gs before)
 (hres:∀(b:Nat) (sp:Nat->Bool) (hd:Bool),DataW.TrodAll enc P W' b sp hd f.resultTypes.toList (v.resultList f.resultTypes.size) (s.fn H (ds++gs)).results [])
 (hargs:∀sp:Nat->Bool,(∀p∈before,sp p.block=true)->DataW.TrodAll enc P W' 0 sp true f.params.toList args.toList (s.fn H (ds++gs)).args pa)
 (hvars:∀sp:Nat->Bool,(∀p∈before,sp p.block=true)->DataW.TrodVars enc P W' sp s.vars (s.fn H (ds++gs)).vars pv)
 (hps:before=pa++pv) (hb:Below W.heap.size W W')
 (hok:∀(j:Nat) (t:TypeId) (r:Value),f.resultTypes[j]? =some t->(v.resultList f.resultTypes.size)[j]? =some r->Value.okWide P W' .any 0 t r):
 s.post enc P f apart fresh handsOn again W args v W':=by
 have hlt:=hW.lt;have hold:∀p∈before,(λb=>decide (b<W.heap.size)) p.block=true:=λp hp=>fQ (hlt p hp);refine⟨ds,gs,before,[],pa,pv,hW,hres _ _ _,hargs _ hold,hvars _ hold,adg hb _,λ_=>?_⟩;obtain⟨_,_,_,_,_,hz,hn⟩:=hW;refine⟨hok,_,_,([]++pa)++pv,⟨[]++pa,pv,trodAll_append (hargs _ (λ_ _=>rfl)) (hres _ _ _),hvars _ (λ_ _=>rfl),rfl,?_,?_⟩,?_⟩
 ·intro b off hp;have hm:MemPlace.cell b off∈before:=by rw[hps];simpa using hp
  have h1:b<W.heap.size:=hlt _ hm;have:=hz b off hm;simp only[World.frozen?,hb.block b h1]at this⊢;exact this
 ·intro ha;have:=hn ha;rw[hps]at this;simpa using this
 ·intro p hp _;rw[hps];simpa using hp
end
end Go.Ideal
namespace Go.Ideal
open Go.ChangeShapes Go.WideShapes Go.ChangeAt Go.RowKit
section
variable {H:Type} {enc:TypeId×Value->H} {P:Program} {W:World} {t e:TypeId}
end
