/-
  The ideal machine, 40: single steps, as laws.
-/
import Derived.Test.YtjmgkllpcidhjaaGreatDoorIdealGN
import Derived.ChangeStays
import Derived.ChangeSame
import Derived.ChangeSlices
import Derived.ProofKit
set_option linter.all false
namespace Go.Ideal
variable {P:Program}
def At(h:IH)(b:Nat)(o:bB):Prop:=b<h.next/\h.get b=some o
structure Agree(h h':IH):Prop where
 next:h.next<=h'.next
 get:∀i,i<h.next->h'.get i=h.get i
 low:h.low<=h.next->h'.low=h.low
theorem Agree.refl(h:IH):Agree h h:=⟨aH _,λ_ _=>rfl,λ_=>rfl⟩
theorem Agree.trans{h h1 h2:IH}(a:Agree h h1)(b:Agree h1 h2):Agree h h2:=
 ⟨dz a.next b.next,λi hi=>(b.get i (jP hi a.next)).trans (a.get i hi),λhl=>(b.low (by rw[a.low hl];exact dz hl a.next)).trans (a.low hl)⟩
theorem At.agree{h h':IH}{b:Nat}{o:bB}(a:At h b o)(g:Agree h h'):At h' b o:=⟨jP a.1 g.next,(g.get b a.1).trans a.2⟩
theorem JS(h:IH)(o:bB):Agree h (h.new o):=⟨vM _,λi hi=>by rw[IH.gF,if_neg (by omega)],λ_=>rfl⟩
theorem JU(h:IH)(o:bB):At (h.new o) h.next o:=⟨qg _,by rw[IH.gF,if_pos rfl]⟩
structure ai2(h h':IH)(b:Nat)(o:bB):Prop where
 next:h'.next=h.next
 get:∀i,i≠b->h'.get i=h.get i
 at_:At h' b o
 low:h.low<=b->h'.low=h.low
def Cells(h:IH)(b:Nat)(cs:List Value):Prop:=b<h.next/\(h.get b=some (.cells cs)\/h.get b=some (.fP cs))
theorem At.c{h:IH}{b:Nat}{cs:List Value}(a:At h b (.cells cs)):Cells h b cs:=⟨a.1,.inl a.2⟩
theorem Cells.agree{h h':IH}{b:Nat}{cs:List Value}(a:Cells h b cs)(g:Agree h h'):Cells h' b cs:=⟨jP a.1 g.next,by rw[g.get b a.1];exact a.2⟩
theorem Cells.lT{h:IH}{b:Nat}{cs:List Value}(a:Cells h b cs)(o:Nat):h.lT b o=cs[o]?:=by
 rcases a.2 with e|e<;>simp only[IH.lT,e,om]
theorem Cells.dK{h:IH}{b:Nat}{cs:List Value}(a:Cells h b cs)(o m:Nat):h.dK b o m=iC (iZ cs o) m:=by
 rcases a.2 with e|e<;>simp only[IH.dK,e]
def CF(h:IH)(v:Value)(xs:List Int):Prop:=
 (xs=[]/\∃a m c,v=.slice a m c/\m=0)\/
 ∃i o f c cs,v=.slice (some ⟨i,o,some f⟩) xs.length c/\Cells h i cs/\∀(k:Nat) x,xs[k]? =some x->cs[o+k]? =some (.int .i64 x)
theorem CF.agree{h h':IH}{v:Value}{xs:List Int}(a:CF h v xs)(g:Agree h h'):CF h' v xs:=by
 rcases a with h1|⟨i,o,f,c,cs,h1,h2,h3⟩
 ·exact .inl h1
 ·exact .inr ⟨i,o,f,c,cs,h1,h2.agree g,h3⟩
def bH(l:List (Nat×Value))(g:Option (Tmp×Bool)):Bool:=
 match g with
 |none=>true
 |some (t,w)=>match lk l t with
  | .bool b=>cond w b (!b)
  |_=>false
def xZ(l:List (Nat×Value))(g:Option (Tmp×Bool)):Bool:=
 match g with
 |none=>false
 |some (t,w)=>match lk l t with
  | .bool b=>cond w (!b) b
  | .chan _=>true
  |_=>false
theorem Fs(n:Nat):goInt n=.int .i64 (n:Int):=rfl
section
variable {ds:List Tmp} {rest:List aY} {n:Nat} {l:List (Nat×Value)} {D:List Deferred} {pm:Option FrameMode} {ro:Option Nat} {h:IH} {K:KO} {d:Nat} {g:Option (Tmp×Bool)}
theorem qF(hg:bH l g=true):(act n l D pm ro).wants g=some true:=by
 cases g with
 |none=>rfl
 |some p=>
  obtain⟨t,w⟩:=p;rw[Cz];simp only[bH]at hg;split at hg
  ·rename_i b hb;rw[hb];simp only[hg]
  ·cases hg
theorem ZB(hn:Nat.blt d n=true)(hg:xZ l g=true){op:ak}{re:List fC}(next:aB P ds rest (act n ((d,qW)::l) D pm ro) h K):aB P ds (⟨⟨some d,g,op⟩,re⟩::rest) (act n l D pm ro) h K:=by
 refine .skip ?_ (by rw[l6 hn];exact next);show(act n l D pm ro).wants g=some false;cases g with
 |none=>cases hg
 |some p=>
  obtain⟨t,w⟩:=p;rw[Cz];simp only[xZ]at hg;split at hg
  ·rename_i b hb;rw[hb];cases w<;>cases b<;>simp_all
  ·rename_i b hb;rw[hb]
  ·cases hg
theorem iH{op:ak}{v:Value}{h':IH}(hn:Nat.blt d n=true)(hg:bH l g=true)(hr:op.run P (ev l) h=some (v,h'))
 (next:aB P ds rest (act n ((d,v)::l) D pm ro) h' K):aB P ds (⟨⟨some d,g,op⟩,[]⟩::rest) (act n l D pm ro) h K:=
 .jb (qF hg) v h' (by rw[jT];exact hr) (by intro r hr;cases hr) (by rw[l6 hn];exact next)
theorem JV{op:ak}{v:Value}{h':IH}(hg:bH l g=true)(hr:op.run P (ev l) h=some (v,h'))
 (next:aB P ds rest (act n l D pm ro) h' K):aB P ds (⟨⟨none,g,op⟩,[]⟩::rest) (act n l D pm ro) h K:=
 .jb (qF hg) v h' (by rw[jT];exact hr) (by intro r hr;cases hr) next
theorem PR{x:Operand}{a:Option Addr}{m c:Nat}(hn:Nat.blt d n=true)(hg:bH l g=true)(hx:ev l x=.slice a m c)
 (next:aB P ds rest (act n ((d,.int .i64 (m:Int))::l) D pm ro) h K):aB P ds (⟨⟨some d,g,.jf x⟩,[]⟩::rest) (act n l D pm ro) h K:=
 iH hn hg (by simp only[ak.run,hx,Fs]) next
theorem wB(op:BinOp)(t:TypeId)(x y:Operand)(a b:Int)(v:Value)(hv:og op .i64 a b=some v):qw P op t x y (.int .i64 a) (.int .i64 b)=some v:=by
 simp only[qw,sJ,cond,hv]
theorem PS{m:Int}(h1: -9223372036854775808<=m)(h2:m<9223372036854775808):BC .i64 m=m:=by
 rw[I5];exact IntWalk.i64_in m ⟨h1,by omega⟩
theorem JW{a b:Nat}(h:a<b):Nat.blt a b=true:=by simp only[pu];exact h
theorem PT{x i:Operand}{size b o m c:Nat}{f:Option Nat}{k:Int}{kk:IntKind}(hn:Nat.blt d n=true)(hg:bH l g=true)(hx:ev l x=.slice (some ⟨b,o,f⟩) m c)(hi:ev l i=.int kk k)
 (h0:0<=k) (h1:k<m) (next:aB P ds rest (act n ((d,.pointer (some ⟨b,o+k.toNat*size,none⟩))::l) D pm ro) h K):aB P ds (⟨⟨some d,g,.fB size x i⟩,[]⟩::rest) (act n l D pm ro) h K:=by
 obtain⟨j,rfl⟩:=Bo h0;refine iH hn hg ?_ next
 simp only[ak.run,hx,hi];show cond (Nat.blt j m) _ _=_;rw[JW (by omega)];rfl
theorem JX{x:Operand}{b o:Nat}{cs:List Value}{v:Value}(hn:Nat.blt d n=true)(hg:bH l g=true)(hx:ev l x=.pointer (some ⟨b,o,none⟩))(ha:At h b (.cells cs))(hv:cs[o]? =some v)
 (next:aB P ds rest (act n ((d,v)::l) D pm ro) h K):aB P ds (⟨⟨some d,g,.aP x⟩,[]⟩::rest) (act n l D pm ro) h K:=
 iH hn hg (by simp only[ak.run,hx,ha.c.lT,hv]) next
theorem ZC{x:Operand}{b o m:Nat}{cs r:List Value}(hn:Nat.blt d n=true)(hg:bH l g=true)(hx:ev l x=.pointer (some ⟨b,o,none⟩))(ha:At h b (.cells cs))(hv:iC (iZ cs o) m=some r)
 (next:aB P ds rest (act n ((d,.agg ⟨r⟩)::l) D pm ro) h K):aB P ds (⟨⟨some d,g,.mO m x⟩,[]⟩::rest) (act n l D pm ro) h K:=
 iH hn hg (by simp only[ak.run,hx,ha.c.dK,hv]) next
theorem JY:∀(cs:List Value) (o:Nat) (v:Value),o<cs.length->fU cs o [v]=some (cs.set o v)
 |[],o,v,h=>by simp at h
 |c::cs,0,v,_=>by rw[IQ];cases cs<;>rfl
 |c::cs,o+1,v,h=>by rw[IR,JY cs o v (by simpa using h)];rfl
theorem s_call{f:Operand}{args:List Operand}{re:List fC}(hn:Nat.blt d n=true)(hg:bH l g=true)(fn:Fn){first captured:List Value}(hf:ev l f=.func fn ⟨first⟩ ⟨captured⟩)(M:KR)
 (hc:CALL P ⟨fn,first++args.map (ev l),captured,none⟩ h M)
 (hs:∀v h',M (.ok v) none h'->∀r∈re,∃u h2,r.op.run P (ev ((d,v)::l)) h'=some (u,h2)/\∀d',r.dst=some d'->lk ((d,v)::l) d'=u)
 (hok:∀v h',M (.ok v) none h'->aB P ds rest (act n ((d,v)::l) D pm ro) h' K)
 (iM:∀ch h',M (.fI ch) none h'->K (.panic ch) (forget ds (act n l D pm ro)) h') (hno:∀r p h',M r p h'->p=none):aB P ds (⟨⟨some d,g,.call f args⟩,re⟩::rest) (act n l D pm ro) h K:=by
 refine .call (qF hg) ⟨fn,first++args.map (ev l),captured,none⟩ (by simp only[uA,jT,hf,gV,q9]) M hc ?_ ?_ ?_
 ·intro v p h' hm r hr _;have:=hno _ _ _ hm;subst this;obtain⟨u,h2,e1,e2⟩:=hs v h' hm r hr;rw[l6 hn];exact⟨u,h2,by rw[jT];exact e1,λd' hd=>by rw[<- e2 d' hd];exact rJ _ _⟩
 ·intro v p h' hm;have:=hno _ _ _ hm;subst this;rw[l6 hn];exact hok v h' hm
 ·intro ch p h' hm;have:=hno _ _ _ hm;subst this;exact iM ch h' hm
section
variable {a:aR} {x y:cB} {i j m0:Nat} {I:Nat->aR->IH->Prop} {ch:List PanicEntry}
theorem ZE(e:Nat.beq j i=true)(k:K .normal a h):uN i K (.exit j) a h:=by
 have:j=i:=fZ e;subst this;show K (inBlock j (.exit j)) a h;simp only[inBlock];rw[e];exact k
theorem ZF(e:Nat.beq j i=false)(k:K (.exit j) a h):uN i K (.exit j) a h:=by
 show K (inBlock i (.exit j)) a h;simp only[inBlock];rw[e];exact k
end
theorem ZG{l0:List (Nat×Value)}{I:Nat->aR->IH->Prop}{m0:Nat}(m':Nat)(hlt:m'<m0)(hs:sub l0 l)(k:I m' (act n l0 D pm ro) h):uO I m0 K .normal (act n l D pm ro) h:=
 ⟨m',_,hlt,PM hs,k⟩
end
end Go.Ideal
namespace Go.Ideal
variable {P:Program}
section
variable {ds:List Tmp} {rest:List aY} {n:Nat} {l:List (Nat×Value)} {D:List Deferred} {pm:Option FrameMode} {ro:Option Nat} {h:IH} {K:KO} {d:Nat} {g:Option (Tmp×Bool)}
structure wC(h h':IH)(b:Nat)(o:bB):Prop where
 next:h'.next=h.next+1
 get:∀i,i<h.next->i≠b->h'.get i=h.get i
 at_:At h' h.next o
 low:h.low<=b->h'.low=h.low
theorem CG{e:TypeId}{size bytes b o m k:Nat}{f:Option Nat}{s x:Operand}{old xs:List Value}(hn:Nat.blt d n=true)(hg:bH l g=true)
 (hs:ev l s=.slice (some ⟨b,o,f⟩) m m) (hx:kE (ev l x)=some (k+1)) (hxs:j3 size (k+1) (ev l x) h=some xs) (hold:h.dK b o (m*size)=some old)
 (hf:f=some 0\/f=some size) (hm:(m+(k+1))*bytes<=1073741824/\(m+(k+1))*size<=1073741824/\m+(k+1)<=1073741824)
 (next:∀h',wC h h' b (.cells (old++xs))->aB P ds rest (act n ((d,.slice (some ⟨h.next,0,some size⟩) (m+(k+1)) (m+(k+1)))::l) D pm ro) h' K):
 aB P ds (⟨⟨some d,g,.append e size bytes s x⟩,[]⟩::rest) (act n l D pm ro) h K:=by
 have hle:∀{a b:Nat},a<=b->Nat.ble a b=true:=λh=>by rw[nu];exact h
 have hlt:Nat.ble (m+(k+1)) m=false:=by
  cases hb:Nat.ble (m+(k+1)) m with
  |false=>rfl
  |true=>have:=jY hb;omega
 have hc:(Nat.ble (Nat.mul (m+(k+1)) bytes) small&&Nat.ble (Nat.mul (m+(k+1)) size) small&&Nat.ble (m+(k+1)) small)=true:=by
  rw[hle (show Nat.mul (m+(k+1)) bytes<=small from hm.1),hle (show Nat.mul (m+(k+1)) size<=small from hm.2.1),hle (show m+(k+1)<=small from hm.2.2)];rfl
 have hrun:∃h',(ak.append e size bytes s x).run P (ev l) h=some (.slice (some ⟨h.next,0,some size⟩) (m+(k+1)) (m+(k+1)),h')/\wC h h' b (.cells (old++xs)):=by
  have x8:sI size (k+1) (ev l x) h=some xs:=hxs;simp only[ak.run,hx,x8,hs,nZ];have e1:j3 size m (.slice (some ⟨b,o,f⟩) m m) h=some old:=hold;show∃h',(cond (Nat.ble (Nat.mul (m+(k+1)) bytes) small&&Nat.ble (Nat.mul (m+(k+1)) size) small&&Nat.ble (m+(k+1)) small) _ _)=_/\_;rw[hc];show∃h',(cond (Nat.ble (m+(k+1)) m) _ _)=_/\_;rw[hlt];simp only[cond,e1];rcases hf with rfl|rfl
  ·refine⟨_,rfl,?_⟩;exact⟨rfl,λi hi _=>by rw[IH.gF,if_neg (by omega)],⟨qg _,by rw[IH.gF,if_pos rfl,gV]⟩,λ_=>rfl⟩
  ·cases size with
   |zero=>
    refine⟨_,rfl,?_⟩;exact⟨rfl,λi hi _=>by rw[IH.gF,if_neg (by omega)],⟨qg _,by rw[IH.gF,if_pos rfl,gV]⟩,λ_=>rfl⟩
   |succ j=>
    have hj:Nat.beq (Nat.succ j) (j+1)=true:=vO _;refine⟨(h.kill b).new (.cells (old++xs)),?_,?_⟩
    ·show cond (Nat.beq (Nat.succ j) (j+1)) _ _=_;rw[hj,gV];rfl
    ·exact⟨rfl,λi hi hb=>by rw[IH.gF,if_neg (by show i≠h.next;omega),IH.qy,if_neg hb],⟨qg _,by rw[IH.gF];exact if_pos rfl⟩,λhl=>by rw[IH.IP,IH.xN];omega⟩
 obtain⟨h',hr,hM⟩:=hrun;exact iH hn hg hr (next h' hM)
theorem JZ{e:TypeId}{size bytes k c:Nat}{s x:Operand}{xs:List Value}(hn:Nat.blt d n=true)(hg:bH l g=true)
 (hs:ev l s=.slice none 0 0) (hx:kE (ev l x)=some (k+1)) (hxs:j3 size (k+1) (ev l x) h=some xs)
 (hm:(k+1)*bytes<=1073741824/\(k+1)*size<=1073741824/\(k+1)<=1073741824)
 (next:∀h',Agree h h'->At h' h.next (.cells xs)->h'.next=h.next+1->aB P ds rest (act n ((d,.slice (some ⟨h.next,0,some size⟩) (k+1) (k+1))::l) D pm ro) h' K):
 aB P ds (⟨⟨some d,g,.append e size bytes s x⟩,[]⟩::rest) (act n l D pm ro) h K:=by
 have hle:∀{a b:Nat},a<=b->Nat.ble a b=true:=λh=>by rw[nu];exact h
 have e0:Nat.add 0 (k+1)=k+1:=dD _;refine iH hn hg (h':=h.new (.cells xs)) ?_ (next _ (JS _ _) (JU _ _) rfl);have x8:sI size (k+1) (ev l x) h=some xs:=hxs;simp only[ak.run,hx,x8,hs,nZ,e0];rw[hle (show Nat.mul (k+1) bytes<=small from hm.1),hle (show Nat.mul (k+1) size<=small from hm.2.1),hle (show k+1<=small from hm.2.2)];have e1:j3 size 0 (.slice none 0 0) h=some []:=by
  show(match (0:Nat)with|0=>some ([]:List Value)|_=>none)=_;rfl
 have e2:Nat.ble (k+1) 0=false:=rfl;simp only[Ik,cond_true,e2,cond_false,e1,gV,gL]
theorem At.sH{b o m:Nat}{cs r:List Value}(a:At h b (.cells cs))(hr:iC (iZ cs o) m=some r):h.sH b o m=some r:=by
 simp only[IH.sH,a.2,hr]
theorem At.dK{b o m:Nat}{cs r:List Value}(a:At h b (.cells cs))(hr:iC (iZ cs o) m=some r):h.dK b o m=some r:=by
 rw[a.c.dK,hr]
def CJ(ds:List Tmp)(n:Nat)(l:List (Nat×Value)):List (Nat×Value):=
 match ds with
 |[]=>l
 |d::ds=>CJ ds n (cond (Nat.blt d n) ((d,bU)::l) l)
theorem J2:∀(ds:List Tmp) (l:List (Nat×Value)),forget ds (act n l D pm ro)=act n (CJ ds n l) D pm ro
 |[],l=>rfl
 |d::ds,l=>by
  show forget ds ((act n l D pm ro).set d bU)=_;simp only[CJ];cases hb:Nat.blt d n with
  |true=>
   rw[show(act n l D pm ro).set d bU=act n ((d,bU)::l) D pm ro from l6 hb];exact J2 ds _
  |false=>
   rw[show(act n l D pm ro).set d bU=act n l D pm ro by simp only[aR.set,act,hb,cond]];exact J2 ds _
theorem ZH{x:Operand}{t:TypeId}{v:Value}{dst:Option Tmp}{re:List fC}(hg:bH l g=true)(hx:ev l x=.iface t v)
 (hk:K (.panic [{v:=.iface t v,recovered:=false}]) (act n (CJ ds n l) D pm ro) h):aB P ds (⟨⟨dst,g,.panic x⟩,re⟩::rest) (act n l D pm ro) h K:=
 .panic (qF hg) x rfl t v (by rw[jT];exact hx) (by rw[J2];exact hk)
theorem ZI{f:Operand}{args:List Operand}{fn:Fn}{first captured:List Value}(hg:bH l g=true)(hro:ro=none)(hf:ev l f=.func fn ⟨first⟩ ⟨captured⟩)
 (next:aB P ds rest (act n l ({target:=.fn fn ⟨captured⟩,args:=⟨first++args.map (ev l)⟩}::D) pm ro) h K):aB P ds (⟨⟨none,g,.dcall f args⟩,[]⟩::rest) (act n l D pm ro) h K:=by
 refine .defer (qF hg) f args rfl rfl hro fn first captured (by rw[jT];exact hf) ?_
 rw[jT];rw[<- gV,<- q9]at next
 exact next
theorem ZJ{m:FrameMode}(hn:Nat.blt d n=true)(hg:bH l g=true)(hro:ro=none)
 (next:aB P ds rest (act n ((d,(iE m).1)::l) D (some (iE m).2) ro) h K):aB P ds (⟨⟨some d,g,.recover⟩,[]⟩::rest) (act n l D (some m) ro) h K:=by
 refine .recoverD (qF hg) rfl rfl m rfl hro ?_;have:({act n l D (some m) ro with pm:=some (iE m).2}:aR)=act n l D (some (iE m).2) ro:=rfl;rw[this,l6 hn];exact next
theorem ZK{f:FuncId}{args cap:List Value}{pm:Option FrameMode}{h:IH}{K:KR}(cf:eX)(fn:Func)(hf:P.funcs[f]? =some fn)(hcf:qX P fn=some cf)
 (hb:EV P cf.body (xJ cf.ntmps (args++cap) pm) h (λo a h'=>match sM o with
   |none=>False
   |some m=>LEAVE P cf a.tmps a.defers m h' λr h''=>K r a.pm h'')):CALL P ⟨.func f,args,cap,pm⟩ h K:=by
 refine .enter f (args++cap) (by simp only[target,gV]) fn hf cf hcf _ hb ?_ ?_
 ·intro o a h hm e;rw[e]at hm;exact hm
 ·intro o a h' m hm he;rw[he]at hm;exact hm
end
end Go.Ideal
namespace Go.Ideal
open Go.RowKit
variable {P:Program}
noncomputable def zX:Nat->List (Option (List Value))->T bB
 |_,[]=>.leaf
 |i,c::l=>(zX (i+1) l).set i (c.map .fP)
theorem PU:∀(l:List (Option (List Value))) (i j:Nat),(zX i l).get j=if i<=j then(l[j - i]?).bind (λc=>c.map .fP)else none
 |[],i,j=>by simp[zX,T.BL]
 |c::l,i,j=>by
  simp only[zX,T.jC];by_cases e:j=i
  ·subst e;simp
  ·rw[if_neg e,PU l (i+1) j];by_cases h:i<=j
   ·rw[if_pos (by omega),if_pos h];obtain⟨k,hk⟩:∃k,j - i=k+1:=⟨j - i - 1,by omega⟩
    rw[hk,oW,show j - (i+1)=k by omega]
   ·rw[if_neg (by omega),if_neg h]
abbrev Lay:=List (Option fE×Option (List Value))
noncomputable def iV(L:Lay):IH:=⟨zX 0 (L.map (·.2)),L.length,L.length⟩
def iI(L:Lay):az:=λi=>(L[i]?).bind (·.1)
theorem Fu(L:Lay)(i:Nat):(iV L).get i=(L[i]?).bind λp=>p.2.map .fP:=by
 show(zX 0 (L.map (·.2))).get i=_;rw[PU,if_pos (bF _),pE,bX];cases L[i]?<;>rfl
theorem ZL{L:Lay}{i:Nat}{g:Option fE}{cs:List Value}(h:L[i]? =some (g,some cs)):Cells (iV L) i cs:=
 ⟨(dX.1 h).1,.inr (by rw[Fu,h];rfl)⟩
structure zY(L:Lay)(w:World)(g:fE)(cs:List Value):Prop where
 block:∃c t fz,w.heap[g.b]? =some (.cells c t fz)/\(g.top=0\/c.size=g.top)
 sz:g.sz=0
 all:cs.all cellV=true
 cell:∀(j:Nat) v,cs[j]? =some v->∃v',w.cell? ⟨g.b,g.off+j,none⟩=some v'/\VR (iI L) v v'
theorem ZM{L:Lay}{w:World}(hL:∀(i:Nat) g cs,L[i]? =some (some g,some cs)->zY L w g cs):WR P (iI L) (iV L) w:=by
 have hb:∀i g,iI L i=some g->∃cs,L[i]? =some (some g,cs):=λi g h=>by
  unfold iI at h;cases e:L[i]? with
  |none=>rw[e]at h;cases h
  |some p=>
   rw[e]at h;obtain⟨a,cs⟩:=p;have h:a=some g:=h;subst h;exact⟨cs,rfl⟩
 have hlive:∀i o,(iV L).get i=some o->∃g cs,L[i]? =some (g,some cs)/\o=.fP cs:=λi o h=>by
  rw[Fu]at h;cases e:L[i]? with
  |none=>rw[e]at h;cases h
  |some p=>
   obtain⟨g,c⟩:=p;rw[e]at h;cases c with
   |none=>cases h
   |some cs=>cases h;exact⟨g,cs,rfl,rfl⟩
 refine⟨?_,?_,?_,?_⟩
 ·intro i g h;obtain⟨cs,e⟩:=hb i g h;exact(dX.1 e).1
 ·intro i o h;obtain⟨g,cs,e,_⟩:=hlive i o h;exact(dX.1 e).1
 ·intro i g o h ho;obtain⟨c,e⟩:=hb i g h;obtain⟨g',cs,e',rfl⟩:=hlive i o ho;rw[e]at e';cases e';have k:=hL i g cs e;exact⟨k.block,k.sz,k.all,k.cell⟩
 ·intro i j g k hi hj hgi hgj hr he
  exfalso
  rcases hr with q|q
  ·cases e:(iV L).get i with
   |none=>exact hgi e
   |some o=>
    obtain⟨_,cs,_,rfl⟩:=hlive i o e;exact q cs e
  ·cases e:(iV L).get j with
   |none=>exact hgj e
   |some o=>
    obtain⟨_,cs,_,rfl⟩:=hlive j o e;exact q cs e
open Go.WideShapes Go.ChangeShapes
section
variable {H:Type} {enc:TypeId×Value->H}
theorem ZN{w w':World}(hb:Below w.heap.size w w'){a:Addr}(ha:a.block<w.heap.size):w'.cell? a=w.cell? a:=by
 simp only[World.cell?,hb.block _ ha]
theorem ZO{w w':World}(hb:Below w.heap.size w w'){p:MemPlace}(hp:p.block<w.heap.size):w.sameAt w' p:=by
 cases p with
 |cell b off=>exact ZN hb hp
 |map b=>exact hb.block b hp
theorem x9{T:TypeId->Prop}(K:Kids P T)(hsz:∀{t e:TypeId},T t->P.underlying t=some (.slice e)->0<P.cellsOf e){w w':World}(hb:Below w.heap.size w w'){sp:Nat->Bool}:∀{ts:List TypeId} {vs:List Value} {ds:List (DataW H)} {ps:List MemPlace},
 (∀t∈ts,T t)->DataW.TrodAll enc P w 0 (λ_=>true) true ts vs ds ps->(∀p∈ps,sp p.block=true)->DataW.TrodAll enc P w' 0 sp true ts vs ds ps
 |[],[],[],_,_,h,_=>h
 |t::_,v::_,d::_,_,hT,⟨p,q,⟨n,h1⟩,h2,e⟩,hs=>by
  refine⟨p,q,⟨n,?_⟩,x9 K hsz hb (λt ht=>hT t (aU.2 (.inr ht))) h2 (λx hx=>hs x (by rw[e];exact nW _ hx)),e⟩;exact DataW.trod_stays K hsz (λh=>by cases h) (hT t (aU.2 (.inl rfl))) h1 (λx hx=>ZO hb (DataW.trod_lt n _ _ _ h1 x hx)) (λx hx=>hs x (by rw[e];exact mK _ hx))
theorem ZP{w w':World}(hb:Below w.heap.size w w')(may:MemPlace->Prop):w.keptBut w' may:=by
 refine⟨hb.os,hb.output,λi hi=>?_⟩;rw[hb.block i hi];cases h:w.heap[i]? with
 |none=>rfl
 |some o=>cases o<;>simp
theorem zZ{f:Func}{s:ChangeSpec}{apart fresh handsOn again:Bool}{W W':World}{args:Array Value}{v:Value}{ds gs:List (DataW H)}{before pa pv:List MemPlace}
 (hW:DataW.Whole enc P f.params.toList s.vars apart W args.toList ds gs before)
 (hres:∀(b:Nat) (sp:Nat->Bool) (hd:Bool),DataW.TrodAll enc P W' b sp hd f.resultTypes.toList (v.resultList f.resultTypes.size) (s.fn H (ds++gs)).results [])
 (hargs:∀sp:Nat->Bool,(∀p∈before,sp p.block=true)->DataW.TrodAll enc P W' 0 sp true f.params.toList args.toList (s.fn H (ds++gs)).args pa)
 (hvars:∀sp:Nat->Bool,(∀p∈before,sp p.block=true)->DataW.TrodVars enc P W' sp s.vars (s.fn H (ds++gs)).vars pv)
 (hps:before=pa++pv) (hb:Below W.heap.size W W')
 (hok:∀(j:Nat) (t:TypeId) (r:Value),f.resultTypes[j]? =some t->(v.resultList f.resultTypes.size)[j]? =some r->Value.okWide P W' .any 0 t r):
 s.post enc P f apart fresh handsOn again W args v W':=by
 have hlt:=hW.lt;have hold:∀p∈before,(λb=>decide (b<W.heap.size)) p.block=true:=λp hp=>eH (hlt p hp);refine⟨ds,gs,before,[],pa,pv,hW,hres _ _ _,hargs _ hold,hvars _ hold,ZP hb _,λ_=>?_⟩;obtain⟨_,_,_,_,_,hz,hn⟩:=hW;refine⟨hok,_,_,([]++pa)++pv,⟨[]++pa,pv,trodAll_append (hargs _ (λ_ _=>rfl)) (hres _ _ _),hvars _ (λ_ _=>rfl),rfl,?_,?_⟩,?_⟩
 ·intro b off hp;have hm:MemPlace.cell b off∈before:=by rw[hps];simpa using hp
  have h1:b<W.heap.size:=hlt _ hm;have:=hz b off hm;simp only[World.frozen?,hb.block b h1]at this⊢;exact this
 ·intro ha;have:=hn ha;rw[hps]at this;simpa using this
 ·intro p hp _;rw[hps];simpa using hp
end
end Go.Ideal
namespace Go.Ideal
open Go.ChangeShapes Go.WideShapes Go.ChangeAt Go.RowKit
section
variable {H:Type} {enc:TypeId×Value->H} {P:Program} {W:World} {t e:TypeId}
end
