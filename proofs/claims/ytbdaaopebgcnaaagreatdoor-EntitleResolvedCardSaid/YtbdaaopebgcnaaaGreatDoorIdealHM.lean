/-
  The ideal machine, 40: single steps, as laws.
-/
import Derived.Test.YtbdaaopebgcnaaaGreatDoorIdealGM
import Derived.ChangeStays
import Derived.ChangeSame
import Derived.ChangeSlices
import Derived.ProofKit
set_option linter.all false
namespace Go.Ideal
variable {P:Program}
def At(h:IH)(b:Nat)(o:bQ):Prop:=b<h.next/\h.get b=some o
structure Agree(h h':IH):Prop where
 next:h.next<=h'.next
 get:∀i,i<h.next->h'.get i=h.get i
 low:h.low<=h.next->h'.low=h.low
theorem Agree.refl(h:IH):Agree h h:=⟨aC _,λ_ _=>rfl,λ_=>rfl⟩
theorem Agree.trans{h h1 h2:IH}(a:Agree h h1)(b:Agree h1 h2):Agree h h2:=
 ⟨cO a.next b.next,λi hi=>(b.get i (jy hi a.next)).trans (a.get i hi),λhl=>(b.low (by rw[a.low hl];exact cO hl a.next)).trans (a.low hl)⟩
theorem At.agree{h h':IH}{b:Nat}{o:bQ}(a:At h b o)(g:Agree h h'):At h' b o:=⟨jy a.1 g.next,(g.get b a.1).trans a.2⟩
theorem IG(h:IH)(o:bQ):Agree h (h.new o):=⟨uB _,λi hi=>by rw[IH.gu,if_neg (by omega)],λ_=>rfl⟩
theorem II(h:IH)(o:bQ):At (h.new o) h.next o:=⟨sJ _,by rw[IH.gu,if_pos rfl]⟩
structure afZ(h h':IH)(b:Nat)(o:bQ):Prop where
 next:h'.next=h.next
 get:∀i,i≠b->h'.get i=h.get i
 at_:At h' b o
 low:h.low<=b->h'.low=h.low
def Cells(h:IH)(b:Nat)(cs:List Value):Prop:=b<h.next/\(h.get b=some (.cells cs)\/h.get b=some (.fM cs))
theorem At.c{h:IH}{b:Nat}{cs:List Value}(a:At h b (.cells cs)):Cells h b cs:=⟨a.1,.inl a.2⟩
theorem Cells.agree{h h':IH}{b:Nat}{cs:List Value}(a:Cells h b cs)(g:Agree h h'):Cells h' b cs:=⟨jy a.1 g.next,by rw[g.get b a.1];exact a.2⟩
theorem Cells.lm{h:IH}{b:Nat}{cs:List Value}(a:Cells h b cs)(o:Nat):h.lm b o=cs[o]?:=by
 rcases a.2 with e|e<;>simp only[IH.lm,e,mH]
theorem Cells.dL{h:IH}{b:Nat}{cs:List Value}(a:Cells h b cs)(o m:Nat):h.dL b o m=gU (iE cs o) m:=by
 rcases a.2 with e|e<;>simp only[IH.dL,e]
def Bh(h:IH)(v:Value)(xs:List Int):Prop:=
 (xs=[]/\∃a m c,v=.slice a m c/\m=0)\/
 ∃i o f c cs,v=.slice (some ⟨i,o,some f⟩) xs.length c/\Cells h i cs/\∀(k:Nat) x,xs[k]? =some x->cs[o+k]? =some (.int .i64 x)
theorem Bh.agree{h h':IH}{v:Value}{xs:List Int}(a:Bh h v xs)(g:Agree h h'):Bh h' v xs:=by
 rcases a with h1|⟨i,o,f,c,cs,h1,h2,h3⟩
 ·exact .inl h1
 ·exact .inr ⟨i,o,f,c,cs,h1,h2.agree g,h3⟩
def aZ(l:List (Nat×Value))(g:Option (Tmp×Bool)):Bool:=
 match g with
 |none=>true
 |some (t,w)=>match lk l t with
  | .bool b=>cond w b (!b)
  |_=>false
def wT(l:List (Nat×Value))(g:Option (Tmp×Bool)):Bool:=
 match g with
 |none=>false
 |some (t,w)=>match lk l t with
  | .bool b=>cond w (!b) b
  | .chan _=>true
  |_=>false
theorem Dx(n:Nat):goInt n=.int .i64 (n:Int):=rfl
section
variable {ds:List Tmp} {rest:List aP} {n:Nat} {l:List (Nat×Value)} {D:List Deferred} {pm:Option FrameMode} {ro:Option Nat} {h:IH} {K:KO} {d:Nat} {g:Option (Tmp×Bool)}
theorem pJ(hg:aZ l g=true):(act n l D pm ro).wants g=some true:=by
 cases g with
 |none=>rfl
 |some p=>
  obtain⟨t,w⟩:=p;rw[Be];simp only[aZ]at hg;split at hg
  ·rename_i b hb;rw[hb];simp only[hg]
  ·cases hg
theorem Xl(hn:Nat.blt d n=true)(hg:wT l g=true){op:ai}{re:List fq}(next:ax P ds rest (act n ((d,ql)::l) D pm ro) h K):ax P ds (⟨⟨some d,g,op⟩,re⟩::rest) (act n l D pm ro) h K:=by
 refine .skip ?_ (by rw[lH hn];exact next);show(act n l D pm ro).wants g=some false;cases g with
 |none=>cases hg
 |some p=>
  obtain⟨t,w⟩:=p;rw[Be];simp only[wT]at hg;split at hg
  ·rename_i b hb;rw[hb];cases w<;>cases b<;>simp_all
  ·rename_i b hb;rw[hb]
  ·cases hg
theorem iD{op:ai}{v:Value}{h':IH}(hn:Nat.blt d n=true)(hg:aZ l g=true)(hr:op.run P (ev l) h=some (v,h'))
 (next:ax P ds rest (act n ((d,v)::l) D pm ro) h' K):ax P ds (⟨⟨some d,g,op⟩,[]⟩::rest) (act n l D pm ro) h K:=
 .iK (pJ hg) v h' (by rw[jH];exact hr) (by intro r hr;cases hr) (by rw[lH hn];exact next)
theorem IJ{op:ai}{v:Value}{h':IH}(hg:aZ l g=true)(hr:op.run P (ev l) h=some (v,h'))
 (next:ax P ds rest (act n l D pm ro) h' K):ax P ds (⟨⟨none,g,op⟩,[]⟩::rest) (act n l D pm ro) h K:=
 .iK (pJ hg) v h' (by rw[jH];exact hr) (by intro r hr;cases hr) next
theorem NB{x:Operand}{a:Option Addr}{m c:Nat}(hn:Nat.blt d n=true)(hg:aZ l g=true)(hx:ev l x=.slice a m c)
 (next:ax P ds rest (act n ((d,.int .i64 (m:Int))::l) D pm ro) h K):ax P ds (⟨⟨some d,g,.iN x⟩,[]⟩::rest) (act n l D pm ro) h K:=
 iD hn hg (by simp only[ai.run,hx,Dx]) next
theorem uY(op:BinOp)(t:TypeId)(x y:Operand)(a b:Int)(v:Value)(hv:mF op .i64 a b=some v):mG P op t x y (.int .i64 a) (.int .i64 b)=some v:=by
 simp only[mG,oV,cond,hv]
theorem NC{m:Int}(h1: -9223372036854775808<=m)(h2:m<9223372036854775808):Ac .i64 m=m:=by
 rw[GU];exact IntWalk.i64_in m ⟨h1,by omega⟩
theorem Dy{a b:Nat}(h:a<b):Nat.blt a b=true:=by simp only[oN];exact h
theorem Xm{x i:Operand}{size b o m c:Nat}{f:Option Nat}{k:Int}{kk:IntKind}(hn:Nat.blt d n=true)(hg:aZ l g=true)(hx:ev l x=.slice (some ⟨b,o,f⟩) m c)(hi:ev l i=.int kk k)
 (h0:0<=k) (h1:k<m) (next:ax P ds rest (act n ((d,.pointer (some ⟨b,o+k.toNat*size,none⟩))::l) D pm ro) h K):ax P ds (⟨⟨some d,g,.fE size x i⟩,[]⟩::rest) (act n l D pm ro) h K:=by
 obtain⟨j,rfl⟩:=wB h0;refine iD hn hg ?_ next
 simp only[ai.run,hx,hi];show cond (Nat.blt j m) _ _=_;rw[Dy (by omega)];rfl
theorem ND{x:Operand}{b o:Nat}{cs:List Value}{v:Value}(hn:Nat.blt d n=true)(hg:aZ l g=true)(hx:ev l x=.pointer (some ⟨b,o,none⟩))(ha:At h b (.cells cs))(hv:cs[o]? =some v)
 (next:ax P ds rest (act n ((d,v)::l) D pm ro) h K):ax P ds (⟨⟨some d,g,.aH x⟩,[]⟩::rest) (act n l D pm ro) h K:=
 iD hn hg (by simp only[ai.run,hx,ha.c.lm,hv]) next
theorem Xn{x:Operand}{b o m:Nat}{cs r:List Value}(hn:Nat.blt d n=true)(hg:aZ l g=true)(hx:ev l x=.pointer (some ⟨b,o,none⟩))(ha:At h b (.cells cs))(hv:gU (iE cs o) m=some r)
 (next:ax P ds rest (act n ((d,.agg ⟨r⟩)::l) D pm ro) h K):ax P ds (⟨⟨some d,g,.lS m x⟩,[]⟩::rest) (act n l D pm ro) h K:=
 iD hn hg (by simp only[ai.run,hx,ha.c.dL,hv]) next
theorem NE:∀(cs:List Value) (o:Nat) (v:Value),o<cs.length->fV cs o [v]=some (cs.set o v)
 |[],o,v,h=>by simp at h
 |c::cs,0,v,_=>by rw[GG];cases cs<;>rfl
 |c::cs,o+1,v,h=>by rw[GH,NE cs o v (by simpa using h)];rfl
theorem s_call{f:Operand}{args:List Operand}{re:List fq}(hn:Nat.blt d n=true)(hg:aZ l g=true)(fn:Fn){first captured:List Value}(hf:ev l f=.func fn ⟨first⟩ ⟨captured⟩)(M:KR)
 (hc:CALL P ⟨fn,first++args.map (ev l),captured,none⟩ h M)
 (hs:∀v h',M (.ok v) none h'->∀r∈re,∃u h2,r.op.run P (ev ((d,v)::l)) h'=some (u,h2)/\∀d',r.dst=some d'->lk ((d,v)::l) d'=u)
 (hok:∀v h',M (.ok v) none h'->ax P ds rest (act n ((d,v)::l) D pm ro) h' K)
 (gN:∀ch h',M (.fP ch) none h'->K (.panic ch) (forget ds (act n l D pm ro)) h') (hno:∀r p h',M r p h'->p=none):ax P ds (⟨⟨some d,g,.call f args⟩,re⟩::rest) (act n l D pm ro) h K:=by
 refine .call (pJ hg) ⟨fn,first++args.map (ev l),captured,none⟩ (by simp only[sS,jH,hf,gK,qp]) M hc ?_ ?_ ?_
 ·intro v p h' hm r hr _;have:=hno _ _ _ hm;subst this;obtain⟨u,h2,e1,e2⟩:=hs v h' hm r hr;rw[lH hn];exact⟨u,h2,by rw[jH];exact e1,λd' hd=>by rw[<- e2 d' hd];exact qI _ _⟩
 ·intro v p h' hm;have:=hno _ _ _ hm;subst this;rw[lH hn];exact hok v h' hm
 ·intro ch p h' hm;have:=hno _ _ _ hm;subst this;exact gN ch h' hm
section
variable {a:aI} {x y:bG} {i j m0:Nat} {I:Nat->aI->IH->Prop} {ch:List PanicEntry}
theorem Xo(e:Nat.beq j i=true)(k:K .normal a h):tJ i K (.exit j) a h:=by
 have:j=i:=jl e;subst this;show K (inBlock j (.exit j)) a h;simp only[inBlock];rw[e];exact k
theorem Xp(e:Nat.beq j i=false)(k:K (.exit j) a h):tJ i K (.exit j) a h:=by
 show K (inBlock i (.exit j)) a h;simp only[inBlock];rw[e];exact k
end
theorem Xq{l0:List (Nat×Value)}{I:Nat->aI->IH->Prop}{m0:Nat}(m':Nat)(hlt:m'<m0)(hs:sub l0 l)(k:I m' (act n l0 D pm ro) h):tK I m0 K .normal (act n l D pm ro) h:=
 ⟨m',_,hlt,Nw hs,k⟩
end
end Go.Ideal
namespace Go.Ideal
variable {P:Program}
section
variable {ds:List Tmp} {rest:List aP} {n:Nat} {l:List (Nat×Value)} {D:List Deferred} {pm:Option FrameMode} {ro:Option Nat} {h:IH} {K:KO} {d:Nat} {g:Option (Tmp×Bool)}
structure uZ(h h':IH)(b:Nat)(o:bQ):Prop where
 next:h'.next=h.next+1
 get:∀i,i<h.next->i≠b->h'.get i=h.get i
 at_:At h' h.next o
 low:h.low<=b->h'.low=h.low
theorem Bi{e:TypeId}{size bytes b o m k:Nat}{f:Option Nat}{s x:Operand}{old xs:List Value}(hn:Nat.blt d n=true)(hg:aZ l g=true)
 (hs:ev l s=.slice (some ⟨b,o,f⟩) m m) (hx:jY (ev l x)=some (k+1)) (hxs:jC size (k+1) (ev l x) h=some xs) (hold:h.dL b o (m*size)=some old)
 (hf:f=some 0\/f=some size) (hm:(m+(k+1))*bytes<=1073741824/\(m+(k+1))*size<=1073741824/\m+(k+1)<=1073741824)
 (next:∀h',uZ h h' b (.cells (old++xs))->ax P ds rest (act n ((d,.slice (some ⟨h.next,0,some size⟩) (m+(k+1)) (m+(k+1)))::l) D pm ro) h' K):
 ax P ds (⟨⟨some d,g,.append e size bytes s x⟩,[]⟩::rest) (act n l D pm ro) h K:=by
 have hle:∀{a b:Nat},a<=b->Nat.ble a b=true:=λh=>by rw[mq];exact h
 have hlt:Nat.ble (m+(k+1)) m=false:=by
  cases hb:Nat.ble (m+(k+1)) m with
  |false=>rfl
  |true=>have:=jW hb;omega
 have hc:(Nat.ble (Nat.mul (m+(k+1)) bytes) small&&Nat.ble (Nat.mul (m+(k+1)) size) small&&Nat.ble (m+(k+1)) small)=true:=by
  rw[hle (show Nat.mul (m+(k+1)) bytes<=small from hm.1),hle (show Nat.mul (m+(k+1)) size<=small from hm.2.1),hle (show m+(k+1)<=small from hm.2.2)];rfl
 have hrun:∃h',(ai.append e size bytes s x).run P (ev l) h=some (.slice (some ⟨h.next,0,some size⟩) (m+(k+1)) (m+(k+1)),h')/\uZ h h' b (.cells (old++xs)):=by
  have wU:rP size (k+1) (ev l x) h=some xs:=hxs;simp only[ai.run,hx,wU,hs,mE];have e1:jC size m (.slice (some ⟨b,o,f⟩) m m) h=some old:=hold;show∃h',(cond (Nat.ble (Nat.mul (m+(k+1)) bytes) small&&Nat.ble (Nat.mul (m+(k+1)) size) small&&Nat.ble (m+(k+1)) small) _ _)=_/\_;rw[hc];show∃h',(cond (Nat.ble (m+(k+1)) m) _ _)=_/\_;rw[hlt];simp only[cond,e1];rcases hf with rfl|rfl
  ·refine⟨_,rfl,?_⟩;exact⟨rfl,λi hi _=>by rw[IH.gu,if_neg (by omega)],⟨sJ _,by rw[IH.gu,if_pos rfl,gK]⟩,λ_=>rfl⟩
  ·cases size with
   |zero=>
    refine⟨_,rfl,?_⟩;exact⟨rfl,λi hi _=>by rw[IH.gu,if_neg (by omega)],⟨sJ _,by rw[IH.gu,if_pos rfl,gK]⟩,λ_=>rfl⟩
   |succ j=>
    have hj:Nat.beq (Nat.succ j) (j+1)=true:=uD _;refine⟨(h.kill b).new (.cells (old++xs)),?_,?_⟩
    ·show cond (Nat.beq (Nat.succ j) (j+1)) _ _=_;rw[hj,gK];rfl
    ·exact⟨rfl,λi hi hb=>by rw[IH.gu,if_neg (by show i≠h.next;omega),IH.o8,if_neg hb],⟨sJ _,by rw[IH.gu];exact if_pos rfl⟩,λhl=>by rw[IH.GD,IH.wM];omega⟩
 obtain⟨h',hr,hM⟩:=hrun;exact iD hn hg hr (next h' hM)
theorem NF{e:TypeId}{size bytes k c:Nat}{s x:Operand}{xs:List Value}(hn:Nat.blt d n=true)(hg:aZ l g=true)
 (hs:ev l s=.slice none 0 0) (hx:jY (ev l x)=some (k+1)) (hxs:jC size (k+1) (ev l x) h=some xs)
 (hm:(k+1)*bytes<=1073741824/\(k+1)*size<=1073741824/\(k+1)<=1073741824)
 (next:∀h',Agree h h'->At h' h.next (.cells xs)->h'.next=h.next+1->ax P ds rest (act n ((d,.slice (some ⟨h.next,0,some size⟩) (k+1) (k+1))::l) D pm ro) h' K):
 ax P ds (⟨⟨some d,g,.append e size bytes s x⟩,[]⟩::rest) (act n l D pm ro) h K:=by
 have hle:∀{a b:Nat},a<=b->Nat.ble a b=true:=λh=>by rw[mq];exact h
 have e0:Nat.add 0 (k+1)=k+1:=dB _;refine iD hn hg (h':=h.new (.cells xs)) ?_ (next _ (IG _ _) (II _ _) rfl);have wU:rP size (k+1) (ev l x) h=some xs:=hxs;simp only[ai.run,hx,wU,hs,mE,e0];rw[hle (show Nat.mul (k+1) bytes<=small from hm.1),hle (show Nat.mul (k+1) size<=small from hm.2.1),hle (show k+1<=small from hm.2.2)];have e1:jC size 0 (.slice none 0 0) h=some []:=by
  show(match (0:Nat)with|0=>some ([]:List Value)|_=>none)=_;rfl
 have e2:Nat.ble (k+1) 0=false:=rfl;simp only[zS,cond_true,e2,cond_false,e1,gK,dw]
theorem At.rM{b o m:Nat}{cs r:List Value}(a:At h b (.cells cs))(hr:gU (iE cs o) m=some r):h.rM b o m=some r:=by
 simp only[IH.rM,a.2,hr]
theorem At.dL{b o m:Nat}{cs r:List Value}(a:At h b (.cells cs))(hr:gU (iE cs o) m=some r):h.dL b o m=some r:=by
 rw[a.c.dL,hr]
def Bj(ds:List Tmp)(n:Nat)(l:List (Nat×Value)):List (Nat×Value):=
 match ds with
 |[]=>l
 |d::ds=>Bj ds n (cond (Nat.blt d n) ((d,bN)::l) l)
theorem IK:∀(ds:List Tmp) (l:List (Nat×Value)),forget ds (act n l D pm ro)=act n (Bj ds n l) D pm ro
 |[],l=>rfl
 |d::ds,l=>by
  show forget ds ((act n l D pm ro).set d bN)=_;simp only[Bj];cases hb:Nat.blt d n with
  |true=>
   rw[show(act n l D pm ro).set d bN=act n ((d,bN)::l) D pm ro from lH hb];exact IK ds _
  |false=>
   rw[show(act n l D pm ro).set d bN=act n l D pm ro by simp only[aI.set,act,hb,cond]];exact IK ds _
theorem Xr{x:Operand}{t:TypeId}{v:Value}{dst:Option Tmp}{re:List fq}(hg:aZ l g=true)(hx:ev l x=.iface t v)
 (hk:K (.panic [{v:=.iface t v,recovered:=false}]) (act n (Bj ds n l) D pm ro) h):ax P ds (⟨⟨dst,g,.panic x⟩,re⟩::rest) (act n l D pm ro) h K:=
 .panic (pJ hg) x rfl t v (by rw[jH];exact hx) (by rw[IK];exact hk)
theorem Xt{f:Operand}{args:List Operand}{fn:Fn}{first captured:List Value}(hg:aZ l g=true)(hro:ro=none)(hf:ev l f=.func fn ⟨first⟩ ⟨captured⟩)
 (next:ax P ds rest (act n l ({target:=.fn fn ⟨captured⟩,args:=⟨first++args.map (ev l)⟩}::D) pm ro) h K):ax P ds (⟨⟨none,g,.dcall f args⟩,[]⟩::rest) (act n l D pm ro) h K:=by
 refine .defer (pJ hg) f args rfl rfl hro fn first captured (by rw[jH];exact hf) ?_
 rw[jH];rw[<- gK,<- qp]at next
 exact next
theorem Xu{m:FrameMode}(hn:Nat.blt d n=true)(hg:aZ l g=true)(hro:ro=none)
 (next:ax P ds rest (act n ((d,(gZ m).1)::l) D (some (gZ m).2) ro) h K):ax P ds (⟨⟨some d,g,.recover⟩,[]⟩::rest) (act n l D (some m) ro) h K:=by
 refine .recoverD (pJ hg) rfl rfl m rfl hro ?_;have:({act n l D (some m) ro with pm:=some (gZ m).2}:aI)=act n l D (some (gZ m).2) ro:=rfl;rw[this,lH hn];exact next
theorem NG{f:FuncId}{args cap:List Value}{pm:Option FrameMode}{h:IH}{K:KR}(cf:dW)(fn:Func)(hf:P.funcs[f]? =some fn)(hcf:qm P fn=some cf)
 (hb:EV P cf.body (wI cf.ntmps (args++cap) pm) h (λo a h'=>match rR o with
   |none=>False
   |some m=>LEAVE P cf a.tmps a.defers m h' λr h''=>K r a.pm h'')):CALL P ⟨.func f,args,cap,pm⟩ h K:=by
 refine .enter f (args++cap) (by simp only[target,gK]) fn hf cf hcf _ hb ?_ ?_
 ·intro o a h hm e;rw[e]at hm;exact hm
 ·intro o a h' m hm he;rw[he]at hm;exact hm
end
end Go.Ideal
namespace Go.Ideal
open Go.RowKit
variable {P:Program}
noncomputable def yP:Nat->List (Option (List Value))->T bQ
 |_,[]=>.leaf
 |i,c::l=>(yP (i+1) l).set i (c.map .fM)
theorem NH:∀(l:List (Option (List Value))) (i j:Nat),(yP i l).get j=if i<=j then(l[j - i]?).bind (λc=>c.map .fM)else none
 |[],i,j=>by simp[yP,T.Al]
 |c::l,i,j=>by
  simp only[yP,T.jM];by_cases e:j=i
  ·subst e;simp
  ·rw[if_neg e,NH l (i+1) j];by_cases h:i<=j
   ·rw[if_pos (by omega),if_pos h];obtain⟨k,hk⟩:∃k,j - i=k+1:=⟨j - i - 1,by omega⟩
    rw[hk,nW,show j - (i+1)=k by omega]
   ·rw[if_neg (by omega),if_neg h]
abbrev Lay:=List (Option fD×Option (List Value))
noncomputable def iH(L:Lay):IH:=⟨yP 0 (L.map (·.2)),L.length,L.length⟩
def ig(L:Lay):ak:=λi=>(L[i]?).bind (·.1)
theorem Dz(L:Lay)(i:Nat):(iH L).get i=(L[i]?).bind λp=>p.2.map .fM:=by
 show(yP 0 (L.map (·.2))).get i=_;rw[NH,if_pos (dY _),qg,cK];cases L[i]?<;>rfl
theorem Xv{L:Lay}{i:Nat}{g:Option fD}{cs:List Value}(h:L[i]? =some (g,some cs)):Cells (iH L) i cs:=
 ⟨(dU.1 h).1,.inr (by rw[Dz,h];rfl)⟩
structure yQ(L:Lay)(w:World)(g:fD)(cs:List Value):Prop where
 block:∃c t fz,w.heap[g.b]? =some (.cells c t fz)/\(g.top=0\/c.size=g.top)
 sz:g.sz=0
 all:cs.all cellV=true
 cell:∀(j:Nat) v,cs[j]? =some v->∃v',w.cell? ⟨g.b,g.off+j,none⟩=some v'/\VR (ig L) v v'
theorem Xw{L:Lay}{w:World}(hL:∀(i:Nat) g cs,L[i]? =some (some g,some cs)->yQ L w g cs):WR P (ig L) (iH L) w:=by
 have hb:∀i g,ig L i=some g->∃cs,L[i]? =some (some g,cs):=λi g h=>by
  unfold ig at h;cases e:L[i]? with
  |none=>rw[e]at h;cases h
  |some p=>
   rw[e]at h;obtain⟨a,cs⟩:=p;have h:a=some g:=h;subst h;exact⟨cs,rfl⟩
 have hlive:∀i o,(iH L).get i=some o->∃g cs,L[i]? =some (g,some cs)/\o=.fM cs:=λi o h=>by
  rw[Dz]at h;cases e:L[i]? with
  |none=>rw[e]at h;cases h
  |some p=>
   obtain⟨g,c⟩:=p;rw[e]at h;cases c with
   |none=>cases h
   |some cs=>cases h;exact⟨g,cs,rfl,rfl⟩
 refine⟨?_,?_,?_,?_⟩
 ·intro i g h;obtain⟨cs,e⟩:=hb i g h;exact(dU.1 e).1
 ·intro i o h;obtain⟨g,cs,e,_⟩:=hlive i o h;exact(dU.1 e).1
 ·intro i g o h ho;obtain⟨c,e⟩:=hb i g h;obtain⟨g',cs,e',rfl⟩:=hlive i o ho;rw[e]at e';cases e';have k:=hL i g cs e;exact⟨k.block,k.sz,k.all,k.cell⟩
 ·intro i j g k hi hj hgi hgj hr he
  exfalso
  rcases hr with q|q
  ·cases e:(iH L).get i with
   |none=>exact hgi e
   |some o=>
    obtain⟨_,cs,_,rfl⟩:=hlive i o e;exact q cs e
  ·cases e:(iH L).get j with
   |none=>exact hgj e
   |some o=>
    obtain⟨_,cs,_,rfl⟩:=hlive j o e;exact q cs e
open Go.WideShapes Go.ChangeShapes
section
variable {H:Type} {enc:TypeId×Value->H}
theorem Xx{w w':World}(hb:Below w.heap.size w w'){a:Addr}(ha:a.block<w.heap.size):w'.cell? a=w.cell? a:=by
 simp only[World.cell?,hb.block _ ha]
theorem Xy{w w':World}(hb:Below w.heap.size w w'){p:MemPlace}(hp:p.block<w.heap.size):w.sameAt w' p:=by
 cases p with
 |cell b off=>exact Xx hb hp
 |map b=>exact hb.block b hp
theorem NI{T:TypeId->Prop}(K:Kids P T)(hsz:∀{t e:TypeId},T t->P.underlying t=some (.slice e)->0<P.cellsOf e){w w':World}(hb:Below w.heap.size w w'){sp:Nat->Bool}:∀{ts:List TypeId} {vs:List Value} {ds:List (DataW H)} {ps:List MemPlace},
 (∀t∈ts,T t)->DataW.TrodAll enc P w 0 (λ_=>true) true ts vs ds ps->(∀p∈ps,sp p.block=true)->DataW.TrodAll enc P w' 0 sp true ts vs ds ps
 |[],[],[],_,_,h,_=>h
 |t::_,v::_,d::_,_,hT,⟨p,q,⟨n,h1⟩,h2,e⟩,hs=>by
  refine⟨p,q,⟨n,?_⟩,NI K hsz hb (λt ht=>hT t (bZ.2 (.inr ht))) h2 (λx hx=>hs x (by rw[e];exact nC _ hx)),e⟩;exact DataW.trod_stays K hsz (λh=>by cases h) (hT t (bZ.2 (.inl rfl))) h1 (λx hx=>Xy hb (DataW.trod_lt n _ _ _ h1 x hx)) (λx hx=>hs x (by rw[e];exact mD _ hx))
theorem Xz{w w':World}(hb:Below w.heap.size w w')(may:MemPlace->Prop):w.keptBut w' may:=by
 refine⟨hb.os,hb.output,λi hi=>?_⟩;rw[hb.block i hi];cases h:w.heap[i]? with
 |none=>rfl
 |some o=>cases o<;>simp
theorem XA{f:Func}{s:ChangeSpec}{apart fresh handsOn again:Bool}{W W':World}{args:Array Value}{v:Value}{ds gs:List (DataW H)}{before pa pv:List MemPlace}
 (hW:DataW.Whole enc P f.params.toList s.vars apart W args.toList ds gs before)
 (hres:∀(b:Nat) (sp:Nat->Bool) (hd:Bool),DataW.TrodAll enc P W' b sp hd f.resultTypes.toList (v.resultList f.resultTypes.size) (s.fn H (ds++gs)).results [])
 (hargs:∀sp:Nat->Bool,(∀p∈before,sp p.block=true)->DataW.TrodAll enc P W' 0 sp true f.params.toList args.toList (s.fn H (ds++gs)).args pa)
 (hvars:∀sp:Nat->Bool,(∀p∈before,sp p.block=true)->DataW.TrodVars enc P W' sp s.vars (s.fn H (ds++gs)).vars pv)
 (hps:before=pa++pv) (hb:Below W.heap.size W W')
 (hok:∀(j:Nat) (t:TypeId) (r:Value),f.resultTypes[j]? =some t->(v.resultList f.resultTypes.size)[j]? =some r->Value.okWide P W' .any 0 t r):
 s.post enc P f apart fresh handsOn again W args v W':=by
 have hlt:=hW.lt;have hold:∀p∈before,(λb=>decide (b<W.heap.size)) p.block=true:=λp hp=>fK (hlt p hp);refine⟨ds,gs,before,[],pa,pv,hW,hres _ _ _,hargs _ hold,hvars _ hold,Xz hb _,λ_=>?_⟩;obtain⟨_,_,_,_,_,hz,hn⟩:=hW;refine⟨hok,_,_,([]++pa)++pv,⟨[]++pa,pv,trodAll_append (hargs _ (λ_ _=>rfl)) (hres _ _ _),hvars _ (λ_ _=>rfl),rfl,?_,?_⟩,?_⟩
 ·intro b off hp;have hm:MemPlace.cell b off∈before:=by rw[hps];simpa using hp
  have h1:b<W.heap.size:=hlt _ hm;have:=hz b off hm;simp only[World.frozen?,hb.block b h1]at this⊢;exact this
 ·intro ha;have:=hn ha;rw[hps]at this;simpa using this
 ·intro p hp _;rw[hps];simpa using hp
end
end Go.Ideal
namespace Go.Ideal
open Go.ChangeShapes Go.WideShapes Go.ChangeAt Go.RowKit
section
variable {H:Type} {enc:TypeId×Value->H} {P:Program} {W:World} {t e:TypeId}
end
