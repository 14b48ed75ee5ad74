/-
  The ideal machine, 40: single steps, as laws.
-/
import Derived.Test.YtbdaaopebgcnaaaGreatDoorIdealGM
import Derived.ChangeStays
import Derived.ChangeSame
import Derived.ChangeSlices
import Derived.ProofKit
set_option linter.all false
namespace Go.Ideal
variable {P:Program}
def At(h:IH)(b:Nat)(o:di):Prop:=b<h.next/\h.get b=some o
structure Agree(h h':IH):Prop where
 next:h.next<=h'.next
 get:∀i,i<h.next->h'.get i=h.get i
 low:h.low<=h.next->h'.low=h.low
theorem Agree.refl(h:IH):Agree h h:=⟨aG _,λ_ _=>rfl,λ_=>rfl⟩
theorem Agree.trans{h h1 h2:IH}(a:Agree h h1)(b:Agree h1 h2):Agree h h2:=
 ⟨dB a.next b.next,λi hi=>(b.get i (j4 hi a.next)).trans (a.get i hi),λhl=>(b.low (by rw[a.low hl];exact dB hl a.next)).trans (a.low hl)⟩
theorem At.agree{h h':IH}{b:Nat}{o:di}(a:At h b o)(g:Agree h h'):At h' b o:=⟨j4 a.1 g.next,(g.get b a.1).trans a.2⟩
theorem KZ(h:IH)(o:di):Agree h (h.new o):=⟨wB _,λi hi=>by rw[IH.ik,if_neg (by omega)],λ_=>rfl⟩
theorem K3(h:IH)(o:di):At (h.new o) h.next o:=⟨uR _,by rw[IH.ik,if_pos rfl]⟩
structure ajf(h h':IH)(b:Nat)(o:di):Prop where
 next:h'.next=h.next
 get:∀i,i≠b->h'.get i=h.get i
 at_:At h' b o
 low:h.low<=b->h'.low=h.low
def Cells(h:IH)(b:Nat)(cs:List Value):Prop:=b<h.next/\(h.get b=some (.cells cs)\/h.get b=some (.gK cs))
theorem At.c{h:IH}{b:Nat}{cs:List Value}(a:At h b (.cells cs)):Cells h b cs:=⟨a.1,.inl a.2⟩
theorem Cells.agree{h h':IH}{b:Nat}{cs:List Value}(a:Cells h b cs)(g:Agree h h'):Cells h' b cs:=⟨j4 a.1 g.next,by rw[g.get b a.1];exact a.2⟩
theorem Cells.mF{h:IH}{b:Nat}{cs:List Value}(a:Cells h b cs)(o:Nat):h.mF b o=cs[o]?:=by
 rcases a.2 with e|e<;>simp only[IH.mF,e,nT]
theorem Cells.dV{h:IH}{b:Nat}{cs:List Value}(a:Cells h b cs)(o m:Nat):h.dV b o m=iN (ja cs o) m:=by
 rcases a.2 with e|e<;>simp only[IH.dV,e]
def C8(h:IH)(v:Value)(xs:List Int):Prop:=
 (xs=[]/\∃a m c,v=.slice a m c/\m=0)\/
 ∃i o f c cs,v=.slice (some ⟨i,o,some f⟩) xs.length c/\Cells h i cs/\∀(k:Nat) x,xs[k]? =some x->cs[o+k]? =some (.int .i64 x)
theorem C8.agree{h h':IH}{v:Value}{xs:List Int}(a:C8 h v xs)(g:Agree h h'):C8 h' v xs:=by
 rcases a with h1|⟨i,o,f,c,cs,h1,h2,h3⟩
 ·exact .inl h1
 ·exact .inr ⟨i,o,f,c,cs,h1,h2.agree g,h3⟩
def bH(l:List (Nat×Value))(g:Option (Tmp×Bool)):Bool:=
 match g with
 |none=>true
 |some (t,w)=>match lk l t with
  | .bool b=>cond w b (!b)
  |_=>false
def rz(l:List (Nat×Value))(g:Option (Tmp×Bool)):Bool:=
 match g with
 |none=>false
 |some (t,w)=>match lk l t with
  | .bool b=>cond w (!b) b
  | .chan _=>true
  |_=>false
theorem FO(n:Nat):goInt n=.int .i64 (n:Int):=rfl
section
variable {ds:List Tmp} {rest:List aW} {n:Nat} {l:List (Nat×Value)} {D:List Deferred} {pm:Option FrameMode} {ro:Option Nat} {h:IH} {K:KO} {d:Nat} {g:Option (Tmp×Bool)}
theorem rA(hg:bH l g=true):(act n l D pm ro).wants g=some true:=by
 cases g with
 |none=>rfl
 |some p=>
  obtain⟨t,w⟩:=p;rw[Ag];simp only[bH]at hg;split at hg
  ·rename_i b hb;rw[hb];simp only[hg]
  ·cases hg
theorem aac(hn:Nat.blt d n=true)(hg:rz l g=true){op:au}{re:List eZ}(next:aA P ds rest (act n ((d,sD)::l) D pm ro) h K):aA P ds (⟨⟨some d,g,op⟩,re⟩::rest) (act n l D pm ro) h K:=by
 refine .skip ?_ (by rw[lg hn];exact next);show(act n l D pm ro).wants g=some false;cases g with
 |none=>cases hg
 |some p=>
  obtain⟨t,w⟩:=p;rw[Ag];simp only[rz]at hg;split at hg
  ·rename_i b hb;rw[hb];cases w<;>cases b<;>simp_all
  ·rename_i b hb;rw[hb]
  ·cases hg
theorem iQ{op:au}{v:Value}{h':IH}(hn:Nat.blt d n=true)(hg:bH l g=true)(hr:op.run P (ev l) h=some (v,h'))
 (next:aA P ds rest (act n ((d,v)::l) D pm ro) h' K):aA P ds (⟨⟨some d,g,op⟩,[]⟩::rest) (act n l D pm ro) h K:=
 .iP (rA hg) v h' (by rw[kg];exact hr) (by intro r hr;cases hr) (by rw[lg hn];exact next)
theorem K4{op:au}{v:Value}{h':IH}(hg:bH l g=true)(hr:op.run P (ev l) h=some (v,h'))
 (next:aA P ds rest (act n l D pm ro) h' K):aA P ds (⟨⟨none,g,op⟩,[]⟩::rest) (act n l D pm ro) h K:=
 .iP (rA hg) v h' (by rw[kg];exact hr) (by intro r hr;cases hr) next
theorem QB{x:Operand}{a:Option Addr}{m c:Nat}(hn:Nat.blt d n=true)(hg:bH l g=true)(hx:ev l x=.slice a m c)
 (next:aA P ds rest (act n ((d,.int .i64 (m:Int))::l) D pm ro) h K):aA P ds (⟨⟨some d,g,.jw x⟩,[]⟩::rest) (act n l D pm ro) h K:=
 iQ hn hg (by simp only[au.run,hx,FO]) next
theorem w9(op:BinOp)(t:TypeId)(x y:Operand)(a b:Int)(v:Value)(hv:nS op .i64 a b=some v):nk P op t x y (.int .i64 a) (.int .i64 b)=some v:=by
 simp only[nk,qU,cond,hv]
theorem QC{m:Int}(h1: -9223372036854775808<=m)(h2:m<9223372036854775808):BX .i64 m=m:=by
 rw[JW];exact IntWalk.i64_in m ⟨h1,by omega⟩
theorem FP{a b:Nat}(h:a<b):Nat.blt a b=true:=by simp only[qK];exact h
theorem aad{x i:Operand}{size b o m c:Nat}{f:Option Nat}{k:Int}{kk:IntKind}(hn:Nat.blt d n=true)(hg:bH l g=true)(hx:ev l x=.slice (some ⟨b,o,f⟩) m c)(hi:ev l i=.int kk k)
 (h0:0<=k) (h1:k<m) (next:aA P ds rest (act n ((d,.pointer (some ⟨b,o+k.toNat*size,none⟩))::l) D pm ro) h K):aA P ds (⟨⟨some d,g,.gq size x i⟩,[]⟩::rest) (act n l D pm ro) h K:=by
 obtain⟨j,rfl⟩:=wE h0;refine iQ hn hg ?_ next
 simp only[au.run,hx,hi];show cond (Nat.blt j m) _ _=_;rw[FP (by omega)];rfl
theorem QD{x:Operand}{b o:Nat}{cs:List Value}{v:Value}(hn:Nat.blt d n=true)(hg:bH l g=true)(hx:ev l x=.pointer (some ⟨b,o,none⟩))(ha:At h b (.cells cs))(hv:cs[o]? =some v)
 (next:aA P ds rest (act n ((d,v)::l) D pm ro) h K):aA P ds (⟨⟨some d,g,.aM x⟩,[]⟩::rest) (act n l D pm ro) h K:=
 iQ hn hg (by simp only[au.run,hx,ha.c.mF,hv]) next
theorem aae{x:Operand}{b o m:Nat}{cs r:List Value}(hn:Nat.blt d n=true)(hg:bH l g=true)(hx:ev l x=.pointer (some ⟨b,o,none⟩))(ha:At h b (.cells cs))(hv:iN (ja cs o) m=some r)
 (next:aA P ds rest (act n ((d,.agg ⟨r⟩)::l) D pm ro) h K):aA P ds (⟨⟨some d,g,.ni m x⟩,[]⟩::rest) (act n l D pm ro) h K:=
 iQ hn hg (by simp only[au.run,hx,ha.c.dV,hv]) next
theorem QE:∀(cs:List Value) (o:Nat) (v:Value),o<cs.length->gW cs o [v]=some (cs.set o v)
 |[],o,v,h=>by simp at h
 |c::cs,0,v,_=>by rw[JL];cases cs<;>rfl
 |c::cs,o+1,v,h=>by rw[JM,QE cs o v (by simpa using h)];rfl
theorem s_call{f:Operand}{args:List Operand}{re:List eZ}(hn:Nat.blt d n=true)(hg:bH l g=true)(fn:Fn){first captured:List Value}(hf:ev l f=.func fn ⟨first⟩ ⟨captured⟩)(M:KR)
 (hc:CALL P ⟨fn,first++args.map (ev l),captured,none⟩ h M)
 (hs:∀v h',M (.ok v) none h'->∀r∈re,∃u h2,r.op.run P (ev ((d,v)::l)) h'=some (u,h2)/\∀d',r.dst=some d'->lk ((d,v)::l) d'=u)
 (hok:∀v h',M (.ok v) none h'->aA P ds rest (act n ((d,v)::l) D pm ro) h' K)
 (gY:∀ch h',M (.gN ch) none h'->K (.panic ch) (forget ds (act n l D pm ro)) h') (hno:∀r p h',M r p h'->p=none):aA P ds (⟨⟨some d,g,.call f args⟩,re⟩::rest) (act n l D pm ro) h K:=by
 refine .call (rA hg) ⟨fn,first++args.map (ev l),captured,none⟩ (by simp only[uZ,kg,hf,iI,sH]) M hc ?_ ?_ ?_
 ·intro v p h' hm r hr _;have:=hno _ _ _ hm;subst this;obtain⟨u,h2,e1,e2⟩:=hs v h' hm r hr;rw[lg hn];exact⟨u,h2,by rw[kg];exact e1,λd' hd=>by rw[<- e2 d' hd];exact sZ _ _⟩
 ·intro v p h' hm;have:=hno _ _ _ hm;subst this;rw[lg hn];exact hok v h' hm
 ·intro ch p h' hm;have:=hno _ _ _ hm;subst this;exact gY ch h' hm
section
variable {a:aN} {x y:bV} {i j m0:Nat} {I:Nat->aN->IH->Prop} {ch:List PanicEntry}
theorem aaf(e:Nat.beq j i=true)(k:K .normal a h):vJ i K (.exit j) a h:=by
 have:j=i:=jR e;subst this;show K (inBlock j (.exit j)) a h;simp only[inBlock];rw[e];exact k
theorem aag(e:Nat.beq j i=false)(k:K (.exit j) a h):vJ i K (.exit j) a h:=by
 show K (inBlock i (.exit j)) a h;simp only[inBlock];rw[e];exact k
end
theorem aah{l0:List (Nat×Value)}{I:Nat->aN->IH->Prop}{m0:Nat}(m':Nat)(hlt:m'<m0)(hs:sub l0 l)(k:I m' (act n l0 D pm ro) h):vK I m0 K .normal (act n l D pm ro) h:=
 ⟨m',_,hlt,Qx hs,k⟩
end
end Go.Ideal
namespace Go.Ideal
variable {P:Program}
section
variable {ds:List Tmp} {rest:List aW} {n:Nat} {l:List (Nat×Value)} {D:List Deferred} {pm:Option FrameMode} {ro:Option Nat} {h:IH} {K:KO} {d:Nat} {g:Option (Tmp×Bool)}
structure xe(h h':IH)(b:Nat)(o:di):Prop where
 next:h'.next=h.next+1
 get:∀i,i<h.next->i≠b->h'.get i=h.get i
 at_:At h' h.next o
 low:h.low<=b->h'.low=h.low
theorem C9{e:TypeId}{size bytes b o m k:Nat}{f:Option Nat}{s x:Operand}{old xs:List Value}(hn:Nat.blt d n=true)(hg:bH l g=true)
 (hs:ev l s=.slice (some ⟨b,o,f⟩) m m) (hx:kY (ev l x)=some (k+1)) (hxs:j5 size (k+1) (ev l x) h=some xs) (hold:h.dV b o (m*size)=some old)
 (hf:f=some 0\/f=some size) (hm:(m+(k+1))*bytes<=1073741824/\(m+(k+1))*size<=1073741824/\m+(k+1)<=1073741824)
 (next:∀h',xe h h' b (.cells (old++xs))->aA P ds rest (act n ((d,.slice (some ⟨h.next,0,some size⟩) (m+(k+1)) (m+(k+1)))::l) D pm ro) h' K):
 aA P ds (⟨⟨some d,g,.append e size bytes s x⟩,[]⟩::rest) (act n l D pm ro) h K:=by
 have hle:∀{a b:Nat},a<=b->Nat.ble a b=true:=λh=>by rw[nM];exact h
 have hlt:Nat.ble (m+(k+1)) m=false:=by
  cases hb:Nat.ble (m+(k+1)) m with
  |false=>rfl
  |true=>have:=kW hb;omega
 have hc:(Nat.ble (Nat.mul (m+(k+1)) bytes) small&&Nat.ble (Nat.mul (m+(k+1)) size) small&&Nat.ble (m+(k+1)) small)=true:=by
  rw[hle (show Nat.mul (m+(k+1)) bytes<=small from hm.1),hle (show Nat.mul (m+(k+1)) size<=small from hm.2.1),hle (show m+(k+1)<=small from hm.2.2)];rfl
 have hrun:∃h',(au.append e size bytes s x).run P (ev l) h=some (.slice (some ⟨h.next,0,some size⟩) (m+(k+1)) (m+(k+1)),h')/\xe h h' b (.cells (old++xs)):=by
  have yK:um size (k+1) (ev l x) h=some xs:=hxs;simp only[au.run,hx,yK,hs,nR];have e1:j5 size m (.slice (some ⟨b,o,f⟩) m m) h=some old:=hold;show∃h',(cond (Nat.ble (Nat.mul (m+(k+1)) bytes) small&&Nat.ble (Nat.mul (m+(k+1)) size) small&&Nat.ble (m+(k+1)) small) _ _)=_/\_;rw[hc];show∃h',(cond (Nat.ble (m+(k+1)) m) _ _)=_/\_;rw[hlt];simp only[cond,e1];rcases hf with rfl|rfl
  ·refine⟨_,rfl,?_⟩;exact⟨rfl,λi hi _=>by rw[IH.ik,if_neg (by omega)],⟨uR _,by rw[IH.ik,if_pos rfl,iI]⟩,λ_=>rfl⟩
  ·cases size with
   |zero=>
    refine⟨_,rfl,?_⟩;exact⟨rfl,λi hi _=>by rw[IH.ik,if_neg (by omega)],⟨uR _,by rw[IH.ik,if_pos rfl,iI]⟩,λ_=>rfl⟩
   |succ j=>
    have hj:Nat.beq (Nat.succ j) (j+1)=true:=wF _;refine⟨(h.kill b).new (.cells (old++xs)),?_,?_⟩
    ·show cond (Nat.beq (Nat.succ j) (j+1)) _ _=_;rw[hj,iI];rfl
    ·exact⟨rfl,λi hi hb=>by rw[IH.ik,if_neg (by show i≠h.next;omega),IH.qX,if_neg hb],⟨uR _,by rw[IH.ik];exact if_pos rfl⟩,λhl=>by rw[IH.JK,IH.yC];omega⟩
 obtain⟨h',hr,hM⟩:=hrun;exact iQ hn hg hr (next h' hM)
theorem K5{e:TypeId}{size bytes k c:Nat}{s x:Operand}{xs:List Value}(hn:Nat.blt d n=true)(hg:bH l g=true)
 (hs:ev l s=.slice none 0 0) (hx:kY (ev l x)=some (k+1)) (hxs:j5 size (k+1) (ev l x) h=some xs)
 (hm:(k+1)*bytes<=1073741824/\(k+1)*size<=1073741824/\(k+1)<=1073741824)
 (next:∀h',Agree h h'->At h' h.next (.cells xs)->h'.next=h.next+1->aA P ds rest (act n ((d,.slice (some ⟨h.next,0,some size⟩) (k+1) (k+1))::l) D pm ro) h' K):
 aA P ds (⟨⟨some d,g,.append e size bytes s x⟩,[]⟩::rest) (act n l D pm ro) h K:=by
 have hle:∀{a b:Nat},a<=b->Nat.ble a b=true:=λh=>by rw[nM];exact h
 have e0:Nat.add 0 (k+1)=k+1:=bG _;refine iQ hn hg (h':=h.new (.cells xs)) ?_ (next _ (KZ _ _) (K3 _ _) rfl);have yK:um size (k+1) (ev l x) h=some xs:=hxs;simp only[au.run,hx,yK,hs,nR,e0];rw[hle (show Nat.mul (k+1) bytes<=small from hm.1),hle (show Nat.mul (k+1) size<=small from hm.2.1),hle (show k+1<=small from hm.2.2)];have e1:j5 size 0 (.slice none 0 0) h=some []:=by
  show(match (0:Nat)with|0=>some ([]:List Value)|_=>none)=_;rfl
 have e2:Nat.ble (k+1) 0=false:=rfl;simp only[BJ,cond_true,e2,cond_false,e1,iI,dI]
theorem At.uk{b o m:Nat}{cs r:List Value}(a:At h b (.cells cs))(hr:iN (ja cs o) m=some r):h.uk b o m=some r:=by
 simp only[IH.uk,a.2,hr]
theorem At.dV{b o m:Nat}{cs r:List Value}(a:At h b (.cells cs))(hr:iN (ja cs o) m=some r):h.dV b o m=some r:=by
 rw[a.c.dV,hr]
def Da(ds:List Tmp)(n:Nat)(l:List (Nat×Value)):List (Nat×Value):=
 match ds with
 |[]=>l
 |d::ds=>Da ds n (cond (Nat.blt d n) ((d,cK)::l) l)
theorem K6:∀(ds:List Tmp) (l:List (Nat×Value)),forget ds (act n l D pm ro)=act n (Da ds n l) D pm ro
 |[],l=>rfl
 |d::ds,l=>by
  show forget ds ((act n l D pm ro).set d cK)=_;simp only[Da];cases hb:Nat.blt d n with
  |true=>
   rw[show(act n l D pm ro).set d cK=act n ((d,cK)::l) D pm ro from lg hb];exact K6 ds _
  |false=>
   rw[show(act n l D pm ro).set d cK=act n l D pm ro by simp only[aN.set,act,hb,cond]];exact K6 ds _
theorem aai{x:Operand}{t:TypeId}{v:Value}{dst:Option Tmp}{re:List eZ}(hg:bH l g=true)(hx:ev l x=.iface t v)
 (hk:K (.panic [{v:=.iface t v,recovered:=false}]) (act n (Da ds n l) D pm ro) h):aA P ds (⟨⟨dst,g,.panic x⟩,re⟩::rest) (act n l D pm ro) h K:=
 .panic (rA hg) x rfl t v (by rw[kg];exact hx) (by rw[K6];exact hk)
theorem aaj{f:Operand}{args:List Operand}{fn:Fn}{first captured:List Value}(hg:bH l g=true)(hro:ro=none)(hf:ev l f=.func fn ⟨first⟩ ⟨captured⟩)
 (next:aA P ds rest (act n l ({target:=.fn fn ⟨captured⟩,args:=⟨first++args.map (ev l)⟩}::D) pm ro) h K):aA P ds (⟨⟨none,g,.dcall f args⟩,[]⟩::rest) (act n l D pm ro) h K:=by
 refine .defer (rA hg) f args rfl rfl hro fn first captured (by rw[kg];exact hf) ?_
 rw[kg];rw[<- iI,<- sH]at next
 exact next
theorem aak{m:FrameMode}(hn:Nat.blt d n=true)(hg:bH l g=true)(hro:ro=none)
 (next:aA P ds rest (act n ((d,(iT m).1)::l) D (some (iT m).2) ro) h K):aA P ds (⟨⟨some d,g,.recover⟩,[]⟩::rest) (act n l D (some m) ro) h K:=by
 refine .recoverD (rA hg) rfl rfl m rfl hro ?_;have:({act n l D (some m) ro with pm:=some (iT m).2}:aN)=act n l D (some (iT m).2) ro:=rfl;rw[this,lg hn];exact next
theorem QF{f:FuncId}{args cap:List Value}{pm:Option FrameMode}{h:IH}{K:KR}(cf:eU)(fn:Func)(hf:P.funcs[f]? =some fn)(hcf:sF P fn=some cf)
 (hb:EV P cf.body (yw cf.ntmps (args++cap) pm) h (λo a h'=>match uq o with
   |none=>False
   |some m=>LEAVE P cf a.tmps a.defers m h' λr h''=>K r a.pm h'')):CALL P ⟨.func f,args,cap,pm⟩ h K:=by
 refine .enter f (args++cap) (by simp only[target,iI]) fn hf cf hcf _ hb ?_ ?_
 ·intro o a h hm e;rw[e]at hm;exact hm
 ·intro o a h' m hm he;rw[he]at hm;exact hm
end
end Go.Ideal
namespace Go.Ideal
open Go.RowKit
variable {P:Program}
noncomputable def Ai:Nat->List (Option (List Value))->T di
 |_,[]=>.leaf
 |i,c::l=>(Ai (i+1) l).set i (c.map .gK)
theorem QG:∀(l:List (Option (List Value))) (i j:Nat),(Ai i l).get j=if i<=j then(l[j - i]?).bind (λc=>c.map .gK)else none
 |[],i,j=>by simp[Ai,T.Ci]
 |c::l,i,j=>by
  simp only[Ai,T.kD];by_cases e:j=i
  ·subst e;simp
  ·rw[if_neg e,QG l (i+1) j];by_cases h:i<=j
   ·rw[if_pos (by omega),if_pos h];obtain⟨k,hk⟩:∃k,j - i=k+1:=⟨j - i - 1,by omega⟩
    rw[hk,pY,show j - (i+1)=k by omega]
   ·rw[if_neg (by omega),if_neg h]
abbrev Lay:=List (Option fZ×Option (List Value))
noncomputable def jd(L:Lay):IH:=⟨Ai 0 (L.map (·.2)),L.length,L.length⟩
def iV(L:Lay):ax:=λi=>(L[i]?).bind (·.1)
theorem FQ(L:Lay)(i:Nat):(jd L).get i=(L[i]?).bind λp=>p.2.map .gK:=by
 show(Ai 0 (L.map (·.2))).get i=_;rw[QG,if_pos (cu _),qb,bU];cases L[i]?<;>rfl
theorem aal{L:Lay}{i:Nat}{g:Option fZ}{cs:List Value}(h:L[i]? =some (g,some cs)):Cells (jd L) i cs:=
 ⟨(dU.1 h).1,.inr (by rw[FQ,h];rfl)⟩
structure Aj(L:Lay)(w:World)(g:fZ)(cs:List Value):Prop where
 block:∃c t fz,w.heap[g.b]? =some (.cells c t fz)/\(g.top=0\/c.size=g.top)
 sz:g.sz=0
 all:cs.all cellV=true
 cell:∀(j:Nat) v,cs[j]? =some v->∃v',w.cell? ⟨g.b,g.off+j,none⟩=some v'/\VR (iV L) v v'
theorem aam{L:Lay}{w:World}(hL:∀(i:Nat) g cs,L[i]? =some (some g,some cs)->Aj L w g cs):WR P (iV L) (jd L) w:=by
 have hb:∀i g,iV L i=some g->∃cs,L[i]? =some (some g,cs):=λi g h=>by
  unfold iV at h;cases e:L[i]? with
  |none=>rw[e]at h;cases h
  |some p=>
   rw[e]at h;obtain⟨a,cs⟩:=p;have h:a=some g:=h;subst h;exact⟨cs,rfl⟩
 have hlive:∀i o,(jd L).get i=some o->∃g cs,L[i]? =some (g,some cs)/\o=.gK cs:=λi o h=>by
  rw[FQ]at h;cases e:L[i]? with
  |none=>rw[e]at h;cases h
  |some p=>
   obtain⟨g,c⟩:=p;rw[e]at h;cases c with
   |none=>cases h
   |some cs=>cases h;exact⟨g,cs,rfl,rfl⟩
 refine⟨?_,?_,?_,?_⟩
 ·intro i g h;obtain⟨cs,e⟩:=hb i g h;exact(dU.1 e).1
 ·intro i o h;obtain⟨g,cs,e,_⟩:=hlive i o h;exact(dU.1 e).1
 ·intro i g o h ho;obtain⟨c,e⟩:=hb i g h;obtain⟨g',cs,e',rfl⟩:=hlive i o ho;rw[e]at e';cases e';have k:=hL i g cs e;exact⟨k.block,k.sz,k.all,k.cell⟩
 ·intro i j g k hi hj hgi hgj hr he
  exfalso
  rcases hr with q|q
  ·cases e:(jd L).get i with
   |none=>exact hgi e
   |some o=>
    obtain⟨_,cs,_,rfl⟩:=hlive i o e;exact q cs e
  ·cases e:(jd L).get j with
   |none=>exact hgj e
   |some o=>
    obtain⟨_,cs,_,rfl⟩:=hlive j o e;exact q cs e
open Go.WideShapes Go.ChangeShapes
section
variable {H:Type} {enc:TypeId×Value->H}
theorem aan{w w':World}(hb:Below w.heap.size w w'){a:Addr}(ha:a.block<w.heap.size):w'.cell? a=w.cell? a:=by
 simp only[World.cell?,hb.block _ ha]
theorem aao{w w':World}(hb:Below w.heap.size w w'){p:MemPlace}(hp:p.block<w.heap.size):w.sameAt w' p:=by
 cases p with
 |cell b off=>exact aan hb hp
 |map b=>exact hb.block b hp
theorem FT{T:TypeId->Prop}(K:Kids P T)(hsz:∀{t e:TypeId},T t->P.underlying t=some (.slice e)->0<P.cellsOf e){w w':World}(hb:Below w.heap.size w w'){sp:Nat->Bool}:∀{ts:List TypeId} {vs:List Value} {ds:List (DataW H)} {ps:List MemPlace},
 (∀t∈ts,T t)->DataW.TrodAll enc P w 0 (λ_=>true) true ts vs ds ps->(∀p∈ps,sp p.block=true)->DataW.TrodAll enc P w' 0 sp true ts vs ds ps
 |[],[],[],_,_,h,_=>h
 |t::_,v::_,d::_,_,hT,⟨p,q,⟨n,h1⟩,h2,e⟩,hs=>by
  refine⟨p,q,⟨n,?_⟩,FT K hsz hb (λt ht=>hT t (bD.2 (.inr ht))) h2 (λx hx=>hs x (by rw[e];exact oO _ hx)),e⟩;exact DataW.trod_stays K hsz (λh=>by cases h) (hT t (bD.2 (.inl rfl))) h1 (λx hx=>aao hb (DataW.trod_lt n _ _ _ h1 x hx)) (λx hx=>hs x (by rw[e];exact nN _ hx))
theorem aap{w w':World}(hb:Below w.heap.size w w')(may:MemPlace->Prop):w.keptBut w' may:=by
 refine⟨hb.os,hb.output,λi hi=>?_⟩;rw[hb.block i hi];cases h:w.heap[i]? with
 |none=>rfl
 |some o=>cases o<;>simp
theorem K7{f:Func}{s:ChangeSpec}{apart fresh handsOn again:Bool}{W W':World}{args:Array Value}{v:Value}{ds gs:List (DataW H)}{before pa pv:List MemPlace}
 (hW:DataW.Whole enc P f.params.toList s.vars apart W args.toList ds gs before)
 (hres:∀(b:Nat) (sp:Nat->Bool) (hd:Bool),DataW.TrodAll enc P W' b sp hd f.resultTypes.toList (v.resultList f.resultTypes.size) (s.fn H (ds++gs)).results [])
 (hargs:∀sp:Nat->Bool,(∀p∈before,sp p.block=true)->DataW.TrodAll enc P W' 0 sp true f.params.toList args.toList (s.fn H (ds++gs)).args pa)
 (hvars:∀sp:Nat->Bool,(∀p∈before,sp p.block=true)->DataW.TrodVars enc P W' sp s.vars (s.fn H (ds++gs)).vars pv)
 (hps:before=pa++pv) (hb:Below W.heap.size W W')
 (hok:∀(j:Nat) (t:TypeId) (r:Value),f.resultTypes[j]? =some t->(v.resultList f.resultTypes.size)[j]? =some r->Value.okWide P W' .any 0 t r):
 s.post enc P f apart fresh handsOn again W args v W':=by
 have hlt:=hW.lt;have hold:∀p∈before,(λb=>decide (b<W.heap.size)) p.block=true:=λp hp=>eP (hlt p hp);refine⟨ds,gs,before,[],pa,pv,hW,hres _ _ _,hargs _ hold,hvars _ hold,aap hb _,λ_=>?_⟩;obtain⟨_,_,_,_,_,hz,hn⟩:=hW;refine⟨hok,_,_,([]++pa)++pv,⟨[]++pa,pv,trodAll_append (hargs _ (λ_ _=>rfl)) (hres _ _ _),hvars _ (λ_ _=>rfl),rfl,?_,?_⟩,?_⟩
 ·intro b off hp;have hm:MemPlace.cell b off∈before:=by rw[hps];simpa using hp
  have h1:b<W.heap.size:=hlt _ hm;have:=hz b off hm;simp only[World.frozen?,hb.block b h1]at this⊢;exact this
 ·intro ha;have:=hn ha;rw[hps]at this;simpa using this
 ·intro p hp _;rw[hps];simpa using hp
end
end Go.Ideal
namespace Go.Ideal
open Go.ChangeShapes Go.WideShapes Go.ChangeAt Go.RowKit
section
variable {H:Type} {enc:TypeId×Value->H} {P:Program} {W:World} {t e:TypeId}
end
