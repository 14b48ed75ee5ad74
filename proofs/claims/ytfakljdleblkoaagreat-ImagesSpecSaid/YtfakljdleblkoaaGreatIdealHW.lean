/-
  Part IdealHW.
-/
import Derived.Test.YtfakljdleblkoaaGreatIdealGW
import Derived.ChangeStays
import Derived.ChangeSame
import Derived.ChangeSlices
import Derived.ProofKit
set_option linter.all false
namespace Go.Ideal
variable {P:Program}
def At(h:IH)(b:Nat)(o:dQ):Prop:=b<h.next/\h.get b=some o
structure Agree(h h':IH):Prop where
 next:h.next<=h'.next
 get:∀i,i<h.next->h'.get i=h.get i
 low:h.low<=h.next->h'.low=h.low
theorem Agree.refl(h:IH):Agree h h:=⟨bV _,λ_ _=>rfl,λ_=>rfl⟩
variable{h:IH}
theorem Agree.trans{h1 h2:IH}(a:Agree h h1)(b:Agree h1 h2):Agree h h2:=
 ⟨oW a.next b.next,λi hi=>(b.get i (lS hi a.next)).trans (a.get i hi),λhl=>(b.low (by rw[a.low hl];exact oW hl a.next)).trans (a.low hl)⟩
variable{h':IH}{b:Nat}
theorem At.agree{o:dQ}(a:At h b o)(g:Agree h h'):At h' b o:=⟨lS a.1 g.next,(g.get b a.1).trans a.2⟩
theorem LA(h:IH)(o:dQ):Agree h (h.new o):=⟨AU _,λi hi=>by rw[IH.iZ,if_neg vj],λ_=>rfl⟩
theorem LB(h:IH)(o:dQ):At (h.new o) h.next o:=⟨wh _,by rw[IH.iZ,if_pos rfl]⟩
structure ai6(h h':IH)(b:Nat)(o:dQ):Prop where
 next:h'.next=h.next
 get:∀i,i≠b->h'.get i=h.get i
 at_:At h' b o
 low:h.low<=b->h'.low=h.low
def Cells(h:IH)(b:Nat)(cs:List Value):Prop:=b<h.next/\(h.get b=some (.cells cs)\/h.get b=some (.je cs))
variable{cs:List Value}
theorem At.c(a:At h b (.cells cs)):Cells h b cs:=⟨a.1,.inl a.2⟩
theorem Cells.agree(a:Cells h b cs)(g:Agree h h'):Cells h' b cs:=⟨lS a.1 g.next,by rw[g.get b a.1];exact a.2⟩
theorem Cells.nU(a:Cells h b cs)(o:Nat):h.nU b o=cs[o]?:=by
 rcases a.2 with e|e<;>simp only[IH.nU,e,ql]
theorem Cells.iW(a:Cells h b cs)(o m:Nat):h.iW b o m=jd (jE cs o) m:=by
 rcases a.2 with e|e<;>simp only[IH.iW,e]
def wV(h:IH)(v:Value)(xs:List Int):Prop:=
 (xs=[]/\∃a m c,v=.slice a m c/\m=0)\/
 ∃i o f c cs,v=.slice (some ⟨i,o,some f⟩) xs.length c/\Cells h i cs/\∀(k:Nat) x,xs[k]? =some x->cs[o+k]? =some (.int .i64 x)
variable{v:Value}{xs:List Int}
theorem wV.agree(a:wV h v xs)(g:Agree h h'):wV h' v xs:=by
 rcases a with h1|⟨i,o,f,c,cs,h1,h2,h3⟩
 ·exact .inl h1
 ·exact .inr ⟨i,o,f,c,cs,h1,h2.agree g,h3⟩
theorem wV.form(a:wV h v xs):∃b c,v=.slice b xs.length c:=by
 exact pN
def bZ(l:List (Nat×Value))(g:Option (Tmp×Bool)):Bool:=
 match g with
 |none=>true
 |some (t,w)=>match lk l t with
  | .bool b=>cond w b (!b)
  |_=>false
def LC(l:List (Nat×Value))(g:Option (Tmp×Bool)):Bool:=
 match g with
 |none=>false
 |some (t,w)=>match lk l t with
  | .bool b=>cond w (!b) b
  | .chan _=>true
  |_=>false
theorem QR(n:Nat):goInt n=.int .i64 (n:Int):=rfl
section
variable {ds:List Tmp} {rest:List bT} {n:Nat} {l:List (Nat×Value)} {D:List Deferred} {pm:Option FrameMode} {ro:Option Nat} {h:IH} {K:KO} {d:Nat} {g:Option (Tmp×Bool)}
theorem vD(hg:bZ l g=true):(act n l D pm ro).wants g=some true:=by
 cases g with
 |none=>rfl
 |some p=>
  obtain⟨t,w⟩:=p;rw[Gt];simp only[bZ]at hg;split at hg
  ·rename_i b hb;rw[hb];simp only[hg]
  ·cases hg
theorem aap(hn:Nat.blt d n=true)(hg:LC l g=true){op:aB}{re:List ik}(next:aG P ds rest (act n ((d,si)::l) D pm ro) h K):aG P ds (⟨⟨some d,g,op⟩,re⟩::rest) (act n l D pm ro) h K:=by
 refine .skip ?_ A5;show(act n l D pm ro).wants g=some false;cases g with
 |none=>cases hg
 |some p=>
  obtain⟨t,w⟩:=p;rw[Gt];simp only[LC]at hg;split at hg
  ·rename_i b hb;rw[hb];cases w<;>cases b<;>simp_all
  ·rename_i b hb;rw[hb]
  ·cases hg
variable{v:Value}{op:aB}{h':IH}
theorem lW(hn:Nat.blt d n=true)(hg:bZ l g=true)(hr:op.run P (ev l) h=some (v,h'))
 (next:aG P ds rest (act n ((d,v)::l) D pm ro) h' K):aG P ds (⟨⟨some d,g,op⟩,[]⟩::rest) (act n l D pm ro) h K:=
 .kW (vD hg) v h' AE A4 A5
theorem LD(hg:bZ l g=true)(hr:op.run P (ev l) h=some (v,h'))
 (next:aG P ds rest (act n l D pm ro) h' K):aG P ds (⟨⟨none,g,op⟩,[]⟩::rest) (act n l D pm ro) h K:=
 .kW (vD hg) v h' AE A4 next
variable{x:Operand}{m c:Nat}
theorem QS{a:Option Addr}(hn:Nat.blt d n=true)(hg:bZ l g=true)(hx:ev l x=.slice a m c)
 (next:aG P ds rest (act n ((d,.int .i64 (m:Int))::l) D pm ro) h K):aG P ds (⟨⟨some d,g,.wD x⟩,[]⟩::rest) (act n l D pm ro) h K:=
 lW hn hg (by simp only[aB.run,hx,QR]) next
theorem yz(op:BinOp)(t:TypeId)(x y:Operand)(a b:Int)(v:Value)(hv:pg op .i64 a b=some v):lU P op t x y (.int .i64 a) (.int .i64 b)=some v:=by
 simp only[lU,uZ,cond,hv]
theorem QT{m:Int}(h1: -9223372036854775808<=m)(h2:m<9223372036854775808):C8 .i64 m=m:=by
 rw[Kt];exact IntWalk.i64_in m ⟨h1,vj⟩
variable{b:Nat}
theorem LF{a:Nat}(h:a<b):Nat.blt a b=true:=by simp only[rV];exact h
variable{o:Nat}
theorem LG{i:Operand}{size:Nat}{f:Option Nat}{k:Int}{kk:IntKind}(hn:Nat.blt d n=true)(hg:bZ l g=true)(hx:ev l x=.slice (some ⟨b,o,f⟩) m c)(hi:ev l i=.int kk k)
 (h0:0<=k) (h1:k<m) (next:aG P ds rest (act n ((d,.pointer (some ⟨b,o+k.toNat*size,none⟩))::l) D pm ro) h K):aG P ds (⟨⟨some d,g,.nG size x i⟩,[]⟩::rest) (act n l D pm ro) h K:=by
 obtain⟨j,rfl⟩:=iO h0;refine lW hn hg ?_ next
 simp only[aB.run,hx,hi];show cond (Nat.blt j m) _ _=_;rw[LF vj];rfl
variable{cs:List Value}
theorem Gv(hn:Nat.blt d n=true)(hg:bZ l g=true)(hx:ev l x=.pointer (some ⟨b,o,none⟩))(ha:At h b (.cells cs))(hv:cs[o]? =some v)
 (next:aG P ds rest (act n ((d,v)::l) D pm ro) h K):aG P ds (⟨⟨some d,g,.gB x⟩,[]⟩::rest) (act n l D pm ro) h K:=
 lW hn hg (by simp only[aB.run,hx,ha.c.nU,hv]) next
theorem aaq{r:List Value}(hn:Nat.blt d n=true)(hg:bZ l g=true)(hx:ev l x=.pointer (some ⟨b,o,none⟩))(ha:At h b (.cells cs))(hv:jd (jE cs o) m=some r)
 (next:aG P ds rest (act n ((d,.agg ⟨r⟩)::l) D pm ro) h K):aG P ds (⟨⟨some d,g,.qc m x⟩,[]⟩::rest) (act n l D pm ro) h K:=
 lW hn hg (by simp only[aB.run,hx,ha.c.iW,hv]) next
theorem QU:∀(cs:List Value) (o:Nat) (v:Value),o<cs.length->jK cs o [v]=some (cs.set o v)
 |[],o,v,h=>by simp at h
 |c::cs,0,v,_=>by rw[Kg];cases cs<;>rfl
 |c::cs,o+1,v,h=>by rw[Kh,QU cs o v wq];rfl
theorem s_call{f:Operand}{args:List Operand}{re:List ik}(hn:Nat.blt d n=true)(hg:bZ l g=true)(fn:Fn){first captured:List Value}(hf:ev l f=.func fn ⟨first⟩ ⟨captured⟩)(M:KR)
 (hc:CALL P ⟨fn,first++args.map (ev l),captured,none⟩ h M)
 (hs:∀v h',M (.ok v) none h'->∀r∈re,∃u h2,r.op.run P (ev ((d,v)::l)) h'=some (u,h2)/\∀d',r.dst=some d'->lk ((d,v)::l) d'=u)
 (hok:∀v h',M (.ok v) none h'->aG P ds rest (act n ((d,v)::l) D pm ro) h' K)
 (jH:∀ch h',M (.fJ ch) none h'->K (.panic ch) (forget ds (act n l D pm ro)) h') (hno:∀r p h',M r p h'->p=none):aG P ds (⟨⟨some d,g,.call f args⟩,re⟩::rest) (act n l D pm ro) h K:=by
 refine .call (vD hg) ⟨fn,first++args.map (ev l),captured,none⟩ (by simp only[wH,ng,hf,jF,wI]) M hc ?_ ?_ ?_
 ·intro v p h' hm r hr _;have:=hno _ _ _ hm;subst this;obtain⟨u,h2,e1,e2⟩:=hs v h' hm r hr;exact lE
 ·intro v p h' hm;have:=hno _ _ _ hm;subst this;rw[pJ hn];exact hok v h' hm
 ·intro ch p h' hm;have:=hno _ _ _ hm;subst this;exact jH ch h' hm
section
variable {a:aV} {x y:dB} {i j m0:Nat} {I:Nat->aV->IH->Prop} {ch:List PanicEntry}
theorem aar(e:Nat.beq j i=true)(k:K .normal a h):wT i K (.exit j) a h:=by
 have:j=i:=kF e;subst this;show K (inBlock j (.exit j)) a h;simp only[inBlock];rw[e];exact k
theorem aas(e:Nat.beq j i=false)(k:K (.exit j) a h):wT i K (.exit j) a h:=by
 show K (inBlock i (.exit j)) a h;simp only[inBlock];rw[e];exact k
end
theorem aat{l0:List (Nat×Value)}{I:Nat->aV->IH->Prop}{m0:Nat}(m':Nat)(hlt:m'<m0)(hs:sub l0 l)(k:I m' (act n l0 D pm ro) h):wU I m0 K .normal (act n l D pm ro) h:=
 ⟨m',_,hlt,Lt hs,k⟩
end
end Go.Ideal
namespace Go.Ideal
variable {P:Program}
section
variable {ds:List Tmp} {rest:List bT} {n:Nat} {l:List (Nat×Value)} {D:List Deferred} {pm:Option FrameMode} {ro:Option Nat} {h:IH} {K:KO} {d:Nat} {g:Option (Tmp×Bool)}
structure zR(h h':IH)(b:Nat)(o:dQ):Prop where
 next:h'.next=h.next+1
 get:∀i,i<h.next->i≠b->h'.get i=h.get i
 at_:At h' h.next o
 low:h.low<=b->h'.low=h.low
variable{b o m size bytes k:Nat}{x s:Operand}{e:TypeId}{xs:List Value}
theorem QV{f:Option Nat}{old:List Value}(hn:Nat.blt d n=true)(hg:bZ l g=true)
 (hs:ev l s=.slice (some ⟨b,o,f⟩) m m) (hx:oH (ev l x)=some (k+1)) (hxs:mX size (k+1) (ev l x) h=some xs) (hold:h.iW b o (m*size)=some old)
 (hf:f=some 0\/f=some size) (hm:(m+(k+1))*bytes<=1073741824/\(m+(k+1))*size<=1073741824/\m+(k+1)<=1073741824)
 (next:∀h',zR h h' b (.cells (old++xs))->aG P ds rest (act n ((d,.slice (some ⟨h.next,0,some size⟩) (m+(k+1)) (m+(k+1)))::l) D pm ro) h' K):
 aG P ds (⟨⟨some d,g,.append e size bytes s x⟩,[]⟩::rest) (act n l D pm ro) h K:=by
 have hle:∀{a b:Nat},a<=b->Nat.ble a b=true:=λh=>by rw[uR];exact h
 have hlt:Nat.ble (m+(k+1)) m=false:=by
  exact tv
 have hc:(Nat.ble (Nat.mul (m+(k+1)) bytes) small&&Nat.ble (Nat.mul (m+(k+1)) size) small&&Nat.ble (m+(k+1)) small)=true:=by
  exact mm
 have hrun:∃h',(aB.append e size bytes s x).run P (ev l) h=some (.slice (some ⟨h.next,0,some size⟩) (m+(k+1)) (m+(k+1)),h')/\zR h h' b (.cells (old++xs)):=by
  exact cJ
 obtain⟨h',hr,hM⟩:=hrun;exact lW hn hg hr (next h' hM)
theorem aau{c:Nat}(hn:Nat.blt d n=true)(hg:bZ l g=true)
 (hs:ev l s=.slice none 0 0) (hx:oH (ev l x)=some (k+1)) (hxs:mX size (k+1) (ev l x) h=some xs)
 (hm:(k+1)*bytes<=1073741824/\(k+1)*size<=1073741824/\(k+1)<=1073741824)
 (next:∀h',Agree h h'->At h' h.next (.cells xs)->h'.next=h.next+1->aG P ds rest (act n ((d,.slice (some ⟨h.next,0,some size⟩) (k+1) (k+1))::l) D pm ro) h' K):
 aG P ds (⟨⟨some d,g,.append e size bytes s x⟩,[]⟩::rest) (act n l D pm ro) h K:=by
 have hle:∀{a b:Nat},a<=b->Nat.ble a b=true:=λh=>by rw[uR];exact h
 have e0:Nat.add 0 (k+1)=k+1:=fC _;refine lW hn hg (h':=h.new (.cells xs)) ?_ (next _ (LA _ _) (LB _ _) rfl);have zS:xV size (k+1) (ev l x) h=some xs:=hxs;simp only[aB.run,hx,zS,hs,wE,e0];rw[hle (show Nat.mul (k+1) bytes<=small from hm.1),hle (show Nat.mul (k+1) size<=small from hm.2.1),hle (show k+1<=small from hm.2.2)];have e1:mX size 0 (.slice none 0 0) h=some []:=by
  show(match (0:Nat)with|0=>some ([]:List Value)|_=>none)=_;rfl
 have e2:Nat.ble (k+1) 0=false:=rfl;simp only[JN,cond_true,e2,cond_false,e1,jF,dX]
variable{cs r:List Value}
theorem At.nT(a:At h b (.cells cs))(hr:jd (jE cs o) m=some r):h.nT b o m=some r:=by
 simp only[IH.nT,a.2,hr]
theorem QW(x:Value):∀n,zeros [x] n=List.replicate n x
 |0=>rfl
 |n+1=>by
  show jY [x] (zeros [x] n)=_;rw[QW x n,jF];rfl
theorem At.iW(a:At h b (.cells cs))(hr:jd (jE cs o) m=some r):h.iW b o m=some r:=by
 rw[a.c.iW,hr]
def zT(ds:List Tmp)(n:Nat)(l:List (Nat×Value)):List (Nat×Value):=
 match ds with
 |[]=>l
 |d::ds=>zT ds n (cond (Nat.blt d n) ((d,dO)::l) l)
theorem Gw:∀(ds:List Tmp) (l:List (Nat×Value)),forget ds (act n l D pm ro)=act n (zT ds n l) D pm ro
 |[],l=>rfl
 |d::ds,l=>by
  show forget ds ((act n l D pm ro).set d dO)=_;simp only[zT];cases hb:Nat.blt d n with
  |true=>
   rw[show(act n l D pm ro).set d dO=act n ((d,dO)::l) D pm ro from pJ hb];exact Gw ds _
  |false=>
   rw[show(act n l D pm ro).set d dO=act n l D pm ro by simp only[aV.set,act,hb,cond]];exact Gw ds _
theorem aav{t:TypeId}{v:Value}{dst:Option Tmp}{re:List ik}(hg:bZ l g=true)(hx:ev l x=.iface t v)
 (hk:K (.panic [{v:=.iface t v,recovered:=false}]) (act n (zT ds n l) D pm ro) h):aG P ds (⟨⟨dst,g,.panic x⟩,re⟩::rest) (act n l D pm ro) h K:=
 .panic (vD hg) x rfl t v (by rw[ng];exact hx) (by rw[Gw];exact hk)
theorem aaw{f:Operand}{args:List Operand}{fn:Fn}{first captured:List Value}(hg:bZ l g=true)(hro:ro=none)(hf:ev l f=.func fn ⟨first⟩ ⟨captured⟩)
 (next:aG P ds rest (act n l ({target:=.fn fn ⟨captured⟩,args:=⟨first++args.map (ev l)⟩}::D) pm ro) h K):aG P ds (⟨⟨none,g,.dcall f args⟩,[]⟩::rest) (act n l D pm ro) h K:=by
 refine .defer (vD hg) f args rfl rfl hro fn first captured (by rw[ng];exact hf) ?_
 rw[ng];rw[<- jF,<- wI]at next
 exact next
theorem aax{m:FrameMode}(hn:Nat.blt d n=true)(hg:bZ l g=true)(hro:ro=none)
 (next:aG P ds rest (act n ((d,(jy m).1)::l) D (some (jy m).2) ro) h K):aG P ds (⟨⟨some d,g,.recover⟩,[]⟩::rest) (act n l D (some m) ro) h K:=by
 refine .recoverD (vD hg) rfl rfl m rfl hro ?_;have:({act n l D (some m) ro with pm:=some (jy m).2}:aV)=act n l D (some (jy m).2) ro:=rfl;rw[this,pJ hn];exact next
theorem QX{f:FuncId}{args cap:List Value}{pm:Option FrameMode}{h:IH}{K:KR}(cf:gU)(fn:Func)(hf:P.funcs[f]? =some fn)(hcf:tX P fn=some cf)
 (hb:EV P cf.body (zy cf.ntmps (args++cap) pm) h (λo a h'=>match tY o with
   |none=>False
   |some m=>LEAVE P cf a.tmps a.defers m h' λr h''=>K r a.pm h'')):CALL P ⟨.func f,args,cap,pm⟩ h K:=by
 refine .enter f (args++cap) (by simp only[target,jF]) fn hf cf hcf _ hb ?_ ?_
 ·intro o a h hm e;rw[e]at hm;exact hm
 ·intro o a h' m hm he;rw[he]at hm;exact hm
end
end Go.Ideal
namespace Go.Ideal
open Go.RowKit
variable {P:Program}
noncomputable def BG:Nat->List (Option (List Value))->T dQ
 |_,[]=>.leaf
 |i,c::l=>(BG (i+1) l).set i (c.map .je)
theorem QY:∀(l:List (Option (List Value))) (i j:Nat),(BG i l).get j=if i<=j then(l[j - i]?).bind (λc=>c.map .je)else none
 |[],i,j=>by simp[BG,T.Di]
 |c::l,i,j=>by
  simp only[BG,T.mZ];by_cases e:j=i
  ·subst e;simp
  ·rw[if_neg e,QY l (i+1) j];by_cases h:i<=j
   ·rw[if_pos vj,if_pos h];obtain⟨k,hk⟩:∃k,j - i=k+1:=⟨j - i - 1,vj⟩
    rw[hk,qI,show j - (i+1)=k by omega]
   ·rw[if_neg vj,if_neg h]
abbrev Lay:=List (Option iD×Option (List Value))
noncomputable def jZ(L:Lay):IH:=⟨BG 0 (L.map (·.2)),L.length,L.length⟩
def jO(L:Lay):aC:=λi=>(L[i]?).bind (·.1)
theorem LH(L:Lay)(i:Nat):(jZ L).get i=(L[i]?).bind λp=>p.2.map .je:=by
 show(BG 0 (L.map (·.2))).get i=_;rw[QY,if_pos (bQ _),CR,dK];cases L[i]?<;>rfl
variable{L:Lay}
theorem aay{i:Nat}{g:Option iD}{cs:List Value}(h:L[i]? =some (g,some cs)):Cells (jZ L) i cs:=
 ⟨(bC.1 h).1,.inr (by rw[LH,h];rfl)⟩
structure BH(L:Lay)(w:World)(g:iD)(cs:List Value):Prop where
 block:∃c t fz,w.heap[g.b]? =some (.cells c t fz)/\(g.top=0\/c.size=g.top)
 sz:g.sz=0
 all:cs.all cellV=true
 cell:∀(j:Nat) v,cs[j]? =some v->∃v',w.cell? ⟨g.b,g.off+j,none⟩=some v'/\VR (jO L) v v'
theorem aaz{w:World}(hL:∀(i:Nat) g cs,L[i]? =some (some g,some cs)->BH L w g cs):WR P (jO L) (jZ L) w:=by
 have hb:∀i g,jO L i=some g->∃cs,L[i]? =some (some g,cs):=λi g h=>by
  unfold jO at h;cases e:L[i]? with
  |none=>rw[e]at h;cases h
  |some p=>
   rw[e]at h;obtain⟨a,cs⟩:=p;have h:a=some g:=h;subst h;exact⟨cs,rfl⟩
 have hlive:∀i o,(jZ L).get i=some o->∃g cs,L[i]? =some (g,some cs)/\o=.je cs:=λi o h=>by
  rw[LH]at h;cases e:L[i]? with
  |none=>rw[e]at h;cases h
  |some p=>
   obtain⟨g,c⟩:=p;rw[e]at h;cases c with
   |none=>cases h
   |some cs=>cases h;exact⟨g,cs,rfl,rfl⟩
 refine⟨?_,?_,?_,?_⟩
 ·intro i g h;obtain⟨cs,e⟩:=hb i g h;exact(bC.1 e).1
 ·intro i o h;obtain⟨g,cs,e,_⟩:=hlive i o h;exact(bC.1 e).1
 ·intro i g o h ho;obtain⟨c,e⟩:=hb i g h;obtain⟨g',cs,e',rfl⟩:=hlive i o ho;rw[e]at e';cases e';have k:=hL i g cs e;exact⟨k.block,k.sz,k.all,k.cell⟩
 ·intro i j g k hi hj hgi hgj hr he
  exfalso
  rcases hr with q|q
  ·cases e:(jZ L).get i with
   |none=>exact hgi e
   |some o=>
    obtain⟨_,cs,_,rfl⟩:=hlive i o e;exact q cs e
  ·cases e:(jZ L).get j with
   |none=>exact hgj e
   |some o=>
    obtain⟨_,cs,_,rfl⟩:=hlive j o e;exact q cs e
theorem aaA(zN:P.follows .mixedOrders=true)(hgl:P.globals.size=0){f:FuncId}(fn:Func)(hfn:P.funcs[f]? =some fn)(hbody:fn.body.isNone=false)(hname:(fn.name== "runtime.NumGoroutine")=false){args args':List Value}{L:Lay}{w:World}{v:Value}
 (hL:∀(i:Nat) g cs,L[i]? =some (some g,some cs)->BH L w g cs) (hargs:aZ (jO L) args args') (hv:bY v=true)
 (hc:CALL P ⟨.func f,args,[],none⟩ (jZ L) (λr pm h'=>pm=none/\r=.ok v/\Agree (jZ L) h')):
 Calls P f ⟨args'⟩ w (λe w'=>e=.returned v/\Below w.heap.size w w'):=by
 have hM:=Z9 zN hc;have hW:WR P (jO L) (jZ L) w:=aaz hL;obtain⟨nx,F0,n1,n2,n3⟩:=hM (jO L) w (.func f) args' [] (λg hg=>by rw[hgl]at hg;omega) hW (.func f) hargs .nil;have hnx:nx=.enter f ⟨args'⟩:=by
  have hcall:(callFunc f ⟨args'⟩).run P w=.ok (.enter f ⟨args'⟩) w:=by
   simp only[callFunc,dz,run_program,dD,hfn,hname,hbody,uS,if_false,eX]
  have e:(⟨args'⟩:Array Value)++(⟨[]⟩:Array Value)=⟨args'⟩:=zc
  have n1:(invoke (.fn (.func f) ⟨[]⟩) ⟨args'⟩).run P w=.ok nx w:=n1;simp only[invoke,e]at n1;rw[hcall]at n1;cases n1;rfl
 subst hnx;have zU:F0=Frame.enter P f ⟨args'⟩ .normal:=by
  have:entry P .normal (.enter f ⟨args'⟩)=some (Frame.enter P f ⟨args'⟩ .normal):=rfl;have n2:entry P .normal (.enter f ⟨args'⟩)=some F0:=n2;rw[this]at n2;exact(Option.some.inj n2).symm
 subst zU;intro cs;obtain⟨r,pm',h',β',w',r',cs1,q1,q2,q3,q4,q5,q6⟩:=n3 cs (by intro m hm;cases hm);obtain⟨hp,rfl,hag⟩:=q1;cases q5;cases q4 with
 | @ok v v' qW=>
   have:=qW.pF hv;subst this;rcases q6 with⟨f1,a1,F1,e1,e2,e3,e4,e5⟩|⟨⟨_,l,e1⟩,_⟩
   ·cases e1;refine⟨.returned v',w',F1,⟨rfl,?_⟩,e2,e3,?_⟩
    ·refine⟨q3.os,q3.tape,q3.output,q3.size,λk hk=>?_⟩;by_cases hx:∀i g,jO L i=some g->(jZ L).get i≠none->g.b≠k
     ·exact q3.keep k hk hx
     ·have hx:∃i g,jO L i=some g/\(jZ L).get i≠none/\g.b=k:=by
       exact r5
      obtain⟨i,g,hi,hg,rfl⟩:=hx;have hin:=hW.dom i g hi;exact q3.sF i g (by rw[hag.low (bV _)];exact hin) hin hi hg hk
    ·obtain⟨t1,t2,fn,t3,t4⟩:=e5;exact⟨t1,t2,e4,fn,t3,t4⟩
   ·cases e1
open Go.WideShapes Go.ChangeShapes
section
variable {H:Type} {enc:TypeId×Value->H}
variable{w w':World}
theorem aaB(hb:Below w.heap.size w w'){a:Addr}(ha:a.block<w.heap.size):w'.cell? a=w.cell? a:=by
 simp only[World.cell?,hb.block _ ha]
theorem aaC(hb:Below w.heap.size w w'){p:MemPlace}(hp:p.block<w.heap.size):w.sameAt w' p:=by
 cases p with
 |cell b off=>exact aaB hb hp
 |map b=>exact hb.block b hp
theorem QZ{T:TypeId->Prop}(K:Kids P T)(hsz:∀{t e:TypeId},T t->P.underlying t=some (.slice e)->0<P.cellsOf e){w w':World}(hb:Below w.heap.size w w'){sp:Nat->Bool}:∀{ts:List TypeId} {vs:List Value} {ds:List (DataW H)} {ps:List MemPlace},
 (∀t∈ts,T t)->DataW.TrodAll enc P w 0 (λ_=>true) true ts vs ds ps->(∀p∈ps,sp p.block=true)->DataW.TrodAll enc P w' 0 sp true ts vs ds ps
 |[],[],[],_,_,h,_=>h
 |t::_,v::_,d::_,_,hT,⟨p,q,⟨n,h1⟩,h2,e⟩,hs=>by
  refine⟨p,q,⟨n,?_⟩,QZ K hsz hb (λt ht=>hT t (dH.2 (.inr ht))) h2 (λx hx=>hs x (by rw[e];exact oF _ hx)),e⟩;exact DataW.trod_stays K hsz (λh=>by cases h) (hT t (dH.2 (.inl rfl))) h1 (λx hx=>aaC hb (DataW.trod_lt n _ _ _ h1 x hx)) (λx hx=>hs x (by rw[e];exact jW _ hx))
theorem aaD(hb:Below w.heap.size w w')(may:MemPlace->Prop):w.keptBut w' may:=by
 refine⟨hb.os,hb.output,λi hi=>?_⟩;rw[hb.block i hi];cases h:w.heap[i]? with
 |none=>rfl
 |some o=>cases o<;>simp
theorem aaE{f:Func}{s:ChangeSpec}{apart fresh handsOn again:Bool}{W W':World}{args:Array Value}{v:Value}{ds gs:List (DataW H)}{before pa pv:List MemPlace}
 (hW:DataW.Whole enc P f.params.toList s.vars apart W args.toList ds gs before)
 (hres:∀(b:Nat) (sp:Nat->Bool) (hd:Bool),DataW.TrodAll enc P W' b sp hd f.resultTypes.toList (v.resultList f.resultTypes.size) (s.fn H (ds++gs)).results [])
 (hargs:∀sp:Nat->Bool,(∀p∈before,sp p.block=true)->DataW.TrodAll enc P W' 0 sp true f.params.toList args.toList (s.fn H (ds++gs)).args pa)
 (hvars:∀sp:Nat->Bool,(∀p∈before,sp p.block=true)->DataW.TrodVars enc P W' sp s.vars (s.fn H (ds++gs)).vars pv)
 (hps:before=pa++pv) (hb:Below W.heap.size W W')
 (hok:∀(j:Nat) (t:TypeId) (r:Value),f.resultTypes[j]? =some t->(v.resultList f.resultTypes.size)[j]? =some r->Value.okWide P W' .any 0 t r):
 s.post enc P f apart fresh handsOn again W args v W':=by
 have hlt:=hW.lt;have hold:∀p∈before,(λb=>decide (b<W.heap.size)) p.block=true:=λp hp=>eY (hlt p hp);refine⟨ds,gs,before,[],pa,pv,hW,hres _ _ _,hargs _ hold,hvars _ hold,aaD hb _,λ_=>?_⟩;obtain⟨_,_,_,_,_,hz,hn⟩:=hW;refine⟨hok,_,_,([]++pa)++pv,⟨[]++pa,pv,trodAll_append (hargs _ (λ_ _=>rfl)) (hres _ _ _),hvars _ (λ_ _=>rfl),rfl,?_,?_⟩,?_⟩
 ·intro b off hp;have hm:MemPlace.cell b off∈before:=by rw[hps];simpa using hp
  have h1:b<W.heap.size:=hlt _ hm;have:=hz b off hm;simp only[World.frozen?,hb.block b h1]at this⊢;exact this
 ·intro ha;have:=hn ha;rw[hps]at this;simpa using this
 ·intro p hp _;rw[hps];simpa using hp
end
end Go.Ideal
namespace Go.Ideal
open Go.ChangeShapes Go.WideShapes Go.ChangeAt Go.RowKit
section
variable {H:Type} {enc:TypeId×Value->H} {P:Program} {W:World} {t e:TypeId}
end
