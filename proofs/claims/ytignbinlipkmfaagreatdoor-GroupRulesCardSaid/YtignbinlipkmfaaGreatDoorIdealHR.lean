/- Part. -/
import Derived.Test.YtignbinlipkmfaaGreatDoorIdealGR
import Derived.ChangeStays
import Derived.ChangeSame
import Derived.ChangeSlices
import Derived.ProofKit
set_option linter.all false
namespace Go.Ideal
variable {P:Program}
def At(h:IH)(b:Nat)(o:aN):Prop:=b<h.next/\h.get b=some o
structure Agree(h h':IH):Prop where
 next:h.next<=h'.next
 get:∀i,i<h.next->h'.get i=h.get i
 low:h.low<=h.next->h'.low=h.low
def Agree.refl(h:IH):Agree h h:=⟨bI _,λ_ _=>rfl,λ_=>rfl⟩
variable{h:IH}
def Agree.trans{h1 h2:IH}(a:Agree h h1)(b:Agree h1 h2):Agree h h2:=
 ⟨lV a.next b.next,λi hi=>(b.get i (pW hi a.next)).trans (a.get i hi),λhl=>(b.low (by rw[a.low hl];exact lV hl a.next)).trans (a.low hl)⟩
variable{h':IH}{b:Nat}
def At.agree{o:aN}(a:At h b o)(g:Agree h h'):At h' b o:=⟨pW a.1 g.next,(g.get b a.1).trans a.2⟩
def SB(h:IH)(o:aN):Agree h (h.new o):=⟨Dl _,λi hi=>by rw[IH.jA,if_neg tf],λ_=>rfl⟩
def SC(h:IH)(o:aN):At (h.new o) h.next o:=⟨zW _,by rw[IH.jA,if_pos rfl]⟩
structure awd(h h':IH)(b:Nat)(o:aN):Prop where
 next:h'.next=h.next
 get:∀i,i≠b->h'.get i=h.get i
 at_:At h' b o
 low:h.low<=b->h'.low=h.low
def Cells(h:IH)(b:Nat)(cs:ae ah):Prop:=b<h.next/\(h.get b=some (.cells cs)\/h.get b=some (.kR cs))
variable{cs:ae ah}
def At.cX(a:At h b (.cells cs)):Cells h b cs:=⟨a.1,.inl a.2⟩
def Cells.agree(a:Cells h b cs)(g:Agree h h'):Cells h' b cs:=⟨pW a.1 g.next,by rw[g.get b a.1];exact a.2⟩
def Cells.qM(a:Cells h b cs)(o:Nat):h.qM b o=cs[o]?:=by
 rcases a.2 with e|e<;>simp only[IH.qM,e,uo]
def Cells.iK(a:Cells h b cs)(o m:Nat):h.iK b o m=jW (kP cs o) m:=by
 rcases a.2 with e|e<;>simp only[IH.iK,e]
def Ao(h:IH)(v:ah)(xs:ae Int):Prop:=
 (xs=[]/\∃a m c,v=.slice a m c/\m=0)\/
 ∃i o f c cs,v=.slice (some ⟨i,o,some f⟩) xs.length c/\Cells h i cs/\∀(k:Nat) x,xs[k]? =some x->cs[o+k]? =some (.int .i64 x)
variable{v:ah}{xs:ae Int}
def Ao.agree(a:Ao h v xs)(g:Agree h h'):Ao h' v xs:=by
 rcases a with h1|⟨i,o,f,c,cs,h1,h2,h3⟩
 .exact .inl h1
 .exact .inr ⟨i,o,f,c,cs,h1,h2.agree g,h3⟩
def Ao.form(a:Ao h v xs):∃b c,v=.slice b xs.length c:=by
 exact nl
def bV(l:qr)(g:ak (Tmp×Bool)):Bool:=
 match g with
 |none=>true
 |some (t,w)=>match lk l t with
  | .bool b=>cond w b (!b)
  |_=>false
def SE(l:qr)(g:ak (Tmp×Bool)):Bool:=
 match g with
 |none=>false
 |some (t,w)=>match lk l t with
  | .bool b=>cond w (!b) b
  | .chan _=>true
  |_=>false
def Yr(n:Nat):goInt n=.int .i64 (n:Int):=rfl
section
variable {ds:ae Tmp} {rest:ae bW} {n:Nat} {l:qr} {D:ae Deferred} {pm:ak FrameMode} {ro:ak Nat} {h:IH} {K:KO} {d:Nat} {g:ak (Tmp×Bool)}
def zi(hg:bV l g=true):(act n l D pm ro).wants g=some true:=by
 cases g with
 |none=>rfl
 |some p=>
  rw[NJ];simp only[bV]at hg
  grind
def ai3(hn:Nat.blt d n=true)(hg:SE l g=true){op:aK}{re:ae iY}(next:aJ P ds rest (act n ((d,xJ)::l) D pm ro) h K):aJ P ds (⟨⟨some d,g,op⟩,re⟩::rest) (act n l D pm ro) h K:=by
 refine .skip ?_ xT;cases g with
 |none=>cases hg
 |some p=>
  rw[NJ];simp only[SE]at hg
  grind
variable{v:ah}{op:aK}{h':IH}
def lJ(hn:Nat.blt d n=true)(hg:bV l g=true)(hr:op.run P (ev l) h=some (v,h'))
 (next:aJ P ds rest (act n ((d,v)::l) D pm ro) h' K):aJ P ds (⟨⟨some d,g,op⟩,[]⟩::rest) (act n l D pm ro) h K:=
 .nC (zi hg) v h' wq xF xT
def NM(hg:bV l g=true)(hr:op.run P (ev l) h=some (v,h'))
 (next:aJ P ds rest (act n l D pm ro) h' K):aJ P ds (⟨⟨none,g,op⟩,[]⟩::rest) (act n l D pm ro) h K:=
 .nC (zi hg) v h' wq xF next
variable{x:az}{m c:Nat}
def Yt{a:ak Addr}(hn:Nat.blt d n=true)(hg:bV l g=true)(hx:ev l x=.slice a m c)
 (next:aJ P ds rest (act n ((d,.int .i64 (m:Int))::l) D pm ro) h K):aJ P ds (⟨⟨some d,g,.p9 x⟩,[]⟩::rest) (act n l D pm ro) h K:=
 lJ hn hg (by simp only[aK.run,hx,Yr]) next
def Ap(op:BinOp)(t:aF)(x y:az)(a b:Int)(v:ah)(hv:sw op .i64 a b=some v):ow P op t x y (.int .i64 a) (.int .i64 b)=some v:=by
 simp only[ow,BG,cond,hv]
def Yu{m:Int}(h1: -9223372036854775808<=m)(h2:m<9223372036854775808):Io .i64 m=m:=by
 rw[Np];exact IntWalk.i64_in m ⟨h1,tf⟩
variable{b:Nat}
def SF{a:Nat}(h:a<b):Nat.blt a b=true:=by simp only[vY];exact h
variable{o:Nat}
def NN{i:az}{size:Nat}{f:ak Nat}{k:Int}{kk:IntKind}(hn:Nat.blt d n=true)(hg:bV l g=true)(hx:ev l x=.slice (some ⟨b,o,f⟩) m c)(hi:ev l i=.int kk k)
 (h0:0<=k) (h1:k<m) (next:aJ P ds rest (act n ((d,.pointer (some ⟨b,o+k.toNat*size,none⟩))::l) D pm ro) h K):aJ P ds (⟨⟨some d,g,.jv size x i⟩,[]⟩::rest) (act n l D pm ro) h K:=by
 obtain⟨j,rfl⟩:=jK h0;refine lJ hn hg ?_ next
 simp only[aK.run,hx,hi];rw[SF tf];rfl
variable{cs:ae ah}
def Ji(hn:Nat.blt d n=true)(hg:bV l g=true)(hx:ev l x=.pointer (some ⟨b,o,none⟩))(ha:At h b (.cells cs))(hv:cs[o]? =some v)
 (next:aJ P ds rest (act n ((d,v)::l) D pm ro) h K):aJ P ds (⟨⟨some d,g,.fE x⟩,[]⟩::rest) (act n l D pm ro) h K:=
 lJ hn hg (by simp only[aK.run,hx,ha.cX.qM,hv]) next
def ai4{r:ae ah}(hn:Nat.blt d n=true)(hg:bV l g=true)(hx:ev l x=.pointer (some ⟨b,o,none⟩))(ha:At h b (.cells cs))(hv:jW (kP cs o) m=some r)
 (next:aJ P ds rest (act n ((d,.agg ⟨r⟩)::l) D pm ro) h K):aJ P ds (⟨⟨some d,g,.tX m x⟩,[]⟩::rest) (act n l D pm ro) h K:=
 lJ hn hg (by simp only[aK.run,hx,ha.cX.iK,hv]) next
def Yv:∀(cs:ae ah) (o:Nat) (v:ah),o<cs.length->jE cs o [v]=some (cs.set o v)
 |[],o,v,h=>by simp at h
 |c::cs,0,v,_=>by cases cs<;>rfl
 |c::cs,o+1,v,h=>by rw[Rm,Yv cs o v tw];rfl
def s_call{f:az}{args:ae az}{re:ae iY}(hn:Nat.blt d n=true)(hg:bV l g=true)(fn:Fn){first captured:ae ah}(hf:ev l f=.func fn ⟨first⟩ ⟨captured⟩)(M:KR)
 (hc:CALL P ⟨fn,first++args.map (ev l),captured,none⟩ h M)
 (hs:∀v h',M (.ok v) none h'->∀r∈re,∃u h2,r.op.run P (ev ((d,v)::l)) h'=some (u,h2)/\∀d',r.dst=some d'->lk ((d,v)::l) d'=u)
 (hok:∀v h',M (.ok v) none h'->aJ P ds rest (act n ((d,v)::l) D pm ro) h' K)
 (lI:∀ch h',M (.gT ch) none h'->K (.panic ch) (forget ds (act n l D pm ro)) h') (hno:∀r p h',M r p h'->p=none):aJ P ds (⟨⟨some d,g,.call f args⟩,re⟩::rest) (act n l D pm ro) h K:=by
 refine .call (zi hg) ⟨fn,first++args.map (ev l),captured,none⟩ (by simp only[Ac,qi,hf,jO,xN]) M hc ?_ ?_ ?_
 .intro v p h' hm r hr _;have:=hno _ _ _ hm;subst this;obtain⟨u,h2,e1,e2⟩:=hs v h' hm r hr;exact ia
 .intro v p h' hm;have:=hno _ _ _ hm;subst this;rw[sI hn];exact hok v h' hm
 grind
section
variable {a:bB} {x y:dH} {i j m0:Nat} {I:Nat->bB->IH->Prop} {ch:ae PanicEntry}
def ai5(e:Nat.beq j i=true)(k:K .normal a h):Am i K (.exit j) a h:=by
 have:=jR e;subst this;show K (inBlock j (.exit j)) a h;simp only[inBlock];rw[e];exact k
def ai6(e:Nat.beq j i=false)(k:K (.exit j) a h):Am i K (.exit j) a h:=by
 show K (inBlock i (.exit j)) a h;simp only[inBlock];rw[e];exact k
end
def ai7{l0:qr}{I:Nat->bB->IH->Prop}{m0:Nat}(m':Nat)(hlt:m'<m0)(hs:sub l0 l)(k:I m' (act n l0 D pm ro) h):x8 I m0 K .normal (act n l D pm ro) h:=
 ⟨m',_,hlt,Sy hs,k⟩
end
end Go.Ideal
namespace Go.Ideal
variable {P:Program}
section
variable {ds:ae Tmp} {rest:ae bW} {n:Nat} {l:qr} {D:ae Deferred} {pm:ak FrameMode} {ro:ak Nat} {h:IH} {K:KO} {d:Nat} {g:ak (Tmp×Bool)}
structure Cb(h h':IH)(b:Nat)(o:aN):Prop where
 next:h'.next=h.next+1
 get:∀i,i<h.next->i≠b->h'.get i=h.get i
 at_:At h' h.next o
 low:h.low<=b->h'.low=h.low
variable{b o m size bytes k:Nat}{x s:az}{e:aF}{xs:ae ah}
def SG{f:ak Nat}{old:ae ah}(hn:Nat.blt d n=true)(hg:bV l g=true)
 (hs:ev l s=.slice (some ⟨b,o,f⟩) m m) (hx:qb (ev l x)=some (k+1)) (hxs:oV size (k+1) (ev l x) h=some xs) (hold:h.iK b o (m*size)=some old)
 (hf:f=some 0\/f=some size) (hm:(m+(k+1))*bytes<=1073741824/\(m+(k+1))*size<=1073741824/\m+(k+1)<=1073741824)
 (next:∀h',Cb h h' b (.cells (old++xs))->aJ P ds rest (act n ((d,.slice (some ⟨h.next,0,some size⟩) (m+(k+1)) (m+(k+1)))::l) D pm ro) h' K):
 aJ P ds (⟨⟨some d,g,.append e size bytes s x⟩,[]⟩::rest) (act n l D pm ro) h K:=by
 have hle:∀{a b:Nat},a<=b->Nat.ble a b=true:=λh=>by rw[tN];exact h
 have hlt:Nat.ble (m+(k+1)) m=false:=by
  exact pN
 have hc:(Nat.ble (Nat.mul (m+(k+1)) bytes) small&&Nat.ble (Nat.mul (m+(k+1)) size) small&&Nat.ble (m+(k+1)) small)=true:=by
  exact iz
 have hrun:∃h',(aK.append e size bytes s x).run P (ev l) h=some (.slice (some ⟨h.next,0,some size⟩) (m+(k+1)) (m+(k+1)),h')/\Cb h h' b (.cells (old++xs)):=by
  exact cD
 obtain⟨h',hr,hM⟩:=hrun;exact lJ hn hg hr (next h' hM)
def Yw{c:Nat}(hn:Nat.blt d n=true)(hg:bV l g=true)
 (hs:ev l s=.slice none 0 0) (hx:qb (ev l x)=some (k+1)) (hxs:oV size (k+1) (ev l x) h=some xs)
 (hm:(k+1)*bytes<=1073741824/\(k+1)*size<=1073741824/\(k+1)<=1073741824)
 (next:∀h',Agree h h'->At h' h.next (.cells xs)->h'.next=h.next+1->aJ P ds rest (act n ((d,.slice (some ⟨h.next,0,some size⟩) (k+1) (k+1))::l) D pm ro) h' K):
 aJ P ds (⟨⟨some d,g,.append e size bytes s x⟩,[]⟩::rest) (act n l D pm ro) h K:=by
 have hle:∀{a b:Nat},a<=b->Nat.ble a b=true:=λh=>by rw[tN];exact h
 have e0:Nat.add 0 (k+1)=k+1:=gI _;refine lJ hn hg ?_ (next _ (SB _ _) (SC _ _) rfl);have DZ:yZ size (k+1) (ev l x) h=some xs:=hxs;simp only[aK.run,hx,DZ,hs,z8,e0];rw[hle (show Nat.mul (k+1) bytes<=small from hm.1),hle (show Nat.mul (k+1) size<=small from hm.2.1),hle (show k+1<=small from hm.2.2)];have e1:oV size 0 (.slice none 0 0) h=some []:=by
  rfl
 have e2:Nat.ble (k+1) 0=false:=rfl;simp only[Bool.and_self,cond_true,e2,cond_false,e1,jO,dP]
variable{cs r:ae ah}
def At.qa(a:At h b (.cells cs))(hr:jW (kP cs o) m=some r):h.qa b o m=some r:=by
 simp only[IH.qa,a.2,hr]
def Yx(x:ah):∀n,zeros [x] n=List.replicate n x
 |0=>rfl
 |n+1=>by
  show lX [x] (zeros [x] n)=_;rw[Yx x n];rfl
def At.iK(a:At h b (.cells cs))(hr:jW (kP cs o) m=some r):h.iK b o m=some r:=by
 rw[a.cX.iK,hr]
def D5(ds:ae Tmp)(n:Nat)(l:qr):qr:=
 match ds with
 |[]=>l
 |d::ds=>D5 ds n (cond (Nat.blt d n) ((d,eO)::l) l)
def NP:∀(ds:ae Tmp) (l:qr),forget ds (act n l D pm ro)=act n (D5 ds n l) D pm ro
 |[],l=>rfl
 |d::ds,l=>by
  show forget ds ((act n l D pm ro).set d eO)=_;simp only[D5];cases hb:Nat.blt d n with
  |true=>
   rw[show(act n l D pm ro).set d eO=act n ((d,eO)::l) D pm ro from sI hb];exact NP ds _
  |false=>
   rw[show(act n l D pm ro).set d eO=act n l D pm ro by simp only[bB.set,act,hb,cond]];exact NP ds _
def ai8{t:aF}{v:ah}{dst:ak Tmp}{re:ae iY}(hg:bV l g=true)(hx:ev l x=.iface t v)
 (hk:K (.panic [{v:=.iface t v,recovered:=false}]) (act n (D5 ds n l) D pm ro) h):aJ P ds (⟨⟨dst,g,.panic x⟩,re⟩::rest) (act n l D pm ro) h K:=
 .panic (zi hg) x rfl t v (by rw[qi];exact hx) (by rw[NP];exact hk)
def ai9{f:az}{args:ae az}{fn:Fn}{first captured:ae ah}(hg:bV l g=true)(hro:ro=none)(hf:ev l f=.func fn ⟨first⟩ ⟨captured⟩)
 (next:aJ P ds rest (act n l ({target:=.fn fn ⟨captured⟩,args:=⟨first++args.map (ev l)⟩}::D) pm ro) h K):aJ P ds (⟨⟨none,g,.dcall f args⟩,[]⟩::rest) (act n l D pm ro) h K:=by
 refine .defer (zi hg) f args rfl rfl hro fn first captured (by rw[qi];exact hf) ?_
 rw[qi];rw[<- jO,<- xN]at next
 exact next
def aja{m:FrameMode}(hn:Nat.blt d n=true)(hg:bV l g=true)(hro:ro=none)
 (next:aJ P ds rest (act n ((d,(mI m).1)::l) D (some (mI m).2) ro) h K):aJ P ds (⟨⟨some d,g,.recover⟩,[]⟩::rest) (act n l D (some m) ro) h K:=by
 refine .recoverD (zi hg) rfl rfl m rfl hro ?_;have:({act n l D (some m) ro with pm:=some (mI m).2})=act n l D (some (mI m).2) ro:=rfl;rw[this,sI hn];exact next
def Yy{f:fI}{args cap:ae ah}{pm:ak FrameMode}{h:IH}{K:KR}(cf:iL)(fn:Func)(hf:P.funcs[f]? =some fn)(hcf:xL P fn=some cf)
 (hb:EV P cf.body (DI cf.ntmps (args++cap) pm) h (λo a h'=>match xM o with
   |none=>False
   |some m=>LEAVE P cf a.tmps a.defers m h' λr h''=>K r a.pm h'')):CALL P ⟨.func f,args,cap,pm⟩ h K:=by
 refine .enter f (args++cap) (by simp only[target,jO]) fn hf cf hcf _ hb ?_ ?_
 .grind
 grind
end
end Go.Ideal
namespace Go.Ideal
open Go.RowKit
variable {P:Program}
noncomputable def Gd:Nat->ae (ak (ae ah))->T aN
 |_,[]=>.leaf
 |i,c::l=>(Gd (i+1) l).set i (c.map .kR)
def Yz:∀(l:ae (ak (ae ah))) (i j:Nat),(Gd i l).get j=if i<=j then(l[j - i]?).bind (λc=>c.map .kR)else none
 |[],i,j=>by simp[Gd,T.IB]
 |c::l,i,j=>by
  simp only[Gd,T.mJ];by_cases e:j=i
  .subst e;simp
  .rw[Yz l (i+1) j]
   grind
abbrev Lay:=ae (ak jf×ak (ae ah))
noncomputable def l7(L:Lay):IH:=⟨Gd 0 (L.map (·.2)),L.length,L.length⟩
def kV(L:Lay):aI:=λi=>(L[i]?).bind (·.1)
def SH(L:Lay)(i:Nat):(l7 L).get i=(L[i]?).bind λp=>p.2.map .kR:=by
 show(Gd 0 (L.map (·.2))).get i=_;rw[Yz,dZ];cases L[i]?<;>rfl
variable{L:Lay}
def ajb{i:Nat}{g:ak jf}{cs:ae ah}(h:L[i]? =some (g,some cs)):Cells (l7 L) i cs:=
 ⟨(bJ.1 h).1,.inr (by rw[SH,h];rfl)⟩
structure Gf(L:Lay)(w:World)(g:jf)(cs:List Value):Prop where
 block:∃c t fz,w.heap[g.b]? =some (.cells c t fz)/\(g.top=0\/c.size=g.top)
 sz:g.sz=0
 all:cs.all cellV=true
 cell:∀(j:Nat) v,cs[j]? =some v->∃v',w.cell? ⟨g.b,g.off+j,none⟩=some v'/\VR (kV L) v v'
def ajc{w:World}(hL:∀(i:Nat) g cs,L[i]? =some (some g,some cs)->Gf L w g cs):WR P (kV L) (l7 L) w:=by
 have hb:∀i g,kV L i=some g->∃cs,L[i]? =some (some g,cs):=λi g h=>by
  unfold kV at h
  grind
 have hlive:∀i o,(l7 L).get i=some o->∃g cs,L[i]? =some (g,some cs)/\o=.kR cs:=λi o h=>by
  rw[SH]at h;cases e:L[i]? with
  |none=>rw[e]at h;cases h
  |some p=>
   obtain⟨g,c⟩:=p;rw[e]at h;cases c with
   |none=>cases h
   |some cs=>grind
 refine⟨?_,?_,?_,?_⟩
 .intro i g h;obtain⟨cs,e⟩:=hb i g h;exact(bJ.1 e).1
 .intro i o h;obtain⟨g,cs,e,_⟩:=hlive i o h;exact(bJ.1 e).1
 .intro i g o h ho;obtain⟨c,e⟩:=hb i g h;obtain⟨g',cs,e',rfl⟩:=hlive i o ho;rw[e]at e';cases e';have k:=hL i g cs e;exact⟨k.block,k.sz,k.all,k.cell⟩
 .intro i j g k hi hj hgi hgj hr he
  exfalso
  rcases hr with q|q
  .cases e:(l7 L).get i with
   |none=>exact hgi e
   |some o=>
    grind
  .cases e:(l7 L).get j with
   |none=>exact hgj e
   |some o=>
    grind
open Go.WideShapes Go.ChangeShapes
section
variable {H:Type} {enc:aF×ah->H}
variable{w w':World}
def ajd(hb:Below w.heap.size w w'){a:Addr}(ha:a.block<w.heap.size):w'.cell? a=w.cell? a:=by
 simp only[World.cell?,hb.block _ ha]
def aje(hb:Below w.heap.size w w'){p:MemPlace}(hp:p.block<w.heap.size):w.sameAt w' p:=by
 cases p with
 |cell b off=>exact ajd hb hp
 |map b=>exact hb.block b hp
def YA{T:aF->Prop}(K:Kids P T)(hsz:∀{t e:aF},T t->P.underlying t=some (.slice e)->0<P.cellsOf e){w w':World}(hb:Below w.heap.size w w'){sp:Nat->Bool}:∀{ts:ae aF} {vs:ae ah} {ds:ae (DataW H)} {ps:ae MemPlace},
 (∀t∈ts,T t)->DataW.TrodAll enc P w 0 (λ_=>true) true ts vs ds ps->(∀p∈ps,sp p.block=true)->DataW.TrodAll enc P w' 0 sp true ts vs ds ps
 |[],[],[],_,_,h,_=>h
 |t::_,v::_,d::_,_,hT,⟨p,q,⟨n,h1⟩,h2,e⟩,hs=>by
  refine⟨p,q,⟨n,?_⟩,YA K hsz hb (by grind) h2 (by grind),e⟩;exact DataW.trod_stays K hsz (λh=>by cases h) (by grind) h1 (λx hx=>aje hb (DataW.trod_lt n _ _ _ h1 x hx)) (by grind)
def ajf(hb:Below w.heap.size w w')(may:MemPlace->Prop):w.keptBut w' may:=by
 refine⟨hb.os,hb.output,λi hi=>?_⟩;rw[hb.block i hi]
 grind
def ajg{f:Func}{s:ChangeSpec}{apart fresh handsOn again:Bool}{W W':World}{args:Array ah}{v:ah}{ds gs:ae (DataW H)}{before pa pv:ae MemPlace}
 (hW:DataW.Whole enc P f.params.toList s.vars apart W args.toList ds gs before)
 (hres:∀(b:Nat) (sp:Nat->Bool) (hd:Bool),DataW.TrodAll enc P W' b sp hd f.resultTypes.toList (v.resultList f.resultTypes.size) (s.fn H (ds++gs)).results [])
 (hargs:∀sp:Nat->Bool,(∀p∈before,sp p.block=true)->DataW.TrodAll enc P W' 0 sp true f.params.toList args.toList (s.fn H (ds++gs)).args pa)
 (hvars:∀sp:Nat->Bool,(∀p∈before,sp p.block=true)->DataW.TrodVars enc P W' sp s.vars (s.fn H (ds++gs)).vars pv)
 (hps:before=pa++pv) (hb:Below W.heap.size W W')
 (hok:∀(j:Nat) (t:aF) (r:ah),f.resultTypes[j]? =some t->(v.resultList f.resultTypes.size)[j]? =some r->Value.okWide P W' .any 0 t r):
 s.post enc P f apart fresh handsOn again W args v W':=by
 have hlt:=hW.lt;have hold:=λp hp=>dQ (hlt p hp);refine⟨ds,gs,before,[],pa,pv,hW,hres _ _ _,hargs _ hold,hvars _ hold,ajf hb _,λ_=>?_⟩;obtain⟨_,_,_,_,_,hz,hn⟩:=hW;refine⟨hok,_,_,([]++pa)++pv,⟨[]++pa,pv,trodAll_append (hargs _ (λ_ _=>rfl)) (hres _ _ _),hvars _ (λ_ _=>rfl),rfl,?_,?_⟩,?_⟩
 .intro b off hp;have hm:MemPlace.cell b off∈before:=by rw[hps];simpa using hp
  have h1:=hlt _ hm;have:=hz b off hm;simp only[World.frozen?,hb.block b h1]at this⊢;exact this
 .intro ha;have:=hn ha;rw[hps]at this;simpa using this
 .intro p hp _;rw[hps];simpa using hp
end
end Go.Ideal
namespace Go.Ideal
open Go.ChangeShapes Go.WideShapes Go.ChangeAt Go.RowKit
section
variable {H:Type} {enc:aF×ah->H} {P:Program} {W:World} {t e:aF}
end
