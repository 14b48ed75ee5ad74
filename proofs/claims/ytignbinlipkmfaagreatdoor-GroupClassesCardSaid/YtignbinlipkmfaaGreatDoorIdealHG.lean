/- Part. -/
import Derived.Test.YtignbinlipkmfaaGreatDoorIdealGG
import Derived.ChangeStays
import Derived.ChangeSame
import Derived.ChangeSlices
import Derived.ProofKit
set_option linter.all false
namespace Go.Ideal
variable {P:Program}
def At(h:IH)(b:Nat)(o:bG):Prop:=b<h.next/\h.get b=some o
structure Agree(h h':IH):Prop where
 next:h.next<=h'.next
 get:∀i,i<h.next->h'.get i=h.get i
 low:h.low<=h.next->h'.low=h.low
def Agree.refl(h:IH):Agree h h:=⟨bz _,λ_ _=>rfl,λ_=>rfl⟩
variable{h:IH}
def Agree.trans{h1 h2:IH}(a:Agree h h1)(b:Agree h1 h2):Agree h h2:=
 ⟨mh a.next b.next,λi hi=>(b.get i (nC hi a.next)).trans (a.get i hi),λhl=>(b.low (by rw[a.low hl];exact mh hl a.next)).trans (a.low hl)⟩
variable{h':IH}{b:Nat}
def At.agree{o:bG}(a:At h b o)(g:Agree h h'):At h' b o:=⟨nC a.1 g.next,(g.get b a.1).trans a.2⟩
def OJ(h:IH)(o:bG):Agree h (h.new o):=⟨zI _,λi hi=>by rw[IH.iM,if_neg p0],λ_=>rfl⟩
def OL(h:IH)(o:bG):At (h.new o) h.next o:=⟨x9 _,by rw[IH.iM,if_pos rfl]⟩
structure arb(h h':IH)(b:Nat)(o:bG):Prop where
 next:h'.next=h.next
 get:∀i,i≠b->h'.get i=h.get i
 at_:At h' b o
 low:h.low<=b->h'.low=h.low
def Cells(h:IH)(b:Nat)(cs:ae ah):Prop:=b<h.next/\(h.get b=some (.cells cs)\/h.get b=some (.jq cs))
variable{cs:ae ah}
def At.c(a:At h b (.cells cs)):Cells h b cs:=⟨a.1,.inl a.2⟩
def Cells.agree(a:Cells h b cs)(g:Agree h h'):Cells h' b cs:=⟨nC a.1 g.next,by rw[g.get b a.1];exact a.2⟩
def Cells.pu(a:Cells h b cs)(o:Nat):h.pu b o=cs[o]?:=by
 rcases a.2 with e|e<;>simp only[IH.pu,e,rP]
def Cells.iq(a:Cells h b cs)(o m:Nat):h.iq b o m=jh (jU cs o) m:=by
 rcases a.2 with e|e<;>simp only[IH.iq,e]
def yO(h:IH)(v:ah)(xs:ae Int):Prop:=
 (xs=[]/\∃a m c,v=.slice a m c/\m=0)\/
 ∃i o f c cs,v=.slice (some ⟨i,o,some f⟩) xs.length c/\Cells h i cs/\∀(k:Nat) x,xs[k]? =some x->cs[o+k]? =some (.int .i64 x)
variable{v:ah}{xs:ae Int}
def yO.agree(a:yO h v xs)(g:Agree h h'):yO h' v xs:=by
 rcases a with h1|⟨i,o,f,c,cs,h1,h2,h3⟩
 .exact .inl h1
 .exact .inr ⟨i,o,f,c,cs,h1,h2.agree g,h3⟩
def yO.form(a:yO h v xs):∃b c,v=.slice b xs.length c:=by
 exact i6
def bK(l:qr)(g:aj (Tmp×Bool)):Bool:=
 match g with
 |none=>true
 |some (t,w)=>match lk l t with
  | .bool b=>cond w b (!b)
  |_=>false
def OM(l:qr)(g:aj (Tmp×Bool)):Bool:=
 match g with
 |none=>false
 |some (t,w)=>match lk l t with
  | .bool b=>cond w (!b) b
  | .chan _=>true
  |_=>false
def UZ(n:Nat):goInt n=.int .i64 (n:Int):=rfl
section
variable {ds:ae Tmp} {rest:ae bJ} {n:Nat} {l:qr} {D:ae Deferred} {pm:aj FrameMode} {ro:aj Nat} {h:IH} {K:KO} {d:Nat} {g:aj (Tmp×Bool)}
def xA(hg:bK l g=true):(act n l D pm ro).wants g=some true:=by
 cases g with
 |none=>rfl
 |some p=>
  obtain⟨t,w⟩:=p;rw[Jz];simp only[bK]at hg;split at hg
  .rename_i b hb;rw[hb];simp only[hg]
  .cases hg
def afA(hn:Nat.blt d n=true)(hg:OM l g=true){op:aF}{re:ae iy}(next:aK P ds rest (act n ((d,um)::l) D pm ro) h K):aK P ds (⟨⟨some d,g,op⟩,re⟩::rest) (act n l D pm ro) h K:=by
 refine .skip ?_ tw;show(act n l D pm ro).wants g=some false;cases g with
 |none=>cases hg
 |some p=>
  obtain⟨t,w⟩:=p;rw[Jz];simp only[OM]at hg;split at hg
  .rename_i b hb;rw[hb];cases w<;>cases b<;>simp_all
  .rename_i b hb;rw[hb]
  .cases hg
variable{v:ah}{op:aF}{h':IH}
def lG(hn:Nat.blt d n=true)(hg:bK l g=true)(hr:op.run P (ev l) h=some (v,h'))
 (next:aK P ds rest (act n ((d,v)::l) D pm ro) h' K):aK P ds (⟨⟨some d,g,op⟩,[]⟩::rest) (act n l D pm ro) h K:=
 .lZ (xA hg) v h' ta tv tw
def JC(hg:bK l g=true)(hr:op.run P (ev l) h=some (v,h'))
 (next:aK P ds rest (act n l D pm ro) h' K):aK P ds (⟨⟨none,g,op⟩,[]⟩::rest) (act n l D pm ro) h K:=
 .lZ (xA hg) v h' ta tv next
variable{x:ak}{m c:Nat}
def U0{a:aj Addr}(hn:Nat.blt d n=true)(hg:bK l g=true)(hx:ev l x=.slice a m c)
 (next:aK P ds rest (act n ((d,.int .i64 (m:Int))::l) D pm ro) h K):aK P ds (⟨⟨some d,g,.yz x⟩,[]⟩::rest) (act n l D pm ro) h K:=
 lG hn hg (by simp only[aF.run,hx,UZ]) next
def yP(op:BinOp)(t:aB)(x y:ak)(a b:Int)(v:ah)(hv:nS op .i64 a b=some v):ku P op t x y (.int .i64 a) (.int .i64 b)=some v:=by
 simp only[ku,qD,cond,hv]
def U4{m:Int}(h1: -9223372036854775808<=m)(h2:m<9223372036854775808):FH .i64 m=m:=by
 rw[Jj];exact IntWalk.i64_in m ⟨h1,p0⟩
variable{b:Nat}
def OO{a:Nat}(h:a<b):Nat.blt a b=true:=by simp only[uj];exact h
variable{o:Nat}
def OP{i:ak}{size:Nat}{f:aj Nat}{k:Int}{kk:IntKind}(hn:Nat.blt d n=true)(hg:bK l g=true)(hx:ev l x=.slice (some ⟨b,o,f⟩) m c)(hi:ev l i=.int kk k)
 (h0:0<=k) (h1:k<m) (next:aK P ds rest (act n ((d,.pointer (some ⟨b,o+k.toNat*size,none⟩))::l) D pm ro) h K):aK P ds (⟨⟨some d,g,.oz size x i⟩,[]⟩::rest) (act n l D pm ro) h K:=by
 obtain⟨j,rfl⟩:=iQ h0;refine lG hn hg ?_ next
 simp only[aF.run,hx,hi];show cond (Nat.blt j m) _ _=_;rw[OO p0];rfl
variable{cs:ae ah}
def JD(hn:Nat.blt d n=true)(hg:bK l g=true)(hx:ev l x=.pointer (some ⟨b,o,none⟩))(ha:At h b (.cells cs))(hv:cs[o]? =some v)
 (next:aK P ds rest (act n ((d,v)::l) D pm ro) h K):aK P ds (⟨⟨some d,g,.gJ x⟩,[]⟩::rest) (act n l D pm ro) h K:=
 lG hn hg (by simp only[aF.run,hx,ha.c.pu,hv]) next
def afB{r:ae ah}(hn:Nat.blt d n=true)(hg:bK l g=true)(hx:ev l x=.pointer (some ⟨b,o,none⟩))(ha:At h b (.cells cs))(hv:jh (jU cs o) m=some r)
 (next:aK P ds rest (act n ((d,.agg ⟨r⟩)::l) D pm ro) h K):aK P ds (⟨⟨some d,g,.rA m x⟩,[]⟩::rest) (act n l D pm ro) h K:=
 lG hn hg (by simp only[aF.run,hx,ha.c.iq,hv]) next
def U5:∀(cs:ae ah) (o:Nat) (v:ah),o<cs.length->iZ cs o [v]=some (cs.set o v)
 |[],o,v,h=>by simp at h
 |c::cs,0,v,_=>by rw[Jd];cases cs<;>rfl
 |c::cs,o+1,v,h=>by rw[Nz,U5 cs o v qS];rfl
def s_call{f:ak}{args:ae ak}{re:ae iy}(hn:Nat.blt d n=true)(hg:bK l g=true)(fn:Fn){first captured:ae ah}(hf:ev l f=.func fn ⟨first⟩ ⟨captured⟩)(M:KR)
 (hc:CALL P ⟨fn,first++args.map (ev l),captured,none⟩ h M)
 (hs:∀v h',M (.ok v) none h'->∀r∈re,∃u h2,r.op.run P (ev ((d,v)::l)) h'=some (u,h2)/\∀d',r.dst=some d'->lk ((d,v)::l) d'=u)
 (hok:∀v h',M (.ok v) none h'->aK P ds rest (act n ((d,v)::l) D pm ro) h' K)
 (jv:∀ch h',M (.fD ch) none h'->K (.panic ch) (forget ds (act n l D pm ro)) h') (hno:∀r p h',M r p h'->p=none):aK P ds (⟨⟨some d,g,.call f args⟩,re⟩::rest) (act n l D pm ro) h K:=by
 refine .call (xA hg) ⟨fn,first++args.map (ev l),captured,none⟩ (by simp only[yD,nX,hf,jc,vN]) M hc ?_ ?_ ?_
 .intro v p h' hm r hr _;have:=hno _ _ _ hm;subst this;obtain⟨u,h2,e1,e2⟩:=hs v h' hm r hr;exact eN
 .intro v p h' hm;have:=hno _ _ _ hm;subst this;rw[qI hn];exact hok v h' hm
 .intro ch p h' hm;have:=hno _ _ _ hm;subst this;exact jv ch h' hm
section
variable {a:aU} {x y:cK} {i j m0:Nat} {I:Nat->aU->IH->Prop} {ch:ae PanicEntry}
def afC(e:Nat.beq j i=true)(k:K .normal a h):yN i K (.exit j) a h:=by
 have:j=i:=jg e;subst this;show K (inBlock j (.exit j)) a h;simp only[inBlock];rw[e];exact k
def afD(e:Nat.beq j i=false)(k:K (.exit j) a h):yN i K (.exit j) a h:=by
 show K (inBlock i (.exit j)) a h;simp only[inBlock];rw[e];exact k
end
def afE{l0:qr}{I:Nat->aU->IH->Prop}{m0:Nat}(m':Nat)(hlt:m'<m0)(hs:sub l0 l)(k:I m' (act n l0 D pm ro) h):wm I m0 K .normal (act n l D pm ro) h:=
 ⟨m',_,hlt,OG hs,k⟩
end
end Go.Ideal
namespace Go.Ideal
variable {P:Program}
section
variable {ds:ae Tmp} {rest:ae bJ} {n:Nat} {l:qr} {D:ae Deferred} {pm:aj FrameMode} {ro:aj Nat} {h:IH} {K:KO} {d:Nat} {g:aj (Tmp×Bool)}
structure Ap(h h':IH)(b:Nat)(o:bG):Prop where
 next:h'.next=h.next+1
 get:∀i,i<h.next->i≠b->h'.get i=h.get i
 at_:At h' h.next o
 low:h.low<=b->h'.low=h.low
variable{b o m size bytes k:Nat}{x s:ak}{e:aB}{xs:ae ah}
def OQ{f:aj Nat}{old:ae ah}(hn:Nat.blt d n=true)(hg:bK l g=true)
 (hs:ev l s=.slice (some ⟨b,o,f⟩) m m) (hx:oD (ev l x)=some (k+1)) (hxs:nG size (k+1) (ev l x) h=some xs) (hold:h.iq b o (m*size)=some old)
 (hf:f=some 0\/f=some size) (hm:(m+(k+1))*bytes<=1073741824/\(m+(k+1))*size<=1073741824/\m+(k+1)<=1073741824)
 (next:∀h',Ap h h' b (.cells (old++xs))->aK P ds rest (act n ((d,.slice (some ⟨h.next,0,some size⟩) (m+(k+1)) (m+(k+1)))::l) D pm ro) h' K):
 aK P ds (⟨⟨some d,g,.append e size bytes s x⟩,[]⟩::rest) (act n l D pm ro) h K:=by
 have hle:∀{a b:Nat},a<=b->Nat.ble a b=true:=λh=>by rw[sO];exact h
 have hlt:Nat.ble (m+(k+1)) m=false:=by
  exact mN
 have hc:(Nat.ble (Nat.mul (m+(k+1)) bytes) small&&Nat.ble (Nat.mul (m+(k+1)) size) small&&Nat.ble (m+(k+1)) small)=true:=by
  exact e9
 have hrun:∃h',(aF.append e size bytes s x).run P (ev l) h=some (.slice (some ⟨h.next,0,some size⟩) (m+(k+1)) (m+(k+1)),h')/\Ap h h' b (.cells (old++xs)):=by
  exact cj
 obtain⟨h',hr,hM⟩:=hrun;exact lG hn hg hr (next h' hM)
def U6{c:Nat}(hn:Nat.blt d n=true)(hg:bK l g=true)
 (hs:ev l s=.slice none 0 0) (hx:oD (ev l x)=some (k+1)) (hxs:nG size (k+1) (ev l x) h=some xs)
 (hm:(k+1)*bytes<=1073741824/\(k+1)*size<=1073741824/\(k+1)<=1073741824)
 (next:∀h',Agree h h'->At h' h.next (.cells xs)->h'.next=h.next+1->aK P ds rest (act n ((d,.slice (some ⟨h.next,0,some size⟩) (k+1) (k+1))::l) D pm ro) h' K):
 aK P ds (⟨⟨some d,g,.append e size bytes s x⟩,[]⟩::rest) (act n l D pm ro) h K:=by
 have hle:∀{a b:Nat},a<=b->Nat.ble a b=true:=λh=>by rw[sO];exact h
 have e0:Nat.add 0 (k+1)=k+1:=eB _;refine lG hn hg (h':=h.new (.cells xs)) ?_ (next _ (OJ _ _) (OL _ _) rfl);have Cf:yA size (k+1) (ev l x) h=some xs:=hxs;simp only[aF.run,hx,Cf,hs,w9,e0];rw[hle (show Nat.mul (k+1) bytes<=small from hm.1),hle (show Nat.mul (k+1) size<=small from hm.2.1),hle (show k+1<=small from hm.2.2)];have e1:nG size 0 (.slice none 0 0) h=some []:=by
  exact ox
 have e2:Nat.ble (k+1) 0=false:=rfl;simp only[Fu,cond_true,e2,cond_false,e1,jc,dW]
variable{cs r:ae ah}
def At.nR(a:At h b (.cells cs))(hr:jh (jU cs o) m=some r):h.nR b o m=some r:=by
 simp only[IH.nR,a.2,hr]
def U7(x:ah):∀n,zeros [x] n=List.replicate n x
 |0=>rfl
 |n+1=>by
  show kF [x] (zeros [x] n)=_;rw[U7 x n,jc];rfl
def At.iq(a:At h b (.cells cs))(hr:jh (jU cs o) m=some r):h.iq b o m=some r:=by
 rw[a.c.iq,hr]
def Cg(ds:ae Tmp)(n:Nat)(l:qr):qr:=
 match ds with
 |[]=>l
 |d::ds=>Cg ds n (cond (Nat.blt d n) ((d,dH)::l) l)
def JE:∀(ds:ae Tmp) (l:qr),forget ds (act n l D pm ro)=act n (Cg ds n l) D pm ro
 |[],l=>rfl
 |d::ds,l=>by
  show forget ds ((act n l D pm ro).set d dH)=_;simp only[Cg];cases hb:Nat.blt d n with
  |true=>
   rw[show(act n l D pm ro).set d dH=act n ((d,dH)::l) D pm ro from qI hb];exact JE ds _
  |false=>
   rw[show(act n l D pm ro).set d dH=act n l D pm ro by simp only[aU.set,act,hb,cond]];exact JE ds _
def afF{t:aB}{v:ah}{dst:aj Tmp}{re:ae iy}(hg:bK l g=true)(hx:ev l x=.iface t v)
 (hk:K (.panic [{v:=.iface t v,recovered:=false}]) (act n (Cg ds n l) D pm ro) h):aK P ds (⟨⟨dst,g,.panic x⟩,re⟩::rest) (act n l D pm ro) h K:=
 .panic (xA hg) x rfl t v (by rw[nX];exact hx) (by rw[JE];exact hk)
def afG{f:ak}{args:ae ak}{fn:Fn}{first captured:ae ah}(hg:bK l g=true)(hro:ro=none)(hf:ev l f=.func fn ⟨first⟩ ⟨captured⟩)
 (next:aK P ds rest (act n l ({target:=.fn fn ⟨captured⟩,args:=⟨first++args.map (ev l)⟩}::D) pm ro) h K):aK P ds (⟨⟨none,g,.dcall f args⟩,[]⟩::rest) (act n l D pm ro) h K:=by
 refine .defer (xA hg) f args rfl rfl hro fn first captured (by rw[nX];exact hf) ?_
 rw[nX];rw[<- jc,<- vN]at next
 exact next
def afH{m:FrameMode}(hn:Nat.blt d n=true)(hg:bK l g=true)(hro:ro=none)
 (next:aK P ds rest (act n ((d,(jV m).1)::l) D (some (jV m).2) ro) h K):aK P ds (⟨⟨some d,g,.recover⟩,[]⟩::rest) (act n l D (some m) ro) h K:=by
 refine .recoverD (xA hg) rfl rfl m rfl hro ?_;have:({act n l D (some m) ro with pm:=some (jV m).2}:aU)=act n l D (some (jV m).2) ro:=rfl;rw[this,qI hn];exact next
def U8{f:eD}{args cap:ae ah}{pm:aj FrameMode}{h:IH}{K:KR}(cf:gK)(fn:Func)(hf:P.funcs[f]? =some fn)(hcf:vJ P fn=some cf)
 (hb:EV P cf.body (BP cf.ntmps (args++cap) pm) h (λo a h'=>match vK o with
   |none=>False
   |some m=>LEAVE P cf a.tmps a.defers m h' λr h''=>K r a.pm h'')):CALL P ⟨.func f,args,cap,pm⟩ h K:=by
 refine .enter f (args++cap) (by simp only[target,jc]) fn hf cf hcf _ hb ?_ ?_
 .intro o a h hm e;rw[e]at hm;exact hm
 .intro o a h' m hm he;rw[he]at hm;exact hm
end
end Go.Ideal
namespace Go.Ideal
open Go.RowKit
variable {P:Program}
noncomputable def Ec:Nat->ae (aj (ae ah))->T bG
 |_,[]=>.leaf
 |i,c::l=>(Ec (i+1) l).set i (c.map .jq)
def U9:∀(l:ae (aj (ae ah))) (i j:Nat),(Ec i l).get j=if i<=j then(l[j - i]?).bind (λc=>c.map .jq)else none
 |[],i,j=>by simp[Ec,T.FQ]
 |c::l,i,j=>by
  simp only[Ec,T.lC];by_cases e:j=i
  .subst e;simp
  .rw[if_neg e,U9 l (i+1) j];by_cases h:i<=j
   .rw[if_pos p0,if_pos h];obtain⟨k,hk⟩:∃k,j - i=k+1:=⟨j - i - 1,p0⟩
    rw[hk,ru,show j - (i+1)=k by omega]
   .rw[if_neg p0,if_neg h]
abbrev Lay:=ae (aj iC×aj (ae ah))
noncomputable def kU(L:Lay):IH:=⟨Ec 0 (L.map (·.2)),L.length,L.length⟩
def jX(L:Lay):aD:=λi=>(L[i]?).bind (·.1)
def OT(L:Lay)(i:Nat):(kU L).get i=(L[i]?).bind λp=>p.2.map .jq:=by
 show(Ec 0 (L.map (·.2))).get i=_;rw[U9,if_pos (bS _),yg,bU];cases L[i]?<;>rfl
variable{L:Lay}
def afI{i:Nat}{g:aj iC}{cs:ae ah}(h:L[i]? =some (g,some cs)):Cells (kU L) i cs:=
 ⟨(aT.1 h).1,.inr (by rw[OT,h];rfl)⟩
structure Ed(L:Lay)(w:World)(g:iC)(cs:List Value):Prop where
 block:∃c t fz,w.heap[g.b]? =some (.cells c t fz)/\(g.top=0\/c.size=g.top)
 sz:g.sz=0
 all:cs.all cellV=true
 cell:∀(j:Nat) v,cs[j]? =some v->∃v',w.cell? ⟨g.b,g.off+j,none⟩=some v'/\VR (jX L) v v'
def afJ{w:World}(hL:∀(i:Nat) g cs,L[i]? =some (some g,some cs)->Ed L w g cs):WR P (jX L) (kU L) w:=by
 have hb:∀i g,jX L i=some g->∃cs,L[i]? =some (some g,cs):=λi g h=>by
  unfold jX at h;cases e:L[i]? with
  |none=>rw[e]at h;cases h
  |some p=>
   rw[e]at h;obtain⟨a,cs⟩:=p;have h:a=some g:=h;subst h;exact⟨cs,rfl⟩
 have hlive:∀i o,(kU L).get i=some o->∃g cs,L[i]? =some (g,some cs)/\o=.jq cs:=λi o h=>by
  rw[OT]at h;cases e:L[i]? with
  |none=>rw[e]at h;cases h
  |some p=>
   obtain⟨g,c⟩:=p;rw[e]at h;cases c with
   |none=>cases h
   |some cs=>cases h;exact⟨g,cs,rfl,rfl⟩
 refine⟨?_,?_,?_,?_⟩
 .intro i g h;obtain⟨cs,e⟩:=hb i g h;exact(aT.1 e).1
 .intro i o h;obtain⟨g,cs,e,_⟩:=hlive i o h;exact(aT.1 e).1
 .intro i g o h ho;obtain⟨c,e⟩:=hb i g h;obtain⟨g',cs,e',rfl⟩:=hlive i o ho;rw[e]at e';cases e';have k:=hL i g cs e;exact⟨k.block,k.sz,k.all,k.cell⟩
 .intro i j g k hi hj hgi hgj hr he
  exfalso
  rcases hr with q|q
  .cases e:(kU L).get i with
   |none=>exact hgi e
   |some o=>
    obtain⟨_,cs,_,rfl⟩:=hlive i o e;exact q cs e
  .cases e:(kU L).get j with
   |none=>exact hgj e
   |some o=>
    obtain⟨_,cs,_,rfl⟩:=hlive j o e;exact q cs e
open Go.WideShapes Go.ChangeShapes
section
variable {H:Type} {enc:aB×ah->H}
variable{w w':World}
def afK(hb:Below w.heap.size w w'){a:Addr}(ha:a.block<w.heap.size):w'.cell? a=w.cell? a:=by
 simp only[World.cell?,hb.block _ ha]
def afL(hb:Below w.heap.size w w'){p:MemPlace}(hp:p.block<w.heap.size):w.sameAt w' p:=by
 cases p with
 |cell b off=>exact afK hb hp
 |map b=>exact hb.block b hp
def OU{T:aB->Prop}(K:Kids P T)(hsz:∀{t e:aB},T t->P.underlying t=some (.slice e)->0<P.cellsOf e){w w':World}(hb:Below w.heap.size w w'){sp:Nat->Bool}:∀{ts:ae aB} {vs:ae ah} {ds:ae (DataW H)} {ps:ae MemPlace},
 (∀t∈ts,T t)->DataW.TrodAll enc P w 0 (λ_=>true) true ts vs ds ps->(∀p∈ps,sp p.block=true)->DataW.TrodAll enc P w' 0 sp true ts vs ds ps
 |[],[],[],_,_,h,_=>h
 |t::_,v::_,d::_,_,hT,⟨p,q,⟨n,h1⟩,h2,e⟩,hs=>by
  refine⟨p,q,⟨n,?_⟩,OU K hsz hb (λt ht=>hT t (bN.2 (.inr ht))) h2 (λx hx=>hs x (by rw[e];exact ou _ hx)),e⟩;exact DataW.trod_stays K hsz (λh=>by cases h) (hT t (bN.2 (.inl rfl))) h1 (λx hx=>afL hb (DataW.trod_lt n _ _ _ h1 x hx)) (λx hx=>hs x (by rw[e];exact jS _ hx))
def afM(hb:Below w.heap.size w w')(may:MemPlace->Prop):w.keptBut w' may:=by
 refine⟨hb.os,hb.output,λi hi=>?_⟩;rw[hb.block i hi];cases h:w.heap[i]? with
 |none=>rfl
 |some o=>cases o<;>simp
def Va{f:Func}{s:ChangeSpec}{apart fresh handsOn again:Bool}{W W':World}{args:Array ah}{v:ah}{ds gs:ae (DataW H)}{before pa pv:ae MemPlace}
 (hW:DataW.Whole enc P f.params.toList s.vars apart W args.toList ds gs before)
 (hres:∀(b:Nat) (sp:Nat->Bool) (hd:Bool),DataW.TrodAll enc P W' b sp hd f.resultTypes.toList (v.resultList f.resultTypes.size) (s.fn H (ds++gs)).results [])
 (hargs:∀sp:Nat->Bool,(∀p∈before,sp p.block=true)->DataW.TrodAll enc P W' 0 sp true f.params.toList args.toList (s.fn H (ds++gs)).args pa)
 (hvars:∀sp:Nat->Bool,(∀p∈before,sp p.block=true)->DataW.TrodVars enc P W' sp s.vars (s.fn H (ds++gs)).vars pv)
 (hps:before=pa++pv) (hb:Below W.heap.size W W')
 (hok:∀(j:Nat) (t:aB) (r:ah),f.resultTypes[j]? =some t->(v.resultList f.resultTypes.size)[j]? =some r->Value.okWide P W' .any 0 t r):
 s.post enc P f apart fresh handsOn again W args v W':=by
 have hlt:=hW.lt;have hold:∀p∈before,(λb=>decide (b<W.heap.size)) p.block=true:=λp hp=>fo (hlt p hp);refine⟨ds,gs,before,[],pa,pv,hW,hres _ _ _,hargs _ hold,hvars _ hold,afM hb _,λ_=>?_⟩;obtain⟨_,_,_,_,_,hz,hn⟩:=hW;refine⟨hok,_,_,([]++pa)++pv,⟨[]++pa,pv,trodAll_append (hargs _ (λ_ _=>rfl)) (hres _ _ _),hvars _ (λ_ _=>rfl),rfl,?_,?_⟩,?_⟩
 .intro b off hp;have hm:MemPlace.cell b off∈before:=by rw[hps];simpa using hp
  have h1:b<W.heap.size:=hlt _ hm;have:=hz b off hm;simp only[World.frozen?,hb.block b h1]at this⊢;exact this
 .intro ha;have:=hn ha;rw[hps]at this;simpa using this
 .intro p hp _;rw[hps];simpa using hp
end
end Go.Ideal
namespace Go.Ideal
open Go.ChangeShapes Go.WideShapes Go.ChangeAt Go.RowKit
section
variable {H:Type} {enc:aB×ah->H} {P:Program} {W:World} {t e:aB}
end
