/-
  The ideal machine, 66: functions that may panic; deferred functions that recover.
-/
import Derived.Test.YtjmgkllpcidhjaaGreatDoorIdealME
import Derived.Sort.Row
import Derived.Sort.Grow
import Derived.Laws.StructEq
set_option linter.all false
namespace Go.Ideal
variable {P:Program}
section
variable {B:List Nat} {w0:Wd} {kl kl' cZ:List OA} {F:List aH} {K:KO} {ds:List Tmp} {rest:List aK} {n:Nat} {l:List (Nat×Value)} {D:List Deferred} {pm:Option FrameMode} {ro:Option Nat} {d:Nat} {g:Option (Tmp×Bool)}
variable {cf:dS} {Kr:iM->IH->Prop}
end
end Go.Ideal
namespace Go.Ideal
variable {P:Program}
def lF{α:Type}[DecidableEq α](a:α):List (α×Value)->Nat->Option (Nat×Value)
 |[],_=>none
 |(b,v)::l,i=>if a=b then some (i,v)else lF a l (i+1)
def nY{α β:Type}[DecidableEq α](a:α):List (α×β)->Option β
 |[]=>none
 |(b,v)::l=>if a=b then some v else nY a l
def upd{α β:Type}[DecidableEq α](a:α)(v:β):List (α×β)->List (α×β)
 |[]=>[(a,v)]
 |(b,u)::l=>if a=b then(a,v)::l else(b,u)::upd a v l
def nZ{α:Type}(bK:α->Value)(aY:List (α×Value))(es:List MapEntry):Prop:=es.map (λe=>(e.key,e.val))=aY.map λp=>(bK p.1,p.2)
structure vH(P:Program)(kt:TypeId){α:Type}[DecidableEq α](bK:α->Value):Prop where
 EE:∀a,lT P kt (bK a)=true
 find:∀a aY es,nZ bK aY es->nI P kt (bK a) es=some (lF a aY 0)
 same:∀a,Instr.sameBits 10000 (bK a) (bK a)=true
theorem R7{kt:TypeId}{v:Value}(ha:bf v=true)(h:∀b,dQ P (Instr.checkKey b 10000 kt v)=some ()):lT P kt v=true:=by
 unfold lT;rw[ha,h true,h false];rfl
theorem R8{α:Type}{bK:α->Value}{p:α×Value}{aY:List (α×Value)}{es:List MapEntry}(h:nZ bK (p::aY) es):∃e es',es=e::es'/\e.key=bK p.1/\e.val=p.2/\nZ bK aY es':=by
 cases es with
 |nil=>cases h
 |cons e es=>
  unfold nZ at h;rw[oI,oI]at h;injection h with h1 h2;injection h1 with h1 h3;exact⟨e,es,rfl,h1,h3,h2⟩
theorem Jm{α:Type}[DecidableEq α]{bK:α->Value}{d:TypeDesc}(hs:∀a b,Instr.sameNow d (bK a) (bK b)=some (decide (a=b)))(a:α):∀(aY:List (α×Value)) (es:List MapEntry) (i:Nat),nZ bK aY es->Instr.findNow d (bK a) es i=some (lF a aY i)
 |[],es,i,h=>by
  cases es with
  |nil=>rfl
  |cons e es=>cases h
 |p::aY,es,i,h=>by
  obtain⟨e,es',rfl,h1,h2,h3⟩:=R8 h;have ih:=Jm hs a aY es' (i+1) h3;show(match Instr.sameNow d (bK a) e.key with
   |some true=>some (some (i,e.val))
   |some false=>Instr.findNow d (bK a) es' (i+1)
   |none=>none)=_
  rw[h1,hs a p.1];unfold lF;by_cases hab:a=p.1
  ·rw[gL hab,if_pos hab,h2]
  ·rw[jS hab,if_neg hab];exact ih
theorem R9{α:Type}[DecidableEq α]{bK:α->Value}{kt:TypeId}{d:TypeDesc}(hu:P.underlying kt=some d)(hs:∀a b,Instr.sameNow d (bK a) (bK b)=some (decide (a=b)))(a:α)(aY:List (α×Value))(es:List MapEntry)(h:nZ bK aY es):nI P kt (bK a) es=some (lF a aY 0):=by
 unfold nI Instr.findKey;rw[kE,xO hu];simp only[jD,Jm hs a aY es 0 h];rfl
theorem Sa{kt:TypeId}(hu:P.underlying kt=some (.int .i64)):vH P kt (λn:Int=>.int .i64 n) where
 EE a:=R7 rfl λb=>by
  show dQ P (Instr.checkKey b (9999+1) kt _)=_;unfold Instr.checkKey;rw[kE,xO hu];rfl
 find a aY es h:=R9 hu (λa b=>by
  show(if IntKind.i64=IntKind.i64 then some (a==b)else none)=_;rw[if_pos rfl];congr 1) a aY es h
 same a:=by
  show(IntKind.i64==IntKind.i64&&a==a)=true;simp
theorem Jn{α:Type}[DecidableEq α](a:α):∀(aY:List (α×Value)) (i:Nat),(lF a aY i).map (·.2)=nY a aY
 |[],_=>rfl
 |(b,v)::l,i=>by
  unfold lF nY;by_cases h:a=b
  ·rw[if_pos h,if_pos h];rfl
  ·rw[if_neg h,if_neg h];exact Jn a l (i+1)
theorem Sb{α:Type}[DecidableEq α]{bK:α->Value}{kt:TypeId}(hk:vH P kt bK){h:IH}{m zero:Value}{ok:Bool}{a:α}{aY:List (α×Value)}{es:List MapEntry}(he:entriesOf m h=some es)(ho:nZ bK aY es):
 uw P kt zero m (bK a) ok h=some (match nY a aY with
  |some v=>cond ok (.tuple #[v,.bool true]) v
  |none=>cond ok (.tuple #[zero,.bool false]) zero):=by
 unfold uw;simp only[he,hk.EE,cond_true,hk.find a aY es ho];have:=Jn a aY 0;cases hf:lF a aY 0 with
 |none=>rw[hf]at this;rw[<- this];rfl
 |some p=>rw[hf]at this;rw[<- this];rfl
theorem Jo{α:Type}[DecidableEq α](a:α):∀(aY:List (α×Value)) (i j:Nat) (v:Value),lF a aY i=some (j,v)->∃k,j=i+k/\aY[k]? =some (a,v)/\∀u,upd a u aY=aY.set k (a,u)
 |[],i,j,v,h=>by cases h
 |(b,w)::l,i,j,v,h=>by
  unfold lF at h;split at h
  ·rename_i hab;subst hab;cases h;exact⟨0,rfl,rfl,λu=>by simp[upd]⟩
  ·rename_i hab;obtain⟨k,h1,h2,h3⟩:=Jo a l (i+1) j v h;exact⟨k+1,by omega,by simpa using h2,λu=>by simp[upd,if_neg hab,h3]⟩
theorem Jp{α:Type}[DecidableEq α](a:α):∀(aY:List (α×Value)) (i:Nat),lF a aY i=none->(∀p∈aY,a≠p.1)/\∀u,upd a u aY=aY++[(a,u)]
 |[],i,h=>⟨λp hp=>(by cases hp),λu=>rfl⟩
 |(b,w)::l,i,h=>by
  unfold lF at h;split at h
  ·cases h
  ·rename_i hab;obtain⟨h1,h2⟩:=Jp a l (i+1) h;refine⟨λp hp=>?_,λu=>by simp[upd,if_neg hab,h2]⟩;rcases bz.1 hp with rfl|hp
   ·exact hab
   ·exact h1 p hp
structure Aq{α:Type}(bK:α->Value)(aY:List (α×Value))(es:List MapEntry)(clock:Nat):Prop where
 vJ:nZ bK aY es
 lt:∀e∈es,e.born<clock
 nd:(es.map (·.born)).Nodup
 keys:(aY.map (·.1)).Nodup
theorem Sc{α:Type}[DecidableEq α]{bK:α->Value}{kt:TypeId}(hk:vH P kt bK){h:IH}{b:Nat}{a:α}{v:Value}{aY:List (α×Value)}{es:List MapEntry}{clock:Nat}(hg:h.get b=some (.map es clock))(ho:Aq bK aY es clock):
 ∃es' clock',wB P kt (.map (some b)) (bK a) v h=some (h.set b (.map es' clock'))/\Aq bK (upd a v aY) es' clock':=by
 unfold wB;simp only[hg,hk.EE,cond_true,hk.find a aY es ho.vJ];cases hf:lF a aY 0 with
 |none=>
  obtain⟨h1,h2⟩:=Jp a aY 0 hf;refine⟨_,_,rfl,?_⟩;rw[h2,fP];refine⟨?_,λe he=>?_,?_,?_⟩
  ·unfold nZ;rw[ic,ic,ho.vJ];rfl
  ·rcases gZ.1 he with he|he
   ·exact BH (ho.lt e he)
   ·rw[dH.1 he];exact oF _
  ·rw[ic,r9];refine⟨ho.nd,by simp,λx hx y hy e=>?_⟩;obtain⟨e0,he0,rfl⟩:=nC.1 hx;have:y=clock:=by simpa using hy
   have:=ho.lt e0 he0;omega
  ·rw[ic,r9];refine⟨ho.keys,by simp,λx hx y hy e=>?_⟩;obtain⟨p,hp,rfl⟩:=nC.1 hx;have:y=a:=by simpa using hy
   exact h1 p hp (by rw[e,this])
 |some p=>
  obtain⟨j,u⟩:=p;obtain⟨k,rfl,h2,h3⟩:=Jo a aY 0 j u hf;rw[eU];have hlen:es.length=aY.length:=by
   have:=congrArg List.length ho.vJ;simpa using this
  have hk':=(fH.1 h2).1;have EF:es[k]? =some es[k]:=bO (by omega);have hkey:es[k].key=bK a:=by
   have:=congrArg (λl=>l[k]?) ho.vJ;simp only[bT,EF,h2,iB]at this;injection this with this;injection this
  simp only[kz,EF,hkey,hk.same,cond_true];refine⟨_,_,rfl,?_⟩;rw[h3,Gq];refine⟨?_,λe he=>?_,?_,?_⟩
  ·unfold nZ;apply ja;intro i;have:=congrArg (λl=>l[i]?) ho.vJ;simp only[bT]at this;simp only[bT,List.getElem?_modify,List.getElem?_set];by_cases hi:k=i
   ·subst hi;simp[EF,hk']
   ·rw[if_neg hi];cases he:es[i]? with
    |none=>rw[he]at this;simp only[Option.map_none]at this⊢;simp[hi,<- this]
    |some e=>rw[he]at this;simp only[iB]at this⊢;simp[hi,<- this]
  ·obtain⟨i,he⟩:=List.mem_iff_getElem?.1 he;rw[List.getElem?_modify]at he;cases EG:es[i]? with
   |none=>rw[EG]at he;simp at he
   |some e0=>
    rw[EG]at he;have hlt:=ho.lt e0 (dG EG);injection he with he;rw[<- he];split<;>exact hlt
  ·have:(es.modify k λe=>{e with key:=bK a,val:=v}).map (·.born)=es.map (·.born):=by
    apply ja;intro i;simp only[bT,List.getElem?_modify];cases es[i]? with
    |none=>rfl
    |some e=>simp only[iB];split<;>rfl
   rw[this];exact ho.nd
  ·have:(aY.set k (a,v)).map (·.1)=aY.map (·.1):=by
    apply ja;intro i;simp only[bT,List.getElem?_set];by_cases hi:k=i
    ·subst hi;rw[if_pos rfl,if_pos hk',h2];rfl
    ·rw[if_neg hi]
   rw[this];exact ho.keys
def qZ{α:Type}(bK:α->Value)(b:Nat)(aY:List (α×Value)):OA:=⟨λw S=>S=[b]/\∃es clock,w.h.get b=some (.map es clock)/\Aq bK aY es clock,λa h ⟨h1,es,clock,h2,h3⟩=>⟨h1,es,clock,by rw[h b (by rw[h1];exact dH.2 rfl)];exact h2,h3⟩⟩
section
variable {B:List Nat} {w0:Wd} {kl kl' cZ:List OA} {F:List aH} {K:KO} {ds:List Tmp} {rest:List aK} {n:Nat} {l:List (Nat×Value)} {D:List Deferred} {pm:Option FrameMode} {ro:Option Nat} {d:Nat} {g:Option (Tmp×Bool)}
variable {α:Type} [DecidableEq α] {bK:α->Value}
theorem St.Jq{b:Nat}{aY:List (α×Value)}{w:Wd}(h:St B w0 (qZ bK b aY::kl) F w):∃es clock,Aq bK aY es clock/\St B w0 (pt b (.map es clock)::kl) F w:=by
 obtain⟨S,⟨S1,S2,⟨q1,es,clock,q3,q4⟩,q2,e⟩,h2,h3⟩:=h.own;exact⟨es,clock,q4,h.agree,h.le,h.dW,⟨S,⟨S1,S2,⟨q1,q3⟩,q2,e⟩,h2,h3⟩,h.facts⟩
theorem Sd(bK:α->Value)
 (next:∀b,R (λh=>ax P ds rest (act n ((d,.map (some b))::l) D pm ro) h K) B w0 (qZ bK b []::kl) F) (hn:Nat.blt d n=true:=by rfl) (hg:bn l g=true:=by rfl):
 R (λh=>ax P ds (⟨⟨some d,g,.uq⟩,[]⟩::rest) (act n l D pm ro) h K) B w0 kl F:=λw s=>
 gI hn hg (h':=w.h.new (.map [] 0)) (by simp only[ae.run,ae.alloc,lg]) (next w.h.next (w.new _) ((s.new _).xN (A:=pt w.h.next (.map [] 0)) (A':=qZ bK w.h.next []) λw S hp=>⟨hp.1,[],0,hp.2,⟨rfl,λe he=>(by cases he),List.nodup_nil,List.nodup_nil⟩⟩))
def Ar{α:Type}[DecidableEq α](ok:Bool)(zero:Value)(a:α)(aY:List (α×Value)):Value:=match nY a aY with
 |some v=>cond ok (.tuple #[v,.bool true]) v
 |none=>cond ok (.tuple #[zero,.bool false]) zero
theorem Sg{kt:TypeId}{zero:Value}{m k:Operand}{ok:Bool}{b:Nat}{aY:List (α×Value)}(hk:vH P kt bK)(a:α)
 (next:R (λh=>ax P ds rest (act n ((d,Ar ok zero a aY)::l) D pm ro) h K) B w0 kl F)
 (hm:ev l m=.map (some b):=by rfl) (ha:ev l k=bK a:=by conv=>lhs;whnf) (hs:ak (qZ bK b aY) kl kl':=by exact gP) (hn:Nat.blt d n=true:=by rfl) (hg:bn l g=true:=by rfl):
 R (λh=>ax P ds (⟨⟨some d,g,.lookup kt zero m k ok⟩,[]⟩::rest) (act n l D pm ro) h K) B w0 kl F:=λw s=>by
 obtain⟨es,clock,h2,s1⟩:=(s.fC hs).Jq;refine gI hn hg (v:=Ar ok zero a aY) ?_ (next w s);have:uw P kt zero (.map (some b)) (bK a) ok w.h=_:=Sb hk (by simp only[entriesOf,s1.get.1]) h2.vJ;simp only[ae.run,hm,ha,this];rfl
theorem Si{kt:TypeId}{m k x:Operand}{b:Nat}{v:Value}{aY:List (α×Value)}(hk:vH P kt bK)(a:α)
 (next:R (λh=>ax P ds rest (act n l D pm ro) h K) B w0 (qZ bK b (upd a v aY)::kl') F)
 (hm:ev l m=.map (some b):=by rfl) (ha:ev l k=bK a:=by conv=>lhs;whnf) (hv:ev l x=v:=by conv=>lhs;whnf) (hs:ak (qZ bK b aY) kl kl':=by exact gP) (hg:bn l g=true:=by rfl):
 R (λh=>ax P ds (⟨⟨none,g,.zm kt m k x⟩,[]⟩::rest) (act n l D pm ro) h K) B w0 kl F:=λw s=>by
 obtain⟨es,clock,h2,s1⟩:=(s.fC hs).Jq;obtain⟨es',clock',e1,e2⟩:=Sc (v:=v) hk (a:=a) s1.get.1 h2;refine DF hg (v:=aZ) (h':=w.h.set b (.map es' clock')) ?_ (next _ ((s1.write (o':=.map es' clock')).xN (A:=pt b (.map es' clock')) (A':=qZ bK b (upd a v aY)) λw S hp=>⟨hp.1,es',clock',hp.2,e2⟩));simp only[ae.run,hm,ha,hv,e1]
end
end Go.Ideal
namespace Go.Ideal
open Go.Sort
variable {P:Program}
theorem WR.grow{β:ai}{h:IH}{w:World}(hW:WR P β h w)(os:Array Obj):WR P β h (grow w os)/\Eff β h w β h (grow w os):=by
 have hold:∀b,b<w.heap.size->(Go.Sort.grow w os).heap[b]? =w.heap[b]?:=λb hb=>by
  show(w.heap++os)[b]? =_;rw[Mi hb]
 refine⟨⟨hW.dom,hW.live,λi g o h1 h2=>?_,hW.inj⟩,⟨λ_ _=>rfl,az _,λ_ _ h=>h,λ_ _ _=>rfl,az _,λ_ _ _=>rfl,rfl,rfl,rfl,?_,λb hb _=>hold b hb,λi g hg hi=>absurd (hW.dom _ _ hg) (by omega),λi g _ _ _ _ hb=>hold _ hb,az _⟩⟩
 ·have hO:=hW.obj i g o h1 h2;exact hO.congr (hold _ hO.lt)
 ·show w.heap.size<=(w.heap++os).size;rw[Array.size_append];omega
theorem EH{α:Type}:∀(l:List α) (o:Nat) (xs:List α),o+xs.length<=l.length->∃r,eG l o xs=some r
 |[],o,xs,h=>by
  have h1:xs=[]:=nA.1 (by rw[qp]at h;omega);have h2:o=0:=by rw[qp]at h;omega
  exact⟨[],by rw[Gn,if_pos ⟨h1,h2⟩]⟩
 |c::l,0,[],h=>⟨_,Gp c l⟩
 |c::l,0,x::xs,h=>by
  obtain⟨r,hr⟩:=EH l 0 xs (by simp only[oG]at h;omega);exact⟨x::r,by rw[Ce,hr];rfl⟩
 |c::l,o+1,xs,h=>by
  obtain⟨r,hr⟩:=EH l o xs (by simp only[oG]at h;omega);exact⟨c::r,by rw[Cf,hr];rfl⟩
end Go.Ideal
namespace Go.Ideal
variable {P:Program}
section
variable {B:List Nat} {w0:Wd} {kl kl' cZ:List OA} {F:List aH} {K:KO} {n:Nat} {l:List (Nat×Value)} {D:List Deferred} {pm:Option FrameMode} {ro:Option Nat}
end
end Go.Ideal
namespace Go.Ideal
variable {P:Program}
def aO{α:Type}(E:Enc α)(aa:List (α×E.Y)):List Value:=aa.flatMap λp=>E.pat p.1 p.2
theorem pV{α:Type}{E:Enc α}:∀aa:List (α×E.Y),(aO E aa).length=aa.length*E.n
 |[]=>by simp[aO]
 |p::l=>by
  have ih:=pV l;unfold aO at ih⊢;rw[List.flatMap_cons,fE,ih,E.len,oG,kg];omega
theorem Au{α:Type}{E:Enc α}:∀{aa:List (α×E.Y)} {k:Nat} {p:α×E.Y} {j:Nat} {u:Value},aa[k]? =some p->(E.pat p.1 p.2)[j]? =some u->(aO E aa)[k*E.n+j]? =some u
 |[],k,p,j,u,h,_=>by cases h
 |q::l,0,p,j,u,h,hj=>by
  cases h;unfold aO;rw[List.flatMap_cons,nG,eU,jE (fH.1 hj).1];exact hj
 |q::l,k+1,p,j,u,h,hj=>by
  have ih:=Au (aa:=l) (k:=k) (by simpa using h) hj;unfold aO at ih⊢;rw[List.flatMap_cons,ny (by rw[E.len,kg];omega),E.len,show(k+1)*E.n+j - E.n=k*E.n+j by rw[kg];omega];exact ih
def pW{α:Type}(E:Enc α)(v:Value)(aa:List (α×E.Y)):aH:=
 ⟨λw=>(aa=[]/\∃a c,v=.slice a 0 c/\DV E.n a)\/∃i o f c cells,(v=.slice (some ⟨i,o,some f⟩) aa.length c/\aa.length<=c/\(f=0\/f=E.n))/\Fz w i cells/\
  ∀(k:Nat) p,aa[k]? =some p->(∀(j:Nat) u,(E.pat p.1 p.2)[j]? =some u->cells[o+k*E.n+j]? =some u)/\∀f∈E.fs p.1 p.2,f.p w,
  λa h=>by
   rcases h with h|⟨i,o,f,c,cells,h1,h2,h3⟩
   ·exact .inl h
   ·refine .inr ⟨i,o,f,c,cells,h1,h2.mono a,λk x hk=>?_⟩;obtain⟨q1,q2⟩:=h3 k x hk;exact⟨q1,λf hf=>f.mono a (q2 f hf)⟩⟩
def mW{α:Type}(E:Enc α)(aa:List (α×E.Y)):aH:=⟨λw=>∀p∈aa,∀f∈E.fs p.1 p.2,f.p w,λa h p hp f hf=>f.mono a (h p hp f hf)⟩
theorem EI{α:Type}{E:Enc α}{v:Value}{aa:List (α×E.Y)}{w:Wd}(h:(pW E v aa).p w):(mW E aa).p w:=by
 intro p hp f hf;rcases h with⟨rfl,_⟩|⟨i,o,fl,c,cells,_,_,h3⟩
 ·cases hp
 ·obtain⟨k,hk⟩:=List.mem_iff_getElem?.1 hp;exact(h3 k p hk).2 f hf
theorem Sj{α:Type}{E:Enc α}{v:Value}{aa:List (α×E.Y)}{w:Wd}(h:(pW E v aa).p w):(ah E v (aa.map (·.1))).p w:=by
 rcases h with⟨rfl,h⟩|⟨i,o,f,c,cells,h1,h2,h3⟩
 ·exact .inl ⟨rfl,h⟩
 ·refine .inr ⟨i,o,f,c,cells,by rw[dw];exact h1,h2,λk x hk=>?_⟩;rw[bT]at hk;cases hp:aa[k]? with
  |none=>rw[hp]at hk;cases hk
  |some p=>
   rw[hp]at hk;cases hk;exact⟨p.2,h3 k p hp⟩
theorem Sk{α:Type}{E:Enc α}{v:Value}{xs:List α}{w:Wd}(h:(ah E v xs).p w):∃aa:List (α×E.Y),aa.map (·.1)=xs/\(pW E v aa).p w:=by
 rcases h with⟨rfl,h⟩|⟨i,o,f,c,cells,h1,h2,h3⟩
 ·exact⟨[],rfl,.inl ⟨rfl,h⟩⟩
 ·obtain⟨l,hl,hp⟩:=EB (p:=λk (p:α×E.Y)=>xs[k]? =some p.1/\(∀(j:Nat) u,(E.pat p.1 p.2)[j]? =some u->cells[o+k*E.n+j]? =some u)/\∀f∈E.fs p.1 p.2,f.p w) xs.length (λk hk=>by
   obtain⟨y,q1,q2⟩:=h3 k xs[k] (bO hk);exact⟨(xs[k],y),bO hk,q1,q2⟩)
  have hm:l.map (·.1)=xs:=by
   apply ja;intro k;rw[bT];by_cases hk:k<xs.length
   ·have hk':k<l.length:=by omega
    rw[bO hk',iB,(hp k l[k] (bO hk')).1]
   ·rw[gU (by omega),gU (by omega)];rfl
  exact⟨l,hm,.inr ⟨i,o,f,c,cells,by rw[hl];exact h1,h2,λk p hk=>(hp k p hk).2⟩⟩
def ar{α:Type}(E:Enc α)(v:Value)(aa:List (α×E.Y)):OA:=
 ⟨λw S=>(aa=[]/\(∃a,v=.slice a 0 0/\DV E.n a)/\S=[])\/∃b f,v=.slice (some ⟨b,0,some f⟩) aa.length aa.length/\(f=0\/f=E.n)/\S=[b]/\w.h.get b=some (.cells (aO E aa)),
  λa h hp=>by
   rcases hp with hp|⟨b,f,h1,h2,h3,h4⟩
   ·exact .inl hp
   ·exact .inr ⟨b,f,h1,h2,h3,by rw[h b (by rw[h3];exact dH.2 rfl)];exact h4⟩⟩
theorem Sl{α:Type}{E:Enc α}{v:Value}{aa:List (α×E.Y)}(w w':Wd)(S:List Nat)(hp:(ar E v aa).p w S)(hle:w.Le w')(hh:w'.h=w.h)(hz:∀i∈S,w'.z i)(ha:(mW E aa).p w):(pW E v aa).p w':=by
 rcases hp with⟨h1,⟨a,h2,h3⟩,_⟩|⟨b,f,h1,h2,h3,h4⟩
 ·exact .inl ⟨h1,a,0,h2,h3⟩
 ·refine .inr ⟨b,0,f,_,_,⟨h1,az _,h2⟩,⟨hz b (by rw[h3];exact dH.2 rfl),.inl (by rw[hh];exact h4)⟩,λk p hk=>⟨λj u hj=>?_,λf hf=>f.mono hle (ha p (dG hk) f hf)⟩⟩;rw[eU];exact Au hk hj
section
variable {B:List Nat} {w0:Wd} {kl kl' cZ:List OA} {F:List aH} {K:KO} {ds:List Tmp} {rest:List aK} {n:Nat} {l:List (Nat×Value)} {D:List Deferred} {pm:Option FrameMode} {ro:Option Nat} {d:Nat} {g:Option (Tmp×Bool)}
variable {α:Type} {E:Enc α} {v:Value}
theorem q9{xs:List α}{Q:IH->Prop}(E:Enc α)(v:Value)(h:∀aa:List (α×E.Y),aa.map (·.1)=xs->R Q B w0 kl (pW E v aa::F))(hf:ah E v xs∈F:=by exact nV):R Q B w0 kl F:=λw s=>by
 obtain⟨aa,h1,h2⟩:=Sk (s.facts _ hf);exact h aa h1 w ⟨s.agree,s.le,s.dW,s.own,λf hf=>by
  rcases bz.1 hf with rfl|hf
  ·exact h2
  ·exact s.facts f hf⟩
theorem Sm{aa:List (α×E.Y)}{Q:IH->Prop}(h:R Q B w0 kl' (pW E v aa::ah E v (aa.map (·.1))::F))(ha:∀w,(∀f∈F,f.p w)->(mW E aa).p w)(hk:ak (ar E v aa) kl kl':=by exact gP):R Q B w0 kl F:=λw s=>by
 have hall:=ha w s.facts
 -- freeze by hand
 obtain⟨S,⟨S1,S2,q1,q2,e⟩,h2,h3⟩:=(s.fC hk).own;subst e;let w':Wd:=⟨w.h,λi=>w.z i\/i∈S1,λi hi=>hi.elim (w.iw i) λhi=>(h3 i (lQ _ hi)).2.1⟩
 have hle:w.Le w':=⟨az _,λi hi=>.inl hi,λ_ _=>rfl⟩
 have hnd:=r9.1 h2;have hel:=Sl w w' S1 q1 hle rfl (λi hi=>.inr hi) hall;refine h w' ⟨s.agree,s.le.trans hle,λi hi hz=>?_,⟨S2,fe.loc hle (λ_ _=>rfl) q2,hnd.2.1,λi hi=>?_⟩,λf hf=>?_⟩
 ·rcases hz with hz|hz
  ·exact s.dW i hi hz
  ·rcases(h3 i (lQ _ hz)).1 with q|q
   ·omega
   ·exact .inr q
 ·have:=h3 i (nD _ hi);refine⟨this.1,this.2.1,λhz=>hz.elim this.2.2 λhm=>?_⟩;exact hnd.2.2 i hm i hi rfl
 ·rcases bz.1 hf with rfl|hf
  ·exact hel
  ·rcases bz.1 hf with rfl|hf
   ·exact Sj hel
   ·exact f.mono hle (s.facts f hf)
theorem Sn{α:Type}(E:Enc α){aa:List (α×E.Y)}{Q:IH->Prop}{b f m:Nat}(hm:m=aa.length)(hf:f=0\/f=E.n)(h:R Q B w0 (ar E (.slice (some ⟨b,0,some f⟩) m m) aa::kl') F)(hk:ak (pt b (.cells (aO E aa))) kl kl':=by exact gP):R Q B w0 kl F:=λw s=>by
 refine h w ((s.fC hk).xN (A:=pt b (.cells (aO E aa))) λw S hp=>.inr ⟨b,f,by rw[hm],hf,hp.1,hp.2⟩)
theorem Sq{x:Operand}{t e:TypeId}{a:Addr}{m c:Nat}(hu:P.underlying t=some (.slice e))(hx:ev l x=.slice (some a) m c):Pu P (ev l) (.bin .eql t x (.const (.slice none 0 0))) (.bool false):=λh=>by
 have h2:mD P .eql t x (.const (.slice none 0 0)) (.slice (some a) m c) (.slice none 0 0)=some (.bool false):=by
  have:oM P t (.slice (some a) m c) (.slice none 0 0)=some false:=by
   unfold oM;rw[hu]
  show(match oM P t (.slice (some a) m c) (.slice none 0 0)with|some b=>some (Value.bool b)|none=>none)=_;rw[this]
 simp only[ae.run,hx];show(match mD P .eql t x (.const (.slice none 0 0)) (.slice (some a) m c) (.slice none 0 0)with|some v=>some (v,h)|none=>none)=_;rw[h2]
end
end Go.Ideal
namespace Go.Ideal
variable {P:Program}
inductive EJ(P:Program)(ty:TypeId):Value->Value->Bool->Prop
 |int {a b:Int} (h:P.underlying ty=some (.int .i64)):EJ P ty (.int .i64 a) (.int .i64 b) (decide (a=b))
 |str {a b:ByteArray} (h:P.underlying ty=some .string):EJ P ty (.string a) (.string b) (decide (a=b))
inductive EK(P:Program)(xs ys:List Value):List Field->Bool->Prop
 |nil:EK P xs ys [] true
 |cons {f:Field} {fs:List Field} {a b:Value} {r r':Bool} (hn:(f.name== "_")=false) (hx:xs[f.offset]? =some a) (hy:ys[f.offset]? =some b) (c:EJ P f.type a b r) (t:EK P xs ys fs r'):EK P xs ys (f::fs) (r&&r')
section
variable {l:List (Nat×Value)}
end
