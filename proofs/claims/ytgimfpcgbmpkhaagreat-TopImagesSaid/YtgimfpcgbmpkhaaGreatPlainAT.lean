/- Part. -/
import Derived.Test.YtgimfpcgbmpkhaaGreatIdealNT
set_option linter.all false
namespace Gph
def dU(l:ae Bool)(n:Int):Bool:=l.getD n.toNat false
def inner(aP:ae Bool):ae Int->ae Bool->ae Int->ae Bool×ae Int
 |[],met,q=>(met,q)
 |n::ns,met,q=>if dU aP n&&!dU met n then inner aP ns (met.set n.toNat true) (q++[n])else inner aP ns met q
def uP(g:ae (ae Int))(aP:ae Bool):Nat->ae Bool->ae Int->ae Int
 |0,_,_=>[]
 |_+1,_,[]=>[]
 |f+1,met,q::qs=>q::uP g aP f (inner aP (g.getD q.toNat []) met (q::qs)).1 (inner aP (g.getD q.toNat []) met (q::qs)).2.tail
def rq(m:Nat)(s:Int):ae Bool:=(List.replicate m false).set s.toNat true
def A7(g:ae (ae Int))(aP:ae Bool)(s:Int):ae Int:=uP g aP (g.length+1) (rq g.length s) [s]
def left(met:ae Bool):Nat:=(met.filter (!·)).length
variable{met:ae Bool}
def aas{n:Nat}(h:met[n]? =some false):left (met.set n true)+1=left met:=by
 induction met generalizing n with
 |nil=>cases h
 |cons b met ih=>
  cases n with
  |zero=>cases h;simp[left]
  |succ n=>
   have:=ih tj;simp only[left,FH]at this⊢;cases b<;>simp at this⊢<;>omega
variable{a n:Int}
def OO(ha:0<=a)(hn:0<=n)(h:a<met.length):dU (met.set a.toNat true) n=(decide (n=a)||dU met n):=by
 unfold dU
 grind
def Rg(g:ae (ae Int))(n:Int):Prop:=0<=n/\n<g.length
def OP{g:ae (ae Int)}{aP:ae Bool}:∀(ns:ae Int) (met:ae Bool) (q:ae Int),met.length=g.length->(∀n∈ns,Rg g n)->
 (inner aP ns met q).1.length=g.length/\(∀n,0<=n->(dU (inner aP ns met q).1 n=true↔dU met n=true\/(n∈ns/\dU aP n=true)))/\
 left (inner aP ns met q).1+(inner aP ns met q).2.length=left met+q.length/\∃t,(inner aP ns met q).2=q++t/\∀n,(n∈t↔n∈ns/\dU aP n=true/\dU met n=false)
 |[],met,q,hm,hr=>by simp[inner,hm]
 |a::ns,met,q,hm,hr=>by
  have ha:=hr a s7;have hr':∀n∈ns,Rg g n:=(by grind)
  unfold Rg at ha;rw[inner];by_cases hc:(dU aP a&&!dU met a)=true
  .rw[if_pos hc];simp only[gV,Md]at hc;obtain⟨h1,h2,h4,t,h5,h3⟩:=OP (g:=g) (aP:=aP) ns (met.set a.toNat true) (q++[a]) (by simpa using hm) hr';refine⟨h1,λn hn=>?_,?_,a::t,by rw[h5];simp,λn=>?_⟩
   .rw[h2 n hn,OO ha.1 hn s6]
    grind
   .have hs:met[a.toNat]? =some false:=by
     have:dU met a=false:=hc.2;unfold dU at this
     grind
    have:=aas hs
    grind
   .rw[dm,h3 n];simp only[dm];constructor
    .rintro(rfl|⟨h,h',h''⟩)
     .exact⟨.inl rfl,hc⟩
     .have hn:=(hr' n h).1;rw[OO ha.1 hn s6]at h''
      grind
    .rintro⟨rfl|h,h',h''⟩
     .exact .inl rfl
     .by_cases e:n=a
      .exact .inl e
      .refine .inr ⟨h,h',?_⟩;rw[OO ha.1 (hr' n h).1 s6];simp[e,h'']
  .rw[if_neg hc];obtain⟨h1,h2,h4,t,h5,h3⟩:=OP (g:=g) (aP:=aP) ns met q hm hr'
   grind
inductive ni(g:List (List Int))(aP:List Bool)(s:Int):Int->Prop
 |refl:ni g aP s s
 |step {i n:Int} {l:List Int} (h:ni g aP s i) (hl:g[i.toNat]? =some l) (hn:n∈l) (hi:dU aP n=true):ni g aP s n
variable{g:ae (ae Int)}{aP:ae Bool}
def ni.trans{b c:Int}(h:ni g aP a b)(h2:ni g aP b c):ni g aP a c:=by
 induction h2 with
 |refl=>exact h
 |step _ hl hn hi ih=>exact .step ih hl hn hi
def fK(h:Rg g n):g[n.toNat]? =some (g.getD n.toNat []):=by
 have hl:n.toNat<g.length:=by unfold Rg at h;omega
 grind
def aat{g:ae (ae Int)}{aP:ae Bool}(hg:∀l∈g,∀n∈l,Rg g n):∀(f:Nat) (met:ae Bool) (queue V:ae Int),met.length=g.length->(∀n∈queue,Rg g n)->
 (∀n,0<=n->(dU met n=true↔n∈V\/n∈queue))->(∀v∈V,∀l,g[v.toNat]? =some l->∀n∈l,dU aP n=true->n∈V\/n∈queue)->left met+queue.length<=f->
 (∀v,v∈V\/v∈uP g aP f met queue->∀l,g[v.toNat]? =some l->∀n∈l,dU aP n=true->n∈V\/n∈uP g aP f met queue)/\(∀n∈queue,n∈uP g aP f met queue)/\
 (∀n∈uP g aP f met queue,∃q∈queue,ni g aP q n)/\∀n∈uP g aP f met queue,Rg g n
 |0,met,queue,V,hm,hq,hM,hcl,hf=>by
  have:queue=[]:=pU.1 s6;subst this;exact lz
 |f+1,met,[],V,hm,hq,hM,hcl,hf=>by
  exact lz
 |f+1,met,q::qs,V,hm,hq,hM,hcl,hf=>by
  have hq0:=hq q s7;have hgd:=fK hq0;have hns:∀n∈g.getD q.toNat [],Rg g n:=hg _ (aV hgd);obtain⟨h1,h2,h4,t,h5,h3⟩:=OP (g:=g) (aP:=aP) (g.getD q.toNat []) met (q::qs) hm hns;rw[uP];generalize hin:inner aP (g.getD q.toNat []) met (q::qs)=r at h1 h2 h4 h5;obtain⟨met',q'⟩:=r;dsimp only at h1 h2 h4 h5⊢;subst h5;rw[bQ,List.tail_cons];have hqt:∀n∈qs++t,Rg g n:=λn hn=>by
   rcases fU.1 hn with h|h
   .exact hq n tt
   .exact hns n ((h3 n).1 h).1
  obtain⟨c1,c2,c3,c4⟩:=aat hg f met' (qs++t) (q::V) h1 hqt (λn hn=>by
   rw[h2 n hn,hM n hn];simp only[dm,fU,h3 n];constructor
   .rintro((h|rfl|h)|⟨h,h'⟩)
    .exact .inl (.inr h)
    .exact .inl (.inl rfl)
    .exact .inr (.inl h)
    .cases hme:dU met n with
     |true=>
      rcases(hM n hn).1 hme with h''|h''
      .exact .inl (.inr h'')
      .rcases dm.1 h'' with rfl|h''
       .exact .inl (.inl rfl)
       .exact .inr (.inl h'')
     |false=>exact .inr (.inr ⟨h,h',rfl⟩)
   .rintro((rfl|h)|h|⟨h,h',_⟩)
    .exact .inl (.inr (.inl rfl))
    .exact .inl (.inl h)
    .exact .inl (.inr (.inr h))
    .exact .inr ⟨h,h'⟩) (λv hv l hl n hn hi=>by
   rcases dm.1 hv with rfl|hv
   .rw[hgd]at hl;cases hl;have hn0:=(hns n hn).1;cases hme:dU met n with
    |true=>
     rcases(hM n hn0).1 hme with h''|h''
     .exact .inl (by simp[h''])
     .rcases dm.1 h'' with rfl|h''
      .exact .inl s7
      .exact .inr (by simp[h''])
    |false=>exact .inr (wQ _ ((h3 n).2 ⟨hn,hi,hme⟩))
   .rcases hcl v hv l hl n hn hi with h|h
    .exact .inl tt
    .rcases dm.1 h with rfl|h
     .exact .inl s7
     .exact .inr tt) (by
   simp only[bQ,rJ,fu]at h4 hf⊢;omega)
  refine⟨λv hv l hl n hn hi=>?_,λn hn=>?_,λn hn=>?_,λn hn=>?_⟩
  .have:=c1 v (by
    rcases hv with h|h
    .exact .inl tt
    .rcases dm.1 h with rfl|h
     .exact .inl s7
     .exact .inr h) l hl n hn hi
   rcases this with h|h
   .rcases dm.1 h with rfl|h
    .exact .inr s7
    .exact .inl h
   .exact .inr tt
  .rcases dm.1 hn with rfl|hn
   .simp
   .exact fP _ (c2 n (by simp[hn]))
  .rcases dm.1 hn with rfl|hn
   .exact⟨n,s7,.refl⟩
   .obtain⟨p,hp,hr⟩:=c3 n hn;rcases fU.1 hp with hp|hp
    .exact⟨p,by simp[hp],hr⟩
    .obtain⟨h,h',_⟩:=(h3 p).1 hp;exact⟨q,s7,(ni.step .refl hgd h h').trans hr⟩
  .rcases dm.1 hn with rfl|hn
   .exact hq0
   .exact c4 n hn
def aau(m:Nat)(s:Int):(rq m s).length=m:=by rw[rq,lu,zg]
def TJ(hg:∀l∈g,∀n∈l,Rg g n){s:Int}(hs:Rg g s)(n:Int):n∈A7 g aP s↔ni g aP s n:=by
 have hs':=hs;unfold Rg at hs';obtain⟨c1,c2,c3,_⟩:=aat hg (g.length+1) (rq g.length s) [s] [] (aau _ _) (by grind) (λn hn=>by
  rw[rq,OO hs'.1 hn (by grind)];have:dU (List.replicate g.length false) n=false:=by
   unfold dU
   grind
  simp[this]) s7 (by
  have:left (rq g.length s)<=(rq g.length s).length:=zh _ _;rw[aau]at this;simp;omega)
 constructor
 .intro h;obtain⟨q,hq,hr⟩:=c3 n h
  grind
 .intro h;induction h with
  |refl=>exact c2 s s7
  |step _ hl hn hi ih=>exact(c1 _ (.inr ih) _ hl _ hn hi).resolve_left s7
def aav(hg:∀l∈g,∀n∈l,Rg g n){s:Int}(hs:Rg g s):∀n∈A7 g aP s,Rg g n:=λn hn=>by
 have h:=(TJ hg hs n).1 hn;cases h with
 |refl=>exact hs
 |step _ hl hn _=>grind
def CR(part:ae Int)(ns:ae Int)(m:Int):ae Int:=ns.foldl (λp n=>p.set n.toNat m) part
def aaw:∀(ns part:ae Int) (m:Int),(CR part ns m).length=part.length
 |[],part,m=>rfl
 |n::ns,part,m=>by
  show(CR (part.set n.toNat m) ns m).length=_;rw[aaw ns,lu]
def EL(g:ae (ae Int))(aP:ae Bool)(x:ae Int×Nat)(i:Nat):ae Int×Nat:=
 if dU aP i=true/\x.1.getD i 0<=0 then(CR x.1 (A7 g aP i) (x.2+1:Nat),x.2+1)else x
def fD(g:ae (ae Int))(aP:ae Bool)(k:Nat):ae Int×Nat:=(List.range k).foldl (EL g aP) (List.replicate g.length 0,0)
def OQ(g:ae (ae Int))(aP:ae Bool)(k:Nat):fD g aP (k+1)=EL g aP (fD g aP k) k:=by
 rw[fD,BX,vJ];rfl
def OT(g:ae (ae Int))(aP:ae Bool):∀k,(fD g aP k).1.length=g.length/\(fD g aP k).2<=k/\∀p∈(fD g aP k).1,0<=p/\p<=(fD g aP k).2
 |0=>by
  refine⟨by simp[fD],by simp[fD],λp hp=>?_⟩;simp[fD]at hp⊢;omega
 |k+1=>by
  obtain⟨h1,h2,h3⟩:=OT g aP k;rw[OQ,EL];split
  .refine⟨by rw[aaw];exact h1,s6,?_⟩;have:∀(ns part:ae Int) (m:Nat),(∀p∈part,0<=p/\p<=m)->∀p∈CR part ns m,0<=p/\p<=m:=by
    intro ns;induction ns with
    |nil=>intro part m h;exact h
    |cons n ns ih=>
     intro part m h;refine ih _ m λp hp=>?_
     grind
   exact this _ _ _ (by grind)
  grind
end Gph
namespace Gph
def A8(aP:ae Bool)(l:ae Int):Nat:=(l.filter (dU aP)).length
def wh(aP:ae Bool)(k:Nat):Nat:=((List.range k).filter λi=>dU aP (i:Nat)).length
def A9(g:ae (ae Int))(aP:ae Bool)(k:Nat):Prop:=∀i:Nat,i<k->dU aP i=true->A8 aP (g.getD i [])=2
open Classical in
noncomputable def G5(g:ae (ae Int))(aP:ae Bool):Bool:=decide (A9 g aP g.length/\3<=wh aP g.length/\(fD g aP g.length).2=1)
def akX(aP:ae Bool)(k:Nat):wh aP (k+1)=wh aP k+if dU aP (k:Nat)then 1 else 0:=by
 rw[wh,BX,ze,fu,<- wh]
 grind
def akY(aP:ae Bool)(k:Nat):wh aP k<=k:=by
 have:=zh (λi=>dU aP ((i:Nat))) (List.range k);rw[o8]at this;exact this
variable{g:ae (ae Int)}{aP:ae Bool}
open Classical in
def OU:G5 g aP=true↔A9 g aP g.length/\3<=wh aP g.length/\(fD g aP g.length).2=1:=by
 exact lV
def aax(h:¬(A9 g aP g.length/\3<=wh aP g.length/\(fD g aP g.length).2=1)):G5 g aP=false:=Bool.eq_false_iff.2 λe=>h (OU.1 e)
end Gph
namespace Gph
variable {g:ae (ae Int)} {aP:ae Bool}
def aay:∀(ns part:ae Int) (m:Int) (n:Nat),(∀x∈ns,0<=x/\x<part.length)->(CR part ns m).getD n 0=if(n:Int)∈ns then m else part.getD n 0
 |[],part,m,n,_=>by simp[CR]
 |a::ns,part,m,n,h=>by
  have ha:=h a s7;have h2:=aay ns (part.set a.toNat m) m n (by grind);show(CR (part.set a.toNat m) ns m).getD n 0=_
  grind
def TK(g:ae (ae Int))(aP:ae Bool)(k n:Nat):Prop:=∃j,j<k/\dU aP j=true/\ni g aP j n
def aaz(hg:∀l∈g,∀n∈l,Rg g n):∀k,k<=g.length->∀n:Nat,n<g.length->(0<(fD g aP k).1.getD n 0↔TK g aP k n)
 |0,_,n,hn=>by
  constructor
  .intro h;simp[fD,hn]at h
  .rintro⟨j,hj,_⟩;omega
 |k+1,hk,n,hn=>by
  have ih:=aaz hg k s6;have hlen:=(OT g aP k).1;have hkr:Rg g k:=⟨s6,s6⟩
  rw[OQ,EL];by_cases hc:dU aP k=true/\(fD g aP k).1.getD k 0<=0
  .rw[if_pos hc];rw[aay _ _ _ _ (λx hx=>by rw[hlen];exact aav hg hkr x hx)];by_cases hr:(n:Int)∈A7 g aP k
   .rw[if_pos hr];have:=(TJ hg hkr n).1 hr;exact⟨λ_=>⟨k,s6,hc.1,this⟩,λ_=>by omega⟩
   .rw[if_neg hr,ih n hn];rw[TJ hg hkr]at hr;constructor
    .rintro⟨j,h1,h2,h3⟩;exact qn
    .rintro⟨j,h1,h2,h3⟩;by_cases e:j=k
     .subst e;exact absurd h3 hr
     .exact qn
  .rw[if_neg hc,ih n hn];constructor
   .rintro⟨j,h1,h2,h3⟩;exact qn
   .rintro⟨j,h1,h2,h3⟩;by_cases e:j=k
    .subst e;have:0<(fD g aP j).1.getD j 0:=by
      grind
     obtain⟨i,q1,q2,q3⟩:=(ih j s6).1 this;exact⟨i,q1,q2,q3.trans h3⟩
    .exact qn
open Classical in
noncomputable def cnt(g:ae (ae Int))(aP:ae Bool):Nat->Nat
 |0=>0
 |k+1=>cnt g aP k+if dU aP k=true/\¬TK g aP k k then 1 else 0
def TL(hg:∀l∈g,∀n∈l,Rg g n):∀k,k<=g.length->(fD g aP k).2=cnt g aP k
 |0,_=>by simp[fD,cnt]
 |k+1,hk=>by
  have ih:=TL hg k s6;have hs:=aaz (aP:=aP) hg k s6 k s6;rw[OQ,EL,cnt]
  grind
def nQ(g:ae (ae Int)):Prop:=∀(i:Nat) l,g[i]? =some l->∀n∈l,Rg g n/\∀l',g[n.toNat]? =some l'->(i:Int)∈l'
def nQ.rg(h:nQ g):∀l∈g,∀n∈l,Rg g n:=λl hl n hn=>by
 obtain⟨i,hi⟩:=gT hl;exact(h i l hi n hn).1
def ni.rg(h:nQ g){a b:Int}(ha:Rg g a)(r:ni g aP a b):Rg g b:=by
 cases r with
 |refl=>exact ha
 |step _ hl hn _=>exact h.rg _ (aV hl) _ hn
def ni.symm(h:nQ g){a b:Int}(ha:Rg g a)(hi:dU aP a=true)(r:ni g aP a b):ni g aP b a:=by
 induction r with
 |refl=>exact .refl
 |step r0 hl hn hin ih=>
  rename_i i n l;have hri:=ni.rg h ha r0;have ak0:dU aP i=true:=by
   cases r0 with
   |refl=>exact hi
   |step _ _ _ q=>exact q
  obtain⟨q1,q2⟩:=h i.toNat l hl n hn;have:=q2 _ (fK q1);have hc:(i.toNat:Int)=i:=by unfold Rg at hri;omega
  rw[hc]at this;exact(ni.step .refl (fK q1) this ak0).trans ih
def ak1(h:nQ g){f:Nat}(hf:f<g.length)(hin:dU aP f=true)(Cx:∀j,j<f->dU aP (j:Nat)=false):
 cnt g aP g.length=1↔∀i:Nat,i<g.length->dU aP i=true->ni g aP f i:=by
 have base:∀k,k<=f->cnt g aP k=0:=by
  intro k;induction k with
  |zero=>intro _;rfl
  |succ k ih=>
   intro hk;rw[cnt,ih s6,if_neg (λq=>by rw[Cx k s6]at q;cases q.1)]
 have uK:cnt g aP (f+1)=1:=by
  rw[cnt,base f (bG _),if_pos ⟨hin,λ⟨j,h1,h2,_⟩=>by rw[Cx j h1]at h2;cases h2⟩]
 have mono:∀k d,cnt g aP k<=cnt g aP (k+d):=by
  intro k d;induction d with
  |zero=>exact bG _
  |succ d ih=>rw[<- pR,cnt];omega
 constructor
 .intro h1 i;induction i using Nat.strongRecOn with
  |_ i ih=>
   intro hi hii;by_cases e:i=f
   .subst e;exact .refl
   have hfi:f<i:=by
    apply Classical.byContradiction;intro hno;rw[Cx i s6]at hii;cases hii
   have ho:TK g aP i i:=by
    apply Classical.byContradiction;intro hno;have e1:cnt g aP (i+1)=cnt g aP i+1:=by rw[cnt,if_pos ⟨hii,hno⟩]
    have e2:=mono (f+1) (i - (f+1));have e3:=mono (i+1) (g.length - (i+1));rw[show f+1+(i - (f+1))=i by omega]at e2;rw[show i+1+(g.length - (i+1))=g.length by omega]at e3;omega
   obtain⟨j,q1,q2,q3⟩:=ho;exact(ih j q1 s6 q2).trans q3
 .intro hall;have:∀d,f+1+d<=g.length->cnt g aP (f+1+d)=1:=by
   intro d;induction d with
   |zero=>intro _;exact uK
   |succ d ih=>
    intro hd;rw[<- pR,cnt,ih s6,if_neg (λq=>q.2 ⟨f,s6,hin,hall _ s6 q.1⟩)]
  have:=this (g.length - (f+1)) s6
  rwa [show f+1+(g.length - (f+1))=g.length by omega]at this
end Gph
namespace Gph
structure rZ where
 kind:Int
 cells:List Int
 set:Int
 other:Int
 lo:Int
 hi:Int
 runs:List Int
 rule:Int
 at_:Int
structure Kn where
 cells:Int
 symbols:Int
 values:List Int
 aH:List (List Int)
 cons:List rZ
structure TM(cells symbols:Int)(c:rZ):Prop where
 cell:∀(i:Nat) x,c.cells[i]? =some x->0<=x/\x<cells/\(8<=c.kind->x=i)
 nd:c.cells.Nodup
 kind:1<=c.kind/\c.kind<=9
 two:c.kind=6\/c.kind=7->c.cells.length=2
 all:8<=c.kind->(c.cells.length:Int)=cells
 set:0<=c.set/\c.set<(2^symbols.toNat:Nat)
 other:0<=c.other/\c.other<(2^symbols.toNat:Nat)
 lo:0<=c.lo/\c.lo<=65536
 hi:0<=c.hi/\c.hi<=65536
 au0:c.runs.length<=8
 runs:∀x∈c.runs,1<=x/\x<=256
def TM.len{cells symbols:Int}{c:rZ}(h:TM cells symbols c):(c.cells.length:Int)<=cells\/c.cells=[]:=by
 by_cases hn:c.cells=[]
 .exact .inr hn
 have hb:∀x∈c.cells,0<=x/\x<cells:=λx hx=>by
  obtain⟨i,hi⟩:=gT hx;have:=h.cell i x hi;exact⟨this.1,this.2.1⟩
 have:∀(m:Nat) (l:ae Int),l.Nodup->(∀x∈l,0<=x/\x<m)->l.length<=m:=by
  intro m;induction m with
  |zero=>
   intro l _ hl;cases l with
   |nil=>simp
   |cons a l=>have:=hl a s7;omega
  |succ m ih=>
   intro l hd hl;by_cases hm:(m:Int)∈l
   .have h1:=aeO hm
    grind
   grind
 have h0:0<=cells:=by
  obtain⟨a,ha⟩:=List.exists_mem_of_ne_nil _ hn;have:=hb a ha;omega
 have:=this cells.toNat c.cells h.nd (by grind);omega
end Gph
namespace Kd
open Go Go.Ideal
structure nQ where
 name:ByteArray
 value:Int
 deriving DecidableEq
structure ru where
 name:ByteArray
 lists:List (List Int)
 deriving DecidableEq
structure jA where
 name:ByteArray
 on:ByteArray
 family:Int
 type:Int
 lo:Int
 hi:Int
 deriving DecidableEq
structure bF where
 name:ByteArray
 on:ByteArray
 kind:Int
 family:Int
 names:List ByteArray
 others:List ByteArray
 set:Int
 other:Int
 op:Int
 n:Int
 fV:ByteArray
 aN:Int
 deriving DecidableEq
structure dR where
 name:ByteArray
 version:Int
 shape:Int
 w:Int
 h:Int
 holes:List Int
 symbols:List nQ
 regions:List ru
 bT:List jA
 rules:List bF
 deriving DecidableEq
structure bY where
 shape:Int
 w:Int
 h:Int
 holes:List Int
 cells:List Int
 deriving DecidableEq
structure aT where
 decl:dR
 grid:bY
 aH:List (List Int)
 lists:List (List (List Int))
 deriving DecidableEq
def jO:Enc nQ:=⟨2,Unit,λx _=>[.string x.name,.int .i64 x.value],λ_ _=>[],λ_ _=>rfl⟩
def lJ:Enc ru:=⟨2,ah,λx v=>[.string x.name,v],λx v=>[ay (aA aj) v x.lists],λ_ _=>rfl⟩
def eP:Enc jA:=⟨6,Unit,λx _=>[.string x.name,.string x.on,.int .i64 x.family,.int .i64 x.type,.int .i64 x.lo,.int .i64 x.hi],λ_ _=>[],λ_ _=>rfl⟩
abbrev jf(x:bF)(v1 v2:ah):ae ah:=[.string x.name,.string x.on,.int .i64 x.kind,.int .i64 x.family,v1,v2,.int .i64 x.set,.int .i64 x.other,.int .i64 x.op,.int .i64 x.n,.string x.fV,.int .i64 x.aN]
def di:Enc bF:=⟨12,ah×ah,λx v=>jf x v.1 v.2,λx v=>[ay ko v.1 x.names,ay ko v.2 x.others],λ_ _=>rfl⟩
abbrev oO(d:dR)(vh vs vr vc vu:ah):ae ah:=[.string d.name,.int .i64 d.version,.int .i64 d.shape,.int .i64 d.w,.int .i64 d.h,vh,vs,vr,vc,vu]
abbrev uQ(d:dR)(vh vs vr vc vu:ah):ae aI:=[ay aj vh d.holes,ay jO vs d.symbols,ay lJ vr d.regions,ay eP vc d.bT,ay di vu d.rules]
def jY(s:ByteArray):ae ByteArray->Nat
 |[]=>0
 |a::l=>if s=a then 0 else jY s l+1
def CU{s:ByteArray}:∀{l:ae ByteArray},s∈l->jY s l<l.length
 |[],h=>by cases h
 |a::l,h=>by
  unfold jY;split
  .simp
  .rename_i hne;have:=CU ((dm.1 h).resolve_left hne);simp;omega
def gz(names:ae ByteArray)(start:Nat):ae (ByteArray×ah):=names.zipIdx.map λp=>(p.1,.int .i64 ((start+p.2:Nat):Int))
def TN(a b:ae ByteArray)(start:Nat):gz (a++b) start=gz a start++gz b (start+a.length):=by
 unfold gz;rw[BZ,bZ];congr 1;rw[show b.zipIdx (0+a.length)=(b.zipIdx 0).map (λp=>(p.1,p.2+a.length))by
  rw[List.zipIdx_eq_map_add]
  grind]
 rw[rO];apply yZ
 grind
def xC(names:ae ByteArray)(start:Nat):(gz names start).map (·.1)=names:=by
 unfold gz;rw[rO];have:((λp:ByteArray×ah=>p.1)∘λp:ByteArray×Nat=>(p.1,Value.int .i64 ((start+p.2:Nat))))=Prod.fst:=rfl;rw[this,List.zipIdx_map_fst]
variable{α:Type}
def Ba{β:Type}[DecidableEq α](a b:α)(v:β)(l:ae (α×β)):dM a ((b,v)::l)=if a=b then some v else dM a l:=rfl
def wm{α β:Type}[DecidableEq α]{a:α}:∀{l:ae (α×β)},a∉l.map (·.1)->dM a l=none
 |[],_=>rfl
 |(b,v)::l,h=>by
  unfold dM;rw[if_neg (by grind),wm (by grind)]
def Ko{α β:Type}[DecidableEq α]{a:α}:∀{l:ae (α×β)},a∈l.map (·.1)->∃v,dM a l=some v
 |[],h=>by cases h
 |(b,v)::l,h=>by
  unfold dM;by_cases e:a=b
  .exact⟨v,by rw[if_pos e]⟩
  .obtain⟨u,hu⟩:=Ko ((dm.1 h).resolve_left e);exact⟨u,by rw[if_neg e,hu]⟩
def Bb{s:ByteArray}:∀{names:ae ByteArray} {start:Nat},s∈names->dM s (gz names start)=some (.int .i64 ((start+jY s names:Nat):Int))
 |[],start,h=>by cases h
 |a::l,start,h=>by
  have e:gz (a::l) start=(a,.int .i64 (start:Int))::gz l (start+1):=by
   have:=TN [a] l start;simpa[gz]using this
  rw[e];unfold dM jY;by_cases hs:s=a
  .grind
  .rw[if_neg hs,if_neg hs,Bb (by grind),show start+1+jY s l=start+(jY s l+1)by omega]
def G6{α β:Type}[DecidableEq α]{a:α}{v:β}:∀{l:ae (α×β)},a∉l.map (·.1)->upd a v l=l++[(a,v)]
 |[],_=>rfl
 |(b,u)::l,h=>by
  unfold upd;rw[if_neg (by grind),G6 (by grind)];rfl
def EM:ae ByteArray:=[⟨⟨[99,101,108,108,115]⟩⟩,⟨⟨[114,111,119,115]⟩⟩,⟨⟨[99,111,108,117,109,110,115]⟩⟩,⟨⟨[100,105,97,103,111,110,97,108,115]⟩⟩,⟨⟨[97,114,111,117,110,100]⟩⟩,⟨⟨[110,101,97,114]⟩⟩,⟨⟨[112,97,105,114,115]⟩⟩,⟨⟨[97,108,108]⟩⟩]
def iR(d:dR):ae ByteArray:=d.symbols.map (·.name)
def iT(d:dR):ae ByteArray:=EM++d.regions.map (·.name)
def mM(d:dR):ae ByteArray:=d.bT.map (·.name)
def OV(d:dR):ae ByteArray:=d.rules.map (·.name)
def kI(eH l:ae ByteArray):Nat:=l.foldl (λm s=>m|||1<<<jY s eH) 0
def G7(fM:ae ByteArray)(c:jA):jA:={c with family:=(jY c.on fM:Int)}
def yE(eH fM ny:ae ByteArray)(r:bF):bF:=
 {r with family:=if r.on=⟨⟨[]⟩⟩then 0 else(jY r.on fM:Int),aN:=if r.fV=⟨⟨[]⟩⟩then -1 else(jY r.fV ny:Int),set:=(kI eH r.names:Int),other:=(kI eH r.others:Int)}
def eO(d:dR):dR:={d with bT:=d.bT.map (G7 (iT d)),rules:=d.rules.map (yE (iR d) (iT d) (mM d))}
structure TP(eH fM ny:List ByteArray)(r:bF):Prop where
 on:r.on=⟨⟨[]⟩⟩\/r.on∈fM
 names:∀s∈r.names,s∈eH
 others:∀s∈r.others,s∈eH
 fV:r.fV=⟨⟨[]⟩⟩\/r.fV∈ny
structure G8(d:dR):Prop where
 eH:d.symbols.length<=16
 ak2:(iR d).Nodup
 ak3:(iT d).Nodup
 ak4:(mM d).Nodup
 aaA:∀c∈d.bT,c.on∈iT d
 ak5:(OV d).Nodup
 qc:∀r∈d.rules,TP (iR d) (iT d) (mM d) r
def kW{α:Type}(f:α->α)(k:Nat)(xs:ae α):ae α:=(xs.take k).map f++xs.drop k
def aaB(f:α->α)(xs:ae α):kW f xs.length xs=xs.map f:=by simp[kW]
def CW(f:α->α)(k:Nat)(xs:ae α):(kW f k xs).length=xs.length:=by simp[kW];omega
def aaC(f:α->α){k:Nat}{xs:ae α}(hk:k<xs.length):(kW f k xs)[k]? =xs[k]?:=by
 unfold kW
 grind
def aaD(f:α->α){k:Nat}{xs:ae α}{x:α}(hx:xs[k]? =some x):(kW f k xs).set k (f x)=kW f (k+1) xs:=by
 have hk:=(bz.1 hx).1;unfold kW;rw[DU _ _ th,bi,gW,Ae s6];have hd:xs.drop k=x::xs.drop (k+1):=by
  rw[mX hk];congr 1;rw[bN hk]at hx;exact Option.some.inj hx
 rw[hd,rP,hx];simp
end Kd
namespace Kd
open Go Go.Ideal
structure wo(s w h:Int)(holes:List Int):Prop where
 sh:s=1\/s=2
 wi:1<=w/\w<=16
 he:1<=h/\h<=16
 len:(holes.length:Int)<w*h
 inc:holes.Pairwise (·<·)
 mem:∀x∈holes,0<=x/\x<w*h
def lX(n:Nat)(holes:ae Int):ae Int:=((List.range n).map λi:Nat=>(i:Int)).filter λi=>!decide (i∈holes)
def aaE(n:Nat)(holes:ae Int):lX (n+1) holes=lX n holes++if(n:Int)∈holes then[]else[(n:Int)]:=by
 unfold lX;rw[BX,bZ]
 grind
def OW(n:Nat)(holes:ae Int):(lX n holes).length<=n:=by
 unfold lX
 grind
variable{n:Nat}{x:Int}
def ak6{holes:ae Int}(h:x∈lX n holes):0<=x/\x<n/\x∉holes:=by
 unfold lX at h
 grind
def TQ(n:Nat)(holes:ae Int):(lX n holes).Pairwise (·<·):=by
 refine List.Pairwise.filter _ ?_;exact j0
def wu(w h:Int)(holes:ae Int):ae Int:=lX (w*h).toNat holes
def G9{w h:Int}(hw:1<=w/\w<=16)(hh:1<=h/\h<=16):1<=w*h/\w*h<=256:=by
 have h1:=Int.mul_le_mul hw.1 hh.1 s6 s6;have h2:=Int.mul_le_mul hw.2 hh.2 s6 s6;omega
structure ig(g:bY):Prop where
 make:wo g.shape g.w g.h g.holes
 cells:g.cells=wu g.w g.h g.holes
variable{g:bY}
def ig.cell(h:ig g):∀x∈g.cells,0<=x/\x<256:=by
 intro x hx;rw[h.cells]at hx;have h1:=ak6 hx;have h2:=G9 h.make.wi h.make.he;omega
def ig.len(h:ig g):g.cells.length<=256:=by
 rw[h.cells];have h1:=OW (g.w*g.h).toNat g.holes;have h2:=G9 h.make.wi h.make.he;unfold wu;omega
def kX(g:bY)(pos:Int):Int×Int:=(if g.shape=2 then pos.tmod g.w - (pos.tdiv g.w).tdiv 2 else pos.tmod g.w,pos.tdiv g.w)
def bK(g:bY):ae (Int×(Int×Int)):=g.cells.zipIdx.map λp=>((p.2:Int),kX g p.1)
variable{k:Nat}
def CY(h:g.cells[k]? =some x):(bK g)[k]? =some ((k:Int),kX g x):=by
 unfold bK
 grind
def r9(g:bY):(bK g).length=g.cells.length:=by simp[bK]
def ak7{a b:ae Int}(h:a.Perm b):bW a=bW b:=by
 have h1:(bW a).Perm (bW b):=(Ca a _).trans (h.trans (Ca b _).symm);have s1:(bW a).Pairwise (λx y=>x<=y):=by
  have:=aeP (le:=λx y:Int=>decide (x<=y)) (by grind) (λa b=>by simp;omega) a;exact pN
 have s2:(bW b).Pairwise (λx y=>x<=y):=by
  have:=aeP (le:=λx y:Int=>decide (x<=y)) (by grind) (λa b=>by simp;omega) b;exact pN
 generalize bW a=u at h1 s1;generalize bW b=v at h1 s2;induction u generalizing v with
 |nil=>exact(List.nil_perm.1 h1).symm▸rfl
 |cons x u ih=>
  cases v with
  |nil=>grind
  |cons y v=>
   have hxy:x=y:=by
    have hx:x∈y::v:=(by grind)
    have hy:y∈x::u:=(by grind)
    rcases dm.1 hx with e|hx
    .exact e
    rcases dm.1 hy with e|hy
    .exact e.symm
    have:=(rQ.1 s1).1 y hy;have:=(rQ.1 s2).1 x hx;omega
   grind
def fO:ae (Int×Int):=[(1,0),(-1,0),(0,1),(0, -1),(1, -1),(-1,1)]
def eT(g:bY):Nat:=if g.shape=1 then 4 else 6
def gD(xs:ae (Int×(Int×Int))):ae ((Int×Int)×ah):=xs.foldl (λm p=>upd p.2 (.int .i64 p.1) m) []
def TR(xs:ae (Int×(Int×Int)))(p:Int×(Int×Int)):gD (xs++[p])=upd p.2 (.int .i64 p.1) (gD xs):=by
 unfold gD;rw[vJ];rfl
def aaF{xs:ae (Int×(Int×Int))}:∀a v,dM a (gD xs)=some v->∃c,v=.int .i64 c/\∃p∈xs,p.1=c:=by
 have hup:∀(m:ae ((Int×Int)×ah)) (b:Int×Int) (u:ah) (a:Int×Int) (v:ah),dM a (upd b u m)=some v->(a=b/\v=u)\/dM a m=some v:=by
  intro m;induction m with
  |nil=>
   intro b u a v h;have h:(if a=b then some u else none)=some v:=h
   grind
  |cons q m ih=>
   intro b u a v h;obtain⟨k,w⟩:=q;unfold upd at h;by_cases e:b=k
   .rw[if_pos e,Ba]at h;by_cases e2:a=b
    .grind
    .rw[if_neg e2]at h;right;rw[Ba,if_neg (by grind)];exact h
   .rw[if_neg e,Ba]at h;by_cases e2:a=k
    .rw[if_pos e2]at h;right;rw[Ba,if_pos e2];exact h
    .rw[if_neg e2]at h;rcases ih b u a v h with h|h
     .exact .inl h
     .right;rw[Ba,if_neg e2];exact h
 have:∀(xs:ae (Int×(Int×Int))) (m:ae ((Int×Int)×ah)) a v,dM a (xs.foldl (λm p=>upd p.2 (.int .i64 p.1) m) m)=some v->(∃c,v=.int .i64 c/\∃p∈xs,p.1=c)\/dM a m=some v:=by
  intro xs;induction xs with
  |nil=>intro m a v h;exact .inr h
  |cons p xs ih=>
   grind
 intro a v h;rcases this xs [] a v h with h|h
 .exact h
 .cases h
def numOf:az ah->az Int
 |some (.int .i64 n)=>some n
 |_=>none
def iL(m:ae ((Int×Int)×ah))(s:Int×Int)(ds:ae (Int×Int)):ae Int:=ds.filterMap λd=>numOf (dM (s.1+d.1,s.2+d.2) m)
def ak8(m:ae ((Int×Int)×ah))(s:Int×Int)(ds:ae (Int×Int))(d:Int×Int):iL m s (ds++[d])=iL m s ds++(numOf (dM (s.1+d.1,s.2+d.2) m)).toList:=by
 unfold iL
 grind
def OX(m:ae ((Int×Int)×ah))(s:Int×Int)(ds:ae (Int×Int)):(iL m s ds).length<=ds.length:=Mg _ _
def pF(g:bY)(p:Int×(Int×Int)):ae Int:=bW (iL (gD (bK g)) p.2 (fO.take (eT g)))
def gI(g:bY):ae (ae Int):=(bK g).map (pF g)
def OY(h:ig g):∀p∈bK g,(0<=p.1/\p.1<256)/\(-256<=p.2.1/\p.2.1<256)/\(0<=p.2.2/\p.2.2<256):=by
 intro p hp;obtain⟨k,hk⟩:=zb.1 hp;have hkl:=(bz.1 hk).1;rw[r9]at hkl;have hx:=bN hkl;rw[CY hx]at hk;cases hk;have hb:=h.cell _ (aV hx);have hl:=h.len;generalize g.cells[k]=x at hb;have hw:=h.make.wi;have hq:0<=x.tdiv g.w/\x.tdiv g.w<=x:=by
  rw[zk hb.1];exact⟨FM hb.1 s6,Int.ediv_le_self _ hb.1⟩
 have hr:0<=x.tmod g.w/\x.tmod g.w<=x:=by
  rw[I1 hb.1];refine⟨Int.emod_nonneg _ s6,?_⟩;have:=Mh x g.w;have h3:0<=g.w*(x/g.w):=Int.mul_nonneg s6 (FM hb.1 s6);omega
 have hq2:0<=(x.tdiv g.w).tdiv 2/\(x.tdiv g.w).tdiv 2<=x.tdiv g.w:=by
  rw[zk hq.1];omega
 unfold kX;dsimp only;refine⟨s6,?_,s6⟩;split<;>omega
def uR:Enc (Int×Int):=⟨2,Unit,λx _=>[.int .i64 x.1,.int .i64 x.2],λ_ _=>[],λ_ _=>rfl⟩
abbrev He:ae ah:=[.int .i64 1,.int .i64 0,.int .i64 (-1),.int .i64 0,.int .i64 0,.int .i64 1,.int .i64 0,.int .i64 (-1),.int .i64 1,.int .i64 (-1),.int .i64 (-1),.int .i64 1]
variable{b m:Nat}
def ak9{w:Wd}(h:(aX b 0 He).p w)(hm:m<=6):(ay uR (.slice (some ⟨b,0,some 0⟩) m 6) (fO.take m)).p w:=by
 obtain⟨cells,h1,h2⟩:=h;have hl:(fO.take m).length=m:=by rw[gW];show min m 6=m;omega
 refine .inr ⟨b,0,0,6,cells,(by grind),h1,λk x hk=>⟨(),λj u hj=>?_,λf hf=>by cases hf⟩⟩;have:=h2 (k*2+j) u (yC (E:=uR) (aF:=fO.map λd=>(d,())) (p:=(x,())) (by grind) hj);show cells[0+k*2+j]? =_
 grind
def ala:∀d∈fO,(-1<=d.1/\d.1<=1)/\(-1<=d.2/\d.2<=1):=tg
def alb{j:Nat}{d:Int×Int}(h:fO[j]? =some d):jR (kD He (j*2)) 2=some [.int .i64 d.1,.int .i64 d.2]:=by
 have hj:=(bz.1 h).1;match j,hj with
 |0,_=>cases h;rfl
 |1,_=>cases h;rfl
 |2,_=>cases h;rfl
 |3,_=>cases h;rfl
 |4,_=>cases h;rfl
 |5,_=>cases h;rfl
variable{α:Type}
def fq{xs:ae α}{x:α}(h:xs[k]? =some x):xs.take (k+1)=xs.take k++[x]:=by
 rw[rP,h];rfl
def EN(g:bY):eT g<=6:=by unfold eT;split<;>omega
def alc{P:Program}{ρ:aB->ah}{x hi:aB}{size:Nat}(hx:ρ x=.pointer (some ⟨b,0,none⟩))(hh:ρ hi=.int .i64 (m:Int))(hm:m<=n):Pu P ρ (.QT n size x none (some hi) none) (.slice (some ⟨b,0,some 0⟩) m n):=λh=>by
 have hb:bounds? n n none (some (.int .i64 m)) none=some (0,m,n):=by
  show(match upTo n (.int .i64 m)with|none=>none|some hh=>_)=_;have:upTo n (.int .i64 m)=some m:=by
   show cond (Nat.ble m n) (some m) none=_;have:Nat.ble m n=true:=by rw[vH];exact hm
   rw[this];rfl
  rw[this]
 simp only[aR.run,hx,jK,hh,hb];rw[show Nat.mul 0 size=0 from IW _];rfl
def Bc{p:Int×(Int×Int)}(h:(bK g)[k]? =some p):p.1=(k:Int):=by
 have hk:=(bz.1 h).1;rw[r9]at hk;rw[CY (bN hk)]at h;cases h;rfl
def OZ{vs rest:ae (Int×(Int×Int))}{x:Int×(Int×Int)}(h:vs++x::rest=bK g):x.1=(vs.length:Int)/\vs.length<g.cells.length/\x∈bK g:=by
 have h1:(bK g)[vs.length]? =some x:=by rw[<- h];simp
 refine⟨Bc h1,?_,aV h1⟩;have:=(bz.1 h1).1
 rwa [r9]at this
def aaG{A:ae (ae Int)}(h:A.length<n)(y:ae Int):(A++List.replicate (n - A.length) []).set A.length y=(A++[y])++List.replicate (n - (A.length+1)) []:=by
 rw[DU _ _ (bG _),show n - A.length=(n - (A.length+1))+1 by omega,wR];simp
def ald{ws:ae α}{v:α}(h:ws[k]? =some v):ws.set k v=ws:=by
 apply iQ
 grind
def yF(g:bY):(gI g).length=g.cells.length:=by
 unfold gI;rw[bi,r9]
def ale(g:bY):(bK g).foldl (λ(xss:ae (ae Int)) (x:Int×(Int×Int))=>xss.set x.1.toNat (pF g x)) (List.replicate g.cells.length [])=gI g:=by
 have key:∀(rest vs:ae (Int×(Int×Int))),vs++rest=bK g->rest.foldl (λxss x=>xss.set x.1.toNat (pF g x)) (vs.map (pF g)++List.replicate (g.cells.length - vs.length) [])=gI g:=by
  intro rest;induction rest with
  |nil=>
   intro vs h;rw[jo]at h;rw[h,r9,um,List.replicate_zero,jo];rfl
  |cons x rest ih=>
   intro vs h;have h1:=OZ h;rw[vI,h1.1,fI];have h2:=aaG (A:=vs.map (pF g)) (by rw[bi];exact h1.2.1) (pF g x);rw[bi]at h2;rw[h2];have h3:=ih (vs++[x]) (by rw[fo];exact h);rw[bZ,fu]at h3;exact h3
 have:=key (bK g) [] rfl;exact this
end Kd
namespace Kd
open Go Go.Ideal
def Bd{α β:Type}[DecidableEq α](a b:α)(v:β):∀m:ae (α×β),dM a (upd b v m)=if a=b then some v else dM a m
 |[]=>rfl
 |(k,w)::m=>by
  unfold upd;by_cases e:b=k
  .rw[if_pos e,Ba,Ba]
   grind
  .rw[if_neg e,Ba,Ba,Bd a b v m]
   grind
def aaH{α β:Type}[DecidableEq α](b:α)(v:β):∀m:ae (α×β),(upd b v m).length<=m.length+1
 |[]=>bG _
 |(k,w)::m=>by
  unfold upd;by_cases e:b=k
  .grind
  .rw[if_neg e,rJ,rJ];have:=aaH b v m;omega
def zP(kf:Int×Int->Int×Bool)(m:ae (Int×ae Int))(p:Int×(Int×Int)):ae (Int×ae Int):=
 cond (kf p.2).2 (upd (kf p.2).1 ((dM (kf p.2).1 m).getD []++[p.1]) m) m
def kJ(kf:Int×Int->Int×Bool)(ps:ae (Int×(Int×Int))):ae (Int×ae Int):=ps.foldl (zP kf) []
def Kq(kf:Int×Int->Int×Bool)(ps:ae (Int×(Int×Int)))(p:Int×(Int×Int)):kJ kf (ps++[p])=zP kf (kJ kf ps) p:=by
 unfold kJ;rw[vJ];rfl
def O0(kf:Int×Int->Int×Bool)(n:Nat):∀ps:ae (Int×(Int×Int)),ps.length=n->(kJ kf ps).length<=ps.length/\∀a,((dM a (kJ kf ps)).getD []).length<=ps.length:=by
 induction n with
 |zero=>
  intro ps h;rw[pU.1 h];exact⟨bG _,λa=>bG _⟩
 |succ n ih=>
  intro ps h;obtain⟨qs,p,rfl⟩:∃qs p,ps=qs++[p]:=⟨ps.dropLast,ps.getLast tD,(FN _).symm⟩
  have hq:qs.length=n:=tj
  rw[Kq,fu];unfold zP;cases (kf p.2).2 with
  |false=>grind
  |true=>
   refine⟨?_,λa=>?_⟩
   .have:=aaH (kf p.2).1 ((dM (kf p.2).1 (kJ kf qs)).getD []++[p.1]) (kJ kf qs)
    grind
   .show((dM a (upd _ _ _)).getD []).length<=_;rw[Bd]
    grind
def lK(g:bY)(kf:Int×Int->Int×Bool):ae (ae Int):=(bW ((kJ kf (bK g)).map (·.1))).map λn=>(dM n (kJ kf (bK g))).getD []
variable{g:bY}
def Kt(hg:ig g)(kf:Int×Int->Int×Bool):(lK g kf).length<=256/\∀l∈lK g kf,l.length<=256:=by
 have h:=O0 kf _ (bK g) rfl;have hl:=hg.len;rw[r9]at h;unfold lK;refine⟨?_,λl hl2=>?_⟩
 .have:(bW ((kJ kf (bK g)).map (·.1))).length=((kJ kf (bK g)).map (·.1)).length:=(Ca _ _).length_eq
  grind
 grind
def Be(acc:ae (ae Int))(l:ae Int):ae (ae Int):=if acc.head? =some l then acc else acc++[l]
def pG(a b:ae (ae Int)):ae (ae Int):=b.foldl Be a
variable{l:ae Int}{k:Nat}
def aaI{a b:ae (ae Int)}(h:b[k]? =some l):pG a (b.take (k+1))=Be (pG a (b.take k)) l:=by
 unfold pG;rw[fq h,vJ];rfl
def O1{a b:ae (ae Int)}{n:Nat}(ha:∀l∈a,l.length<=n)(hb:∀l∈b,l.length<=n):∀k,(pG a (b.take k)).length<=a.length+k/\∀l∈pG a (b.take k),l.length<=n
 |0=>⟨bG _,ha⟩
 |k+1=>by
  obtain⟨h1,h2⟩:=O1 ha hb k;cases h:b[k]? with
  |none=>
   have:b.take (k+1)=b.take k:=by rw[rP,h];simp
   grind
  |some l=>
   rw[aaI h];unfold Be
   grind
def uS(g:bY):ae (ae Int):=
 if g.shape=2 then lK g (λs=>(s.1+s.2,true))
 else if g.w=g.h then pG (lK g (λs=>(0,decide (s.1=s.2)))) (lK g (λs=>(0,decide (s.1+s.2=g.w - 1))))
 else[]
variable{x:Int}
def Hf:x∈bW l↔x∈l:=(Ca l _).mem_iff
def alf:∀a c:Int,Value.int .i64 a=Value.int .i64 c->a=c:=λa c h=>by injection h
def l9(n:Nat):ae (ae Int):=(List.range n).map λi:Nat=>[(i:Int)]
def alg(k:Nat):l9 (k+1)=l9 k++[[(k:Int)]]:=by
 unfold l9;rw[BX,bZ];rfl
def TS(k:Nat):(l9 k).length=k:=by unfold l9;simp
def upTo'(n:Nat):ae Int:=(List.range n).map λi:Nat=>(i:Int)
def EO(k:Nat):upTo' (k+1)=upTo' k++[(k:Int)]:=by
 unfold upTo';rw[BX,bZ];rfl
def kK(k:Nat):(upTo' k).length=k:=by unfold upTo';simp
def qC(aH:ae (ae Int)):ae (ae Int):=aH.zipIdx.map λp=>bW (p.1++[(p.2:Int)])
variable{aH:ae (ae Int)}
def alh(h:aH[k]? =some l):qC (aH.take (k+1))=qC (aH.take k)++[bW (l++[(k:Int)])]:=by
 have hk:=(bz.1 h).1;unfold qC;exact rB
def aaJ(aH:ae (ae Int)):(qC aH).length=aH.length:=by unfold qC;simp
def pI(i:Nat)(l:ae Int):ae (ae Int):=(l.filter λj=>decide ((i:Int)<j)).map λj=>[(i:Int),j]
def ali{i j:Nat}(h:l[j]? =some x):pI i (l.take (j+1))=pI i (l.take j)++if(i:Int)<x then[[(i:Int),x]]else[]:=by
 unfold pI;rw[fq h,ze]
 grind
def aaK(i:Nat)(l:ae Int):(pI i l).length<=l.length:=by
 unfold pI;grind
def mg(aH:ae (ae Int)):ae (ae Int):=aH.zipIdx.flatMap λp=>pI p.2 p.1
def aaL(h:aH[k]? =some l):mg (aH.take (k+1))=mg (aH.take k)++pI k l:=by
 have hk:=(bz.1 h).1;unfold mg;exact rB
def O3{aH:ae (ae Int)}(hn:∀l∈aH,l.length<=6):∀k,k<=aH.length->(mg (aH.take k)).length<=6*k
 |0,_=>by simp[mg]
 |k+1,hk=>by
  have h:aH[k]? =some aH[k]:=bN s6;have:=O3 hn k s6;have h2:=aaK k aH[k];have h3:=hn aH[k] (rG _);rw[aaL h,fu];omega
def Ku:∀l∈gI g,l.length<=6:=by
 intro l hl;obtain⟨p,_,rfl⟩:=cO.1 hl;unfold pF;exact gj
def iE(g:bY)(k:Int):ae (ae Int):=
 if k=0 then l9 g.cells.length
 else if k=1 then lK g (λs=>(s.2,true))
 else if k=2 then lK g (λs=>(s.1,true))
 else if k=3 then uS g
 else if k=4 then gI g
 else if k=5 then qC (gI g)
 else if k=6 then mg (gI g)
 else[upTo' g.cells.length]
end Kd
namespace Kd
open Go Go.Ideal
def Bf(p:Int):ae Int->Nat
 |[]=>0
 |a::l=>if p=a then 0 else Bf p l+1
def TT{p:Int}:∀{l:ae Int} {n:Nat},l.Pairwise (·<·)->l[n]? =some p->Bf p l=n
 |[],n,_,h=>by simp at h
 |a::l,0,_,h=>by
  have h:a=p:=tj
  unfold Bf;rw[if_pos h.symm]
 |a::l,n+1,hp,h=>by
  have h1:=(rQ.1 hp).1 p (aV h);unfold Bf;rw[if_neg s6,TT (rQ.1 hp).2 h]
def TU{p:Int}:∀{l:ae Int},p∈l->Bf p l<l.length
 |[],h=>by cases h
 |a::l,h=>by
  unfold Bf;by_cases e:p=a
  .grind
  .rw[if_neg e,rJ];have:=TU (p:=p) (l:=l) (by grind);omega
def CZ(xs:ae Int):ae (Int×ah):=xs.foldl (λm c=>upd c (.bool true) m) []
def aaM(xs:ae Int)(c:Int):CZ (xs++[c])=upd c (.bool true) (CZ xs):=by
 unfold CZ;rw[vJ];rfl
def alj(c:Int)(n:Nat):∀xs:ae Int,xs.length=n->dM c (CZ xs)=if c∈xs then some (.bool true)else none:=by
 induction n with
 |zero=>
  intro xs h;rw[pU.1 h];rfl
 |succ n ih=>
  intro xs h;obtain⟨ys,p,rfl⟩:∃ys p,xs=ys++[p]:=⟨xs.dropLast,xs.getLast tD,(FN _).symm⟩
  rw[aaM,Bd]
  grind
def alk(c:Int)(xs:ae Int):kw false (.bool false) c (CZ xs)=.bool (decide (c∈xs)):=by
 unfold kw;rw[alj c _ xs rfl]
 grind
def TV:∀(m:Nat) (l:ae Int),l.Nodup->(∀x∈l,0<=x/\x<(m:Int))->l.length<=m:=by
 intro m;induction m with
 |zero=>
  intro l _ h;cases l with
  |nil=>exact bG _
  |cons x l=>have:=h x (eX ..);omega
 |succ m ih=>
  intro l hn h;have h1:=ih (l.erase m) (hn.erase _) (λx hx=>by
   have:=h x (List.mem_of_mem_erase hx);have hne:x≠m:=λe=>by subst e;exact(List.Nodup.mem_erase_iff hn).1 hx|>.1 rfl
   omega)
  rw[List.length_erase]at h1;split at h1<;>omega
structure O4(g:bY)(ps:List Int):Prop where
 ne:ps≠[]
 mem:∀p∈ps,p∈g.cells
 nd:(ps.map λp=>(Bf p g.cells:Int)).Nodup
structure uT(g:bY)(rs:List (List Int)):Prop where
 len:rs.length<=64
 all:∀ps∈rs,O4 g ps
def jP(g:bY)(ps:ae Int):ae Int:=ps.map λp=>(Bf p g.cells:Int)
def jr(g:bY)(rs:ae (ae Int)):ae (ae Int):=rs.map (jP g)
def TW{g:bY}{ps:ae Int}(hm:∀p∈ps,p∈g.cells)(hn:(jP g ps).Nodup):ps.length<=g.cells.length:=by
 have:=TV g.cells.length (jP g ps) hn (λx hx=>by
  obtain⟨p,hp,rfl⟩:=cO.1 hx;have:=TU (hm p hp);omega)
 unfold jP at this
 rwa [bi]at this
end Kd
namespace Kd
open Go Go.Ideal
def yG(xs:ae Int):ae (Int×ah):=(xs.foldl (λs c=>(upd c (.int .i64 ((s.2.count c:Nat)+1)) s.1,s.2++[c])) (([]:ae (Int×ah)),([]:ae Int))).1
def alm(xs:ae Int):∀(m:ae (Int×ah)) (ys:ae Int),(xs.foldl (λs c=>(upd c (.int .i64 ((s.2.count c:Nat)+1)) s.1,s.2++[c])) (m,ys)).2=ys++xs:=by
 induction xs with
 |nil=>intro m ys;simp
 |cons x xs ih=>grind
def aaN(xs:ae Int)(c:Int):yG (xs++[c])=upd c (.int .i64 ((xs.count c:Nat)+1)) (yG xs):=by
 unfold yG;rw[vJ,vI,List.foldl_nil];rw[alm,bP]
def aln(c:Int)(n:Nat):∀xs:ae Int,xs.length=n->dM c (yG xs)=if c∈xs then some (.int .i64 (xs.count c:Nat))else none:=by
 induction n with
 |zero=>
  intro xs h;rw[pU.1 h];rfl
 |succ n ih=>
  intro xs h;obtain⟨ys,p,rfl⟩:∃ys p,xs=ys++[p]:=⟨xs.dropLast,xs.getLast tD,(FN _).symm⟩
  rw[aaN,Bd]
  grind
def aaO(c:Int)(xs:ae Int):kw false (.int .i64 0) c (yG xs)=.int .i64 (xs.count c:Nat):=by
 unfold kw;rw[aln c _ xs rfl]
 grind
def alo(c:Int)(xs:ae Int):xs.count c<=xs.length:=List.count_le_length ..
def bO(d:dR):bY:=⟨d.shape,d.w,d.h,d.holes,wu d.w d.h d.holes⟩
def oC(d:dR):ae (ae (ae Int)):=((List.range 8).map λf:Nat=>iE (bO d) (f:Int))++d.regions.map λr=>jr (bO d) r.lists
def tJ(d:dR):aT:=⟨d,bO d,gI (bO d),oC d⟩
end Kd
namespace Kd
open Go Go.Ideal Canon
def bU:Enc Clue:=⟨3,ah,λg v=>[.int .i64 g.aN,.int .i64 g.at_,v],λg v=>[ay aj v g.values],λ_ _=>rfl⟩
abbrev tK(g:Clue)(v:ah):ah:=.agg ⟨[.int .i64 g.aN,.int .i64 g.at_,v]⟩
def ww:ae Int->Int
 |[]=>0
 |a::l=>if a≠0 then a else ww l
def dV(a b:Clue):Int:=ww [dB a.aN b.aN,dB a.at_ b.at_]
def aaP(a b:Clue):dV a b=eD dB [a.aN,a.at_] [b.aN,b.at_]:=by
 unfold dV;simp only[ww,eD]
variable{a b:Clue}
def tL:dV a b<0↔a.aN<b.aN\/(a.aN=b.aN/\a.at_<b.at_):=by
 exact r6
def Hg{c:Clue}(h1:dV a b<0)(h2:dV b c<0):dV a c<0:=by
 rw[tL]at *;omega
def mO(k:aT)(g:Clue):Prop:=∃(c:jA) (l:ae (ae Int)),0<=g.aN/\k.decl.bT[g.aN.toNat]? =some c/\k.lists[c.family.toNat]? =some l/\0<=g.at_/\g.at_<l.length/\
 ((c.type=1/\g.values.length=1/\∀x∈g.values,0<=x/\x<=(k.decl.symbols.length:Int) - 1)\/(c.type=2/\g.values.length=1/\∀x∈g.values,c.lo<=x/\x<=c.hi)\/
   (c.type≠1/\c.type≠2/\g.values.length<=8/\∀x∈g.values,1<=x/\x<=256))
structure fE(k:aT)(p:List Clue):Prop where
 len:p.length<=512
 right:∀g∈p,mO k g
 sorted:∀(i:Nat) a b,p[i]? =some a->p[i+1]? =some b->dV a b<0
def Kv(k:aT):Prop:=∀c∈k.decl.bT,0<=c.family/\c.family<k.lists.length
end Kd
namespace Kd
open Go Go.Ideal Canon
def TY(k:aT)(i:Int):Int:=match k.decl.bT[i.toNat]? with|some c=>c.family|none=>0
def kL(k:aT)(g:Clue):ae Int:=(k.lists.getD (TY k g.aN).toNat []).getD g.at_.toNat []
def ik(k:aT)(p:ae Clue)(r:bF):ae (ae Int×ae Int):=
 if r.aN<0 then(k.lists.getD r.family.toNat []).map λl=>(l,[r.n])else(p.filter λg=>decide (g.aN=r.aN)).map λg=>(kL k g,g.values)
def fK{α:Type}{l:ae α}{n:Nat}{x d:α}(h:l[n]? =some x):l.getD n d=x:=tt
def mO.cells{k:aT}{g:Clue}(h:mO k g):∃(c:jA) (l:ae (ae Int)) (ps:ae Int),k.decl.bT[g.aN.toNat]? =some c/\k.lists[c.family.toNat]? =some l/\l[g.at_.toNat]? =some ps/\0<=g.aN/\0<=g.at_/\g.at_<l.length/\kL k g=ps:=by
 obtain⟨c,l,h1,h2,h3,h4,h5,_⟩:=h;have h6:l[g.at_.toNat]? =some (l[g.at_.toNat]'(s6)):=bN _;refine⟨c,l,_,h2,h3,h6,h1,h4,h5,?_⟩;unfold kL TY
 grind
abbrev EA:=(ae Int×ah)×(ae Int×ah)
def pJ(x:EA):ae Int×ae Int:=(x.1.1,x.2.1)
def O5(x:EA):ae ah:=[x.1.2,x.2.2]
def Kw(x:EA):ae aI:=[ay aj x.1.2 x.1.1,ay aj x.2.2 x.2.1]
def pad(l:ae (ae Int×ae Int)):ae EA:=l.map λy=>((y.1,.nilFunc),(y.2,.nilFunc))
def aaQ(l:ae (ae Int×ae Int)):(pad l).map pJ=l:=by
 unfold pad;rw[rO];have:pJ∘(λy:ae Int×ae Int=>(((y.1,Value.nilFunc),(y.2,Value.nilFunc))))=id:=rfl;rw[this,BV]
end Kd
namespace Kd
open Go Go.Ideal Canon
def aU(grid:ae Int)(c:Int):Int:=grid.getD c.toNat 0
variable{grid:ae Int}
def jF{n:Nat}{x:Int}(h:grid[n]? =some x):aU grid (n:Int)=x:=by exact fK h
def Ky(n op b:Int):Bool:=(decide (op=1)&&decide (n=b))||(decide (op=2)&&decide (n<=b))||(decide (op=3)&&decide (b<=n))
def qD(aH:ae (ae Int))(grid:ae Int)(c:Int->Int->Bool):Bool:=aH.zipIdx.all λp=>p.1.all λb=>c (aU grid (p.2:Int)) (aU grid b)
variable{l:ae Int}{aH:ae (ae Int)}{c:Int->Int->Bool}{j:Nat}
def alp(h:aH[j]? =some l):qD (aH.take (j+1)) grid c=(qD (aH.take j) grid c&&l.all λb=>c (aU grid (j:Int)) (aU grid b)):=by
 have hj:=(bz.1 h).1;unfold qD;rw[fq h,BZ,List.all_append,gW,Ae s6,gq,IM,List.zipIdx_nil,L6,List.all_nil,Bool.and_true]
def alq{i:Nat}{b:Int}(h:aH[j]? =some l)(hb:l[i]? =some b)(hc:c (aU grid (j:Int)) (aU grid b)=false):qD aH grid c=false:=by
 unfold qD;rw[List.all_eq_false];refine⟨(l,j),?_,?_⟩
 .grind
 grind
end Kd
namespace Kd
open Go Go.Ideal
def Bg(n:Nat)(l:ae Int):Prop:=l.length<=4096/\∀c∈l,0<=c/\c<(n:Int)
variable{g:bY}
def O6:∀p∈bK g,0<=p.1/\p.1<(g.cells.length:Int):=by
 intro p hp;obtain⟨k,hk⟩:=zb.1 hp;have hkl:=(bz.1 hk).1;rw[r9]at hkl;have:=Bc hk;omega
def alr(kf:Int×Int->Int×Bool)(n:Nat):∀ps:ae (Int×(Int×Int)),ps.length=n->∀a,∀c∈(dM a (kJ kf ps)).getD [],∃p∈ps,p.1=c:=by
 induction n with
 |zero=>
  intro ps h a c hc;rw[pU.1 h]at hc;cases hc
 |succ n ih=>
  intro ps h a c hc;obtain⟨qs,p,rfl⟩:∃qs p,ps=qs++[p]:=⟨ps.dropLast,ps.getLast tD,(FN _).symm⟩
  have hq:qs.length=n:=tj
  have hih:∀a,∀c∈(dM a (kJ kf qs)).getD [],∃p'∈qs++[p],p'.1=c:=λa c hc=>by
   obtain⟨q,h1,h2⟩:=ih qs hq a c hc
   grind
  rw[Kq]at hc;unfold zP at hc;cases hb:(kf p.2).2 with
  |false=>
   grind
  |true=>
   rw[hb]at hc;have hc:c∈(dM a (upd (kf p.2).1 ((dM (kf p.2).1 (kJ kf qs)).getD []++[p.1]) (kJ kf qs))).getD []:=hc;rw[Bd]at hc
   grind
def Kz(hg:ig g)(kf:Int×Int->Int×Bool):∀l∈lK g kf,Bg g.cells.length l:=by
 intro l hl;have hlen:=(Kt hg kf).2 l hl;refine⟨s6,λc hc=>?_⟩;obtain⟨n,_,rfl⟩:=cO.1 hl;obtain⟨p,hp,rfl⟩:=alr kf _ (bK g) rfl n c hc;exact O6 p hp
variable{l:ae Int}
def aaR{a b:ae (ae Int)}(h:l∈pG a b):l∈a\/l∈b:=by
 induction b generalizing a with
 |nil=>exact .inl h
 |cons x b ih=>
  rcases ih h with h|h
  .unfold Be at h
   grind
  grind
def aaS{o:az ah}{n:Int}(h:numOf o=some n):o=some (.int .i64 n):=by
 unfold numOf at h
 grind
def als{p:Int×(Int×Int)}:Bg g.cells.length (pF g p):=by
 unfold pF;refine⟨?_,λc hc=>?_⟩
 .exact gj
 .rw[Hf]at hc;obtain⟨d,_,hd⟩:=IU.1 hc;obtain⟨c',h1,q,hq,h2⟩:=aaF _ _ (aaS hd);injection h1 with _ h1;rw[h1,<- h2];exact O6 q hq
def O7:∀l∈gI g,Bg g.cells.length l:=by
 intro l hl;obtain⟨p,_,rfl⟩:=cO.1 hl;exact als
def alu(l:ae Int):(bW l).length=l.length:=(Ca l _).length_eq
def aaT(hg:ig g)(k:Int):∀l∈iE g k,Bg g.cells.length l:=by
 have hlen:=hg.len;have hnl:=yF g;have hnm:=Ku (g:=g);intro l hl;unfold iE at hl;split at hl
 .unfold l9 at hl;obtain⟨i,hi,rfl⟩:=cO.1 hl;have:=xP.1 hi;exact⟨s7,λc hc=>by rw[bR.1 hc];omega⟩
 split at hl
 .exact Kz hg _ l hl
 split at hl
 .exact Kz hg _ l hl
 split at hl
 .unfold uS at hl;split at hl
  .exact Kz hg _ l hl
  split at hl
  .rcases aaR hl with hl|hl
   .exact Kz hg _ l hl
   .exact Kz hg _ l hl
  .cases hl
 split at hl
 .exact O7 l hl
 split at hl
 .unfold qC at hl;obtain⟨⟨x,i⟩,hx,rfl⟩:=cO.1 hl;have hx:=xQ.1 hx;have hxm:=aV hx;have hi:=(bz.1 hx).1;have h6:=hnm x hxm;refine⟨by rw[alu];simp;omega,λc hc=>?_⟩;rw[Hf]at hc;rcases fU.1 hc with hc|hc
  .exact(O7 x hxm).2 c hc
  .rw[bR.1 hc];dsimp only;omega
 split at hl
 .unfold mg at hl;obtain⟨⟨x,i⟩,hx,hl⟩:=List.mem_flatMap.1 hl;have hx:=xQ.1 hx;have hxm:=aV hx;have hi:=(bz.1 hx).1;unfold pI at hl;obtain⟨j,hj,rfl⟩:=cO.1 hl;have hj:=(qm.1 hj).1;refine⟨s7,λc hc=>?_⟩;simp only[dm,IR,or_false]at hc;rcases hc with rfl|rfl
  .omega
  .exact(O7 x hxm).2 _ hj
 .rw[bR.1 hl];refine⟨by rw[kK];omega,λc hc=>?_⟩;exact pC
def aaU(hg:ig g){rs:ae (ae Int)}(hr:uT g rs):∀l∈jr g rs,Bg g.cells.length l:=by
 intro l hl;obtain⟨ps,hps,rfl⟩:=cO.1 hl;have hP:=hr.all ps hps;have h1:=TW hP.mem hP.nd;have h2:=hg.len;refine⟨by unfold jP;rw[bi];omega,λc hc=>?_⟩;obtain⟨p,hp,rfl⟩:=cO.1 hc;have:=TU (hP.mem p hp);omega
def O8{d:dR}(hg:ig (bO d))(hr:∀r∈d.regions,uT (bO d) r.lists):∀l∈oC d,∀ps∈l,Bg (bO d).cells.length ps:=by
 intro l hl ps hps;rcases fU.1 hl with hl|hl
 .obtain⟨f,_,rfl⟩:=cO.1 hl;exact aaT hg _ ps hps
 .obtain⟨r,hrm,rfl⟩:=cO.1 hl;exact aaU hg (hr r hrm) ps hps
def alv(hw:1<=g.w){x y:Int}(hx:0<=x)(hy:0<=y)(h:kX g x=kX g y):x=y:=by
 unfold kX at h;have h1:=congrArg Prod.fst h;have h2:=congrArg Prod.snd h;dsimp only at h1 h2;rw[zk hx,zk hy]at h2;rw[zk hx,zk hy,I1 hx,I1 hy,h2]at h1;have h3:x%g.w=y%g.w:=by
  split at h1<;>omega
 have e1:=Mh x g.w;have e2:=Mh y g.w;rw[h2]at e1;omega
def KA(hg:ig g){p q:Int×(Int×Int)}(hp:p∈bK g)(hq:q∈bK g)(h:p.1=q.1\/p.2=q.2):p=q:=by
 obtain⟨k,hk⟩:=zb.1 hp;obtain⟨j,hj⟩:=zb.1 hq;have hkl:=(bz.1 hk).1;have hjl:=(bz.1 hj).1;rw[r9]at hkl hjl;rcases h with h|h
 .have h1:=Bc hk;have h2:=Bc hj;have:k=j:=by omega
  subst this;rw[hk]at hj;exact Option.some.inj hj
 .have hx:=bN hkl;have hy:=bN hjl;have hkk:=hk;have hjj:=hj;rw[CY hx]at hk;rw[CY hy]at hj;have hk:=Option.some.inj hk;have hj:=Option.some.inj hj;have hs:kX g g.cells[k]=kX g g.cells[j]:=by rw[<- hk,<- hj]at h;exact h
  have he:=alv (by have:=hg.make.wi;omega) (hg.cell _ (rG _)).1 (hg.cell _ (rG _)).1 hs;have uU:g.cells.Pairwise (·<·):=AM
  have hkj:k=j:=by
   apply Classical.byContradiction;intro hne;have:=zf.1 uU;rcases Nat.lt_or_gt_of_ne hne with hl|hl
   .have:=this k j hkl hjl hl;omega
   .have:=this j k hjl hkl hl;omega
  subst hkj;rw[hkk]at hjj;exact Option.some.inj hjj
def alx(n:Nat):∀xs:ae (Int×(Int×Int)),xs.length=n->(∀p∈xs,∀q∈xs,p.2=q.2->p=q)->∀p∈xs,dM p.2 (gD xs)=some (.int .i64 p.1):=by
 induction n with
 |zero=>grind
 |succ n ih=>
  intro xs h hi p hp;obtain⟨ys,q,rfl⟩:∃ys q,xs=ys++[q]:=⟨xs.dropLast,xs.getLast tD,(FN _).symm⟩
  rw[TR,Bd];by_cases e:p.2=q.2
  .grind
  .rw[if_neg e];refine ih ys tj (λa ha b hb=>(by grind)) p ?_
   grind
def aly(n:Nat):∀xs:ae (Int×(Int×Int)),xs.length=n->∀a v,dM a (gD xs)=some v->∃p∈xs,p.2=a/\v=.int .i64 p.1:=by
 induction n with
 |zero=>
  intro xs h a v hv;rw[pU.1 h]at hv;cases hv
 |succ n ih=>
  intro xs h a v hv;obtain⟨ys,q,rfl⟩:∃ys q,xs=ys++[q]:=⟨xs.dropLast,xs.getLast tD,(FN _).symm⟩
  rw[TR,Bd]at hv;by_cases e:a=q.2
  .grind
  .rw[if_neg e]at hv;obtain⟨p,h1,h2⟩:=ih ys tj a v hv
   grind
def O9(hg:ig g){s:Int×Int}{d:Int×Int}{n:Int}:numOf (dM (s.1+d.1,s.2+d.2) (gD (bK g)))=some n↔∃q∈bK g,q.2=(s.1+d.1,s.2+d.2)/\q.1=n:=by
 constructor
 .intro h;obtain⟨q,hq,h1,h2⟩:=aly _ (bK g) rfl _ _ (aaS h)
  grind
 .rintro⟨q,hq,h1,h2⟩;rw[<- h1,alx _ (bK g) rfl (λa ha b hb e=>KA hg ha hb (.inr e)) q hq,<- h2];rfl
def aaV(hg:ig g){p:Int×(Int×Int)}{n:Int}:n∈pF g p↔∃d∈fO.take (eT g),∃q∈bK g,q.2=(p.2.1+d.1,p.2.2+d.2)/\q.1=n:=by
 unfold pF;rw[Hf];unfold iL;rw[IU];constructor
 .rintro⟨d,hd,h⟩;exact⟨d,hd,(O9 hg).1 h⟩
 .rintro⟨d,hd,h⟩;exact⟨d,hd,(O9 hg).2 h⟩
def aaW(g:bY):eT g=4\/eT g=6:=by unfold eT;split<;>simp
variable{m:Nat}
def alz(hm:m=4\/m=6):∀d∈fO.take m,(-d.1, -d.2)∈fO.take m:=by
 rcases hm with rfl|rfl<;>decide
def alA:∀d∈fO.take m,¬(d.1=0/\d.2=0):=by
 intro d hd;have:∀d∈fO,¬(d.1=0/\d.2=0):=tg
 grind
def alB(hm:m=4\/m=6):(fO.take m).Nodup:=by
 rcases hm with rfl|rfl<;>decide
def TZ(l:ae Int):(bW l).Pairwise (λx y=>x<=y):=by
 have:=aeP (le:=λx y:Int=>decide (x<=y)) (by grind) (λa b=>by simp;omega) l;exact pN
def T9(h:l.Nodup):(bW l).Pairwise (·<·):=by
 have h1:=TZ l;have h2:(bW l).Nodup:=(Ca l _).symm.nodup h;have h3:=List.Pairwise.and h1 h2
 grind
def aaX(hg:ig g)(p:Int×(Int×Int)):(pF g p).Pairwise (·<·):=by
 refine T9 ?_;refine List.Pairwise.filterMap _ ?_ (alB (aaW g));intro d1 d2 hne b hb b' hb' e;subst e;obtain⟨q1,h1,h2,h3⟩:=(O9 hg).1 hb;obtain⟨q2,k1,k2,k3⟩:=(O9 hg).1 hb';have:=KA hg h1 k1 (.inl (by rw[h3,k3]))
 grind
def Ua(hg:ig g)(i:Nat)(l:ae Int)(hl:(gI g)[i]? =some l)(k:Nat)(n:Int)(hn:l[k]? =some n):
 0<=n/\n<(gI g).length/\n≠i/\(∀m,0<k->l[k - 1]? =some m->m<n)/\∀l',(gI g)[n.toNat]? =some l'->(i:Int)∈l':=by
 have hnm:=yF g;unfold gI at hl;rw[eF]at hl;obtain⟨p,hp,rfl⟩:=lT.1 hl;have hp1:=Bc hp;have hpm:=aV hp;obtain⟨d,hd,q,hq,hq2,hq1⟩:=(aaV hg).1 (aV hn);have hqi:=O6 q hq;refine⟨s6,s6,λe=>?_,λm hk hm=>?_,λl' hl'=>?_⟩
 .have:=KA hg hq hpm (.inl s6);subst this;have e1:=congrArg Prod.fst hq2;have e2:=congrArg Prod.snd hq2;exact alA d hd ⟨s6,s6⟩
 .have hlt:=aaX hg p;obtain⟨a1,a2⟩:=bz.1 hm;obtain⟨b1,b2⟩:=bz.1 hn;have:=zf.1 hlt (k - 1) k a1 b1 s6
  grind
 .unfold gI at hl';rw[eF]at hl';obtain⟨q',hq',rfl⟩:=lT.1 hl';have h1:=Bc hq';have:=KA hg (aV hq') hq (.inl s6);rw[aaV hg];refine⟨(-d.1, -d.2),alz (aaW g) d hd,p,hpm,?_,hp1⟩
  grind
end Kd
namespace Kd
open Go Go.Ideal Canon Gph
def C8(r:bF)(vals:ae Int):Int:=if r.fV=⟨⟨[]⟩⟩then r.n else vals.getD 0 0
def ry(r:bF)(vals:ae Int)(most:Int):Int×Int:=if r.op=2 then(0,C8 r vals)else if r.op=3 then(C8 r vals,max (C8 r vals) most)else(C8 r vals,C8 r vals)
def iG(r:bF):Int:=if r.kind=6\/r.kind=7\/r.kind=8 then 6 else if r.kind=9\/r.kind=10 then 7 else if r.kind=11 then 0 else r.family
def jS(r:bF):Nat:=if r.kind=1\/r.kind=4 then 2 else 0
def aaY(k:Int):Int:=if k=1 then 1 else if k=4 then 4 else if k=6 then 1 else if k=7 then 6 else if k=8 then 7 else if k=9 then 8 else 9
def nR(r:bF)(cells vals:ae Int):rZ:=
 if r.kind=2 then⟨2,cells,r.set,0,(ry r vals cells.length).1,(ry r vals cells.length).2,[],0,0⟩
 else if r.kind=3 then⟨3,cells,0,0,(ry r vals 65536).1,(ry r vals 65536).2,[],0,0⟩
 else if r.kind=5 then⟨5,cells,r.set,0,0,0,vals,0,0⟩
 else if r.kind=11 then⟨2,cells,((1<<<(vals.getD 0 0).toNat:Nat):Int),0,1,1,[],0,0⟩
 else⟨aaY r.kind,cells,r.set,r.other,r.n,0,[],0,0⟩
end Kd
namespace Kd
open Go Go.Ideal Canon Gph
def tN(p:ae Clue)(c:Int)(at_:Int):az (ae Int):=(p.find? λg=>decide (g.aN=c/\g.at_=at_)).map (·.values)
def pK(p:ae Clue)(r:bF)(x:ae Int×Nat):az (Nat×ae Int×ae Int):=if r.aN<0 then some (x.2,x.1,[])else(tN p r.aN (x.2:Int)).map λv=>(x.2,x.1,v)
def lY(p:ae Clue)(r:bF)(ls:ae (ae Int)):ae (Nat×ae Int×ae Int):=ls.zipIdx.filterMap (pK p r)
def alC{p:ae Clue}{r:bF}{ls:ae (ae Int)}{j:Nat}{l:ae Int}(h:ls[j]? =some l):lY p r (ls.take (j+1))=lY p r (ls.take j)++(pK p r (l,j)).toList:=by
 have hk:=(bz.1 h).1;unfold lY;rw[fq h,BZ,Cb,gW,Ae s6];rw[IM,gq,Af];cases pK p r (l,j)<;>rfl
abbrev LA:=Nat×(ae Int×ah)×(ae Int×ah)
def rz(x:LA):Nat×ae Int×ae Int:=(x.1,x.2.1.1,x.2.2.1)
def KC(x:LA):ae ah:=[.int .i64 (x.1:Int),.agg ⟨[x.2.1.2,x.2.2.2]⟩]
def EP(x:LA):ae aI:=[ay aj x.2.1.2 x.2.1.1,ay aj x.2.2.2 x.2.2.1]
def C9(l:ae (Nat×ae Int×ae Int)):ae LA:=l.map λy=>(y.1,(y.2.1,.nilFunc),(y.2.2,.nilFunc))
def aaZ(l:ae (Nat×ae Int×ae Int)):(C9 l).map rz=l:=by
 unfold C9;rw[rO];have:rz∘(λy:Nat×ae Int×ae Int=>((y.1,(y.2.1,Value.nilFunc),(y.2.2,Value.nilFunc))))=id:=rfl;rw[this,BV]
end Kd
namespace Kd
open Go Go.Ideal Canon Gph
def alD(kf:Int×Int->Int×Bool)(n:Nat):∀ps:ae (Int×(Int×Int)),ps.length=n->∀a,((dM a (kJ kf ps)).getD []).Sublist (ps.map (·.1)):=by
 induction n with
 |zero=>
  intro ps h a;rw[pU.1 h];exact List.Sublist.refl _
 |succ n ih=>
  intro ps h a;obtain⟨qs,p,rfl⟩:∃qs p,ps=qs++[p]:=⟨ps.dropLast,ps.getLast tD,(FN _).symm⟩
  have hq:qs.length=n:=tj
  rw[Kq];unfold zP;cases hb:(kf p.2).2 with
  |false=>grind
  |true=>
   show((dM a (upd (kf p.2).1 ((dM (kf p.2).1 (kJ kf qs)).getD []++[p.1]) (kJ kf qs))).getD []).Sublist _;rw[Bd];by_cases e:a=(kf p.2).1
   .grind
   grind
variable{g:bY}
def alE:(bK g).map (·.1)=upTo' g.cells.length:=by
 apply iQ;intro i;unfold upTo';rw[eF,eF];by_cases h:i<g.cells.length
 .rw[CY (bN h),uk h];rfl
 .rw[fT ya,fT (by rw[o8];omega)];rfl
def KD(n:Nat):(upTo' n).Nodup:=by
 refine List.Pairwise.map _ (λa b h=>?_) List.nodup_range;intro e;apply h;omega
def aa0{n i:Nat}{x:Int}(h:(upTo' n)[i]? =some x):x=i:=by
 unfold upTo' at h
 grind
def KE(kf:Int×Int->Int×Bool):∀l∈lK g kf,l.Nodup:=by
 intro l hl;obtain⟨n,_,rfl⟩:=cO.1 hl;have:=alD kf _ (bK g) rfl n;rw[alE]at this;exact this.nodup (KD _)
def Pb(hg:ig g)(p:Int×(Int×Int)):(pF g p).Nodup:=(aaX hg p).imp (λh=>by omega)
variable{l:ae Int}
def aa1(h:l.Nodup):(bW l).Nodup:=(T9 h).imp (λh=>by omega)
def aa2{aH:ae (ae Int)}(h:l∈mg aH):∃(i:Nat) (x:ae Int) (j:Int),aH[i]? =some x/\j∈x/\(i:Int)<j/\l=[(i:Int),j]:=by
 obtain⟨⟨x,i⟩,hx,hl⟩:=List.mem_flatMap.1 h;unfold pI at hl
 grind
def alF(hg:ig g)(k:Int):∀l∈iE g k,l.Nodup:=by
 intro l hl;unfold iE at hl;split at hl
 .unfold l9 at hl;obtain⟨i,hi,rfl⟩:=cO.1 hl;simp
 split at hl
 .exact KE _ l hl
 split at hl
 .exact KE _ l hl
 split at hl
 .unfold uS at hl;split at hl
  .exact KE _ l hl
  split at hl
  .rcases aaR hl with hl|hl
   .exact KE _ l hl
   .exact KE _ l hl
  .cases hl
 split at hl
 .unfold gI at hl;obtain⟨p,_,rfl⟩:=cO.1 hl;exact Pb hg p
 split at hl
 .unfold qC at hl;obtain⟨⟨x,i⟩,hx,rfl⟩:=cO.1 hl;have hx:=xQ.1 hx;have hxm:=aV hx;refine aa1 ?_;rw[j5];refine⟨?_,s7,λa ha b hb e=>?_⟩
  .unfold gI at hxm;obtain⟨p,_,rfl⟩:=cO.1 hxm;exact Pb hg p
  .rw[bR.1 hb]at e;obtain⟨j,hj⟩:=gT ha;exact(Ua hg i x hx j a hj).2.2.1 e
 split at hl
 .obtain⟨i,x,j,h1,h2,h3,rfl⟩:=aa2 hl;simp only[List.nodup_cons,bR,IR,not_false_iff,Ad,DT];omega
 .rw[bR.1 hl];exact KD _
def Ub{d:dR}(hg:ig (bO d))(hr:∀r∈d.regions,uT (bO d) r.lists):∀l∈oC d,∀ps∈l,ps.Nodup:=by
 intro l hl ps hps;rcases fU.1 hl with hl|hl
 .obtain⟨f,_,rfl⟩:=cO.1 hl;exact alF hg _ ps hps
 .obtain⟨r,hrm,rfl⟩:=cO.1 hl;obtain⟨q,hq,rfl⟩:=cO.1 hps;exact((hr r hrm).all q hq).nd
end Kd
namespace Kd
open Go Go.Ideal Canon Gph
def Da(k:aT)(p:ae Clue)(r:bF):ae (Nat×ae Int×ae Int):=(lY p r (k.lists.getD (iG r).toNat [])).filter λx=>decide (jS r<=x.2.1.length)
def mh(r:bF)(i:Nat)(x:Nat×ae Int×ae Int):rZ:={nR r x.2.1 x.2.2 with rule:=(i:Int),at_:=(x.1:Int)}
def qE(k:aT)(p:ae Clue)(r:bF)(i:Nat):ae rZ:=(Da k p r).map (mh r i)
def mP(k:aT)(p:ae Clue):ae rZ:=k.decl.rules.zipIdx.flatMap λx=>qE k p x.1 x.2
def Db{k:aT}{p:ae Clue}(h:fE k p):∀(d i:Nat) a b,p[i]? =some a->p[i+1+d]? =some b->dV a b<0
 |0,i,a,b,ha,hb=>h.sorted i a b ha hb
 |d+1,i,a,b,ha,hb=>by
  have hlt:=(bz.1 hb).1;have hc:p[i+1+d]? =some (p[i+1+d]'(s6)):=bN _;exact Hg (Db h d i a _ ha hc) (h.sorted (i+1+d) _ b hc hb)
variable{p:ae Clue}{k:aT}
def Uc(h:fE k p){a b:Clue}(ha:a∈p)(hb:b∈p)(h1:a.aN=b.aN)(h2:a.at_=b.at_):a=b:=by
 obtain⟨i,hi⟩:=gT ha;obtain⟨j,hj⟩:=gT hb;rcases QN i j with hl|hl|hl
 .have:=tL.1 (Db h (j - (i+1)) i a b hi (by grind));omega
 .grind
 .have:=tL.1 (Db h (i - (j+1)) j b a hj (by grind));omega
def KF(h:fE k p){c a:Int}{v:ae Int}:tN p c a=some v↔∃g∈p,g.aN=c/\g.at_=a/\g.values=v:=by
 unfold tN;constructor
 .intro hf;obtain⟨g,hg,rfl⟩:=lT.1 hf;have h1':=QL hg;have h1:=jI h1';exact⟨g,QM hg,h1.1,h1.2,rfl⟩
 .rintro⟨g,hg,h1,h2,rfl⟩;cases hf:p.find? (λg=>decide (g.aN=c/\g.at_=a))with
  |none=>exact absurd (eB ⟨h1,h2⟩) (QK.1 hf g hg)
  |some g2=>
   have h3':=QL hf;have h3:=jI h3';rw[Uc h hg (QM hf) s6 s6];rfl
def alG{r:bF}{ls:ae (ae Int)}{y:Nat×ae Int×ae Int}:y∈lY p r ls↔ls[y.1]? =some y.2.1/\((r.aN<0/\y.2.2=[])\/(0<=r.aN/\tN p r.aN (y.1:Int)=some y.2.2)):=by
 obtain⟨j,l,v⟩:=y;unfold lY;rw[IU];constructor
 .rintro⟨⟨x,i⟩,hx,h⟩;have hx:=xQ.1 hx;unfold pK at h;split at h
  .rename_i hc;cases h;exact⟨hx,.inl ⟨hc,rfl⟩⟩
  .obtain⟨w,hw,e⟩:=lT.1 h;cases e;exact⟨hx,.inr ⟨s6,hw⟩⟩
 .rintro⟨h1,h2⟩;refine⟨(l,j),xQ.2 h1,?_⟩;unfold pK;rcases h2 with⟨hc,e⟩|⟨hc,e⟩
  .rw[if_pos hc];dsimp only at e;rw[e]
  .rw[if_neg s6];rw[e];rfl
end Kd
namespace Kd
open Go Go.Ideal
def Pd:∀{l m:ae Int},l.Nodup->(∀x∈l,x∈m)->l.length<=m.length
 |[],m,_,_=>bI _
 |a::l,m,hd,hs=>by
  have ha:=hs a (eX ..);have:=Pd (m:=m.erase a) (List.nodup_cons.1 hd).2 (by grind)
  grind
def aa3{g:bY}(hg:ig g):0<g.cells.length:=by
 apply Classical.byContradiction;intro h0;have he:g.cells=[]:=(by grind)
 rw[hg.cells]at he;have hlen:=hg.make.len;have:=Pd (KD _) (λx hx=>by
  have:=List.filter_eq_nil_iff.1 he x hx;simpa using this)
 rw[kK]at this;omega
end Kd
namespace Kd
open Go Go.Ideal Canon Gph
def alH{g:bY}(hg:ig g)(k:Int):(iE g k).length<=2048:=by
 have hl:=hg.len;have hn:=yF g;have hL:=λkf=>Kt hg kf;unfold iE;split
 .unfold l9;rw[bi,o8];omega
 split
 .have:=(hL (λs=>(s.2,true))).1;omega
 split
 .have:=(hL (λs=>(s.1,true))).1;omega
 split
 .unfold uS;split
  .have:=(hL (λs=>(s.1+s.2,true))).1;omega
  split
  .have h1:=hL (λs=>(0,decide (s.1=s.2)));have h2:=hL (λs=>(0,decide (s.1+s.2=g.w - 1)));have:=(O1 h1.2 h2.2 (lK g (λs=>(0,decide (s.1+s.2=g.w - 1)))).length).1;rw[dK]at this;omega
  .simp
 exact kq
def KG{d:dR}(hg:ig (bO d))(hr:∀r∈d.regions,uT (bO d) r.lists):∀l∈oC d,l.length<=2048:=by
 intro l hl;rcases fU.1 hl with hl|hl
 .obtain⟨f,_,rfl⟩:=cO.1 hl;exact alH hg _
 .exact pb
def oD(k:aT)(p:ae Clue)(j:Nat):ae rZ:=(k.decl.rules.take j).zipIdx.flatMap λx=>qE k p x.1 x.2
variable{p:ae Clue}{k:aT}
def aa4:oD k p k.decl.rules.length=mP k p:=by unfold oD mP;rw[dK]
variable{r:bF}{j:Nat}
def Pe(h:k.decl.rules[j]? =some r):oD k p (j+1)=oD k p j++qE k p r j:=by
 have hk:=(bz.1 h).1;unfold oD;exact rB
def Pf{ls:ae (ae Int)}:(lY p r ls).length<=ls.length:=by
 exact lZ (Mg _ _) (by rw[W9];exact bG _)
def alI(hl:∀l∈k.lists,l.length<=2048):(qE k p r j).length<=2048:=by
 unfold qE Da;rw[bi];refine lZ (zh _ _) (lZ Pf ?_)
 grind
def aa5{k:aT}{p:ae Clue}(hl:∀l∈k.lists,l.length<=2048):∀j,j<=k.decl.rules.length->(oD k p j).length<=2048*j
 |0,_=>bI _
 |j+1,hj=>by
  have:=aa5 (p:=p) hl j s6;rw[Pe (bN s6),fu];have:=alI (p:=p) (r:=k.decl.rules[j]) (j:=j) hl;omega
end Kd
namespace Kd
open Canon
variable{b a:Clue}
def si:dV a b=0↔a.aN=b.aN/\a.at_=b.at_:=by
 exact r6
def alJ(a b:Clue):uI a b=if dV a b≠0 then dV a b else eD dB a.values b.values:=by
 rw[YY,<- aaP]
def Ud:uI a b<0↔dV a b<0\/(dV a b=0/\eD dB a.values b.values<0):=by
 rw[alJ];split<;>omega
structure jG(xs rs:List Clue):Prop where
 inc:rs.Pairwise λa b=>dV a b<0
 sub:∀r∈rs,r∈xs
 all:∀x∈xs,∃r∈rs,dV x r=0/\¬eD dB x.values r.values<0
variable{rs:ae Clue}
def alK(h:rs.Pairwise λa b=>dV a b<0){a b:Clue}(ha:a∈rs)(hb:b∈rs)(he:dV a b=0):a=b:=by
 induction h with
 |nil=>cases ha
 |cons h1 _ ih=>
  rcases dm.1 ha with e1|ha'<;>rcases dm.1 hb with e2|hb'
  .rw[e1,e2]
  .grind
  .have:=h1 a ha';rw[<- e2]at this;rw[si]at he;rw[tL]at this;omega
  .exact ih ha' hb'
variable{xs rs':ae Clue}
def jG.mem(h:jG xs rs)(h':jG xs rs'){r:Clue}(hr:r∈rs):r∈rs':=by
 obtain⟨r2,m2,p2,v2⟩:=h'.all r (h.sub r hr);obtain⟨r1,m1,p1,v1⟩:=h.all r2 (h'.sub r2 m2);have h3:dV r r1=0:=by rw[si]at *;omega
 have:=alK h.inc hr m1 h3;have hO:=vU uH;have h4:eD dB r.values r2.values=0:=by
  have:=hO.neg r2.values r.values
  grind
 have h5:=(hO.zero _ _).1 h4;rw[si]at p2;have:r=r2:=by cases r;simp_all
 rw[this];exact m2
def aa6:∀{a b:ae Clue},(a.Pairwise λx y=>dV x y<0)->(b.Pairwise λx y=>dV x y<0)->(∀x,x∈a↔x∈b)->a=b
 |[],[],_,_,_=>rfl
 |[],y::b,_,_,h=>absurd ((h y).2 (eX ..)) s7
 |x::a,[],_,_,h=>absurd ((h x).1 (eX ..)) s7
 |x::a,y::b,ha,hb,h=>by
  obtain⟨a1,a2⟩:=rQ.1 ha;obtain⟨b1,b2⟩:=rQ.1 hb;have hxy:x=y:=by
   rcases dm.1 ((h x).1 (eX ..))with e|e
   .exact e
   .rcases dm.1 ((h y).2 (eX ..))with e'|e'
    .exact e'.symm
    .have q1:=b1 x e;have q2:=a1 y e';rw[tL]at q1 q2;omega
  subst hxy;have irr:∀z:Clue,¬dV z z<0:=λz h=>by rw[tL]at h;omega
  rw[aa6 a2 b2 λz=>⟨λhz=>?_,λhz=>?_⟩]
  .rcases dm.1 ((h z).1 (fP _ hz))with e|e
   .subst e;exact absurd (a1 z hz) (irr z)
   .exact e
  .rcases dm.1 ((h z).2 (fP _ hz))with e|e
   .subst e;exact absurd (b1 z hz) (irr z)
   .exact e
def jG.uniq(h:jG xs rs)(h':jG xs rs'):rs=rs':=aa6 h.inc h'.inc λr=>⟨h.mem h',h'.mem h⟩
def jG.Ue{xs':ae Clue}(h:jG xs rs)(h1:∀x,x∈xs'↔x∈xs):jG xs' rs:=⟨h.inc,λr hr=>(h1 r).2 (h.sub r hr),λx hx=>h.all x ((h1 x).1 hx)⟩
def jG.self(h:jG xs rs):jG rs rs:=⟨h.inc,λ_ h=>h,λx hx=>⟨x,hx,by rw[si];exact⟨rfl,rfl⟩,yb⟩⟩
def cgo{β:Type}(eq:β->β->Bool)(p:β):ae β->ae β
 |[]=>[]
 |y::l=>cond (eq y p) (cgo eq y l) (y::cgo eq y l)
def wy{β:Type}(eq:β->β->Bool):ae β->ae β
 |[]=>[]
 |x::l=>x::cgo eq x l
def Uf{β:Type}{eq:β->β->Bool}:∀{l:ae β} {p r:β},r∈cgo eq p l->r∈l
 |y::l,p,r,h=>by
  unfold cgo at h;cases e:eq y p with
  |true=>rw[e]at h;exact fP _ (Uf h)
  |false=>
   rw[e]at h;exact rN
variable{β:Type}
def alL{eq:β->β->Bool}:∀{l:ae β} {r:β},r∈wy eq l->r∈l
 |x::l,r,h=>by
  exact rN
def Ug{β γ:Type}{eq:β->β->Bool}{eq':γ->γ->Bool}(f:β->γ)(h:∀a b,eq a b=eq' (f a) (f b)):∀(l:ae β) (p:β),(cgo eq p l).map f=cgo eq' (f p) (l.map f)
 |[],_=>rfl
 |y::l,p=>by
  rw[iX,cgo,cgo,<- h];cases eq y p with
  |true=>exact Ug f h l y
  |false=>
   show f y::(cgo eq y l).map f=f y::_;rw[Ug f h l y]
def alM{γ:Type}{eq:β->β->Bool}{eq':γ->γ->Bool}(f:β->γ)(h:∀a b,eq a b=eq' (f a) (f b)):∀(l:ae β),(wy eq l).map f=wy eq' (l.map f)
 |[]=>rfl
 |x::l=>by
  show f x::(cgo eq x l).map f=f x::_;rw[Ug f h l x]
abbrev tO(a b:Clue):Bool:=decide (dV a b=0)
def aa8:∀(l:ae Clue) (p:Clue),((p::l).Pairwise λx y=>¬uI y x<0)->(p::cgo tO p l).Pairwise (λa b=>dV a b<0)/\∀x∈l,(∃r∈p::cgo tO p l,dV x r=0/\¬eD dB x.values r.values<0)
 |[],p,_=>⟨List.pairwise_singleton ..,λx hx=>by cases hx⟩
 |y::l,p,h=>by
  obtain⟨h1,h2⟩:=rQ.1 h;have hyp:=h1 y (eX ..);obtain⟨i1,i2⟩:=aa8 l y h2;obtain⟨i3,i4⟩:=rQ.1 i1;have hO:=vU uH;unfold cgo;by_cases e:dV y p=0
  .rw[show tO y p=true from eB e,cond_true];have ep:∀z,dV p z=dV y z:=λz=>by
    rw[si]at e;unfold dV;rw[e.1,e.2]
   refine⟨rQ.2 (by grind),λx hx=>?_⟩;have hp:∀x:Clue,dV x y=0->¬eD dB x.values y.values<0->∃r∈p::cgo tO y l,dV x r=0/\¬eD dB x.values r.values<0:=λx q1 q2=>by
    refine⟨p,eX ..,by rw[si]at *;omega,λq=>?_⟩;have hpy:¬eD dB y.values p.values<0:=λq=>hyp (Ud.2 (.inr ⟨e,q⟩));by_cases e1:eD dB x.values y.values=0
    .rw[(hO.zero _ _).1 e1]at q;exact hpy q
    by_cases e2:eD dB y.values p.values=0
    .rw[<- (hO.zero _ _).1 e2]at q;exact q2 q
    have:=hO.neg p.values y.values;have:=hO.neg y.values p.values;have:=hO.neg y.values x.values;have:=hO.neg x.values y.values;have:=hO.trans p.values y.values x.values s6 s6;have:=hO.neg p.values x.values;omega
   rcases dm.1 hx with rfl|hx
   .exact hp x (by rw[si];exact⟨rfl,rfl⟩) C3
   grind
  .rw[show tO y p=false from dA e,cond_false];have hpy:dV p y<0:=by
    have:¬dV y p<0:=λq=>hyp (Ud.2 (.inl q));rw[tL]at *;rw[si]at e;omega
   refine⟨rQ.2 ⟨λz hz=>?_,i1⟩,λx hx=>?_⟩
   .rcases dm.1 hz with rfl|hz
    .exact hpy
    .exact Hg hpy (i3 z hz)
   .rcases dm.1 hx with rfl|hx
    .exact⟨x,(by grind),by rw[si];exact⟨rfl,rfl⟩,C3⟩
    grind
def alN{ys:ae Clue}(hp:ys.Perm xs)(hs:ys.Pairwise λx y=>¬uI y x<0):jG xs (wy tO ys):=by
 cases ys with
 |nil=>exact⟨List.Pairwise.nil,(λr hr=>by cases hr),(by grind)⟩
 |cons p l=>
  obtain⟨h1,h2⟩:=aa8 l p hs;refine⟨h1,λr hr=>hp.mem_iff.1 (alL hr),λx hx=>?_⟩;rcases dm.1 (hp.mem_iff.2 hx)with rfl|hx
  .exact⟨x,eX ..,by rw[si];exact⟨rfl,rfl⟩,yb⟩
  .exact h2 x hx
def opn(p:ae Clue)(x:Clue):Bool:=match p.getLast? with
 |none=>true
 |some y=>decide (0<dV x y)
variable{p:ae Clue}
def Uh{x:Clue}:opn (p++[b]) x=decide (0<dV x b):=by
 unfold opn
 grind
def Pg:0<dV a b↔dV b a<0:=by
 exact r6
structure Ui(l p:List Clue)(n:Nat):Prop where
 inc:p.Pairwise λa b=>dV a b<0
 sub:∀r∈p,r∈l
 done:∀x∈l,opn p x=false->∃r∈p,dV x r=0/\¬eD dB x.values r.values<0
 cnt:l.countP (opn p)+n<=l.length
def aa9{α:Type}{p q:α->Bool}:∀{l:ae α} {b:α},b∈l->p b=true->q b=false->(∀x,q x=true->p x=true)->l.countP q+1<=l.countP p
 |x::l,b,hb,h1,h2,h3=>by
  rcases dm.1 hb with rfl|hb
  .have:=List.countP_mono_left (l:=l) λx _=>h3 x
   grind
  .have:=aa9 hb h1 h2 h3
   grind
def aba:∀{p:ae Clue} {y:Clue},(p.Pairwise λa b=>dV a b<0)->p.getLast? =some y->∀a∈p,a=y\/dV a y<0
 |[],y,_,h,a,ha=>by cases ha
 |[x],y,_,h,a,ha=>by
  grind
 |x::z::p,y,hp,h,a,ha=>by
  obtain⟨h1,h2⟩:=rQ.1 hp;have h':(z::p).getLast? =some y:=by grind
  rcases dm.1 ha with rfl|ha
  .grind
  .exact aba h2 h' a ha
def Ui.step{l:ae Clue}{n:Nat}(h:Ui l p n)(hb:b∈l)(ho:opn p b=true)(hl:∀x∈l,opn p x=true->¬uI x b<0):Ui l (p++[b]) (n+1):=by
 have hab:∀y,p.getLast? =some y->dV y b<0:=λy hy=>by
  unfold opn at ho;rw[hy]at ho;exact Pg.1 (jI ho)
 refine⟨Mi.2 ⟨h.inc,List.pairwise_singleton ..,λa ha b' hb'=>?_⟩,λr hr=>?_,λx hx hc=>?_,?_⟩
 .rw[bR.1 hb'];cases e:p.getLast? with
  |none=>grind
  |some y=>
   have h2:=hab y e;rcases aba h.inc e a ha with rfl|h1
   .exact h2
   .exact Hg h1 h2
 .rcases fU.1 hr with hr|hr
  .exact h.sub r hr
  grind
 .rw[Uh]at hc;cases e:opn p x with
  |true=>
   have h1:=hl x hx e;rw[Ud]at h1
   grind
  |false=>
   obtain⟨r,m,q⟩:=h.done x hx e
   grind
 .have:=aa9 (q:=opn (p++[b])) hb ho (by rw[Uh];exact dA (by rw[Pg,tL];omega)) (λx hx=>by
   rw[Uh]at hx;have hx:=jI hx;unfold opn;cases e:p.getLast? with
   |none=>rfl
   |some y=>exact eB (Pg.2 (Hg (hab y e) (Pg.1 hx))))
  have:=h.cnt;omega
end Kd
namespace Kd
open Canon
variable{rs:ae Clue}
def alO(h:rs.Pairwise λa b=>dV a b<0):rs.Nodup:=h.imp λ{a b} hab he=>by rw[he,tL]at hab;omega
def abb{α:Type}[DecidableEq α]:∀{a b:ae α},a.Nodup->(∀x∈a,x∈b)->a.length<=b.length
 |[],_,_,_=>bI _
 |x::a,b,hn,h=>by
  obtain⟨h1,h2⟩:=List.nodup_cons.1 hn;have:=abb (b:=b.erase x) h2 (by grind)
  grind
def alP{xs:ae Clue}(h:jG xs rs):rs.length<=xs.length:=abb (alO h.inc) h.sub
end Kd
namespace Kd
open Go Go.Ideal Canon Gph
variable{n:Nat}{p:ae Clue}{g:Clue}
def alQ(hg:p[n]? =some g){x:Clue}(hx:x∈p)(hne:x≠g):x∈p.take n++p.drop (n+1):=by
 have hn:=(bz.1 hg).1;have:p=p.take n++g::p.drop (n+1):=by
  conv=>lhs;rw[<- l5 n p]
  rw[mX hn,(bz.1 hg).2]
 rw[this]at hx;rcases fU.1 hx with h|h
 .exact ul _ h
 .rcases dm.1 h with h|h
  .exact absurd h hne
  .exact wQ _ h
def Uj{x:Clue}(hx:x∈p.take n++p.drop (n+1)):x∈p:=by
 rcases fU.1 hx with h|h
 .exact FL h
 .exact IZ h
def abd(g:Clue):¬dV g g<0:=by rw[tL];omega
variable{k:aT}
def alR(h:fE k p){n:Nat}{g:Clue}(hg:p[n]? =some g):g∉p.take n++p.drop (n+1):=by
 intro hx;rcases fU.1 hx with hx|hx
 .obtain⟨i,hi⟩:=gT hx;rw[wP]at hi;split at hi
  .exact abd g (Db h (n - (i+1)) i g g hi (by rw[show i+1+(n - (i+1))=n by omega];exact hg))
  .cases hi
 .obtain⟨i,hi⟩:=gT hx;rw[rH]at hi;exact abd g (Db h i n g g hg hi)
def abe(h:fE k p)(h2:fE k (p.take n++p.drop (n+1)))(hg:p[n]? =some g){c a:Int}(hne:¬(c=g.aN/\a=g.at_)):tN (p.take n++p.drop (n+1)) c a=tN p c a:=by
 apply Option.ext;intro v;rw[KF h2,KF h];constructor
 .rintro⟨x,hx,e⟩;exact⟨x,Uj hx,e⟩
 .rintro⟨x,hx,e1,e2,e3⟩;exact⟨x,alQ hg hx (λe=>hne (by rw[<- e];exact⟨e1.symm,e2.symm⟩)),e1,e2,e3⟩
def alS(h:fE k p)(h2:fE k (p.take n++p.drop (n+1)))(hg:p[n]? =some g):tN (p.take n++p.drop (n+1)) g.aN g.at_=none:=by
 cases hf:tN (p.take n++p.drop (n+1)) g.aN g.at_ with
 |none=>rfl
 |some v=>
  obtain⟨x,hx,e1,e2,_⟩:=(KF h2).1 hf;have:x=g:=Uc h (Uj hx) (aV hg) e1 e2;subst this;exact absurd hx (alR h hg)
def Ph{α β:Type}{f g:α->az β}:∀{l:ae α},(∀x∈l,f x=g x)->l.filterMap f=l.filterMap g
 |[],_=>rfl
 |x::l,h=>by rw[Af,Af,h x (eX ..),Ph λy hy=>h y (fP _ hy)]
def Uk{α β:Type}{f g:α->ae β}:∀{l:ae α},(∀x∈l,f x=g x)->l.flatMap f=l.flatMap g
 |[],_=>rfl
 |x::l,h=>by rw[FK,FK,h x (eX ..),Uk λy hy=>h y (fP _ hy)]
variable{α:Type}
def Ul{l:ae α}{x:α}(h:l[n]? =some x):l.zipIdx=(l.take n).zipIdx++(x,n)::(l.drop (n+1)).zipIdx (n+1):=by
 have hn:=(bz.1 h).1;have e:l=l.take n++x::l.drop (n+1):=by
  conv=>lhs;rw[<- l5 n l]
  rw[mX hn,(bz.1 h).2]
 conv=>lhs;rw[e]
 rw[BZ,IM,gW,Ae s6,gq]
def abf{l:ae α}{y:α×Nat}(h:y∈(l.take n).zipIdx):y.2≠n:=by
 have:=(List.mem_zipIdx h).2.1;rw[gW]at this;omega
def abg{l:ae α}{y:α×Nat}(h:y∈l.zipIdx (n+1)):y.2≠n:=by
 have:=(List.mem_zipIdx h).1;omega
def alT(h:fE k p)(h2:fE k (p.take n++p.drop (n+1)))(hg:p[n]? =some g){r:bF}{j:Nat}{ls:ae (ae Int)}(hrc:r.aN=g.aN)(hc0:0<=g.aN)(hl0:jS r=0)(hls:k.lists[(iG r).toNat]? =some ls)(ha0:0<=g.at_)(ha1:g.at_<ls.length):
 ∃A own B,qE k p r j=A++own::B/\qE k (p.take n++p.drop (n+1)) r j=A++B/\own.rule=(j:Int)/\own.at_=g.at_:=by
 obtain⟨a,ha⟩:=dW ha0;have hla:ls[a]? =some (ls[a]'(s6)):=bN _;generalize ls[a]'(s6)=l at hla;have hf0:∀X:ae (Nat×ae Int×ae Int),X.filter (λx=>decide (jS r<=x.2.1.length))=X:=λX=>QJ.2 λx _=>by rw[hl0];exact eB (bI _)
 have hgd:k.lists.getD (iG r).toNat []=ls:=fK hls;have hlr:∀(q:ae Clue) (x:ae Int×Nat),pK q r x=(tN q g.aN (x.2:Int)).map λv=>(x.2,x.1,v):=λq x=>by unfold pK;rw[if_neg s6,hrc]
 have hsome:pK p r (l,a)=some (a,l,g.values):=by
  rw[hlr,(KF h).2 ⟨g,aV hg,rfl,ha,rfl⟩];rfl
 have hnone:pK (p.take n++p.drop (n+1)) r (l,a)=none:=by
  have:=alS h h2 hg;rw[ha]at this;rw[hlr];show Option.map _ (tN _ g.aN (a:Int))=none;rw[this];rfl
 have hsame:∀x:ae Int×Nat,x.2≠a->pK (p.take n++p.drop (n+1)) r x=pK p r x:=λx hx=>by
  rw[hlr,hlr,abe h h2 hg (by rintro⟨_,e⟩;omega)]
 refine⟨((ls.take a).zipIdx.filterMap (pK p r)).map (mh r j),mh r j (a,l,g.values),(((ls.drop (a+1)).zipIdx (a+1)).filterMap (pK p r)).map (mh r j),?_,?_,rfl,by show(a:Int)=_;omega⟩
 .unfold qE Da;rw[hf0,hgd];unfold lY;rw[Ul hla,Cb,Af,hsome,bZ,iX]
 .unfold qE Da;rw[hf0,hgd];unfold lY;rw[Ul hla,Cb,Af,hnone,Ph (l:=(ls.take a).zipIdx) (λx hx=>hsame x (abf hx)),Ph (l:=(ls.drop (a+1)).zipIdx (a+1)) (λx hx=>hsame x (abg hx)),bZ]
def alone(h:fE k p)(h2:fE k (p.take n++p.drop (n+1)))(hg:p[n]? =some g){r:bF}{j:Nat}{ls:ae (ae Int)}(hr:k.decl.rules[j]? =some r)(hrc:r.aN=g.aN)(Um:∀(i:Nat) r',k.decl.rules[i]? =some r'->r'.aN=g.aN->i=j)(hc0:0<=g.aN)(hl0:jS r=0)(hls:k.lists[(iG r).toNat]? =some ls)(ha0:0<=g.at_)(ha1:g.at_<ls.length):
 ∃A own B,mP k p=A++own::B/\mP k (p.take n++p.drop (n+1))=A++B/\own.rule=(j:Int)/\own.at_=g.at_:=by
 obtain⟨A,own,B,e1,e2,e3,e4⟩:=alT (j:=j) h h2 hg hrc hc0 hl0 hls ha0 ha1;have hsame:∀x:bF×Nat,x∈k.decl.rules.zipIdx->x.2≠j->qE k (p.take n++p.drop (n+1)) x.1 x.2=qE k p x.1 x.2:=λx hx hne=>by
  have hx:=xQ.1 (show(x.1,x.2)∈_ from hx);have hcl:x.1.aN≠g.aN:=λe=>hne (Um x.2 x.1 hx e);unfold qE Da lY;rw[Ph (g:=pK p x.1) λy _=>?_];unfold pK;rw[abe h h2 hg (λe=>hcl e.1)]
 have hz:=Ul hr;have m1:∀x,x∈(k.decl.rules.take j).zipIdx->x∈k.decl.rules.zipIdx:=λx hx=>by rw[hz];exact ul _ hx
 have m2:∀x,x∈(k.decl.rules.drop (j+1)).zipIdx (j+1)->x∈k.decl.rules.zipIdx:=λx hx=>by rw[hz];exact wQ _ (fP _ hx)
 refine⟨(k.decl.rules.take j).zipIdx.flatMap (λx=>qE k p x.1 x.2)++A,own,B++((k.decl.rules.drop (j+1)).zipIdx (j+1)).flatMap (λx=>qE k p x.1 x.2),?_,?_,e3,e4⟩
 .unfold mP;rw[hz,Xa,FK,e1];simp
 .unfold mP;rw[hz,Xa,FK,e2,Uk (l:=(k.decl.rules.take j).zipIdx) (λx hx=>hsame x (m1 x hx) (abf hx)),Uk (l:=(k.decl.rules.drop (j+1)).zipIdx (j+1)) (λx hx=>hsame x (m2 x hx) (abg hx))];simp
def alU{g:bY}(kf:Int×Int->Int×Bool):(lK g kf).length<=g.cells.length:=by
 have h:=O0 kf _ (bK g) rfl;rw[r9]at h;unfold lK;rw[bi];have:(bW ((kJ kf (bK g)).map (·.1))).length=((kJ kf (bK g)).map (·.1)).length:=(Ca _ _).length_eq;rw[this,bi];omega
def alV{g:bY}(hg:ig g)(hs:g.cells.length<=16)(k:Int):(iE g k).length<=96:=by
 have hn:=yF g;have hL:=λkf=>alU (g:=g) kf;have hM:=λkf=>Kt hg kf;unfold iE;split
 .unfold l9;rw[bi,o8];omega
 split
 .have:=hL (λs=>(s.2,true));omega
 split
 .have:=hL (λs=>(s.1,true));omega
 split
 .unfold uS;split
  .have:=hL (λs=>(s.1+s.2,true));omega
  split
  .have h1:=hL (λs=>(0,decide (s.1=s.2)));have h2:=hL (λs=>(0,decide (s.1+s.2=g.w - 1)));have:=(O1 (hM (λs=>(0,decide (s.1=s.2)))).2 (hM (λs=>(0,decide (s.1+s.2=g.w - 1)))).2 (lK g (λs=>(0,decide (s.1+s.2=g.w - 1)))).length).1;rw[dK]at this;omega
  .simp
 exact kq
def alW{d:dR}(hg:ig (bO d))(hs:(bO d).cells.length<=16)(hr:∀r∈d.regions,uT (bO d) r.lists):∀l∈oC d,l.length<=96:=by
 intro l hl;unfold oC at hl;rcases fU.1 hl with hl|hl
 .obtain⟨f,_,rfl⟩:=cO.1 hl;exact alV hg hs _
 .exact pb
def abh{k:aT}{p:ae Clue}(hl:∀l∈k.lists,l.length<=96):∀j,j<=k.decl.rules.length->(oD k p j).length<=96*j
 |0,_=>bI _
 |j+1,hj=>by
  have:=abh (p:=p) hl j s6;rw[Pe (bN s6),fu];have:(qE k p k.decl.rules[j] j).length<=96:=by
   unfold qE Da;rw[bi];refine lZ (zh _ _) (lZ Pf ?_);rw[List.getD];cases h:k.lists[(iG k.decl.rules[j]).toNat]? with
   |none=>simp
   |some l=>exact hl l (aV h)
  omega
def alX(hl:∀l∈k.lists,l.length<=96)(hr:k.decl.rules.length<=16):(mP k p).length<=4096:=by
 have:=abh (p:=p) hl _ (bG _);rw[aa4]at this;omega
end Kd
namespace Kd
open Go Go.Ideal
def Un:∀{a b:ae Int},a.Pairwise (·<·)->b.Pairwise (·<·)->(∀x,x∈a↔x∈b)->a=b
 |[],[],_,_,_=>rfl
 |[],y::b,_,_,h=>by have:=(h y).2 (eX ..);cases this
 |x::a,[],_,_,h=>by have:=(h x).1 (eX ..);cases this
 |x::a,y::b,ha,hb,h=>by
  have hxy:x=y:=by
   rcases dm.1 ((h x).1 (eX ..))with e|hx
   .exact e
   rcases dm.1 ((h y).2 (eX ..))with e|hy
   .exact e.symm
   have:=(rQ.1 ha).1 y hy;have:=(rQ.1 hb).1 x hx;omega
  subst hxy;rw[Un (rQ.1 ha).2 (rQ.1 hb).2 λz=>?_];constructor
  .intro hz;have:=(rQ.1 ha).1 z hz;exact(dm.1 ((h z).1 (fP _ hz))).resolve_left s6
  .intro hz;have:=(rQ.1 hb).1 z hz;exact(dm.1 ((h z).2 (fP _ hz))).resolve_left s6
variable{x:Int}{n:Nat}
def alY:x∈upTo' n↔0<=x/\x<(n:Int):=by
 unfold upTo';rw[cO];constructor
 .grind
 .intro h;exact⟨x.toNat,xP.2 s6,s6⟩
def alZ(n:Nat):(upTo' n).Pairwise (·<·):=by
 unfold upTo';exact j0
def zQ(n:Nat)(p:Int->Bool):ae Int:=(upTo' n).filter p
def al0{p:Int->Bool}:x∈zQ n p↔(0<=x/\x<(n:Int))/\p x=true:=by
 unfold zQ;rw[qm,alY]
def Uo(n:Nat)(p:Int->Bool):(zQ n p).Pairwise (·<·):=List.Pairwise.filter _ (alZ n)
def al1{l:ae Int}(hi:l.Pairwise (·<·)){n:Nat}{p:Int->Bool}(h:∀x,x∈l↔(0<=x/\x<(n:Int))/\p x=true):l=zQ n p:=
 Un hi (Uo n p) λx=>(h x).trans al0.symm
structure au1(s w h:Int)(holes:List Int):Prop where
 sh:s=1\/s=2
 wi:1<=w/\w<=16
 he:1<=h/\h<=16
 inc:holes.Pairwise (·<·)
 mem:∀x∈holes,0<=x/\x<w*h
 ne:wu w h holes≠[]
def uV(g:bY)(c:Int):Int×Int:=((g.cells[c.toNat]?).map (kX g)).getD (0,0)
variable{g:bY}{k:Nat}
def abj(h:g.cells[k]? =some x):uV g (k:Int)=kX g x:=by
 unfold uV
 grind
def abk{q:Int×(Int×Int)}:q∈bK g↔(0<=q.1/\q.1<(g.cells.length:Int))/\q.2=uV g q.1:=by
 constructor
 .intro h;refine⟨O6 q h,?_⟩;obtain⟨k,hk⟩:=zb.1 h;have h1:=Bc hk;have hkl:=(bz.1 hk).1;rw[r9]at hkl;have hx:=bN hkl;rw[CY hx]at hk;have hk:=Option.some.inj hk;rw[h1,abj hx,<- hk]
 .rintro⟨⟨h1,h2⟩,h3⟩;have hkl:q.1.toNat<g.cells.length:=by omega
  have hx:=bN hkl;have h4:=CY hx;rw[show((q.1.toNat:Nat))=q.1 by omega]at h4;have h5:uV g q.1=kX g g.cells[q.1.toNat]:=by
   have:=abj hx
   rwa [show((q.1.toNat):Int)=q.1 by omega]at this
  rw[<- h5,<- h3]at h4;exact aV h4
def Kg{α β:Type}[DecidableEq α](b:α)(v:β):∀m:ae (α×β),(upd b v m).map (·.1)=if b∈m.map (·.1)then m.map (·.1)else m.map (·.1)++[b]
 |[]=>by
  rfl
 |(a,u)::m=>by
  unfold upd;by_cases e:b=a
  .grind
  .rw[if_neg e,iX,Kg b v m]
   grind
def rA(kf:Int×Int->Int×Bool)(ps:ae (Int×(Int×Int)))(n:Int):ae Int:=(ps.filter λp=>(kf p.2).2&&decide ((kf p.2).1=n)).map (·.1)
def Uq(kf:Int×Int->Int×Bool)(ps:ae (Int×(Int×Int)))(p:Int×(Int×Int))(n:Int):rA kf (ps++[p]) n=rA kf ps n++if((kf p.2).2&&decide ((kf p.2).1=n))=true then[p.1]else[]:=by
 unfold rA
 grind
def abl(kf:Int×Int->Int×Bool)(m:Nat):∀ps:ae (Int×(Int×Int)),ps.length=m->((kJ kf ps).map (·.1)).Nodup/\∀n,(n∈(kJ kf ps).map (·.1)↔rA kf ps n≠[])/\(dM n (kJ kf ps)).getD []=rA kf ps n:=by
 induction m with
 |zero=>
  intro ps h;rw[pU.1 h];exact⟨Ad,λn=>⟨by simp[kJ,rA],rfl⟩⟩
 |succ m ih=>
  intro ps h;obtain⟨qs,p,rfl⟩:∃qs p,ps=qs++[p]:=⟨ps.dropLast,ps.getLast tD,(FN _).symm⟩
  obtain⟨h1,h2⟩:=ih qs tj;rw[Kq];unfold zP;cases hb:(kf p.2).2 with
  |false=>
   refine⟨h1,λn=>?_⟩;rw[Uq,hb,if_neg s7,jo];exact h2 n
  |true=>
   dsimp only[cond];rw[Kg];refine⟨?_,λn=>⟨?_,?_⟩⟩
   .grind
   .rw[Uq,hb];by_cases e:(kf p.2).1=n
    .have hc:(true&&decide ((kf p.2).1=n))=true:=by simp[e]
     split
     .rename_i hn;rw[e]at hn;exact⟨λ_=>by simp,λ_=>hn⟩
     grind
    grind
   .rw[Bd,Uq,hb]
    grind
def al2(kf:Int×Int->Int×Bool)(n:Int):rA kf (bK g) n=zQ g.cells.length λc=>(kf (uV g c)).2&&decide ((kf (uV g c)).1=n):=by
 refine al1 ?_ λc=>?_
 .unfold rA;rw[zi];refine List.Pairwise.filter _ ?_;rw[zf];intro i j hi hj hij;have h1:=Bc (bN hi);have h2:=Bc (bN hj);omega
 .unfold rA;rw[cO];constructor
  .rintro⟨p,hp,rfl⟩;obtain⟨h1,h2⟩:=qm.1 hp;obtain⟨h3,h4⟩:=abk.1 h1
   grind
  .rintro⟨h1,h2⟩;exact⟨(c,uV g c),qm.2 ⟨abk.2 ⟨h1,rfl⟩,h2⟩,rfl⟩
def dJ(lo:Int)(k:Nat):ae Int:=(List.range k).map λi:Nat=>lo+(i:Int)
def al3(lo:Int)(k:Nat):dJ lo (k+1)=dJ lo k++[lo+(k:Int)]:=by
 unfold dJ;rw[BX,bZ];rfl
def al4{lo:Int}:x∈dJ lo k↔lo<=x/\x<lo+(k:Int):=by
 unfold dJ;rw[cO];constructor
 .grind
 .intro h;exact⟨(x - lo).toNat,xP.2 s6,s6⟩
def al5(lo:Int)(k:Nat):(dJ lo k).Pairwise (·<·):=by
 unfold dJ;exact j0
def KH(L:Int->ae Int)(lo:Int)(k:Nat):ae (ae Int):=((dJ lo k).map L).filter λl=>!l.isEmpty
def al6(L:Int->ae Int)(lo:Int)(k:Nat):KH L lo (k+1)=KH L lo k++if L (lo+(k:Int))=[]then[]else[L (lo+(k:Int))]:=by
 unfold KH;rw[al3,bZ]
 grind
def al7(kf:Int×Int->Int×Bool){lo:Int}{k:Nat}(hk:∀p∈bK g,(kf p.2).2=true->lo<=(kf p.2).1/\(kf p.2).1<lo+(k:Int)):lK g kf=KH (rA kf (bK g)) lo k:=by
 obtain⟨h1,h2⟩:=abl kf _ (bK g) rfl;have h3:bW ((kJ kf (bK g)).map (·.1))=(dJ lo k).filter λn=>!(rA kf (bK g) n).isEmpty:=by
  refine Un (T9 h1) (List.Pairwise.filter _ (al5 lo k)) λn=>?_;rw[Hf,(h2 n).1,qm,al4];have hne:((!(rA kf (bK g) n).isEmpty)=true)↔rA kf (bK g) n≠[]:=by
   grind
  rw[hne];refine⟨λh=>⟨?_,h⟩,λh=>h.2⟩;obtain⟨c,hc⟩:=List.exists_mem_of_ne_nil _ h;unfold rA at hc
  grind
 unfold lK KH;rw[h3,List.filter_map];refine yZ λn _=>?_;exact(h2 n).2
def abm(c:Int×Int->Bool):lK g (λs=>(0,c s))=if zQ g.cells.length (λb=>c (uV g b))=[]then[]else[zQ g.cells.length λb=>c (uV g b)]:=by
 rw[al7 (lo:=0) (k:=1) (λs=>(0,c s)) (by grind)];rw[al6];have e:rA (λs=>(0,c s)) (bK g) (0+((0:Nat)))=zQ g.cells.length λb=>c (uV g b):=by
  rw[al2];simp
 rw[e];rfl
end Kd
namespace Kd
open Go Go.Ideal Canon
structure bM(n:Nat)(p:List Int):Prop where
 len:p.length=n
 dJ:∀x∈p,0<=x/\x<(n:Int)
 nd:p.Nodup
variable{p:ae Int}{c:Int}
def qd(h0:0<=c)(h1:c<p.length):p[c.toNat]? =some (aU p c):=by
 unfold aU
 grind
def Ur(h0:0<=c)(h1:c<p.length):aU p c∈p:=aV (qd h0 h1)
variable{n:Nat}
def bM.at_(h:bM n p){c:Int}(h0:0<=c)(h1:c<(n:Int)):0<=aU p c/\aU p c<(n:Int):=h.dJ _ (Ur h0 (by rw[h.len];exact h1))
variable{α:Type}
def Hl{p:ae α}(h:p.Nodup){i j:Nat}{x:α}(hi:p[i]? =some x)(hj:p[j]? =some x):i=j:=by
 obtain⟨h1,h2⟩:=bz.1 hi;obtain⟨h3,h4⟩:=bz.1 hj;rcases QN i j with hl|hl|hl
 .exact absurd (h2.trans h4.symm) (zf.1 h i j h1 h3 hl)
 .exact hl
 .exact absurd (h4.trans h2.symm) (zf.1 h j i h3 h1 hl)
def bM.inj(h:bM n p){a b:Int}(a0:0<=a)(a1:a<(n:Int))(b0:0<=b)(b1:b<(n:Int))(e:aU p a=aU p b):a=b:=by
 have h1:=qd a0 (by rw[h.len];exact a1);have h2:=qd b0 (by rw[h.len];exact b1);rw[e]at h1;have:=Hl h.nd h1 h2;omega
def bM.mem(h:bM n p){y:Int}(y0:0<=y)(y1:y<(n:Int)):y∈p:=by
 apply Classical.byContradiction;intro hn;have h1:=Pd (m:=(upTo' n).erase y) h.nd (λx hx=>by
  have hne:x≠y:=λe=>hn (e▸hx);refine(List.mem_erase_of_ne hne).2 ?_;have:=h.dJ x hx;exact cO.2 ⟨x.toNat,xP.2 s6,s6⟩)
 have hy:y∈upTo' n:=by
  exact cO.2 ⟨y.toNat,xP.2 s6,s6⟩
 have h2:=aeO hy;have h3:=List.length_pos_of_mem hy;rw[kK]at h2 h3;have h4:=h.len;omega
def bM.onto(h:bM n p){y:Int}(y0:0<=y)(y1:y<(n:Int)):∃c,0<=c/\c<(n:Int)/\aU p c=y:=by
 obtain⟨i,hi⟩:=gT (h.mem y0 y1);have:=(bz.1 hi).1;have h4:=h.len;refine⟨i,s6,s6,jF hi⟩
def dF(a b:ae Int):ae Int:=b.map (aU a)
def bX(p:ae Int):ae Int:=(List.range p.length).map λy:Nat=>((p.idxOf (y:Int):Nat):Int)
variable{a b:ae Int}
def yH(h0:0<=c)(h1:c<b.length):aU (dF a b) c=aU a (aU b c):=by
 have h:=qd h0 h1;have h2:(b.map (aU a))[c.toNat]? =some (aU a (aU b c)):=by grind
 exact fK h2
variable{l:ae Int}
def Us{f:Int->Int}(h:l.Nodup)(hf:∀a∈l,∀b∈l,f a=f b->a=b):(l.map f).Nodup:=by
 unfold List.Nodup;rw[zi];exact List.Pairwise.imp_of_mem (by grind) h
def bM.comp(ha:bM n a)(hb:bM n b):bM n (dF a b):=by
 refine⟨by unfold dF;rw[bi];exact hb.len,λx hx=>?_,?_⟩
 .obtain⟨y,hy,rfl⟩:=cO.1 hx;have:=hb.dJ y hy;exact ha.at_ this.1 this.2
 .exact Us hb.nd λx hx y hy e=>ha.inj (hb.dJ x hx).1 (hb.dJ x hx).2 (hb.dJ y hy).1 (hb.dJ y hy).2 e
def xD(p:ae Int):(bX p).length=p.length:=by unfold bX;grind
def al8{y:Int}(h0:0<=y)(h1:y<p.length):aU (bX p) y=((p.idxOf y:Nat):Int):=by
 obtain⟨m,rfl⟩:=dW h0;apply jF;unfold bX
 grind
def bM.idx(h:bM n p){c:Int}(h0:0<=c)(h1:c<(n:Int)):((p.idxOf (aU p c):Nat):Int)=c:=by
 have hg:=qd h0 (by rw[h.len];exact h1);have h2:p[p.idxOf (aU p c)]? =some (aU p c):=by
  grind
 have:=Hl h.nd hg h2;omega
def bM.wz(h:bM n p){c:Int}(h0:0<=c)(h1:c<(n:Int)):aU (bX p) (aU p c)=c:=by
 have:=h.at_ h0 h1;rw[al8 this.1 (by rw[h.len];exact this.2),h.idx h0 h1]
def bM.Ho(h:bM n p){y:Int}(h0:0<=y)(h1:y<(n:Int)):aU p (aU (bX p) y)=y:=by
 obtain⟨c,c0,c1,rfl⟩:=h.onto h0 h1;rw[h.wz c0 c1]
def bM.inv(h:bM n p):bM n (bX p):=by
 refine⟨by rw[xD];exact h.len,λx hx=>?_,?_⟩
 .obtain⟨i,hi⟩:=gT hx;have hl:=(bz.1 hi).1;rw[xD,h.len]at hl;obtain⟨c,c0,c1,hc⟩:=h.onto (y:=i) s6 s6;have:=h.wz c0 c1;rw[hc,jF hi]at this;omega
 .unfold bX;unfold List.Nodup;rw[zi];refine List.Pairwise.imp_of_mem (λ{a b} ha hb hne e=>hne ?_) List.nodup_range;have ha:=xP.1 ha;have hb:=xP.1 hb;rw[h.len]at ha hb;obtain⟨c,c0,c1,hc⟩:=h.onto (y:=a) s6 s6;obtain⟨d,d0,d1,hd⟩:=h.onto (y:=b) s6 s6;rw[<- hc,<- hd,h.idx c0 c1,h.idx d0 d1]at e;rw[e]at hc;omega
def bM.ident(n:Nat):bM n (upTo' n):=by
 refine⟨kK n,λx hx=>?_,KD n⟩;obtain⟨i,hi⟩:=gT hx;have hl:=(bz.1 hi).1;rw[kK]at hl;rw[aa0 hi];omega
def xE(h0:0<=c)(h1:c<(n:Int)):aU (upTo' n) c=c:=by
 have h:=qd h0 (by rw[kK];exact h1);have:=aa0 h;omega
def yI{α:Type}(f:α->α):Nat->α->α
 |0,x=>x
 |t+1,x=>f (yI f t x)
def Pj{m:Nat}{f:Nat->Nat}(hf:∀i,i<m->f i<m):∀t x,x<m->yI f t x<m
 |0,_,h=>h
 |t+1,x,h=>hf _ (Pj hf t x h)
variable{m:Nat}{f:Nat->Nat}
def al9(hf:∀i,i<m->f i<m){j:Nat}(hj:j<m):∃a b,a<b/\yI f a j=yI f b j:=by
 apply Classical.byContradiction;intro hno;have h:=TV m ((List.range (m+1)).map λt=>((yI f t j:Nat))) (by
  unfold List.Nodup;rw[zi];exact List.pairwise_lt_range.imp (by grind)) (λx hx=>by
  obtain⟨t,_,rfl⟩:=cO.1 hx;have:=Pj hf t j hj;omega)
 grind
def Ut{L:Nat->α}{S:α->α}{R:α->α->Prop}{D:α->Prop}(hD:∀i,i<m->D (L i))(hDS:∀x,D x->D (S x))(hr:∀x,R x x)(hs:∀x y,R x y->R y x)(ht:∀x y z,R x y->R y z->R x z)
 (hS:∀x y,D x->D y->(R (S x) (S y)↔R x y)) (hf:∀i,i<m->f i<m/\R (L (f i)) (S (L i))) {j:Nat} (hj:j<m):∃i,i<m/\R (L j) (S (L i)):=by
 have hf1:=λi hi=>(hf i hi).1;have Pk:∀t,D (yI S t (L j)):=λt=>by
  induction t with
  |zero=>exact hD j hj
  |succ t ih=>exact hDS _ ih
 have key:∀t,R (L (yI f t j)) (yI S t (L j)):=λt=>by
  induction t with
  |zero=>exact hr _
  |succ t ih=>
   have hl:=Pj hf1 t j hj;exact ht _ _ _ (hf _ hl).2 ((hS _ _ (hD _ hl) (Pk t)).2 ih)
 have cancel:∀a d,R (yI S a (L j)) (yI S (a+d) (L j))->R (L j) (yI S d (L j)):=λa d=>by
  induction a with
  |zero=>intro h;rw[gq]at h;exact h
  |succ a ih=>
   intro h;rw[Nat.succ_add]at h;exact ih ((hS _ _ (Pk _) (Pk _)).1 h)
 obtain⟨a,b,hab,e⟩:=al9 hf1 hj;have h1:=key a;have h2:=key b;rw[e]at h1;obtain⟨d,rfl⟩:∃d,b=a+(d+1):=⟨b - a - 1,s6⟩
 have h3:=cancel a (d+1) (ht _ _ _ (hs _ _ h1) h2);have hl:=Pj hf1 d j hj;exact⟨_,hl,ht _ _ _ h3 (hs _ _ ((hS _ _ (hD _ hl) (Pk d)).2 (key d)))⟩
def img(s:ae Int)(l:ae Int):ae Int:=l.map (aU s)
def kz(n:Nat)(l:ae Int):Prop:=∀c∈l,0<=c/\c<(n:Int)
def Hq(s l:ae Int):(img s l).length=l.length:=by unfold img;rw[bi]
variable{s:ae Int}
def kz.img(h:bM n s){l:ae Int}(hl:kz n l):kz n (img s l):=by
 intro c hc;obtain⟨x,hx,rfl⟩:=cO.1 hc;exact h.at_ (hl x hx).1 (hl x hx).2
def abn{n:Nat}{s:ae Int}(h:bM n s):∀{a b:ae Int},kz n a->kz n b->img s a=img s b->a=b
 |[],[],_,_,_=>rfl
 |[],_::_,_,_,e=>by cases e
 |_::_,[],_,_,e=>by cases e
 |x::a,y::b,ha,hb,e=>by
  injection e with e1 e2;have hx:=ha x (eX ..);have hy:=hb y (eX ..);rw[h.inj hx.1 hx.2 hy.1 hy.2 e1,abn h (λc hc=>ha c (fP _ hc)) (λc hc=>hb c (fP _ hc)) e2]
def EQ(h:bM n s){l:ae Int}(hl:kz n l):img (bX s) (img s l)=l:=by
 unfold img;rw[rO];conv=>rhs;rw[<- BV l]
 exact yZ λc hc=>h.wz (hl c hc).1 (hl c hc).2
def amb(h:bM n s){l:ae Int}(hl:kz n l):img s (img (bX s) l)=l:=by
 unfold img;rw[rO];conv=>rhs;rw[<- BV l]
 exact yZ λc hc=>h.Ho (hl c hc).1 (hl c hc).2
def Pm(hl:kz b.length l):img (dF a b) l=img a (img b l):=by
 unfold img;rw[rO];exact yZ λc hc=>yH (hl c hc).1 (hl c hc).2
def Hr(s:ae Int){a b:ae Int}(h:a.Perm b):(img s a).Perm (img s b):=h.map _
def amc(h:bM n s){a b:ae Int}(ha:kz n a)(hb:kz n b)(e:(img s a).Perm (img s b)):a.Perm b:=by
 have:=Hr (bX s) e
 rwa [EQ h ha,EQ h hb]at this
def Pn(s l:ae Int):img s l.reverse=(img s l).reverse:=by unfold img;rw[List.map_reverse]
def abo(h:bM n s){l:ae Int}(hl:kz n l)(hn:l.Nodup):(img s l).Nodup:=by
 exact Us hn λa ha b hb e=>h.inj (hl a ha).1 (hl a ha).2 (hl b hb).1 (hl b hb).2 e
def Po(l:ae Int):(bW l).Perm l:=Ca l _
def Pp:bW a=bW b↔a.Perm b:=by
 constructor
 .intro e;exact(Po a).symm.trans (e▸Po b)
 .intro h;exact List.Perm.eq_of_pairwise (by grind) (TZ a) (TZ b) ((Po a).trans (h.trans (Po b).symm))
end Kd
namespace Kd
open Go Go.Ideal Canon
def lM(f:Int):Bool:=decide (f=0)||decide (f=4)||decide (f=5)
def xG(L:ae (ae Int))(w:ae Int):Int:=match L.findIdx? (λx=>decide (bW x=bW w))with
 |some i=>(i:Int)
 |none=> -1
def jc(L:ae (ae Int))(s:ae Int)(f at_:Int):Int:=if lM f then aU s at_ else xG L (img s (L.getD at_.toNat []))
def kY(a b:ae Int):Bool:=decide (bW a=bW b)
def zR(a b:ae Int):Bool:=decide (a=b)
def wB(a b:ae Int):Bool:=decide (a=b)||decide (a=b.reverse)
def qF(L:ae (ae Int))(s:ae Int)(f:Int)(eq:ae Int->ae Int->Bool)(l:ae Int)(j:Nat):Bool:=
 decide (0<=jc L s f (j:Int))&&(kY (L.getD (jc L s f (j:Int)).toNat []) (img s l)&&eq (L.getD (jc L s f (j:Int)).toNat []) (img s l))
def kZ(L:ae (ae Int))(s:ae Int)(f:Int)(eq:ae Int->ae Int->Bool):Bool:=L.zipIdx.all λx=>qF L s f eq x.1 x.2
def mQ(aH:ae (ae Int))(s:ae Int):Bool:=aH.zipIdx.all λx=>x.1.all λb=>decide (aU s b∈aH.getD (aU s (x.2:Int)).toNat [])
def pM(vals t:ae Int):Bool:=t.zipIdx.all λx=>decide (aU vals (x.2:Int)=aU vals x.1)
def sj(set other:Nat)(t:ae Int):Bool:=t.zipIdx.all λx=>decide (set.testBit x.2=set.testBit x.1.toNat)&&decide (other.testBit x.2=other.testBit x.1.toNat)
def Dc(L:ae (ae Int)):Prop:=∀(i j:Nat) (a b:ae Int),L[i]? =some a->L[j]? =some b->a.Perm b->i=j
def tQ{α:Type}{l:ae α}{p:α×Nat->Bool}:l.zipIdx.all p=true↔∀(i:Nat) x,l[i]? =some x->p (x,i)=true:=by
 grind
variable{a b:ae Int}
def ER:kY a b=true↔a.Perm b:=by unfold kY;rw[lV];exact Pp
def Ht:wB a b=true↔a=b\/a=b.reverse:=by
 unfold wB
 grind
variable{L:ae (ae Int)}{w:ae Int}
def Uu(h:0<=xG L w):∃l,L[(xG L w).toNat]? =some l/\l.Perm w:=by
 unfold xG at h⊢;cases hf:L.findIdx? (λx=>decide (bW x=bW w))with
 |none=>grind
 |some i=>
  obtain⟨h1,h2,_⟩:=aeQ.1 hf;refine⟨L[i],?_,Pp.1 (jI h2)⟩
  grind
variable{i:Nat}
def amd{l:ae Int}(hD:Dc L)(h:L[i]? =some l)(hp:l.Perm w):xG L w=(i:Int):=by
 have h0:0<=xG L w:=by
  unfold xG;cases hf:L.findIdx? (λx=>decide (bW x=bW w))with
  |none=>
   have:=aeR.1 hf l (aV h);rw[decide_eq_false_iff_not]at this;exact absurd (Pp.2 hp) this
  |some j=>show(0:Int)<=j;omega
 obtain⟨l',h1,h2⟩:=Uu h0;have:=hD _ _ _ _ h h1 (hp.trans h2.symm);omega
structure qf(n:Nat)(L:List (List Int))(f:Int):Prop where
 dJ:∀l∈L,kz n l
 len:lM f=true->L.length=n
 dis:lM f=false->Dc L
def Goes(L:ae (ae Int))(s:ae Int)(f:Int)(eq:ae Int->ae Int->Bool)(j i:Nat):Prop:=
 ∃l l',L[j]? =some l/\L[i]? =some l'/\l'.Perm (img s l)/\eq l' (img s l)=true/\(lM f=true->(i:Int)=aU s (j:Int))
variable{n j:Nat}{s:ae Int}{f:Int}{eq:ae Int->ae Int->Bool}
def Goes.jc(hK:qf n L f)(h:Goes L s f eq j i):jc L s f (j:Int)=(i:Int):=by
 obtain⟨l,l',h1,h2,h3,h4,h5⟩:=h;unfold Kd.jc;cases hb:lM f with
 |true=>grind
 |false=>
  rw[fI,fK h1];exact amd (hK.dis hb) h2 h3
def xH(hK:qf n L f)(hs:bM n s):kZ L s f eq=true↔∀j,j<L.length->∃i,Goes L s f eq j i:=by
 unfold kZ;rw[tQ];constructor
 .intro h j hj;have hl:=bN hj;have h1:=h j _ hl;dsimp only at h1;unfold qF at h1;rw[gV,gV,lV,ER]at h1;obtain⟨a1,a2,a3⟩:=h1;have hlt:(jc L s f j).toNat<L.length:=by
   cases hb:lM f with
   |true=>
    have hn:=hK.len hb;have:Kd.jc L s f j=aU s (j:Int):=by unfold Kd.jc;rw[if_pos hb]
    have:=hs.at_ (c:=j) s6 s6;omega
   |false=>
    have e:Kd.jc L s f j=xG L (img s (L.getD (j:Int).toNat [])):=by unfold Kd.jc;grind
    rw[e]at a1⊢;obtain⟨l,h2,_⟩:=Uu a1
    grind
  have hl':=bN hlt;rw[fK hl']at a2 a3;refine⟨_,_,_,hl,hl',a2,a3,λhb=>?_⟩;have:Kd.jc L s f j=aU s j:=by unfold Kd.jc;rw[if_pos hb]
  omega
 .intro h j l hl;obtain⟨i,hg⟩:=h j (by grind);have hw:=hg.jc hK;obtain⟨l0,l',h1,h2,h3,h4,h5⟩:=hg;rw[hl]at h1;cases h1;unfold qF;rw[hw,fI,fK h2,h4,ER.2 h3];simp
def Goes.lt(h:Goes L s f eq j i):j<L.length/\i<L.length:=by
 obtain⟨l,l',h1,h2,_⟩:=h
 grind
def Goes.inj{eq':ae Int->ae Int->Bool}{j':Nat}(hK:qf n L f)(hs:bM n s)(h:Goes L s f eq j i)(h':Goes L s f eq' j' i):j=j':=by
 have hl:=h.lt;have hl':=h'.lt;obtain⟨a,b,h1,h2,h3,h4,h5⟩:=h;obtain⟨a',b',k1,k2,k3,k4,k5⟩:=h';rw[h2]at k2;cases k2;cases hb:lM f with
 |true=>
  have hn:=hK.len hb;have:=hs.inj s6 s6 s6 s6 ((h5 hb).symm.trans (k5 hb));omega
 |false=>exact hK.dis hb _ _ _ _ h1 k1 (amc hs (hK.dJ _ (aV h1)) (hK.dJ _ (aV k1)) (h3.symm.trans k3))
def abq(hK:qf n L f)(hs:bM n s)(h:∀j,j<L.length->∃i,Goes L s f eq j i){i:Nat}(hi:i<L.length):∃j,Goes L s f eq j i:=by
 have hc:∀j,∃i,j<L.length->Goes L s f eq j i:=λj=>by
  by_cases hj:j<L.length
  .grind
  .exact⟨0,λh=>absurd h hj⟩
 have hf:∀j,j<L.length->Goes L s f eq j (Classical.choose (hc j)):=(by grind)
 obtain⟨j,hj,e⟩:=Ut (L:=λi:Nat=>i) (S:=λj=>if j<L.length then Classical.choose (hc j)else j)
  (λi hi=>hi) (λx hx=>by rw[if_pos hx];exact(hf x hx).lt.2) (λ_=>rfl) (λ_ _ e=>e.symm) (by grind)
  (λx y hx hy=>by
    rw[if_pos hx,if_pos hy];constructor
    .intro e;have h2:=hf y hy;rw[<- e]at h2;exact(hf x hx).inj hK hs h2
    .intro e;rw[e])
  (λi hi=>⟨by rw[if_pos hi];exact(hf i hi).lt.2,rfl⟩) hi
 grind
def uW(n:Nat)(aH:ae (ae Int)):Prop:=aH.length=n/\∀l∈aH,kz n l
def Nb(aH:ae (ae Int))(a b:Int):Prop:=∃l,0<=a/\aH[a.toNat]? =some l/\b∈l
variable{aH:ae (ae Int)}
def De(hN:uW n aH)(hs:bM n s):mQ aH s=true↔∀a b,Nb aH a b->Nb aH (aU s a) (aU s b):=by
 unfold mQ;rw[tQ];constructor
 .rintro h a b ⟨l,h0,h1,h2⟩;have hl:=(bz.1 h1).1;have h3:=h _ _ h1;rw[jU]at h3;have h4:=jI (h3 b h2);rw[rR h0]at h4;have hn:=hN.1;have hr:=hs.at_ h0 s6;have h5:aH[(aU s a).toNat]? =some (aH[(aU s a).toNat]'(s6)):=bN _;rw[fK h5]at h4;exact⟨_,hr.1,h5,h4⟩
 .intro h i l hl;rw[jU];intro b hb;have h1:=h i b ⟨l,s6,by exact hl,hb⟩;obtain⟨l',_,h3,h4⟩:=h1;rw[fK h3];exact eB h4
def Nb.dJ(hN:uW n aH){a b:Int}(h:Nb aH a b):(0<=a/\a<(n:Int))/\0<=b/\b<(n:Int):=by
 obtain⟨l,h0,h1,h2⟩:=h;have hl:=(bz.1 h1).1;have:=hN.1;exact⟨⟨h0,s6⟩,hN.2 l (aV h1) b h2⟩
def zS(aH:ae (ae Int)):ae (Int×Int):=aH.zipIdx.flatMap λx=>x.1.map λb=>((x.2:Int),b)
def Uv{a b:Int}:(a,b)∈zS aH↔Nb aH a b:=by
 unfold zS;rw[List.mem_flatMap];constructor
 .rintro⟨⟨l,i⟩,hx,h⟩;obtain⟨c,hc,e⟩:=cO.1 h;cases e;have:=xQ.1 hx;exact⟨l,s6,by exact this,hc⟩
 .rintro⟨l,h0,h1,h2⟩;refine⟨(l,a.toNat),xQ.2 h1,cO.2 ⟨b,h2,?_⟩⟩;rw[rR h0]
def Pq(hN:uW n aH)(hs:bM n s)(h:∀a b,Nb aH a b->Nb aH (aU s a) (aU s b)){a b:Int}(hab:Nb aH a b):∃c d,Nb aH c d/\aU s c=a/\aU s d=b:=by
 have hmem:=Uv.2 hab;obtain⟨j,hj⟩:=gT hmem;have hjl:=(bz.1 hj).1;have hnb:∀i,i<(zS aH).length->Nb aH ((zS aH).getD i (0,0)).1 ((zS aH).getD i (0,0)).2:=λi hi=>by
  have hx:=bN hi;rw[fK hx];exact Uv.1 (aV hx)
 have hc:∀i,∃i',i<(zS aH).length->(zS aH)[i']? =some (aU s ((zS aH).getD i (0,0)).1,aU s ((zS aH).getD i (0,0)).2):=λi=>by
  by_cases hi:i<(zS aH).length
  .obtain⟨i',hi'⟩:=gT (Uv.2 (h _ _ (hnb i hi)));exact⟨i',λ_=>hi'⟩
  .exact⟨0,λh=>absurd h hi⟩
 obtain⟨i,hi,e⟩:=Ut (S:=λp:Int×Int=>(aU s p.1,aU s p.2)) (D:=λp=>(0<=p.1/\p.1<n)/\0<=p.2/\p.2<n)
  (λi hi=>(hnb i hi).dJ hN) (λp hp=>⟨hs.at_ hp.1.1 hp.1.2,hs.at_ hp.2.1 hp.2.2⟩) (λ_=>rfl) (λ_ _ e=>e.symm) (λ_ _ _ e e'=>e.trans e')
  (λx y hx hy=>by
    constructor
    .intro e;obtain⟨x1,x2⟩:=x;dsimp only at e hx hy;injection e with e1 e2;rw[hs.inj hx.1.1 hx.1.2 hy.1.1 hy.1.2 e1,hs.inj hx.2.1 hx.2.2 hy.2.1 hy.2.2 e2]
    .intro e;rw[e])
  (λi hi=>by
    exact py) hjl
 rw[fK hj]at e;injection e with e1 e2;exact⟨_,_,hnb i hi,e1.symm,e2.symm⟩
end Kd
namespace Kd
open Go Go.Ideal Canon Gph
def su:Nat->ae Bool->ae Int
 |n,[]=>if 0<n then[(n:Int)]else[]
 |n,b::bs=>if b then su (n+1) bs else if 0<n then(n:Int)::su 0 bs else su 0 bs
def ame(n:Nat):su n []=if 0<n then[(n:Int)]else[]:=rfl
def abr(n:Nat)(l:ae Bool):su n (true::l)=su (n+1) l:=rfl
def Ps(n:Nat)(l:ae Bool):su n (false::l)=if 0<n then(n:Int)::su 0 l else su 0 l:=rfl
def Pt:∀(l m:ae Bool) (n:Nat),su n (l++false::m)=su n l++su 0 m
 |[],m,n=>by
  rw[bP,Ps,ame]
  grind
 |true::l,m,n=>by
  exact Pt l m (n+1)
 |false::l,m,n=>by
  rw[bQ,Ps,Ps,Pt l m 0]
  grind
def abt:∀(k n:Nat),su n (List.replicate k true)=if 0<n+k then[((n+k:Nat):Int)]else[]
 |0,n=>by rfl
 |k+1,n=>by
  rw[wR,abr,abt k (n+1),show n+1+k=n+(k+1)by omega]
def abu:∀(l:ae Bool),l=List.replicate l.length true\/∃a b,l=a++false::b
 |[]=>.inl rfl
 |false::l=>.inr ⟨[],l,rfl⟩
 |true::l=>by
  rcases abu l with h|⟨a,b,h⟩
  .grind
  grind
def Uw:∀(n:Nat) (l:ae Bool),l.length<=n->su 0 l.reverse=(su 0 l).reverse
 |0,l,h=>by rw[pU.1 (by omega:l.length=0)];rfl
 |n+1,l,h=>by
  rcases abu l with e|⟨a,b,e⟩
  .rw[e,List.reverse_replicate,abt];split<;>rfl
  .have hl:a.length+(b.length+1)=l.length:=by grind
   rw[e,List.reverse_append,DW,fo,List.singleton_append,Pt,Pt,List.reverse_append,Uw n a s6,Uw n b s6]
variable{g:ae (ae Int)}
def Nb.rch{aP:ae Bool}{s a b:Int}(h:ni g aP s a)(hab:Nb g a b)(hi:dU aP b=true):ni g aP s b:=by
 obtain⟨l,h0,h1,h2⟩:=hab;exact .step h h1 h2 hi
variable{mk mk':ae Bool}{n:Nat}{s:ae Int}
def amf(hN:uW n g)(hmk:∀c,0<=c->c<(n:Int)->dU mk' (aU s c)=dU mk c)(hnb:∀a b,Nb g a b->Nb g (aU s a) (aU s b)){a b:Int}(ha:0<=a/\a<(n:Int))(h:ni g mk a b):(0<=b/\b<(n:Int))/\ni g mk' (aU s a) (aU s b):=by
 induction h with
 |refl=>exact⟨ha,.refl⟩
 |step h hl hn hi ih=>
  rename_i i m l;have hab:Nb g i m:=⟨l,ih.1.1,hl,hn⟩
  have hr:=hab.dJ hN;exact⟨hr.2,(hnb _ _ hab).rch ih.2 (by grind)⟩
def Joined(g:ae (ae Int))(mk:ae Bool):Prop:=∀a b:Nat,a<g.length->b<g.length->dU mk a=true->dU mk b=true->ni g mk a b
def Ux{mk:ae Bool}:∀(n a:Nat),a<n->dU mk a=true->∃f,f<n/\dU mk (f:Nat)=true/\∀j,j<f->dU mk (j:Nat)=false
 |0,a,h,_=>by omega
 |n+1,a,h,hm=>by
  by_cases hex:∃a',a'<n/\dU mk a'=true
  .obtain⟨a',h1,h2⟩:=hex;obtain⟨f,h3,h4⟩:=Ux n a' h1 h2;exact⟨f,s6,h4⟩
  grind
def Pv{g:ae (ae Int)}{mk:ae Bool}:∀k,(∀j,j<k->dU mk (j:Nat)=false)->cnt g mk k=0
 |0,_=>rfl
 |k+1,h=>by rw[cnt,Pv k (λj hj=>h j s6),if_neg (by grind)]
def cnt_mono{g:ae (ae Int)}{mk:ae Bool}:∀k d,cnt g mk k<=cnt g mk (k+d)
 |k,0=>bG _
 |k,d+1=>by have:=cnt_mono (g:=g) (mk:=mk) k d;rw[<- pR,cnt];omega
def abv{f:Nat}(hf:f<g.length)(hin:dU mk f=true)(Cx:∀j,j<f->dU mk (j:Nat)=false):1<=cnt g mk g.length:=by
 have h1:cnt g mk (f+1)=1:=by
  rw[cnt,Pv f Cx,if_pos ⟨hin,λ⟨j,h1,h2,_⟩=>by grind⟩]
 have:=cnt_mono (g:=g) (mk:=mk) (f+1) (g.length - (f+1))
 grind
def abw(hS:Gph.nQ g):(fD g mk g.length).2=0↔∀a,a<g.length->dU mk (a:Nat)=false:=by
 rw[TL hS.rg _ (bG _)];constructor
 .intro h a ha;cases he:dU mk a with
  |false=>rfl
  |true=>
   obtain⟨f,h1,h2,h3⟩:=Ux g.length a ha he;have:=abv h1 h2 h3;omega
 .exact Pv _
def abx(hS:Gph.nQ g):(fD g mk g.length).2<=1↔Joined g mk:=by
 rw[TL hS.rg _ (bG _)];by_cases hex:∃a,a<g.length/\dU mk a=true
 .obtain⟨a,ha,hm⟩:=hex;obtain⟨f,h1,h2,h3⟩:=Ux g.length a ha hm;have hp:=abv h1 h2 h3;have h4:=ak1 hS h1 h2 h3;constructor
  .intro h x y hx hy mx my;have h5:=h4.1 s6;exact((h5 x hx mx).symm hS ⟨s6,s6⟩ h2).trans (h5 y hy my)
  .intro h;have:=h4.2 λi hi mi=>h f i h1 hi h2 mi;omega
 .have h0:∀j,j<g.length->dU mk j=false:=(by grind)
  rw[Pv _ h0];exact⟨λ_ x y hx _ mx _=>(by rw[h0 x hx]at mx;cases mx),λ_=>bI _⟩
def aby(hN:uW n g)(hs:bM n s)(hmk:∀c,0<=c->c<(n:Int)->dU mk' (aU s c)=dU mk c)(hnb:∀a b,Nb g a b->Nb g (aU s a) (aU s b))(h:Joined g mk):Joined g mk':=by
 intro a b ha hb ma mb;have hn:=hN.1;obtain⟨c,c0,c1,hc⟩:=hs.onto (y:=a) s6 s6;obtain⟨d,d0,d1,hd⟩:=hs.onto (y:=b) s6 s6;rw[<- hc,hmk c c0 c1]at ma;rw[<- hd,hmk d d0 d1]at mb;obtain⟨cn,rfl⟩:=dW c0;obtain⟨dn,rfl⟩:=dW d0;have:=(amf hN hmk hnb ⟨c0,c1⟩ (h cn dn s6 s6 ma mb)).2
 grind
structure oF(n:Nat)(g:List (List Int))(s:List Int)(mk mk':List Bool):Prop where
 jB:Gph.nQ g
 aH:uW n g
 nd:∀l∈g,l.Nodup
 ps:bM n s
 marks:∀c,0<=c->c<(n:Int)->dU mk' (aU s c)=dU mk c
 keep:∀a b,Nb g a b->Nb g (aU s a) (aU s b)
def oF.back(h:oF n g s mk mk'):oF n g (bX s) mk' mk:=by
 refine⟨h.jB,h.aH,h.nd,h.ps.inv,λc c0 c1=>?_,λa b hab=>?_⟩
 .have:=h.ps.inv.at_ c0 c1;rw[<- h.marks _ this.1 this.2,h.ps.Ho c0 c1]
 .obtain⟨c,d,hcd,rfl,rfl⟩:=Pq h.aH h.ps h.keep hab;have hr:=hcd.dJ h.aH;rw[h.ps.wz hr.1.1 hr.1.2,h.ps.wz hr.2.1 hr.2.2];exact hcd
def oF.few(h:oF n g s mk mk'):(fD g mk g.length).2<=1↔(fD g mk' g.length).2<=1:=by
 rw[abx h.jB,abx h.jB];exact⟨aby h.aH h.ps h.marks h.keep,aby h.back.aH h.back.ps h.back.marks h.back.keep⟩
def oF.abz(h:oF n g s mk mk')(h0:∀a,a<g.length->dU mk' (a:Nat)=false):∀a,a<g.length->dU mk (a:Nat)=false:=by
 intro a ha;have hn:=h.aH.1;have hr:=h.ps.at_ (c:=a) s6 s6;rw[<- h.marks a s6 s6];have:=h0 (aU s a).toNat s6
 grind
def oF.zero(h:oF n g s mk mk'):(fD g mk g.length).2=0↔(fD g mk' g.length).2=0:=by
 rw[abw h.jB,abw h.jB];exact⟨h.back.abz,h.abz⟩
def abA{a b:ae Int}(ha:a.Nodup)(hb:b.Nodup)(h:∀x,x∈a↔x∈b):a.Perm b:=by
 grind
def oF.amg(h:oF n g s mk mk'){i:Nat}(hi:i<g.length):(g.getD (aU s i).toNat []).Perm (img s (g.getD i [])):=by
 have hn:=h.aH.1;have hr:=h.ps.at_ (c:=i) s6 s6;have hl:=bN hi;have hl':g[(aU s i).toNat]? =some (g[(aU s i).toNat]'(s6)):=bN _;rw[Kd.fK hl,Kd.fK hl'];have hin:=h.aH.2 _ (rG hi);refine abA (h.nd _ (rG _)) (abo h.ps hin (h.nd _ (rG _))) λx=>?_;constructor
 .intro hx;obtain⟨c,d,hcd,e1,e2⟩:=Pq h.aH h.ps h.keep ⟨_,hr.1,hl',hx⟩;have hcr:=hcd.dJ h.aH;have:=h.ps.inj hcr.1.1 hcr.1.2 s6 s6 e1;subst this;obtain⟨l,_,h2,h3⟩:=hcd;rw[fI,hl]at h2;cases h2;exact cO.2 ⟨d,h3,e2⟩
 .intro hx;obtain⟨d,hd,rfl⟩:=cO.1 hx;obtain⟨l,_,h2,h3⟩:=h.keep i d ⟨_,s6,by grind,hd⟩
  grind
def Pw{n:Nat}{s:ae Int}{p q:Int->Bool}:∀{l:ae Int},kz n l->(∀c,0<=c->c<(n:Int)->q (aU s c)=p c)->((img s l).filter q).length=(l.filter p).length
 |[],_,_=>rfl
 |c::l,hl,h=>by
  have hc:=hl c (eX ..);have ih:=Pw (λx hx=>hl x (fP _ hx)) h;unfold img at ih⊢
  grind
def oF.A9(h:oF n g s mk mk')(hd:A9 g mk' g.length):A9 g mk g.length:=by
 intro i hi hm;have hn:=h.aH.1;have hr:=h.ps.at_ (c:=i) s6 s6;have h1:=hd (aU s i).toNat s6 (by rw[rR hr.1,h.marks _ s6 s6];exact hm)
 have h2:=(h.amg hi).filter (dU mk');have hl:=bN hi;have h3:=Pw (l:=g.getD i []) (by rw[Kd.fK hl];exact h.aH.2 _ (rG hi)) h.marks;unfold A8 at h1⊢;rw[<- h3,<- h2.length_eq];exact h1
def abB(mk:ae Bool)(n:Nat):wh mk n=((upTo' n).filter (dU mk)).length:=by
 unfold wh upTo';rw[List.filter_map,bi];rfl
def oF.size(h:oF n g s mk mk'):wh mk g.length=wh mk' g.length:=by
 have hn:=h.aH.1;rw[hn,abB,abB];have hid:=bM.ident n;have hin:=λc hc=>hid.dJ c hc;have h1:=Pw hin h.marks;have h2:=abA (abo h.ps hin hid.nd) hid.nd λx=>by
  constructor
  .intro hx;have:=(kz.img h.ps hin) x hx;exact hid.mem this.1 this.2
  .intro hx;have:=hid.dJ x hx;obtain⟨c,c0,c1,rfl⟩:=h.ps.onto this.1 this.2;exact cO.2 ⟨c,hid.mem c0 c1,rfl⟩
 rw[<- h1,(h2.filter (dU mk')).length_eq]
def oF.ring(h:oF n g s mk mk'):G5 g mk=G5 g mk':=by
 rw[wM,OU,OU,h.size];have h1:=h.few;have h2:=h.zero;constructor
 .rintro⟨a,b,c⟩;exact⟨h.back.A9 a,b,s6⟩
 .rintro⟨a,b,c⟩;exact⟨h.A9 a,b,s6⟩
end Kd
namespace Kd
open Go Go.Ideal Canon
variable{L:ae (ae Int)}
def abC(hn:L.Nodup)(hs:∀l∈L,l.Pairwise (·<·)):Dc L:=by
 intro i j a b ha hb hp;have e:=List.Perm.eq_of_pairwise (λx y _ _ h1 h2=>by omega) (hs a (aV ha)) (hs b (aV hb)) hp;subst e;exact Hl hn ha hb
def amh{α:Type}{K:ae α}{F:α->ae Int}(hn:K.Nodup)(h:∀a∈K,∀b∈K,(F a).Perm (F b)->a=b):Dc (K.map F):=by
 intro i j a b ha hb hp;rw[eF]at ha hb;obtain⟨x,hx,rfl⟩:=lT.1 ha;obtain⟨y,hy,rfl⟩:=lT.1 hb;have:=h x (aV hx) y (aV hy) hp;subst this;exact Hl hn hx hy
variable{g:bY}
def Uy(hg:ig g)(kf:Int×Int->Int×Bool):Dc (lK g kf):=by
 obtain⟨h1,h2⟩:=abl kf _ (bK g) rfl;refine amh (aa1 h1) λa ha b hb hp=>?_;rw[Hf]at ha hb;rw[(h2 a).2,(h2 b).2]at hp;have hne:=(h2 a).1.1 ha;cases hl:rA kf (bK g) a with
 |nil=>exact absurd hl hne
 |cons c l=>
  have hc:c∈rA kf (bK g) a:=by grind
  have hc':=hp.mem_iff.1 hc;obtain⟨p,hp1,hp2⟩:=cO.1 hc;obtain⟨q,hq1,hq2⟩:=cO.1 hc';obtain⟨p3,p4⟩:=qm.1 hp1;obtain⟨q3,q4⟩:=qm.1 hq1;have e:=KA hg p3 q3 (.inl (hp2.trans hq2.symm))
  grind
def Hu(h:L.length<=1):Dc L:=by
 intro i j a b ha hb _
 grind
def ami(hg:ig g):Dc (uS g):=by
 unfold uS;split
 .exact Uy hg _
 split
 .rw[abm,abm];generalize hA:zQ g.cells.length (λb=>decide ((uV g b).1=(uV g b).2))=A;generalize hB:zQ g.cells.length (λb=>decide ((uV g b).1+(uV g b).2=g.w - 1))=B;have iA:A.Pairwise (·<·):=by rw[<- hA];exact Uo _ _
  have iB:B.Pairwise (·<·):=by rw[<- hB];exact Uo _ _
  by_cases a0:A=[]
  .rw[if_pos a0];by_cases b0:B=[]
   .rw[if_pos b0];exact Hu (by simp[pG])
   .rw[if_neg b0];exact Hu (by simp[pG,Be])
  .rw[if_neg a0];by_cases b0:B=[]
   .rw[if_pos b0];exact Hu (by simp[pG])
   .rw[if_neg b0];by_cases e:A=B
    .refine Hu ?_;simp[pG,Be,e]
    .have:pG [A] [B]=[A,B]:=by simp[pG,Be,e]
     rw[this];refine abC (by simp[e]) λl hl=>?_
     grind
 .exact Hu s7
def amj(hg:ig g):Dc (mg (gI g)):=by
 refine abC ?_ λl hl=>?_
 .unfold mg;unfold List.Nodup;rw[List.pairwise_flatMap];refine⟨λx hx=>?_,?_⟩
  .have hx:=aV (xQ.1 (hx));unfold pI;rw[zi];obtain⟨p,_,hp⟩:=cO.1 (hx);have hnd:x.1.Nodup:=by rw[<- hp];exact Pb hg p
   exact(List.Pairwise.filter _ hnd).imp λ{a b} hne e=>hne (by injection e with _ e;injection e)
  .have hz:∀(l:ae (ae Int)) (n:Nat),(l.zipIdx n).Pairwise λa b=>a.2<b.2:=by
    intro l;induction l with
    |nil=>intro n;exact List.Pairwise.nil
    |cons a l ih=>
     intro n;rw[IM,rQ];refine⟨λx hx=>?_,ih (n+1)⟩;have:=List.le_snd_of_mem_zipIdx hx;omega
   refine(hz (gI g) 0).imp λ{a b} h x hx y hy e=>?_;obtain⟨u,_,rfl⟩:=cO.1 hx;obtain⟨v,_,rfl⟩:=cO.1 hy;injection e with e _;omega
 .obtain⟨i,x,j,_,_,h,rfl⟩:=aa2 hl;simp[h]
def amk(hg:ig g)(k:Int):qf g.cells.length (iE g k) k:=by
 refine⟨λl hl=>(aaT hg k l hl).2,λhb=>?_,λhb=>?_⟩
 .unfold lM at hb;simp only[IV,lV]at hb;rcases hb with(rfl|rfl)|rfl
  .exact TS _
  .exact yF g
  .show(qC (gI g)).length=_;rw[aaJ];exact yF g
 .unfold lM at hb;simp only[Bool.or_eq_false_iff,decide_eq_false_iff_not]at hb;unfold iE;rw[if_neg hb.1.1];split
  .exact Uy hg _
  split
  .exact Uy hg _
  split
  .exact ami hg
  rw[if_neg hb.1.2,if_neg hb.2];split
  .exact amj hg
  .exact Hu s7
def aml(hg:ig g){rs:ae (ae Int)}(hr:uT g rs)(hn:(rs.map bW).Nodup)(k:Int)(hk:lM k=false):qf g.cells.length (jr g rs) k:=by
 refine⟨λl hl=>(aaU hg hr l hl).2,(λhb=>by rw[hk]at hb;cases hb),λ_=>?_⟩;intro i j a b ha hb hp;unfold jr at ha hb;rw[eF]at ha hb;obtain⟨x,hx,rfl⟩:=lT.1 ha;obtain⟨y,hy,rfl⟩:=lT.1 hb;have back:∀z∈rs,(jP g z).map (λn=>g.cells.getD n.toNat 0)=z:=λz hz=>by
  unfold jP;rw[rO];conv=>rhs;rw[<- BV z]
  refine yZ λc hc=>?_;have hm:=(hr.all z hz).mem c hc;have uU:g.cells.Pairwise (·<·):=AM
  obtain⟨m,hm2⟩:=gT hm;show g.cells.getD ((Bf c g.cells):Int).toNat 0=c;rw[TT uU hm2];exact fK hm2
 have h1:=hp.map (λn=>g.cells.getD n.toNat 0);rw[back x (aV hx),back y (aV hy)]at h1;have h2:=Pp.2 h1;have h3:(rs.map bW)[i]? =some (bW x):=by rw[eF,hx];rfl
 have h4:(rs.map bW)[j]? =some (bW x):=by rw[eF,hy,h2];rfl
 exact Hl hn h3 h4
def amm{d:dR}(hg:ig (bO d))(hr:∀r∈d.regions,uT (bO d) r.lists/\(r.lists.map bW).Nodup){f:Nat}{L:ae (ae Int)}(h:(oC d)[f]? =some L):qf (bO d).cells.length L (f:Int):=by
 unfold oC at h;by_cases hf:f<8
 .rw[ql (by exact hf),eF,uk hf]at h;cases h;exact amk hg _
 .rw[sN (by rw[bi,o8];omega),eF]at h;obtain⟨r,hr2,rfl⟩:=lT.1 h;have:=hr r (aV hr2);refine aml hg this.1 this.2 _ ?_;unfold lM;simp only[Bool.or_eq_false_iff,decide_eq_false_iff_not];omega
end Kd
namespace Kd
open Go Go.Ideal Canon
structure amn(m:Nat)(cl:List Int):Prop where
 len:cl.length=m
 KI:∀i:Nat,i<m->0<=aU cl (i:Int)/\aU cl (i:Int)<=(i:Int)/\aU cl (aU cl (i:Int))=aU cl (i:Int)
structure xI(m:Nat)(cl t:List Int):Prop where
 p:bM m t
 c:∀v:Int,0<=v->v<(m:Int)->aU cl (aU t v)=aU cl v
def KJ(cl sy:ae Int)(s:Int):az Nat:=(List.range cl.length).find? λt:Nat=>decide (aU cl (t:Int)=aU cl s)&&!decide ((t:Int)∈sy)
def KM(cl sy:ae Int)(s:Int):ae Int:=if 0<=aU sy s then sy else match KJ cl sy s with
 |none=>sy
 |some t=>sy.set s.toNat (t:Int)
def grd(cl seq:ae Int):ae Int:=seq.foldl (KM cl) (List.replicate cl.length (-1))
structure GInv(m:Nat)(cl sy:List Int):Prop where
 len:sy.length=m
 val:∀s:Int,0<=s->s<(m:Int)->aU sy s= -1\/(0<=aU sy s/\aU sy s<(m:Int)/\aU cl (aU sy s)=aU cl s)
 inj:∀s u:Int,0<=s->s<(m:Int)->0<=u->u<(m:Int)->aU sy s=aU sy u->0<=aU sy s->s=u
variable{s:Int}
def Px{l:ae Int}{x u:Int}(s0:0<=s)(s1:s<l.length)(u0:0<=u):aU (l.set s.toNat x) u=if u=s then x else aU l u:=by
 unfold aU
 grind
variable{cl sy:ae Int}{m:Nat}
def GInv.mem(h:GInv m cl sy){t:Int}(t0:0<=t)(ht:t∈sy):∃u:Int,0<=u/\u<(m:Int)/\aU sy u=t/\aU cl t=aU cl u/\t<(m:Int):=by
 obtain⟨i,hi⟩:=gT ht;have hl:=(bz.1 hi).1;have hlen:=h.len;have e:=jF hi;refine⟨i,s6,s6,e,?_⟩;rcases h.val i s6 (s6)with h1|h1
 .omega
 .rw[e]at h1;exact⟨h1.2.2,h1.2.1⟩
def GInv.room(hc:cl.length=m)(h:GInv m cl sy){s:Int}(s0:0<=s)(s1:s<(m:Int))(hs:aU sy s= -1):∃t,KJ cl sy s=some t:=by
 cases hf:KJ cl sy s with
 |some t=>exact⟨t,rfl⟩
 |none=>
  unfold KJ at hf;rw[QK]at hf;have hall:∀t:Int,0<=t->t<m->aU cl t=aU cl s->t∈sy:=λt t0 t1 hcl=>by
   have:=hf t.toNat (xP.2 s6)
   rw[rR t0]at this;simp[hcl]at this;exact this
  have hC:∀t,t∈(upTo' m).filter (λt=>decide (aU cl t=aU cl s))↔(0<=t/\t<m)/\aU cl t=aU cl s:=λt=>by
   rw[qm,lV];refine and_congr_left λ_=>⟨λq=>(bM.ident m).dJ t q,λq=>(bM.ident m).mem q.1 q.2⟩
  have hnd:((upTo' m).filter (λt=>decide (aU cl t=aU cl s))).Nodup:=(KD m).filter _;generalize(upTo' m).filter (λt=>decide (aU cl t=aU cl s))=C at hC hnd;have hidx:∀t∈C,sy.idxOf t<sy.length/\aU sy (sy.idxOf t)=t:=λt ht=>by
   have h1:=(hC t).1 ht;have hl:=List.idxOf_lt_length_iff.2 (hall t h1.1.1 h1.1.2 h1.2);refine⟨hl,jF ?_⟩;rw[bN hl,List.getElem_idxOf]
  have hsC:=(hC s).2 ⟨⟨s0,s1⟩,rfl⟩;have h1:=Pd (l:=C.map λt=>((sy.idxOf t):Int)) (Us hnd λa ha b hb e=>by
   have e1:=(hidx a ha).2;have e2:=(hidx b hb).2;rw[<- e1,<- e2,e]) (λx hx=>by
   obtain⟨t,ht,rfl⟩:=cO.1 hx;obtain⟨k1,k2⟩:=hidx t ht;have k3:=(hC t).1 ht;have hlen:=h.len;have hne:((sy.idxOf t:Nat))≠s:=λe=>by rw[e]at k2;omega
   refine(List.mem_erase_of_ne hne).2 ((hC _).2 ⟨⟨s6,s6⟩,?_⟩);rcases h.val ((sy.idxOf t:Nat)) s6 (s6)with q|q
   .omega
   .rw[<- q.2.2,k2];exact k3.2)
  have h2:=aeO hsC;have h3:=List.length_pos_of_mem hsC;rw[bi]at h1;omega
def amq{t:Nat}(h:KJ cl sy s=some t):t<cl.length/\aU cl (t:Int)=aU cl s/\(t:Int)∉sy/\∀u:Nat,u<t->aU cl (u:Int)=aU cl s->(u:Int)∈sy:=by
 have h1:=QL h;have h2:=QM h;simp at h1;refine⟨xP.1 h2,h1.1,h1.2,λu hu hcl=>?_⟩;obtain⟨h3,a,b,e,h4⟩:=List.find?_eq_some_iff_append.1 h;have hat:a=List.range t:=by
  have l1:a.length=t:=by
   have hg:(List.range cl.length)[a.length]? =some t:=by grind
   grind
  have:a=(List.range cl.length).take t:=by grind
  grind
 grind
def GInv.step(hc:cl.length=m)(h:GInv m cl sy){s:Int}(s0:0<=s)(s1:s<(m:Int)):GInv m cl (KM cl sy s)/\0<=aU (KM cl sy s) s/\∀u:Int,0<=u->u≠s->aU (KM cl sy s) u=aU sy u:=by
 unfold KM;by_cases h0:0<=aU sy s
 .grind
 rw[if_neg h0];have hs:aU sy s= -1:=by
  rcases h.val s s0 s1 with q|q
  .exact q
  .omega
 obtain⟨t,ht⟩:=h.room hc s0 s1 hs;rw[ht];obtain⟨k1,k2,k3,_⟩:=amq ht;have hlen:=h.len;have hg:∀u:Int,0<=u->aU (sy.set s.toNat (t:Int)) u=if u=s then(t:Int)else aU sy u:=λu u0=>Px s0 s6 u0
 have hno:∀u:Int,0<=u->u<(m:Int)->aU sy u≠(t:Int):=λu u0 u1 e=>k3 (e▸Ur u0 s6);refine⟨⟨by grind,λu u0 u1=>?_,λu w u0 u1 w0 w1 e he=>?_⟩,?_,λu u0 hne=>?_⟩
 .rw[hg u u0];split
  .grind
  .exact h.val u u0 u1
 .rw[hg u u0,hg w w0]at e;rw[hg u u0]at he;split at e
  .grind
  .rename_i e1;rw[if_neg e1]at he;split at e
   .exact absurd e (hno u u0 u1)
   .exact h.inj u w u0 u1 w0 w1 e he
 .grind
 .rw[hg u u0,if_neg hne]
end Kd
namespace Kd
open Go Go.Ideal Canon
def Uz(sy:Int->Bool)(t:ae Int)(g:Clue):Clue:=⟨g.aN,g.at_,if sy g.aN then img t g.values else g.values⟩
def ES(sy:Int->Bool)(t:ae Int)(p:ae Clue):ae Clue:=p.map (Uz sy t)
def Py(sy:Int->Bool)(m:Nat)(p:ae Clue):Prop:=∀g∈p,sy g.aN=true->∃v,g.values=[v]/\0<=v/\v<(m:Int)
def amr(sy:Int->Bool)(p:ae Clue):ae Int:=p.flatMap λg=>if sy g.aN then g.values else[]
def ams(sy:Int->Bool)(cl:ae Int)(p:ae Clue):ae Int:=grd cl (amr sy p++upTo' cl.length)
def Py.tail{sy:Int->Bool}{m:Nat}{g:Clue}{p:ae Clue}(h:Py sy m (g::p)):Py sy m p:=λx hx=>h x (fP _ hx)
section
variable {sy:Int->Bool} {m:Nat} {cl t t2:ae Int} {p:ae Clue}
def xI.comp(h:xI m cl t)(h2:xI m cl t2):xI m cl (dF t2 t):=by
 refine⟨h2.p.comp h.p,λv v0 v1=>?_⟩;have r:=h.p.at_ v0 v1;rw[yH v0 (by rw[h.p.len];exact v1),h2.c _ r.1 r.2,h.c v v0 v1]
def xI.inv(h:xI m cl t):xI m cl (bX t):=by
 refine⟨h.p.inv,λv v0 v1=>?_⟩;have r:=h.p.inv.at_ v0 v1;rw[<- h.c _ r.1 r.2,h.p.Ho v0 v1]
def xI.ident(cl:ae Int)(m:Nat):xI m cl (upTo' m):=⟨bM.ident m,λv v0 v1=>by rw[xE v0 v1]⟩
def amt{a b:ae Clue}(h1:¬Nk a b<0)(h2:¬Nk b a<0):a=b:=by
 have h3:=YZ.neg b a;refine(YZ.zero a b).1 ?_
 grind
end
end Kd
namespace Kd
open Go Go.Ideal Canon
structure KN(n:Nat)(G:List (List Int)):Prop where
 perm:∀a∈G,bM n a
 one:upTo' n∈G
 comp:∀a∈G,∀b∈G,dF a b∈G
 inv:∀a∈G,bX a∈G
section
variable {n:Nat} {a b c:ae Int}
def bM.inr(h:bM n a):kz n a:=h.dJ
def UA(hb:bM n b)(hc:bM n c):dF (dF a b) c=dF a (dF b c):=by
 exact Pm (by rw[hb.len];exact hc.inr)
def abE(h:bM n a):dF a (upTo' n)=a:=by
 apply iQ;intro i;show((upTo' n).map (aU a))[i]? =_;rw[eF];by_cases hi:i<n
 .have h1:=qd (p:=upTo' n) (c:=i) s6 tS;have h2:=qd (c:=i) s6 ye;rw[fI]at h1 h2;rw[h1,h2,xE s6 s6];rfl
 .rw[fT tS,fT ye];rfl
def Hw(h:bM n a):dF (upTo' n) a=a:=by
 conv=>rhs;rw[<- BV a]
 exact yZ λx hx=>xE (h.dJ x hx).1 (h.dJ x hx).2
def amu(h:bM n a):dF a (bX a)=upTo' n:=by
 apply iQ;intro i;show((bX a).map (aU a))[i]? =_;rw[eF];have hl:=h.inv.len;by_cases hi:i<n
 .have h1:=qd (p:=upTo' n) (c:=i) s6 tS;have h2:=qd (p:=bX a) (c:=i) s6 s6;rw[fI]at h1 h2;rw[h1,h2,xE s6 s6];show some (aU a (aU (bX a) i))=_;rw[h.Ho s6 s6]
 .rw[fT s6,fT tS];rfl
def amv(h:bM n a):dF (bX a) a=upTo' n:=by
 apply iQ;intro i;show(a.map (aU (bX a)))[i]? =_;rw[eF];by_cases hi:i<n
 .have h1:=qd (p:=upTo' n) (c:=i) s6 tS;have h2:=qd (c:=i) s6 ye;rw[fI]at h1 h2;rw[h1,h2,xE s6 s6];show some (aU (bX a) (aU a i))=_;rw[h.wz s6 s6]
 .rw[fT ye,fT tS];rfl
def abF(ha:bM n a)(hb:bM n b)(hc:bM n c)(e:dF a b=dF a c):b=c:=by
 have h1:dF (bX a) (dF a b)=dF (bX a) (dF a c):=by rw[e]
 rwa [<- UA ha hb,<- UA ha hc,amv ha,Hw hb,Hw hc]at h1
end
structure qg(n:Nat)(gU l:List (List Int))(k:Nat):Prop where
 gp:∀g∈gU,bM n g
 nd:l.Nodup
 first:l[0]? =some (upTo' n)
 Df:∀(i:Nat) p,l[i]? =some p->i=0\/∃(j:Nat) (g q:List Int),j<i/\g∈gU/\l[j]? =some q/\p=dF g q
 done:∀(i:Nat) q,i<k->l[i]? =some q->∀g∈gU,dF g q∈l
variable{n k:Nat}{l gU:ae (ae Int)}
def qg.perm(h:qg n gU l k):∀(i:Nat) p,l[i]? =some p->bM n p:=by
 intro i;induction i using Nat.strongRecOn with
 |_ i ih=>
  intro p hp;rcases h.Df i p hp with e|⟨j,g,q,hj,hg,hq,rfl⟩
  .subst e;rw[h.first]at hp;cases hp;exact bM.ident n
  .exact(h.gp g hg).comp (ih j hj q hq)
def qg.all(h:qg n gU l k){P:ae Int->Prop}(h1:P (upTo' n))(h2:∀g∈gU,∀q,bM n q->P q->P (dF g q)):∀p∈l,P p:=by
 have key:∀(i:Nat) p,l[i]? =some p->P p:=by
  intro i;induction i using Nat.strongRecOn with
  |_ i ih=>
   intro p hp;rcases h.Df i p hp with e|⟨j,g,q,hj,hg,hq,rfl⟩
   .subst e;rw[h.first]at hp;cases hp;exact h1
   .exact h2 g hg q (h.perm j q hq) (ih j hj q hq)
 intro p hp;obtain⟨i,hi⟩:=gT hp;exact key i p hi
def qg.mul(h:qg n gU l l.length){b:ae Int}(hb:b∈l):∀(i:Nat) a,l[i]? =some a->dF a b∈l:=by
 obtain⟨jb,hjb⟩:=gT hb;have hbp:=h.perm jb b hjb;intro i;induction i using Nat.strongRecOn with
 |_ i ih=>
  intro a ha;rcases h.Df i a ha with e|⟨j,g,q,hj,hg,hq,rfl⟩
  .subst e;rw[h.first]at ha;cases ha;rw[Hw hbp];exact hb
  .rw[UA (h.perm j q hq) hbp];obtain⟨m,hm⟩:=gT (ih j hj q hq);exact h.done m _ (by grind) hm g hg
def amw(hp:∀a∈l,bM n a)(h1:upTo' n∈l)(hm:∀a∈l,∀b∈l,dF a b∈l){a:ae Int}(ha:a∈l):bX a∈l:=by
 have hap:=hp a ha;have hmem:∀i,i<l.length->l.getD i []∈l:=λi hi=>by
  rw[fK (bN hi)];exact rG _
 have hc:∀i,∃i',i<l.length->l[i']? =some (dF a (l.getD i [])):=λi=>by
  by_cases hi:i<l.length
  .obtain⟨i',h⟩:=gT (hm a ha _ (hmem i hi));exact⟨i',λ_=>h⟩
  .exact⟨0,λh=>absurd h hi⟩
 obtain⟨j,hj⟩:=gT h1;obtain⟨i,hi,e⟩:=Ut
  (λi hi=>hp _ (hmem i hi)) (λb hb=>hap.comp hb) (λ_=>rfl) (λ_ _ e=>e.symm) (λ_ _ _ e e'=>e.trans e')
  (λx y hx hy=>⟨λe=>abF hap hx hy e,λe=>by rw[e]⟩)
  (λi hi=>by
    exact py) (bz.1 hj).1
 rw[fK hj]at e;have hb:=hmem i hi;have:bX a=l.getD i []:=by
  refine abF hap hap.inv (hp _ hb) ?_;rw[amu hap,e]
 rw[this];exact hb
def qg.Hy(h:qg n gU l l.length):KN n l:=by
 have hp:∀a∈l,bM n a:=λa ha=>by
  obtain⟨i,hi⟩:=gT ha;exact h.perm i a hi
 have h1:=aV h.first
 have hm:∀a∈l,∀b∈l,dF a b∈l:=λa ha b hb=>by
  obtain⟨i,hi⟩:=gT ha;exact h.mul hb i a hi
 exact⟨hp,h1,hm,λa ha=>amw hp h1 hm ha⟩
def KN.Ue{G H:ae (ae Int)}(h:KN n G)(e:∀a,a∈H↔a∈G):KN n H:=
 ⟨λa ha=>h.perm a ((e a).1 ha),(e _).2 h.one,λa ha b hb=>(e _).2 (h.comp a ((e a).1 ha) b ((e b).1 hb)),λa ha=>(e _).2 (h.inv a ((e a).1 ha))⟩
