/- Part. -/
import Derived.Test.YtgimfpcgbmpkhaaGreatIdealNV
set_option linter.all false
namespace Gph
def dU(l:ae Bool)(n:Int):Bool:=l.getD n.toNat false
def inner(aP:ae Bool):ae Int->ae Bool->ae Int->ae Bool×ae Int
 |[],met,q=>(met,q)
 |n::ns,met,q=>if dU aP n&&!dU met n then inner aP ns (met.set n.toNat true) (q++[n])else inner aP ns met q
def uP(g:ae (ae Int))(aP:ae Bool):Nat->ae Bool->ae Int->ae Int
 |0,_,_=>[]
 |_+1,_,[]=>[]
 |f+1,met,q::qs=>q::uP g aP f (inner aP (g.getD q.toNat []) met (q::qs)).1 (inner aP (g.getD q.toNat []) met (q::qs)).2.tail
def rq(m:Nat)(s:Int):ae Bool:=(List.replicate m false).set s.toNat true
def A7(g:ae (ae Int))(aP:ae Bool)(s:Int):ae Int:=uP g aP (g.length+1) (rq g.length s) [s]
def left(met:ae Bool):Nat:=(met.filter (!·)).length
variable{met:ae Bool}
def aas{n:Nat}(h:met[n]? =some false):left (met.set n true)+1=left met:=by
 induction met generalizing n with
 |nil=>cases h
 |cons b met ih=>
  cases n with
  |zero=>cases h;simp[left]
  |succ n=>
   have:=ih oI;simp only[left,FH]at this⊢;cases b<;>simp at this⊢<;>omega
variable{a n:Int}
def OO(ha:0<=a)(hn:0<=n)(h:a<met.length):dU (met.set a.toNat true) n=(decide (n=a)||dU met n):=by
 unfold dU
 grind
def Rg(g:ae (ae Int))(n:Int):Prop:=0<=n/\n<g.length
def OP{g:ae (ae Int)}{aP:ae Bool}:∀(ns:ae Int) (met:ae Bool) (q:ae Int),met.length=g.length->(∀n∈ns,Rg g n)->
 (inner aP ns met q).1.length=g.length/\(∀n,0<=n->(dU (inner aP ns met q).1 n=true↔dU met n=true\/(n∈ns/\dU aP n=true)))/\
 left (inner aP ns met q).1+(inner aP ns met q).2.length=left met+q.length/\∃t,(inner aP ns met q).2=q++t/\∀n,(n∈t↔n∈ns/\dU aP n=true/\dU met n=false)
 |[],met,q,hm,hr=>by simp[inner,hm]
 |a::ns,met,q,hm,hr=>by
  have ha:=hr a ox;have hr':∀n∈ns,Rg g n:=(by grind)
  unfold Rg at ha;rw[inner];by_cases hc:(dU aP a&&!dU met a)=true
  .rw[if_pos hc];simp only[gV,Md]at hc;obtain⟨h1,h2,h4,t,h5,h3⟩:=OP (g:=g) (aP:=aP) ns (met.set a.toNat true) (q++[a]) p0 hr';refine⟨h1,λn hn=>?_,?_,a::t,by rw[h5];simp,λn=>?_⟩
   .rw[h2 n hn,OO ha.1 hn ov]
    grind
   .have hs:met[a.toNat]? =some false:=by
     have:dU met a=false:=hc.2;unfold dU at this
     grind
    have:=aas hs
    grind
   .rw[dm,h3 n];simp only[dm];constructor
    .rintro(rfl|⟨h,h',h''⟩)
     .exact⟨.inl rfl,hc⟩
     .have hn:=(hr' n h).1;rw[OO ha.1 hn ov]at h''
      grind
    .rintro⟨rfl|h,h',h''⟩
     .exact .inl rfl
     .by_cases e:n=a
      .exact .inl e
      .refine .inr ⟨h,h',?_⟩;rw[OO ha.1 (hr' n h).1 ov];simp[e,h'']
  .rw[if_neg hc];obtain⟨h1,h2,h4,t,h5,h3⟩:=OP (g:=g) (aP:=aP) ns met q hm hr'
   grind
inductive ni(g:List (List Int))(aP:List Bool)(s:Int):Int->Prop
 |refl:ni g aP s s
 |step {i n:Int} {l:List Int} (h:ni g aP s i) (hl:g[i.toNat]? =some l) (hn:n∈l) (hi:dU aP n=true):ni g aP s n
variable{g:ae (ae Int)}{aP:ae Bool}
def ni.trans{b c:Int}(h:ni g aP a b)(h2:ni g aP b c):ni g aP a c:=by
 induction h2 with
 |refl=>exact h
 |step _ hl hn hi ih=>exact .step ih hl hn hi
def fK(h:Rg g n):g[n.toNat]? =some (g.getD n.toNat []):=by
 have hl:n.toNat<g.length:=by unfold Rg at h;omega
 grind
def aat{g:ae (ae Int)}{aP:ae Bool}(hg:∀l∈g,∀n∈l,Rg g n):∀(f:Nat) (met:ae Bool) (queue V:ae Int),met.length=g.length->(∀n∈queue,Rg g n)->
 (∀n,0<=n->(dU met n=true↔n∈V\/n∈queue))->(∀v∈V,∀l,g[v.toNat]? =some l->∀n∈l,dU aP n=true->n∈V\/n∈queue)->left met+queue.length<=f->
 (∀v,v∈V\/v∈uP g aP f met queue->∀l,g[v.toNat]? =some l->∀n∈l,dU aP n=true->n∈V\/n∈uP g aP f met queue)/\(∀n∈queue,n∈uP g aP f met queue)/\
 (∀n∈uP g aP f met queue,∃q∈queue,ni g aP q n)/\∀n∈uP g aP f met queue,Rg g n
 |0,met,queue,V,hm,hq,hM,hcl,hf=>by
  have:queue=[]:=pU.1 ov;subst this;exact gv
 |f+1,met,[],V,hm,hq,hM,hcl,hf=>by
  exact gv
 |f+1,met,q::qs,V,hm,hq,hM,hcl,hf=>by
  have hq0:=hq q ox;have hgd:=fK hq0;have hns:∀n∈g.getD q.toNat [],Rg g n:=hg _ (aV hgd);obtain⟨h1,h2,h4,t,h5,h3⟩:=OP (g:=g) (aP:=aP) (g.getD q.toNat []) met (q::qs) hm hns;rw[uP];generalize hin:inner aP (g.getD q.toNat []) met (q::qs)=r at h1 h2 h4 h5;obtain⟨met',q'⟩:=r;dsimp only at h1 h2 h4 h5⊢;subst h5;rw[bQ,List.tail_cons];have hqt:∀n∈qs++t,Rg g n:=λn hn=>by
   rcases fU.1 hn with h|h
   .exact hq n oW
   .exact hns n ((h3 n).1 h).1
  obtain⟨c1,c2,c3,c4⟩:=aat hg f met' (qs++t) (q::V) h1 hqt (λn hn=>by
   rw[h2 n hn,hM n hn];simp only[dm,fU,h3 n];constructor
   .rintro((h|rfl|h)|⟨h,h'⟩)
    .exact .inl (.inr h)
    .exact .inl (.inl rfl)
    .exact .inr (.inl h)
    .cases hme:dU met n with
     |true=>
      rcases(hM n hn).1 hme with h''|h''
      .exact .inl (.inr h'')
      .rcases dm.1 h'' with rfl|h''
       .exact .inl (.inl rfl)
       .exact .inr (.inl h'')
     |false=>exact .inr (.inr ⟨h,h',rfl⟩)
   .rintro((rfl|h)|h|⟨h,h',_⟩)
    .exact .inl (.inr (.inl rfl))
    .exact .inl (.inl h)
    .exact .inl (.inr (.inr h))
    .exact .inr ⟨h,h'⟩) (λv hv l hl n hn hi=>by
   rcases dm.1 hv with rfl|hv
   .rw[hgd]at hl;cases hl;have hn0:=(hns n hn).1;cases hme:dU met n with
    |true=>
     rcases(hM n hn0).1 hme with h''|h''
     .exact .inl (by simp[h''])
     .rcases dm.1 h'' with rfl|h''
      .exact .inl ox
      .exact .inr (by simp[h''])
    |false=>exact .inr (wQ _ ((h3 n).2 ⟨hn,hi,hme⟩))
   .rcases hcl v hv l hl n hn hi with h|h
    .exact .inl oW
    .rcases dm.1 h with rfl|h
     .exact .inl ox
     .exact .inr oW) (by
   simp only[bQ,rJ,fu]at h4 hf⊢;omega)
  refine⟨λv hv l hl n hn hi=>?_,λn hn=>?_,λn hn=>?_,λn hn=>?_⟩
  .have:=c1 v (by
    rcases hv with h|h
    .exact .inl oW
    .rcases dm.1 h with rfl|h
     .exact .inl ox
     .exact .inr h) l hl n hn hi
   rcases this with h|h
   .rcases dm.1 h with rfl|h
    .exact .inr ox
    .exact .inl h
   .exact .inr oW
  .rcases dm.1 hn with rfl|hn
   .simp
   .exact fP _ (c2 n (by simp[hn]))
  .rcases dm.1 hn with rfl|hn
   .exact⟨n,ox,.refl⟩
   .obtain⟨p,hp,hr⟩:=c3 n hn;rcases fU.1 hp with hp|hp
    .exact⟨p,by simp[hp],hr⟩
    .obtain⟨h,h',_⟩:=(h3 p).1 hp;exact⟨q,ox,(ni.step .refl hgd h h').trans hr⟩
  .rcases dm.1 hn with rfl|hn
   .exact hq0
   .exact c4 n hn
def aau(m:Nat)(s:Int):(rq m s).length=m:=by rw[rq,lu,zg]
def TJ(hg:∀l∈g,∀n∈l,Rg g n){s:Int}(hs:Rg g s)(n:Int):n∈A7 g aP s↔ni g aP s n:=by
 have hs':=hs;unfold Rg at hs';obtain⟨c1,c2,c3,_⟩:=aat hg (g.length+1) (rq g.length s) [s] [] (aau _ _) (by grind) (λn hn=>by
  rw[rq,OO hs'.1 hn (by grind)];have:dU (List.replicate g.length false) n=false:=by
   unfold dU
   grind
  simp[this]) ox (by
  have:left (rq g.length s)<=(rq g.length s).length:=zh _ _;rw[aau]at this;simp;omega)
 constructor
 .intro h;obtain⟨q,hq,hr⟩:=c3 n h
  grind
 .intro h;induction h with
  |refl=>exact c2 s ox
  |step _ hl hn hi ih=>exact(c1 _ (.inr ih) _ hl _ hn hi).resolve_left ox
def aav(hg:∀l∈g,∀n∈l,Rg g n){s:Int}(hs:Rg g s):∀n∈A7 g aP s,Rg g n:=λn hn=>by
 have h:=(TJ hg hs n).1 hn;cases h with
 |refl=>exact hs
 |step _ hl hn _=>grind
def CR(part:ae Int)(ns:ae Int)(m:Int):ae Int:=ns.foldl (λp n=>p.set n.toNat m) part
def aaw:∀(ns part:ae Int) (m:Int),(CR part ns m).length=part.length
 |[],part,m=>rfl
 |n::ns,part,m=>by
  show(CR (part.set n.toNat m) ns m).length=_;rw[aaw ns,lu]
def EL(g:ae (ae Int))(aP:ae Bool)(x:ae Int×Nat)(i:Nat):ae Int×Nat:=
 if dU aP i=true/\x.1.getD i 0<=0 then(CR x.1 (A7 g aP i) (x.2+1:Nat),x.2+1)else x
def fD(g:ae (ae Int))(aP:ae Bool)(k:Nat):ae Int×Nat:=(List.range k).foldl (EL g aP) (List.replicate g.length 0,0)
def OQ(g:ae (ae Int))(aP:ae Bool)(k:Nat):fD g aP (k+1)=EL g aP (fD g aP k) k:=by
 rw[fD,BX,vJ];rfl
def OT(g:ae (ae Int))(aP:ae Bool):∀k,(fD g aP k).1.length=g.length/\(fD g aP k).2<=k/\∀p∈(fD g aP k).1,0<=p/\p<=(fD g aP k).2
 |0=>by
  refine⟨by simp[fD],by simp[fD],λp hp=>?_⟩;simp[fD]at hp⊢;omega
 |k+1=>by
  obtain⟨h1,h2,h3⟩:=OT g aP k;rw[OQ,EL];split
  .refine⟨by rw[aaw];exact h1,ov,?_⟩;have:∀(ns part:ae Int) (m:Nat),(∀p∈part,0<=p/\p<=m)->∀p∈CR part ns m,0<=p/\p<=m:=by
    intro ns;induction ns with
    |nil=>intro part m h;exact h
    |cons n ns ih=>
     intro part m h;refine ih _ m λp hp=>?_
     grind
   exact this _ _ _ (by grind)
  grind
end Gph
namespace Gph
def A8(aP:ae Bool)(l:ae Int):Nat:=(l.filter (dU aP)).length
def wh(aP:ae Bool)(k:Nat):Nat:=((List.range k).filter λi=>dU aP (i:Nat)).length
def A9(g:ae (ae Int))(aP:ae Bool)(k:Nat):Prop:=∀i:Nat,i<k->dU aP i=true->A8 aP (g.getD i [])=2
open Classical in
noncomputable def G5(g:ae (ae Int))(aP:ae Bool):Bool:=decide (A9 g aP g.length/\3<=wh aP g.length/\(fD g aP g.length).2=1)
def akX(aP:ae Bool)(k:Nat):wh aP (k+1)=wh aP k+if dU aP (k:Nat)then 1 else 0:=by
 rw[wh,BX,ze,fu,<- wh]
 grind
def akY(aP:ae Bool)(k:Nat):wh aP k<=k:=by
 have:=zh (λi=>dU aP ((i:Nat))) (List.range k);rw[o8]at this;exact this
variable{g:ae (ae Int)}{aP:ae Bool}
open Classical in
def OU:G5 g aP=true↔A9 g aP g.length/\3<=wh aP g.length/\(fD g aP g.length).2=1:=by
 exact lV
def aax(h:¬(A9 g aP g.length/\3<=wh aP g.length/\(fD g aP g.length).2=1)):G5 g aP=false:=avv.2 λe=>h (OU.1 e)
end Gph
namespace Gph
variable {g:ae (ae Int)} {aP:ae Bool}
def aay:∀(ns part:ae Int) (m:Int) (n:Nat),(∀x∈ns,0<=x/\x<part.length)->(CR part ns m).getD n 0=if(n:Int)∈ns then m else part.getD n 0
 |[],part,m,n,_=>by simp[CR]
 |a::ns,part,m,n,h=>by
  have ha:=h a ox;have h2:=aay ns (part.set a.toNat m) m n (by grind);show(CR (part.set a.toNat m) ns m).getD n 0=_
  grind
def TK(g:ae (ae Int))(aP:ae Bool)(k n:Nat):Prop:=∃j,j<k/\dU aP j=true/\ni g aP j n
def aaz(hg:∀l∈g,∀n∈l,Rg g n):∀k,k<=g.length->∀n:Nat,n<g.length->(0<(fD g aP k).1.getD n 0↔TK g aP k n)
 |0,_,n,hn=>by
  constructor
  .intro h;simp[fD,hn]at h
  .rintro⟨j,hj,_⟩;omega
 |k+1,hk,n,hn=>by
  have ih:=aaz hg k ov;have hlen:=(OT g aP k).1;have hkr:Rg g k:=⟨ov,ov⟩
  rw[OQ,EL];by_cases hc:dU aP k=true/\(fD g aP k).1.getD k 0<=0
  .rw[if_pos hc];rw[aay _ _ _ _ (λx hx=>by rw[hlen];exact aav hg hkr x hx)];by_cases hr:(n:Int)∈A7 g aP k
   .rw[if_pos hr];have:=(TJ hg hkr n).1 hr;exact⟨λ_=>⟨k,ov,hc.1,this⟩,λ_=>by omega⟩
   .rw[if_neg hr,ih n hn];rw[TJ hg hkr]at hr;constructor
    .rintro⟨j,h1,h2,h3⟩;exact mm
    .rintro⟨j,h1,h2,h3⟩;by_cases e:j=k
     .subst e;exact absurd h3 hr
     .exact mm
  .rw[if_neg hc,ih n hn];constructor
   .rintro⟨j,h1,h2,h3⟩;exact mm
   .rintro⟨j,h1,h2,h3⟩;by_cases e:j=k
    .subst e;have:0<(fD g aP j).1.getD j 0:=by
      grind
     obtain⟨i,q1,q2,q3⟩:=(ih j ov).1 this;exact⟨i,q1,q2,q3.trans h3⟩
    .exact mm
open Classical in
noncomputable def cnt(g:ae (ae Int))(aP:ae Bool):Nat->Nat
 |0=>0
 |k+1=>cnt g aP k+if dU aP k=true/\¬TK g aP k k then 1 else 0
def TL(hg:∀l∈g,∀n∈l,Rg g n):∀k,k<=g.length->(fD g aP k).2=cnt g aP k
 |0,_=>by simp[fD,cnt]
 |k+1,hk=>by
  have ih:=TL hg k ov;have hs:=aaz (aP:=aP) hg k ov k ov;rw[OQ,EL,cnt]
  grind
def nQ(g:ae (ae Int)):Prop:=∀(i:Nat) l,g[i]? =some l->∀n∈l,Rg g n/\∀l',g[n.toNat]? =some l'->(i:Int)∈l'
def nQ.rg(h:nQ g):∀l∈g,∀n∈l,Rg g n:=λl hl n hn=>by
 obtain⟨i,hi⟩:=gT hl;exact(h i l hi n hn).1
def ni.rg(h:nQ g){a b:Int}(ha:Rg g a)(r:ni g aP a b):Rg g b:=by
 cases r with
 |refl=>exact ha
 |step _ hl hn _=>exact h.rg _ (aV hl) _ hn
def ni.symm(h:nQ g){a b:Int}(ha:Rg g a)(hi:dU aP a=true)(r:ni g aP a b):ni g aP b a:=by
 induction r with
 |refl=>exact .refl
 |step r0 hl hn hin ih=>
  rename_i i n l;have hri:=ni.rg h ha r0;have ak0:dU aP i=true:=by
   cases r0 with
   |refl=>exact hi
   |step _ _ _ q=>exact q
  obtain⟨q1,q2⟩:=h i.toNat l hl n hn;have:=q2 _ (fK q1);have hc:(i.toNat:Int)=i:=by unfold Rg at hri;omega
  rw[hc]at this;exact(ni.step .refl (fK q1) this ak0).trans ih
def ak1(h:nQ g){f:Nat}(hf:f<g.length)(hin:dU aP f=true)(Cx:∀j,j<f->dU aP (j:Nat)=false):
 cnt g aP g.length=1↔∀i:Nat,i<g.length->dU aP i=true->ni g aP f i:=by
 have base:∀k,k<=f->cnt g aP k=0:=by
  intro k;induction k with
  |zero=>intro _;rfl
  |succ k ih=>
   intro hk;rw[cnt,ih ov,if_neg (λq=>by rw[Cx k ov]at q;cases q.1)]
 have uK:cnt g aP (f+1)=1:=by
  rw[cnt,base f (bG _),if_pos ⟨hin,λ⟨j,h1,h2,_⟩=>by rw[Cx j h1]at h2;cases h2⟩]
 have mono:∀k d,cnt g aP k<=cnt g aP (k+d):=by
  intro k d;exact mc
 constructor
 .intro h1 i;induction i using Nat.strongRecOn with
  |_ i ih=>
   intro hi hii;by_cases e:i=f
   .subst e;exact .refl
   have hfi:f<i:=by
    apply Classical.byContradiction;intro hno;rw[Cx i ov]at hii;cases hii
   have ho:TK g aP i i:=by
    apply Classical.byContradiction;intro hno;have e1:cnt g aP (i+1)=cnt g aP i+1:=by rw[cnt,if_pos ⟨hii,hno⟩]
    have e2:=mono (f+1) (i - (f+1));have e3:=mono (i+1) (g.length - (i+1));rw[show f+1+(i - (f+1))=i by omega]at e2;rw[show i+1+(g.length - (i+1))=g.length by omega]at e3;omega
   obtain⟨j,q1,q2,q3⟩:=ho;exact(ih j q1 ov q2).trans q3
 .intro hall;have:∀d,f+1+d<=g.length->cnt g aP (f+1+d)=1:=by
   intro d;induction d with
   |zero=>intro _;exact uK
   |succ d ih=>
    intro hd;rw[<- pR,cnt,ih ov,if_neg (λq=>q.2 ⟨f,ov,hin,hall _ ov q.1⟩)]
  have:=this (g.length - (f+1)) ov
  rwa [show f+1+(g.length - (f+1))=g.length by omega]at this
end Gph
namespace Gph
structure rZ where
 kind:Int
 cells:List Int
 set:Int
 other:Int
 lo:Int
 hi:Int
 runs:List Int
 rule:Int
 at_:Int
structure Kn where
 cells:Int
 symbols:Int
 values:List Int
 aH:List (List Int)
 cons:List rZ
structure TM(cells symbols:Int)(c:rZ):Prop where
 cell:∀(i:Nat) x,c.cells[i]? =some x->0<=x/\x<cells/\(8<=c.kind->x=i)
 nd:c.cells.Nodup
 kind:1<=c.kind/\c.kind<=9
 two:c.kind=6\/c.kind=7->c.cells.length=2
 all:8<=c.kind->(c.cells.length:Int)=cells
 set:0<=c.set/\c.set<(2^symbols.toNat:Nat)
 other:0<=c.other/\c.other<(2^symbols.toNat:Nat)
 lo:0<=c.lo/\c.lo<=65536
 hi:0<=c.hi/\c.hi<=65536
 au0:c.runs.length<=8
 runs:∀x∈c.runs,1<=x/\x<=256
def TM.len{cells symbols:Int}{c:rZ}(h:TM cells symbols c):(c.cells.length:Int)<=cells\/c.cells=[]:=by
 by_cases hn:c.cells=[]
 .exact .inr hn
 have hb:∀x∈c.cells,0<=x/\x<cells:=λx hx=>by
  obtain⟨i,hi⟩:=gT hx;have:=h.cell i x hi;exact kY
 have:∀(m:Nat) (l:ae Int),l.Nodup->(∀x∈l,0<=x/\x<m)->l.length<=m:=by
  intro m;induction m with
  |zero=>
   intro l _ hl;cases l with
   |nil=>simp
   |cons a l=>have:=hl a ox;omega
  |succ m ih=>
   intro l hd hl;by_cases hm:(m:Int)∈l
   .have h1:=List.length_erase_of_mem hm
    grind
   grind
 have h0:0<=cells:=by
  obtain⟨a,ha⟩:=List.exists_mem_of_ne_nil _ hn;have:=hb a ha;omega
 have:=this cells.toNat c.cells h.nd (by grind);omega
end Gph
namespace Kd
open Go Go.Ideal
structure nQ where
 name:ByteArray
 value:Int
 deriving DecidableEq
structure Reg where
 name:ByteArray
 lists:List (List Int)
 deriving DecidableEq
structure jA where
 name:ByteArray
 on:ByteArray
 family:Int
 type:Int
 lo:Int
 hi:Int
 deriving DecidableEq
structure bF where
 name:ByteArray
 on:ByteArray
 kind:Int
 family:Int
 names:List ByteArray
 others:List ByteArray
 set:Int
 other:Int
 op:Int
 n:Int
 fV:ByteArray
 aN:Int
 deriving DecidableEq
structure dR where
 name:ByteArray
 version:Int
 shape:Int
 w:Int
 h:Int
 holes:List Int
 symbols:List nQ
 regions:List Reg
 dn:List jA
 rules:List bF
 deriving DecidableEq
structure bY where
 shape:Int
 w:Int
 h:Int
 holes:List Int
 cells:List Int
 deriving DecidableEq
structure aT where
 decl:dR
 grid:bY
 aH:List (List Int)
 lists:List (List (List Int))
 deriving DecidableEq
def jO:Enc nQ:=⟨2,Unit,λx _=>[.string x.name,.int .i64 x.value],λ_ _=>[],λ_ _=>rfl⟩
def lJ:Enc Reg:=⟨2,ah,λx v=>[.string x.name,v],λx v=>[ay (aA aj) v x.lists],λ_ _=>rfl⟩
def eP:Enc jA:=⟨6,Unit,λx _=>[.string x.name,.string x.on,.int .i64 x.family,.int .i64 x.type,.int .i64 x.lo,.int .i64 x.hi],λ_ _=>[],λ_ _=>rfl⟩
abbrev jf(x:bF)(v1 v2:ah):ae ah:=[.string x.name,.string x.on,.int .i64 x.kind,.int .i64 x.family,v1,v2,.int .i64 x.set,.int .i64 x.other,.int .i64 x.op,.int .i64 x.n,.string x.fV,.int .i64 x.aN]
def di:Enc bF:=⟨12,ah×ah,λx v=>jf x v.1 v.2,λx v=>[ay ko v.1 x.names,ay ko v.2 x.others],λ_ _=>rfl⟩
abbrev oO(d:dR)(vh vs vr vc vu:ah):ae ah:=[.string d.name,.int .i64 d.version,.int .i64 d.shape,.int .i64 d.w,.int .i64 d.h,vh,vs,vr,vc,vu]
abbrev uQ(d:dR)(vh vs vr vc vu:ah):ae aI:=[ay aj vh d.holes,ay jO vs d.symbols,ay lJ vr d.regions,ay eP vc d.dn,ay di vu d.rules]
def jY(s:ByteArray):ae ByteArray->Nat
 |[]=>0
 |a::l=>if s=a then 0 else jY s l+1
def CU{s:ByteArray}:∀{l:ae ByteArray},s∈l->jY s l<l.length
 |[],h=>by cases h
 |a::l,h=>by
  unfold jY;split
  .simp
  .rename_i hne;have:=CU ((dm.1 h).resolve_left hne);simp;omega
def gz(names:ae ByteArray)(start:Nat):ae (ByteArray×ah):=names.zipIdx.map λp=>(p.1,.int .i64 ((start+p.2:Nat):Int))
def TN(a b:ae ByteArray)(start:Nat):gz (a++b) start=gz a start++gz b (start+a.length):=by
 unfold gz;rw[BZ,bZ];congr 1;rw[show b.zipIdx (0+a.length)=(b.zipIdx 0).map (λp=>(p.1,p.2+a.length))by
  rw[List.zipIdx_eq_map_add]
  grind]
 rw[rO];apply List.map_congr_left
 grind
def xC(names:ae ByteArray)(start:Nat):(gz names start).map (·.1)=names:=by
 unfold gz;rw[rO];have:((λp:ByteArray×ah=>p.1)∘λp:ByteArray×Nat=>(p.1,Value.int .i64 ((start+p.2:Nat))))=Prod.fst:=rfl;rw[this,List.zipIdx_map_fst]
variable{α:Type}
def Ba{β:Type}[DecidableEq α](a b:α)(v:β)(l:ae (α×β)):dM a ((b,v)::l)=if a=b then some v else dM a l:=rfl
def wm{α β:Type}[DecidableEq α]{a:α}:∀{l:ae (α×β)},a∉l.map (·.1)->dM a l=none
 |[],_=>rfl
 |(b,v)::l,h=>by
  unfold dM;rw[if_neg (by grind),wm (by grind)]
def Ko{α β:Type}[DecidableEq α]{a:α}:∀{l:ae (α×β)},a∈l.map (·.1)->∃v,dM a l=some v
 |[],h=>by cases h
 |(b,v)::l,h=>by
  unfold dM;by_cases e:a=b
  .exact⟨v,by rw[if_pos e]⟩
  .obtain⟨u,hu⟩:=Ko ((dm.1 h).resolve_left e);exact⟨u,by rw[if_neg e,hu]⟩
def Bb{s:ByteArray}:∀{names:ae ByteArray} {start:Nat},s∈names->dM s (gz names start)=some (.int .i64 ((start+jY s names:Nat):Int))
 |[],start,h=>by cases h
 |a::l,start,h=>by
  have e:gz (a::l) start=(a,.int .i64 (start:Int))::gz l (start+1):=by
   have:=TN [a] l start;simpa[gz]using this
  rw[e];unfold dM jY;by_cases hs:s=a
  .grind
  .rw[if_neg hs,if_neg hs,Bb (by grind),show start+1+jY s l=start+(jY s l+1)by omega]
def G6{α β:Type}[DecidableEq α]{a:α}{v:β}:∀{l:ae (α×β)},a∉l.map (·.1)->upd a v l=l++[(a,v)]
 |[],_=>rfl
 |(b,u)::l,h=>by
  unfold upd;rw[if_neg (by grind),G6 (by grind)];rfl
def EM:ae ByteArray:=[⟨⟨[99,101,108,108,115]⟩⟩,⟨⟨[114,111,119,115]⟩⟩,⟨⟨[99,111,108,117,109,110,115]⟩⟩,⟨⟨[100,105,97,103,111,110,97,108,115]⟩⟩,⟨⟨[97,114,111,117,110,100]⟩⟩,⟨⟨[110,101,97,114]⟩⟩,⟨⟨[112,97,105,114,115]⟩⟩,⟨⟨[97,108,108]⟩⟩]
def iR(d:dR):ae ByteArray:=d.symbols.map (·.name)
def iT(d:dR):ae ByteArray:=EM++d.regions.map (·.name)
def mM(d:dR):ae ByteArray:=d.dn.map (·.name)
def OV(d:dR):ae ByteArray:=d.rules.map (·.name)
def kI(eH l:ae ByteArray):Nat:=l.foldl (λm s=>m|||1<<<jY s eH) 0
def G7(fM:ae ByteArray)(c:jA):jA:={c with family:=(jY c.on fM:Int)}
def yE(eH fM ny:ae ByteArray)(r:bF):bF:=
 {r with family:=if r.on=⟨⟨[]⟩⟩then 0 else(jY r.on fM:Int),aN:=if r.fV=⟨⟨[]⟩⟩then -1 else(jY r.fV ny:Int),set:=(kI eH r.names:Int),other:=(kI eH r.others:Int)}
def eO(d:dR):dR:={d with dn:=d.dn.map (G7 (iT d)),rules:=d.rules.map (yE (iR d) (iT d) (mM d))}
structure TP(eH fM ny:List ByteArray)(r:bF):Prop where
 on:r.on=⟨⟨[]⟩⟩\/r.on∈fM
 names:∀s∈r.names,s∈eH
 others:∀s∈r.others,s∈eH
 fV:r.fV=⟨⟨[]⟩⟩\/r.fV∈ny
structure G8(d:dR):Prop where
 eH:d.symbols.length<=16
 ak2:(iR d).Nodup
 ak3:(iT d).Nodup
 ak4:(mM d).Nodup
 aaA:∀c∈d.dn,c.on∈iT d
 ak5:(OV d).Nodup
 rul:∀r∈d.rules,TP (iR d) (iT d) (mM d) r
def kW{α:Type}(f:α->α)(k:Nat)(xs:ae α):ae α:=(xs.take k).map f++xs.drop k
def aaB(f:α->α)(xs:ae α):kW f xs.length xs=xs.map f:=by simp[kW]
def CW(f:α->α)(k:Nat)(xs:ae α):(kW f k xs).length=xs.length:=by simp[kW];omega
def aaC(f:α->α){k:Nat}{xs:ae α}(hk:k<xs.length):(kW f k xs)[k]? =xs[k]?:=by
 unfold kW
 grind
def aaD(f:α->α){k:Nat}{xs:ae α}{x:α}(hx:xs[k]? =some x):(kW f k xs).set k (f x)=kW f (k+1) xs:=by
 have hk:=(bz.1 hx).1;unfold kW;rw[DU _ _ oF,bi,gW,Ae ov];have hd:xs.drop k=x::xs.drop (k+1):=by
  rw[mX hk];congr 1;rw[bN hk]at hx;exact Option.some.inj hx
 rw[hd,rP,hx];simp
end Kd
namespace Kd
open Go Go.Ideal
structure wo(s w h:Int)(holes:List Int):Prop where
 sh:s=1\/s=2
 wi:1<=w/\w<=16
 he:1<=h/\h<=16
 len:(holes.length:Int)<w*h
 inc:holes.Pairwise (·<·)
 mem:∀x∈holes,0<=x/\x<w*h
def lX(n:Nat)(holes:ae Int):ae Int:=((List.range n).map λi:Nat=>(i:Int)).filter λi=>!decide (i∈holes)
def aaE(n:Nat)(holes:ae Int):lX (n+1) holes=lX n holes++if(n:Int)∈holes then[]else[(n:Int)]:=by
 unfold lX;rw[BX,bZ]
 grind
def OW(n:Nat)(holes:ae Int):(lX n holes).length<=n:=by
 unfold lX
 grind
variable{n:Nat}{x:Int}
def ak6{holes:ae Int}(h:x∈lX n holes):0<=x/\x<n/\x∉holes:=by
 unfold lX at h
 grind
def TQ(n:Nat)(holes:ae Int):(lX n holes).Pairwise (·<·):=by
 refine List.Pairwise.filter _ ?_;rw[List.pairwise_map];exact List.Pairwise.imp (λh=>by omega) List.pairwise_lt_range
def wu(w h:Int)(holes:ae Int):ae Int:=lX (w*h).toNat holes
def G9{w h:Int}(hw:1<=w/\w<=16)(hh:1<=h/\h<=16):1<=w*h/\w*h<=256:=by
 have h1:=Int.mul_le_mul hw.1 hh.1 ov ov;have h2:=Int.mul_le_mul hw.2 hh.2 ov ov;omega
structure ig(g:bY):Prop where
 make:wo g.shape g.w g.h g.holes
 cells:g.cells=wu g.w g.h g.holes
variable{g:bY}
def ig.cell(h:ig g):∀x∈g.cells,0<=x/\x<256:=by
 intro x hx;rw[h.cells]at hx;have h1:=ak6 hx;have h2:=G9 h.make.wi h.make.he;omega
def ig.len(h:ig g):g.cells.length<=256:=by
 rw[h.cells];have h1:=OW (g.w*g.h).toNat g.holes;have h2:=G9 h.make.wi h.make.he;unfold wu;omega
def kX(g:bY)(pos:Int):Int×Int:=(if g.shape=2 then pos.tmod g.w - (pos.tdiv g.w).tdiv 2 else pos.tmod g.w,pos.tdiv g.w)
def bK(g:bY):ae (Int×(Int×Int)):=g.cells.zipIdx.map λp=>((p.2:Int),kX g p.1)
variable{k:Nat}
def CY(h:g.cells[k]? =some x):(bK g)[k]? =some ((k:Int),kX g x):=by
 unfold bK
 grind
def r9(g:bY):(bK g).length=g.cells.length:=by simp[bK]
def ak7{a b:ae Int}(h:a.Perm b):bW a=bW b:=by
 have h1:(bW a).Perm (bW b):=(Ca a _).trans (h.trans (Ca b _).symm);have s1:(bW a).Pairwise (λx y=>x<=y):=by
  have:=aeP (le:=λx y:Int=>decide (x<=y)) (by grind) (λa b=>by simp;omega) a;exact lP
 have s2:(bW b).Pairwise (λx y=>x<=y):=by
  have:=aeP (le:=λx y:Int=>decide (x<=y)) (by grind) (λa b=>by simp;omega) b;exact lP
 generalize bW a=u at h1 s1;generalize bW b=v at h1 s2;induction u generalizing v with
 |nil=>exact(List.nil_perm.1 h1).symm▸rfl
 |cons x u ih=>
  cases v with
  |nil=>grind
  |cons y v=>
   have hxy:x=y:=by
    have hx:x∈y::v:=(by grind)
    have hy:y∈x::u:=(by grind)
    rcases dm.1 hx with e|hx
    .exact e
    rcases dm.1 hy with e|hy
    .exact e.symm
    have:=(rQ.1 s1).1 y hy;have:=(rQ.1 s2).1 x hx;omega
   grind
def fO:ae (Int×Int):=[(1,0),(-1,0),(0,1),(0, -1),(1, -1),(-1,1)]
def eT(g:bY):Nat:=if g.shape=1 then 4 else 6
def gD(xs:ae (Int×(Int×Int))):ae ((Int×Int)×ah):=xs.foldl (λm p=>upd p.2 (.int .i64 p.1) m) []
def TR(xs:ae (Int×(Int×Int)))(p:Int×(Int×Int)):gD (xs++[p])=upd p.2 (.int .i64 p.1) (gD xs):=by
 unfold gD;rw[vJ];rfl
def aaF{xs:ae (Int×(Int×Int))}:∀a v,dM a (gD xs)=some v->∃c,v=.int .i64 c/\∃p∈xs,p.1=c:=by
 have hup:∀(m:ae ((Int×Int)×ah)) (b:Int×Int) (u:ah) (a:Int×Int) (v:ah),dM a (upd b u m)=some v->(a=b/\v=u)\/dM a m=some v:=by
  intro m;induction m with
  |nil=>
   intro b u a v h;have h:(if a=b then some u else none)=some v:=h
   grind
  |cons q m ih=>
   intro b u a v h;obtain⟨k,w⟩:=q;unfold upd at h;by_cases e:b=k
   .rw[if_pos e,Ba]at h;by_cases e2:a=b
    .grind
    .rw[if_neg e2]at h;right;rw[Ba,if_neg (by grind)];exact h
   .rw[if_neg e,Ba]at h;by_cases e2:a=k
    .rw[if_pos e2]at h;right;rw[Ba,if_pos e2];exact h
    .rw[if_neg e2]at h;rcases ih b u a v h with h|h
     .exact .inl h
     .right;rw[Ba,if_neg e2];exact h
 have:∀(xs:ae (Int×(Int×Int))) (m:ae ((Int×Int)×ah)) a v,dM a (xs.foldl (λm p=>upd p.2 (.int .i64 p.1) m) m)=some v->(∃c,v=.int .i64 c/\∃p∈xs,p.1=c)\/dM a m=some v:=by
  intro xs;induction xs with
  |nil=>intro m a v h;exact .inr h
  |cons p xs ih=>
   grind
 intro a v h;rcases this xs [] a v h with h|h
 .exact h
 .cases h
def numOf:az ah->az Int
 |some (.int .i64 n)=>some n
 |_=>none
def iL(m:ae ((Int×Int)×ah))(s:Int×Int)(ds:ae (Int×Int)):ae Int:=ds.filterMap λd=>numOf (dM (s.1+d.1,s.2+d.2) m)
def ak8(m:ae ((Int×Int)×ah))(s:Int×Int)(ds:ae (Int×Int))(d:Int×Int):iL m s (ds++[d])=iL m s ds++(numOf (dM (s.1+d.1,s.2+d.2) m)).toList:=by
 unfold iL
 grind
def OX(m:ae ((Int×Int)×ah))(s:Int×Int)(ds:ae (Int×Int)):(iL m s ds).length<=ds.length:=Mg _ _
def pF(g:bY)(p:Int×(Int×Int)):ae Int:=bW (iL (gD (bK g)) p.2 (fO.take (eT g)))
def gI(g:bY):ae (ae Int):=(bK g).map (pF g)
def OY(h:ig g):∀p∈bK g,(0<=p.1/\p.1<256)/\(-256<=p.2.1/\p.2.1<256)/\(0<=p.2.2/\p.2.2<256):=by
 intro p hp;obtain⟨k,hk⟩:=zb.1 hp;have hkl:=(bz.1 hk).1;rw[r9]at hkl;have hx:=bN hkl;rw[CY hx]at hk;cases hk;have hb:=h.cell _ (aV hx);have hl:=h.len;generalize g.cells[k]=x at hb;have hw:=h.make.wi;have hq:0<=x.tdiv g.w/\x.tdiv g.w<=x:=by
  rw[zk hb.1];exact⟨Int.ediv_nonneg hb.1 ov,Int.ediv_le_self _ hb.1⟩
 have hr:0<=x.tmod g.w/\x.tmod g.w<=x:=by
  rw[I1 hb.1];refine⟨Int.emod_nonneg _ ov,?_⟩;have:=Mh x g.w;have h3:0<=g.w*(x/g.w):=Int.mul_nonneg ov (Int.ediv_nonneg hb.1 ov);omega
 have hq2:0<=(x.tdiv g.w).tdiv 2/\(x.tdiv g.w).tdiv 2<=x.tdiv g.w:=by
  rw[zk hq.1];omega
 unfold kX;dsimp only;refine⟨ov,?_,ov⟩;split<;>omega
def uR:Enc (Int×Int):=⟨2,Unit,λx _=>[.int .i64 x.1,.int .i64 x.2],λ_ _=>[],λ_ _=>rfl⟩
abbrev He:ae ah:=[.int .i64 1,.int .i64 0,.int .i64 (-1),.int .i64 0,.int .i64 0,.int .i64 1,.int .i64 0,.int .i64 (-1),.int .i64 1,.int .i64 (-1),.int .i64 (-1),.int .i64 1]
variable{b m:Nat}
def ak9{w:Wd}(h:(aX b 0 He).p w)(hm:m<=6):(ay uR (.slice (some ⟨b,0,some 0⟩) m 6) (fO.take m)).p w:=by
 obtain⟨cells,h1,h2⟩:=h;have hl:(fO.take m).length=m:=by rw[gW];show min m 6=m;omega
 refine .inr ⟨b,0,0,6,cells,(by grind),h1,λk x hk=>⟨(),λj u hj=>?_,λf hf=>by cases hf⟩⟩;have:=h2 (k*2+j) u (yC (E:=uR) (aF:=fO.map λd=>(d,())) (p:=(x,())) (by grind) hj);show cells[0+k*2+j]? =_
 grind
def ala:∀d∈fO,(-1<=d.1/\d.1<=1)/\(-1<=d.2/\d.2<=1):=oU
def alb{j:Nat}{d:Int×Int}(h:fO[j]? =some d):jR (kD He (j*2)) 2=some [.int .i64 d.1,.int .i64 d.2]:=by
 have hj:=(bz.1 h).1;match j,hj with
 |0,_=>cases h;rfl
 |1,_=>cases h;rfl
 |2,_=>cases h;rfl
 |3,_=>cases h;rfl
 |4,_=>cases h;rfl
 |5,_=>cases h;rfl
variable{α:Type}
def fq{xs:ae α}{x:α}(h:xs[k]? =some x):xs.take (k+1)=xs.take k++[x]:=by
 rw[rP,h];rfl
def EN(g:bY):eT g<=6:=by unfold eT;split<;>omega
def alc{P:Program}{ρ:aB->ah}{x hi:aB}{size:Nat}(hx:ρ x=.pointer (some ⟨b,0,none⟩))(hh:ρ hi=.int .i64 (m:Int))(hm:m<=n):Pu P ρ (.QT n size x none (some hi) none) (.slice (some ⟨b,0,some 0⟩) m n):=λh=>by
 have hb:bounds? n n none (some (.int .i64 m)) none=some (0,m,n):=by
  show(match upTo n (.int .i64 m)with|none=>none|some hh=>_)=_;have:upTo n (.int .i64 m)=some m:=by
   show cond (Nat.ble m n) (some m) none=_;have:Nat.ble m n=true:=by rw[vH];exact hm
   rw[this];rfl
  rw[this]
 simp only[aR.run,hx,jK,hh,hb];rw[show Nat.mul 0 size=0 from IW _];rfl
def Bc{p:Int×(Int×Int)}(h:(bK g)[k]? =some p):p.1=(k:Int):=by
 have hk:=(bz.1 h).1;rw[r9]at hk;rw[CY (bN hk)]at h;cases h;rfl
def OZ{vs rest:ae (Int×(Int×Int))}{x:Int×(Int×Int)}(h:vs++x::rest=bK g):x.1=(vs.length:Int)/\vs.length<g.cells.length/\x∈bK g:=by
 have h1:(bK g)[vs.length]? =some x:=by rw[<- h];simp
 refine⟨Bc h1,?_,aV h1⟩;have:=(bz.1 h1).1
 rwa [r9]at this
def aaG{A:ae (ae Int)}(h:A.length<n)(y:ae Int):(A++List.replicate (n - A.length) []).set A.length y=(A++[y])++List.replicate (n - (A.length+1)) []:=by
 rw[DU _ _ (bG _),show n - A.length=(n - (A.length+1))+1 by omega,wR];simp
def ald{ws:ae α}{v:α}(h:ws[k]? =some v):ws.set k v=ws:=by
 apply iQ
 grind
def yF(g:bY):(gI g).length=g.cells.length:=by
 unfold gI;rw[bi,r9]
def ale(g:bY):(bK g).foldl (λ(xss:ae (ae Int)) (x:Int×(Int×Int))=>xss.set x.1.toNat (pF g x)) (List.replicate g.cells.length [])=gI g:=by
 have key:∀(rest vs:ae (Int×(Int×Int))),vs++rest=bK g->rest.foldl (λxss x=>xss.set x.1.toNat (pF g x)) (vs.map (pF g)++List.replicate (g.cells.length - vs.length) [])=gI g:=by
  intro rest;induction rest with
  |nil=>
   intro vs h;rw[jo]at h;rw[h,r9,um,av9,jo];rfl
  |cons x rest ih=>
   intro vs h;have h1:=OZ h;rw[vI,h1.1,fI];have h2:=aaG (A:=vs.map (pF g)) (by rw[bi];exact h1.2.1) (pF g x);rw[bi]at h2;rw[h2];have h3:=ih (vs++[x]) (by rw[gp];exact h);rw[bZ,fu]at h3;exact h3
 have:=key (bK g) [] rfl;exact this
end Kd
namespace Kd
open Go Go.Ideal
def Bd{α β:Type}[DecidableEq α](a b:α)(v:β):∀m:ae (α×β),dM a (upd b v m)=if a=b then some v else dM a m
 |[]=>rfl
 |(k,w)::m=>by
  unfold upd;by_cases e:b=k
  .rw[if_pos e,Ba,Ba]
   grind
  .rw[if_neg e,Ba,Ba,Bd a b v m]
   grind
def aaH{α β:Type}[DecidableEq α](b:α)(v:β):∀m:ae (α×β),(upd b v m).length<=m.length+1
 |[]=>bG _
 |(k,w)::m=>by
  unfold upd;by_cases e:b=k
  .grind
  .rw[if_neg e,rJ,rJ];have:=aaH b v m;omega
def zP(kf:Int×Int->Int×Bool)(m:ae (Int×ae Int))(p:Int×(Int×Int)):ae (Int×ae Int):=
 cond (kf p.2).2 (upd (kf p.2).1 ((dM (kf p.2).1 m).getD []++[p.1]) m) m
def kJ(kf:Int×Int->Int×Bool)(ps:ae (Int×(Int×Int))):ae (Int×ae Int):=ps.foldl (zP kf) []
def Kq(kf:Int×Int->Int×Bool)(ps:ae (Int×(Int×Int)))(p:Int×(Int×Int)):kJ kf (ps++[p])=zP kf (kJ kf ps) p:=by
 unfold kJ;rw[vJ];rfl
def O0(kf:Int×Int->Int×Bool)(n:Nat):∀ps:ae (Int×(Int×Int)),ps.length=n->(kJ kf ps).length<=ps.length/\∀a,((dM a (kJ kf ps)).getD []).length<=ps.length:=by
 induction n with
 |zero=>
  intro ps h;rw[pU.1 h];exact⟨bG _,λa=>bG _⟩
 |succ n ih=>
  intro ps h;obtain⟨qs,p,rfl⟩:∃qs p,ps=qs++[p]:=⟨ps.dropLast,ps.getLast pP,(FN _).symm⟩
  have hq:qs.length=n:=oI
  rw[Kq,fu];unfold zP;cases (kf p.2).2 with
  |false=>grind
  |true=>
   refine⟨?_,λa=>?_⟩
   .have:=aaH (kf p.2).1 ((dM (kf p.2).1 (kJ kf qs)).getD []++[p.1]) (kJ kf qs)
    grind
   .show((dM a (upd _ _ _)).getD []).length<=_;rw[Bd]
    grind
def lK(g:bY)(kf:Int×Int->Int×Bool):ae (ae Int):=(bW ((kJ kf (bK g)).map (·.1))).map λn=>(dM n (kJ kf (bK g))).getD []
variable{g:bY}
def Kt(hg:ig g)(kf:Int×Int->Int×Bool):(lK g kf).length<=256/\∀l∈lK g kf,l.length<=256:=by
 have h:=O0 kf _ (bK g) rfl;have hl:=hg.len;rw[r9]at h;unfold lK;refine⟨?_,λl hl2=>?_⟩
 .have:(bW ((kJ kf (bK g)).map (·.1))).length=((kJ kf (bK g)).map (·.1)).length:=(Ca _ _).length_eq
  grind
 grind
def Be(acc:ae (ae Int))(l:ae Int):ae (ae Int):=if acc.head? =some l then acc else acc++[l]
def pG(a b:ae (ae Int)):ae (ae Int):=b.foldl Be a
variable{l:ae Int}{k:Nat}
def aaI{a b:ae (ae Int)}(h:b[k]? =some l):pG a (b.take (k+1))=Be (pG a (b.take k)) l:=by
 unfold pG;rw[fq h,vJ];rfl
def O1{a b:ae (ae Int)}{n:Nat}(ha:∀l∈a,l.length<=n)(hb:∀l∈b,l.length<=n):∀k,(pG a (b.take k)).length<=a.length+k/\∀l∈pG a (b.take k),l.length<=n
 |0=>⟨bG _,ha⟩
 |k+1=>by
  obtain⟨h1,h2⟩:=O1 ha hb k;cases h:b[k]? with
  |none=>
   have:b.take (k+1)=b.take k:=by rw[rP,h];simp
   grind
  |some l=>
   rw[aaI h];unfold Be
   grind
def uS(g:bY):ae (ae Int):=
 if g.shape=2 then lK g (λs=>(s.1+s.2,true))
 else if g.w=g.h then pG (lK g (λs=>(0,decide (s.1=s.2)))) (lK g (λs=>(0,decide (s.1+s.2=g.w - 1))))
 else[]
variable{x:Int}
def Hf:x∈bW l↔x∈l:=(Ca l _).mem_iff
def alf:∀a c:Int,Value.int .i64 a=Value.int .i64 c->a=c:=λa c h=>by injection h
def l9(n:Nat):ae (ae Int):=(List.range n).map λi:Nat=>[(i:Int)]
def alg(k:Nat):l9 (k+1)=l9 k++[[(k:Int)]]:=by
 unfold l9;rw[BX,bZ];rfl
def aye(k:Nat):(l9 k).length=k:=by unfold l9;simp
def upTo'(n:Nat):ae Int:=(List.range n).map λi:Nat=>(i:Int)
def EO(k:Nat):upTo' (k+1)=upTo' k++[(k:Int)]:=by
 unfold upTo';rw[BX,bZ];rfl
def kK(k:Nat):(upTo' k).length=k:=by unfold upTo';simp
def qC(aH:ae (ae Int)):ae (ae Int):=aH.zipIdx.map λp=>bW (p.1++[(p.2:Int)])
variable{aH:ae (ae Int)}
def alh(h:aH[k]? =some l):qC (aH.take (k+1))=qC (aH.take k)++[bW (l++[(k:Int)])]:=by
 have hk:=(bz.1 h).1;unfold qC;exact mQ
def aaJ(aH:ae (ae Int)):(qC aH).length=aH.length:=by unfold qC;simp
def pI(i:Nat)(l:ae Int):ae (ae Int):=(l.filter λj=>decide ((i:Int)<j)).map λj=>[(i:Int),j]
def ali{i j:Nat}(h:l[j]? =some x):pI i (l.take (j+1))=pI i (l.take j)++if(i:Int)<x then[[(i:Int),x]]else[]:=by
 unfold pI;rw[fq h,ze]
 grind
def aaK(i:Nat)(l:ae Int):(pI i l).length<=l.length:=by
 unfold pI;grind
def mg(aH:ae (ae Int)):ae (ae Int):=aH.zipIdx.flatMap λp=>pI p.2 p.1
def aaL(h:aH[k]? =some l):mg (aH.take (k+1))=mg (aH.take k)++pI k l:=by
 have hk:=(bz.1 h).1;unfold mg;exact mQ
def O3{aH:ae (ae Int)}(hn:∀l∈aH,l.length<=6):∀k,k<=aH.length->(mg (aH.take k)).length<=6*k
 |0,_=>by simp[mg]
 |k+1,hk=>by
  have h:aH[k]? =some aH[k]:=bN ov;have:=O3 hn k ov;have h2:=aaK k aH[k];have h3:=hn aH[k] (rG _);rw[aaL h,fu];omega
def Ku:∀l∈gI g,l.length<=6:=by
 intro l hl;obtain⟨p,_,rfl⟩:=cO.1 hl;unfold pF;exact eC
def iE(g:bY)(k:Int):ae (ae Int):=
 if k=0 then l9 g.cells.length
 else if k=1 then lK g (λs=>(s.2,true))
 else if k=2 then lK g (λs=>(s.1,true))
 else if k=3 then uS g
 else if k=4 then gI g
 else if k=5 then qC (gI g)
 else if k=6 then mg (gI g)
 else[upTo' g.cells.length]
end Kd
namespace Kd
open Go Go.Ideal
def Bf(p:Int):ae Int->Nat
 |[]=>0
 |a::l=>if p=a then 0 else Bf p l+1
def TT{p:Int}:∀{l:ae Int} {n:Nat},l.Pairwise (·<·)->l[n]? =some p->Bf p l=n
 |[],n,_,h=>by simp at h
 |a::l,0,_,h=>by
  have h:a=p:=oI
  unfold Bf;rw[if_pos h.symm]
 |a::l,n+1,hp,h=>by
  have h1:=(rQ.1 hp).1 p (aV h);unfold Bf;rw[if_neg ov,TT (rQ.1 hp).2 h]
def TU{p:Int}:∀{l:ae Int},p∈l->Bf p l<l.length
 |[],h=>by cases h
 |a::l,h=>by
  unfold Bf;by_cases e:p=a
  .grind
  .rw[if_neg e,rJ];have:=TU (p:=p) (l:=l) (by grind);omega
def CZ(xs:ae Int):ae (Int×ah):=xs.foldl (λm c=>upd c (.bool true) m) []
def aaM(xs:ae Int)(c:Int):CZ (xs++[c])=upd c (.bool true) (CZ xs):=by
 unfold CZ;rw[vJ];rfl
def alj(c:Int)(n:Nat):∀xs:ae Int,xs.length=n->dM c (CZ xs)=if c∈xs then some (.bool true)else none:=by
 induction n with
 |zero=>
  intro xs h;rw[pU.1 h];rfl
 |succ n ih=>
  intro xs h;obtain⟨ys,p,rfl⟩:∃ys p,xs=ys++[p]:=⟨xs.dropLast,xs.getLast pP,(FN _).symm⟩
  rw[aaM,Bd]
  grind
def alk(c:Int)(xs:ae Int):kw false (.bool false) c (CZ xs)=.bool (decide (c∈xs)):=by
 unfold kw;rw[alj c _ xs rfl]
 grind
def TV:∀(m:Nat) (l:ae Int),l.Nodup->(∀x∈l,0<=x/\x<(m:Int))->l.length<=m:=by
 intro m;induction m with
 |zero=>
  intro l _ h;cases l with
  |nil=>exact bG _
  |cons x l=>have:=h x (eX ..);omega
 |succ m ih=>
  intro l hn h;have h1:=ih (l.erase m) (hn.erase _) (λx hx=>by
   have:=h x (List.mem_of_mem_erase hx);have hne:x≠m:=λe=>by subst e;exact(List.Nodup.mem_erase_iff hn).1 hx|>.1 rfl
   omega)
  rw[List.length_erase]at h1;split at h1<;>omega
structure O4(g:bY)(ps:List Int):Prop where
 ne:ps≠[]
 mem:∀p∈ps,p∈g.cells
 nd:(ps.map λp=>(Bf p g.cells:Int)).Nodup
structure uT(g:bY)(rs:List (List Int)):Prop where
 len:rs.length<=64
 all:∀ps∈rs,O4 g ps
def jP(g:bY)(ps:ae Int):ae Int:=ps.map λp=>(Bf p g.cells:Int)
def jr(g:bY)(rs:ae (ae Int)):ae (ae Int):=rs.map (jP g)
def TW{g:bY}{ps:ae Int}(hm:∀p∈ps,p∈g.cells)(hn:(jP g ps).Nodup):ps.length<=g.cells.length:=by
 have:=TV g.cells.length (jP g ps) hn (λx hx=>by
  obtain⟨p,hp,rfl⟩:=cO.1 hx;have:=TU (hm p hp);omega)
 unfold jP at this
 rwa [bi]at this
end Kd
namespace Kd
open Go Go.Ideal
def yG(xs:ae Int):ae (Int×ah):=(xs.foldl (λs c=>(upd c (.int .i64 ((s.2.count c:Nat)+1)) s.1,s.2++[c])) (([]:ae (Int×ah)),([]:ae Int))).1
def alm(xs:ae Int):∀(m:ae (Int×ah)) (ys:ae Int),(xs.foldl (λs c=>(upd c (.int .i64 ((s.2.count c:Nat)+1)) s.1,s.2++[c])) (m,ys)).2=ys++xs:=by
 induction xs with
 |nil=>intro m ys;simp
 |cons x xs ih=>grind
def aaN(xs:ae Int)(c:Int):yG (xs++[c])=upd c (.int .i64 ((xs.count c:Nat)+1)) (yG xs):=by
 unfold yG;rw[vJ,vI,List.foldl_nil];rw[alm,bP]
def aln(c:Int)(n:Nat):∀xs:ae Int,xs.length=n->dM c (yG xs)=if c∈xs then some (.int .i64 (xs.count c:Nat))else none:=by
 induction n with
 |zero=>
  intro xs h;rw[pU.1 h];rfl
 |succ n ih=>
  intro xs h;obtain⟨ys,p,rfl⟩:∃ys p,xs=ys++[p]:=⟨xs.dropLast,xs.getLast pP,(FN _).symm⟩
  rw[aaN,Bd]
  grind
def aaO(c:Int)(xs:ae Int):kw false (.int .i64 0) c (yG xs)=.int .i64 (xs.count c:Nat):=by
 unfold kw;rw[aln c _ xs rfl]
 grind
def alo(c:Int)(xs:ae Int):xs.count c<=xs.length:=List.count_le_length ..
def bO(d:dR):bY:=⟨d.shape,d.w,d.h,d.holes,wu d.w d.h d.holes⟩
def oC(d:dR):ae (ae (ae Int)):=((List.range 8).map λf:Nat=>iE (bO d) (f:Int))++d.regions.map λr=>jr (bO d) r.lists
def tJ(d:dR):aT:=⟨d,bO d,gI (bO d),oC d⟩
end Kd
namespace Kd
open Go Go.Ideal Canon
def bU:Enc Clue:=⟨3,ah,λg v=>[.int .i64 g.aN,.int .i64 g.at_,v],λg v=>[ay aj v g.values],λ_ _=>rfl⟩
abbrev tK(g:Clue)(v:ah):ah:=.agg ⟨[.int .i64 g.aN,.int .i64 g.at_,v]⟩
def ww:ae Int->Int
 |[]=>0
 |a::l=>if a≠0 then a else ww l
def dV(a b:Clue):Int:=ww [dB a.aN b.aN,dB a.at_ b.at_]
variable{a b:Clue}
def tL:dV a b<0↔a.aN<b.aN\/(a.aN=b.aN/\a.at_<b.at_):=by
 unfold dV dB;simp only[ww]
 grind
def Hg{c:Clue}(h1:dV a b<0)(h2:dV b c<0):dV a c<0:=by
 rw[tL]at *;omega
def mO(k:aT)(g:Clue):Prop:=∃(c:jA) (l:ae (ae Int)),0<=g.aN/\k.decl.dn[g.aN.toNat]? =some c/\k.lists[c.family.toNat]? =some l/\0<=g.at_/\g.at_<l.length/\
 ((c.type=1/\g.values.length=1/\∀x∈g.values,0<=x/\x<=(k.decl.symbols.length:Int) - 1)\/(c.type=2/\g.values.length=1/\∀x∈g.values,c.lo<=x/\x<=c.hi)\/
   (c.type≠1/\c.type≠2/\g.values.length<=8/\∀x∈g.values,1<=x/\x<=256))
structure fE(k:aT)(p:List Clue):Prop where
 len:p.length<=512
 right:∀g∈p,mO k g
 sorted:∀(i:Nat) a b,p[i]? =some a->p[i+1]? =some b->dV a b<0
def Kv(k:aT):Prop:=∀c∈k.decl.dn,0<=c.family/\c.family<k.lists.length
end Kd
namespace Kd
open Go Go.Ideal Canon
def TY(k:aT)(i:Int):Int:=match k.decl.dn[i.toNat]? with|some c=>c.family|none=>0
def kL(k:aT)(g:Clue):ae Int:=(k.lists.getD (TY k g.aN).toNat []).getD g.at_.toNat []
def ik(k:aT)(p:ae Clue)(r:bF):ae (ae Int×ae Int):=
 if r.aN<0 then(k.lists.getD r.family.toNat []).map λl=>(l,[r.n])else(p.filter λg=>decide (g.aN=r.aN)).map λg=>(kL k g,g.values)
def fK{α:Type}{l:ae α}{n:Nat}{x d:α}(h:l[n]? =some x):l.getD n d=x:=oW
def mO.cells{k:aT}{g:Clue}(h:mO k g):∃(c:jA) (l:ae (ae Int)) (ps:ae Int),k.decl.dn[g.aN.toNat]? =some c/\k.lists[c.family.toNat]? =some l/\l[g.at_.toNat]? =some ps/\0<=g.aN/\0<=g.at_/\g.at_<l.length/\kL k g=ps:=by
 obtain⟨c,l,h1,h2,h3,h4,h5,_⟩:=h;have h6:l[g.at_.toNat]? =some (l[g.at_.toNat]'(ov)):=bN _;refine⟨c,l,_,h2,h3,h6,h1,h4,h5,?_⟩;unfold kL TY
 grind
abbrev EA:=(ae Int×ah)×(ae Int×ah)
def pJ(x:EA):ae Int×ae Int:=(x.1.1,x.2.1)
def O5(x:EA):ae ah:=[x.1.2,x.2.2]
def Kw(x:EA):ae aI:=[ay aj x.1.2 x.1.1,ay aj x.2.2 x.2.1]
def pad(l:ae (ae Int×ae Int)):ae EA:=l.map λy=>((y.1,.nilFunc),(y.2,.nilFunc))
def aaQ(l:ae (ae Int×ae Int)):(pad l).map pJ=l:=by
 unfold pad;rw[rO];have:pJ∘(λy:ae Int×ae Int=>(((y.1,Value.nilFunc),(y.2,Value.nilFunc))))=id:=rfl;rw[this,List.map_id]
end Kd
namespace Kd
open Go Go.Ideal Canon
def aU(grid:ae Int)(c:Int):Int:=grid.getD c.toNat 0
variable{grid:ae Int}
def jF{n:Nat}{x:Int}(h:grid[n]? =some x):aU grid (n:Int)=x:=by exact fK h
def Ky(n op b:Int):Bool:=(decide (op=1)&&decide (n=b))||(decide (op=2)&&decide (n<=b))||(decide (op=3)&&decide (b<=n))
def qD(aH:ae (ae Int))(grid:ae Int)(c:Int->Int->Bool):Bool:=aH.zipIdx.all λp=>p.1.all λb=>c (aU grid (p.2:Int)) (aU grid b)
variable{l:ae Int}{aH:ae (ae Int)}{c:Int->Int->Bool}{j:Nat}
def alp(h:aH[j]? =some l):qD (aH.take (j+1)) grid c=(qD (aH.take j) grid c&&l.all λb=>c (aU grid (j:Int)) (aU grid b)):=by
 have hj:=(bz.1 h).1;unfold qD;rw[fq h,BZ,List.all_append,gW,Ae ov,gq,IM,List.zipIdx_nil,L6,List.all_nil,Bool.and_true]
def alq{i:Nat}{b:Int}(h:aH[j]? =some l)(hb:l[i]? =some b)(hc:c (aU grid (j:Int)) (aU grid b)=false):qD aH grid c=false:=by
 unfold qD;rw[List.all_eq_false];refine⟨(l,j),?_,?_⟩
 .grind
 grind
end Kd
namespace Kd
open Go Go.Ideal
def Bg(n:Nat)(l:ae Int):Prop:=l.length<=4096/\∀c∈l,0<=c/\c<(n:Int)
variable{g:bY}
def O6:∀p∈bK g,0<=p.1/\p.1<(g.cells.length:Int):=by
 intro p hp;obtain⟨k,hk⟩:=zb.1 hp;have hkl:=(bz.1 hk).1;rw[r9]at hkl;have:=Bc hk;omega
def alr(kf:Int×Int->Int×Bool)(n:Nat):∀ps:ae (Int×(Int×Int)),ps.length=n->∀a,∀c∈(dM a (kJ kf ps)).getD [],∃p∈ps,p.1=c:=by
 induction n with
 |zero=>
  intro ps h a c hc;rw[pU.1 h]at hc;cases hc
 |succ n ih=>
  intro ps h a c hc;obtain⟨qs,p,rfl⟩:∃qs p,ps=qs++[p]:=⟨ps.dropLast,ps.getLast pP,(FN _).symm⟩
  have hq:qs.length=n:=oI
  have hih:∀a,∀c∈(dM a (kJ kf qs)).getD [],∃p'∈qs++[p],p'.1=c:=λa c hc=>by
   obtain⟨q,h1,h2⟩:=ih qs hq a c hc
   grind
  rw[Kq]at hc;unfold zP at hc;cases hb:(kf p.2).2 with
  |false=>
   grind
  |true=>
   rw[hb]at hc;have hc:c∈(dM a (upd (kf p.2).1 ((dM (kf p.2).1 (kJ kf qs)).getD []++[p.1]) (kJ kf qs))).getD []:=hc;rw[Bd]at hc
   grind
def Kz(hg:ig g)(kf:Int×Int->Int×Bool):∀l∈lK g kf,Bg g.cells.length l:=by
 intro l hl;have hlen:=(Kt hg kf).2 l hl;refine⟨ov,λc hc=>?_⟩;obtain⟨n,_,rfl⟩:=cO.1 hl;obtain⟨p,hp,rfl⟩:=alr kf _ (bK g) rfl n c hc;exact O6 p hp
variable{l:ae Int}
def aaR{a b:ae (ae Int)}(h:l∈pG a b):l∈a\/l∈b:=by
 induction b generalizing a with
 |nil=>exact .inl h
 |cons x b ih=>
  rcases ih h with h|h
  .unfold Be at h
   grind
  grind
def aaS{o:az ah}{n:Int}(h:numOf o=some n):o=some (.int .i64 n):=by
 unfold numOf at h
 grind
def als{p:Int×(Int×Int)}:Bg g.cells.length (pF g p):=by
 unfold pF;refine⟨?_,λc hc=>?_⟩
 .exact eC
 .rw[Hf]at hc;obtain⟨d,_,hd⟩:=IU.1 hc;obtain⟨c',h1,q,hq,h2⟩:=aaF _ _ (aaS hd);injection h1 with _ h1;rw[h1,<- h2];exact O6 q hq
def O7:∀l∈gI g,Bg g.cells.length l:=by
 intro l hl;obtain⟨p,_,rfl⟩:=cO.1 hl;exact als
def alu(l:ae Int):(bW l).length=l.length:=(Ca l _).length_eq
def aaT(hg:ig g)(k:Int):∀l∈iE g k,Bg g.cells.length l:=by
 have hlen:=hg.len;have hnl:=yF g;have hnm:=Ku (g:=g);intro l hl;unfold iE at hl;split at hl
 .unfold l9 at hl;obtain⟨i,hi,rfl⟩:=cO.1 hl;have:=xP.1 hi;exact⟨ox,λc hc=>by rw[eG.1 hc];omega⟩
 split at hl
 .exact Kz hg _ l hl
 split at hl
 .exact Kz hg _ l hl
 split at hl
 .unfold uS at hl;split at hl
  .exact Kz hg _ l hl
  split at hl
  .rcases aaR hl with hl|hl
   .exact Kz hg _ l hl
   .exact Kz hg _ l hl
  .cases hl
 split at hl
 .exact O7 l hl
 split at hl
 .unfold qC at hl;obtain⟨⟨x,i⟩,hx,rfl⟩:=cO.1 hl;have hx:=xQ.1 hx;have hxm:=aV hx;have hi:=(bz.1 hx).1;have h6:=hnm x hxm;refine⟨by rw[alu];simp;omega,λc hc=>?_⟩;rw[Hf]at hc;rcases fU.1 hc with hc|hc
  .exact(O7 x hxm).2 c hc
  .rw[eG.1 hc];dsimp only;omega
 split at hl
 .unfold mg at hl;obtain⟨⟨x,i⟩,hx,hl⟩:=atK.1 hl;have hx:=xQ.1 hx;have hxm:=aV hx;have hi:=(bz.1 hx).1;unfold pI at hl;obtain⟨j,hj,rfl⟩:=cO.1 hl;have hj:=(qm.1 hj).1;refine⟨ox,λc hc=>?_⟩;simp only[dm,IR,or_false]at hc;rcases hc with rfl|rfl
  .omega
  .exact(O7 x hxm).2 _ hj
 .rw[eG.1 hl];refine⟨by rw[kK];omega,λc hc=>?_⟩;exact lI
def aaU(hg:ig g){rs:ae (ae Int)}(hr:uT g rs):∀l∈jr g rs,Bg g.cells.length l:=by
 intro l hl;obtain⟨ps,hps,rfl⟩:=cO.1 hl;have hP:=hr.all ps hps;have h1:=TW hP.mem hP.nd;have h2:=hg.len;refine⟨by unfold jP;rw[bi];omega,λc hc=>?_⟩;obtain⟨p,hp,rfl⟩:=cO.1 hc;have:=TU (hP.mem p hp);omega
def O8{d:dR}(hg:ig (bO d))(hr:∀r∈d.regions,uT (bO d) r.lists):∀l∈oC d,∀ps∈l,Bg (bO d).cells.length ps:=by
 intro l hl ps hps;rcases fU.1 hl with hl|hl
 .obtain⟨f,_,rfl⟩:=cO.1 hl;exact aaT hg _ ps hps
 .obtain⟨r,hrm,rfl⟩:=cO.1 hl;exact aaU hg (hr r hrm) ps hps
def alv(hw:1<=g.w){x y:Int}(hx:0<=x)(hy:0<=y)(h:kX g x=kX g y):x=y:=by
 unfold kX at h;have h1:=congrArg Prod.fst h;have h2:=congrArg Prod.snd h;dsimp only at h1 h2;rw[zk hx,zk hy]at h2;rw[zk hx,zk hy,I1 hx,I1 hy,h2]at h1;have h3:x%g.w=y%g.w:=by
  split at h1<;>omega
 have e1:=Mh x g.w;have e2:=Mh y g.w;rw[h2]at e1;omega
def KA(hg:ig g){p q:Int×(Int×Int)}(hp:p∈bK g)(hq:q∈bK g)(h:p.1=q.1\/p.2=q.2):p=q:=by
 obtain⟨k,hk⟩:=zb.1 hp;obtain⟨j,hj⟩:=zb.1 hq;have hkl:=(bz.1 hk).1;have hjl:=(bz.1 hj).1;rw[r9]at hkl hjl;rcases h with h|h
 .have h1:=Bc hk;have h2:=Bc hj;have:k=j:=by omega
  subst this;rw[hk]at hj;exact Option.some.inj hj
 .have hx:=bN hkl;have hy:=bN hjl;have hkk:=hk;have hjj:=hj;rw[CY hx]at hk;rw[CY hy]at hj;have hk:=Option.some.inj hk;have hj:=Option.some.inj hj;have hs:kX g g.cells[k]=kX g g.cells[j]:=by rw[<- hk,<- hj]at h;exact h
  have he:=alv (by have:=hg.make.wi;omega) (hg.cell _ (rG _)).1 (hg.cell _ (rG _)).1 hs;have uU:g.cells.Pairwise (·<·):=by rw[hg.cells];exact TQ _ _
  have hkj:k=j:=by
   apply Classical.byContradiction;intro hne;have:=zf.1 uU;rcases Nat.lt_or_gt_of_ne hne with hl|hl
   .have:=this k j hkl hjl hl;omega
   .have:=this j k hjl hkl hl;omega
  subst hkj;rw[hkk]at hjj;exact Option.some.inj hjj
def alx(n:Nat):∀xs:ae (Int×(Int×Int)),xs.length=n->(∀p∈xs,∀q∈xs,p.2=q.2->p=q)->∀p∈xs,dM p.2 (gD xs)=some (.int .i64 p.1):=by
 induction n with
 |zero=>grind
 |succ n ih=>
  intro xs h hi p hp;obtain⟨ys,q,rfl⟩:∃ys q,xs=ys++[q]:=⟨xs.dropLast,xs.getLast pP,(FN _).symm⟩
  rw[TR,Bd];by_cases e:p.2=q.2
  .grind
  .rw[if_neg e];refine ih ys oI (λa ha b hb=>(by grind)) p ?_
   grind
def aly(n:Nat):∀xs:ae (Int×(Int×Int)),xs.length=n->∀a v,dM a (gD xs)=some v->∃p∈xs,p.2=a/\v=.int .i64 p.1:=by
 induction n with
 |zero=>
  intro xs h a v hv;rw[pU.1 h]at hv;cases hv
 |succ n ih=>
  intro xs h a v hv;obtain⟨ys,q,rfl⟩:∃ys q,xs=ys++[q]:=⟨xs.dropLast,xs.getLast pP,(FN _).symm⟩
  rw[TR,Bd]at hv;by_cases e:a=q.2
  .grind
  .rw[if_neg e]at hv;obtain⟨p,h1,h2⟩:=ih ys oI a v hv
   grind
def O9(hg:ig g){s:Int×Int}{d:Int×Int}{n:Int}:numOf (dM (s.1+d.1,s.2+d.2) (gD (bK g)))=some n↔∃q∈bK g,q.2=(s.1+d.1,s.2+d.2)/\q.1=n:=by
 constructor
 .intro h;obtain⟨q,hq,h1,h2⟩:=aly _ (bK g) rfl _ _ (aaS h)
  grind
 .rintro⟨q,hq,h1,h2⟩;rw[<- h1,alx _ (bK g) rfl (λa ha b hb e=>KA hg ha hb (.inr e)) q hq,<- h2];rfl
def aaV(hg:ig g){p:Int×(Int×Int)}{n:Int}:n∈pF g p↔∃d∈fO.take (eT g),∃q∈bK g,q.2=(p.2.1+d.1,p.2.2+d.2)/\q.1=n:=by
 unfold pF;rw[Hf];unfold iL;rw[IU];constructor
 .rintro⟨d,hd,h⟩;exact⟨d,hd,(O9 hg).1 h⟩
 .rintro⟨d,hd,h⟩;exact⟨d,hd,(O9 hg).2 h⟩
def aaW(g:bY):eT g=4\/eT g=6:=by unfold eT;split<;>simp
variable{m:Nat}
def alz(hm:m=4\/m=6):∀d∈fO.take m,(-d.1, -d.2)∈fO.take m:=by
 rcases hm with rfl|rfl<;>decide
def alA:∀d∈fO.take m,¬(d.1=0/\d.2=0):=by
 intro d hd;have:∀d∈fO,¬(d.1=0/\d.2=0):=oU
 grind
def alB(hm:m=4\/m=6):(fO.take m).Nodup:=by
 rcases hm with rfl|rfl<;>decide
def TZ(l:ae Int):(bW l).Pairwise (λx y=>x<=y):=by
 have:=aeP (le:=λx y:Int=>decide (x<=y)) (by grind) (λa b=>by simp;omega) l;exact lP
def T9(h:l.Nodup):(bW l).Pairwise (·<·):=by
 have h1:=TZ l;have h2:(bW l).Nodup:=(Ca l _).symm.nodup h;have h3:=List.Pairwise.and h1 h2
 grind
def aaX(hg:ig g)(p:Int×(Int×Int)):(pF g p).Pairwise (·<·):=by
 refine T9 ?_;refine List.Pairwise.filterMap _ ?_ (alB (aaW g));intro d1 d2 hne b hb b' hb' e;subst e;obtain⟨q1,h1,h2,h3⟩:=(O9 hg).1 hb;obtain⟨q2,k1,k2,k3⟩:=(O9 hg).1 hb';have:=KA hg h1 k1 (.inl (by rw[h3,k3]))
 grind
def Ua(hg:ig g)(i:Nat)(l:ae Int)(hl:(gI g)[i]? =some l)(k:Nat)(n:Int)(hn:l[k]? =some n):
 0<=n/\n<(gI g).length/\n≠i/\(∀m,0<k->l[k - 1]? =some m->m<n)/\∀l',(gI g)[n.toNat]? =some l'->(i:Int)∈l':=by
 have hnm:=yF g;unfold gI at hl;rw[eF]at hl;obtain⟨p,hp,rfl⟩:=lT.1 hl;have hp1:=Bc hp;have hpm:=aV hp;obtain⟨d,hd,q,hq,hq2,hq1⟩:=(aaV hg).1 (aV hn);have hqi:=O6 q hq;refine⟨ov,ov,λe=>?_,λm hk hm=>?_,λl' hl'=>?_⟩
 .have:=KA hg hq hpm (.inl ov);subst this;have e1:=congrArg Prod.fst hq2;have e2:=congrArg Prod.snd hq2;exact alA d hd ⟨ov,ov⟩
 .have hlt:=aaX hg p;obtain⟨a1,a2⟩:=bz.1 hm;obtain⟨b1,b2⟩:=bz.1 hn;have:=zf.1 hlt (k - 1) k a1 b1 ov
  grind
 .unfold gI at hl';rw[eF]at hl';obtain⟨q',hq',rfl⟩:=lT.1 hl';have h1:=Bc hq';have:=KA hg (aV hq') hq (.inl ov);rw[aaV hg];refine⟨(-d.1, -d.2),alz (aaW g) d hd,p,hpm,?_,hp1⟩
  grind
end Kd
namespace Kd
open Go Go.Ideal Canon Gph
def C8(r:bF)(vals:ae Int):Int:=if r.fV=⟨⟨[]⟩⟩then r.n else vals.getD 0 0
def ry(r:bF)(vals:ae Int)(most:Int):Int×Int:=if r.op=2 then(0,C8 r vals)else if r.op=3 then(C8 r vals,max (C8 r vals) most)else(C8 r vals,C8 r vals)
def iG(r:bF):Int:=if r.kind=6\/r.kind=7\/r.kind=8 then 6 else if r.kind=9\/r.kind=10 then 7 else if r.kind=11 then 0 else r.family
def jS(r:bF):Nat:=if r.kind=1\/r.kind=4 then 2 else 0
def aaY(k:Int):Int:=if k=1 then 1 else if k=4 then 4 else if k=6 then 1 else if k=7 then 6 else if k=8 then 7 else if k=9 then 8 else 9
def nR(r:bF)(cells vals:ae Int):rZ:=
 if r.kind=2 then⟨2,cells,r.set,0,(ry r vals cells.length).1,(ry r vals cells.length).2,[],0,0⟩
 else if r.kind=3 then⟨3,cells,0,0,(ry r vals 65536).1,(ry r vals 65536).2,[],0,0⟩
 else if r.kind=5 then⟨5,cells,r.set,0,0,0,vals,0,0⟩
 else if r.kind=11 then⟨2,cells,((1<<<(vals.getD 0 0).toNat:Nat):Int),0,1,1,[],0,0⟩
 else⟨aaY r.kind,cells,r.set,r.other,r.n,0,[],0,0⟩
end Kd
namespace Kd
open Go Go.Ideal Canon Gph
def tN(p:ae Clue)(c:Int)(at_:Int):az (ae Int):=(p.find? λg=>decide (g.aN=c/\g.at_=at_)).map (·.values)
def pK(p:ae Clue)(r:bF)(x:ae Int×Nat):az (Nat×ae Int×ae Int):=if r.aN<0 then some (x.2,x.1,[])else(tN p r.aN (x.2:Int)).map λv=>(x.2,x.1,v)
def lY(p:ae Clue)(r:bF)(ls:ae (ae Int)):ae (Nat×ae Int×ae Int):=ls.zipIdx.filterMap (pK p r)
def alC{p:ae Clue}{r:bF}{ls:ae (ae Int)}{j:Nat}{l:ae Int}(h:ls[j]? =some l):lY p r (ls.take (j+1))=lY p r (ls.take j)++(pK p r (l,j)).toList:=by
 have hk:=(bz.1 h).1;unfold lY;rw[fq h,BZ,Cb,gW,Ae ov];rw[IM,gq,List.filterMap_cons];cases pK p r (l,j)<;>rfl
abbrev LA:=Nat×(ae Int×ah)×(ae Int×ah)
def rz(x:LA):Nat×ae Int×ae Int:=(x.1,x.2.1.1,x.2.2.1)
def KC(x:LA):ae ah:=[.int .i64 (x.1:Int),.agg ⟨[x.2.1.2,x.2.2.2]⟩]
def EP(x:LA):ae aI:=[ay aj x.2.1.2 x.2.1.1,ay aj x.2.2.2 x.2.2.1]
def C9(l:ae (Nat×ae Int×ae Int)):ae LA:=l.map λy=>(y.1,(y.2.1,.nilFunc),(y.2.2,.nilFunc))
def aaZ(l:ae (Nat×ae Int×ae Int)):(C9 l).map rz=l:=by
 unfold C9;rw[rO];have:rz∘(λy:Nat×ae Int×ae Int=>((y.1,(y.2.1,Value.nilFunc),(y.2.2,Value.nilFunc))))=id:=rfl;rw[this,List.map_id]
end Kd
namespace Kd
open Go Go.Ideal Canon Gph
def alD(kf:Int×Int->Int×Bool)(n:Nat):∀ps:ae (Int×(Int×Int)),ps.length=n->∀a,((dM a (kJ kf ps)).getD []).Sublist (ps.map (·.1)):=by
 induction n with
 |zero=>
  intro ps h a;rw[pU.1 h];exact List.Sublist.refl _
 |succ n ih=>
  intro ps h a;obtain⟨qs,p,rfl⟩:∃qs p,ps=qs++[p]:=⟨ps.dropLast,ps.getLast pP,(FN _).symm⟩
  have hq:qs.length=n:=oI
  rw[Kq];unfold zP;cases hb:(kf p.2).2 with
  |false=>grind
  |true=>
   show((dM a (upd (kf p.2).1 ((dM (kf p.2).1 (kJ kf qs)).getD []++[p.1]) (kJ kf qs))).getD []).Sublist _;rw[Bd];by_cases e:a=(kf p.2).1
   .grind
   grind
variable{g:bY}
def alE:(bK g).map (·.1)=upTo' g.cells.length:=by
 apply iQ;intro i;unfold upTo';rw[eF,eF];by_cases h:i<g.cells.length
 .rw[CY (bN h),List.getElem?_range h];rfl
 .rw[fT rE,fT (by rw[o8];omega)];rfl
def KD(n:Nat):(upTo' n).Nodup:=by
 refine List.Pairwise.map _ (λa b h=>?_) List.nodup_range;intro e;apply h;omega
variable{i:Nat}
def aa0{n:Nat}{x:Int}(h:(upTo' n)[i]? =some x):x=i:=by
 unfold upTo' at h
 grind
def KE(kf:Int×Int->Int×Bool):∀l∈lK g kf,l.Nodup:=by
 intro l hl;obtain⟨n,_,rfl⟩:=cO.1 hl;have:=alD kf _ (bK g) rfl n;rw[alE]at this;exact this.nodup (KD _)
def Pb(hg:ig g)(p:Int×(Int×Int)):(pF g p).Nodup:=(aaX hg p).imp (λh=>by omega)
variable{l:ae Int}
def aa1(h:l.Nodup):(bW l).Nodup:=(T9 h).imp (λh=>by omega)
variable{aH:ae (ae Int)}
def aa2(h:l∈mg aH):∃(i:Nat) (x:ae Int) (j:Int),aH[i]? =some x/\j∈x/\(i:Int)<j/\l=[(i:Int),j]:=by
 obtain⟨⟨x,i⟩,hx,hl⟩:=atK.1 h;unfold pI at hl
 grind
def awm{x:ae Int}{j:Int}(h:aH[i]? =some x)(hj:j∈x)(hij:(i:Int)<j):[(i:Int),j]∈mg aH:=by
 refine atK.2 ⟨(x,i),(by grind),?_⟩;unfold pI
 grind
def alF(hg:ig g)(k:Int):∀l∈iE g k,l.Nodup:=by
 intro l hl;unfold iE at hl;split at hl
 .unfold l9 at hl;obtain⟨i,hi,rfl⟩:=cO.1 hl;simp
 split at hl
 .exact KE _ l hl
 split at hl
 .exact KE _ l hl
 split at hl
 .unfold uS at hl;split at hl
  .exact KE _ l hl
  split at hl
  .rcases aaR hl with hl|hl
   .exact KE _ l hl
   .exact KE _ l hl
  .cases hl
 split at hl
 .unfold gI at hl;obtain⟨p,_,rfl⟩:=cO.1 hl;exact Pb hg p
 split at hl
 .unfold qC at hl;obtain⟨⟨x,i⟩,hx,rfl⟩:=cO.1 hl;have hx:=xQ.1 hx;have hxm:=aV hx;refine aa1 ?_;rw[j5];refine⟨?_,ox,λa ha b hb e=>?_⟩
  .unfold gI at hxm;obtain⟨p,_,rfl⟩:=cO.1 hxm;exact Pb hg p
  .rw[eG.1 hb]at e;obtain⟨j,hj⟩:=gT ha;exact(Ua hg i x hx j a hj).2.2.1 e
 split at hl
 .obtain⟨i,x,j,h1,h2,h3,rfl⟩:=aa2 hl;simp only[aqz,eG,IR,not_false_iff,Ad,DT];omega
 .rw[eG.1 hl];exact KD _
def Ub{d:dR}(hg:ig (bO d))(hr:∀r∈d.regions,uT (bO d) r.lists):∀l∈oC d,∀ps∈l,ps.Nodup:=by
 intro l hl ps hps;rcases fU.1 hl with hl|hl
 .obtain⟨f,_,rfl⟩:=cO.1 hl;exact alF hg _ ps hps
 .obtain⟨r,hrm,rfl⟩:=cO.1 hl;obtain⟨q,hq,rfl⟩:=cO.1 hps;exact((hr r hrm).all q hq).nd
def ayf{grid:ae Int}{c:Int->Int->Bool}(hG:∀(i:Nat) l,aH[i]? =some l->∀n∈l,0<=n/\n<aH.length/\n≠i/\∀l',aH[n.toNat]? =some l'->(i:Int)∈l'):
 qD aH grid c=true↔∀l∈mg aH,∀a b,l=[a,b]->c (aU grid a) (aU grid b)=true/\c (aU grid b) (aU grid a)=true:=by
 unfold qD;rw[jU];constructor
 .intro h l hl a b e;obtain⟨i,x,j,h1,h2,h3,h4⟩:=aa2 hl;rw[h4]at e;injection e with e1 e2;injection e2 with e2 _;subst e1 e2;have k1:=h (x,i) (xQ.2 h1);rw[jU]at k1;refine⟨k1 j h2,?_⟩;obtain⟨g1,g2,g3,g4⟩:=hG i x h1 j h2;have hl':aH[j.toNat]? =some (aH[j.toNat]'(ov)):=bN _;have k2:=h (_,j.toNat) (xQ.2 hl');rw[jU]at k2;have:=k2 i (g4 _ hl');exact this
 .rintro h ⟨x,i⟩ hx;have hx:=xQ.1 hx;rw[jU];intro j hj;obtain⟨g1,g2,g3,g4⟩:=hG i x hx j hj;rcases Int.lt_or_gt_of_ne g3 with hlt|hlt
  .have hl':aH[j.toNat]? =some (aH[j.toNat]'(ov)):=bN _;have:=h _ (awm hl' (g4 _ hl') ov) _ _ rfl;exact this.2
  .exact(h _ (awm hx hj ov) _ _ rfl).1
end Kd
namespace Kd
open Go Go.Ideal Canon Gph
def Da(k:aT)(p:ae Clue)(r:bF):ae (Nat×ae Int×ae Int):=(lY p r (k.lists.getD (iG r).toNat [])).filter λx=>decide (jS r<=x.2.1.length)
def mh(r:bF)(i:Nat)(x:Nat×ae Int×ae Int):rZ:={nR r x.2.1 x.2.2 with rule:=(i:Int),at_:=(x.1:Int)}
def qE(k:aT)(p:ae Clue)(r:bF)(i:Nat):ae rZ:=(Da k p r).map (mh r i)
def mP(k:aT)(p:ae Clue):ae rZ:=k.decl.rules.zipIdx.flatMap λx=>qE k p x.1 x.2
def Db{k:aT}{p:ae Clue}(h:fE k p):∀(d i:Nat) a b,p[i]? =some a->p[i+1+d]? =some b->dV a b<0
 |0,i,a,b,ha,hb=>h.sorted i a b ha hb
 |d+1,i,a,b,ha,hb=>by
  have hlt:=(bz.1 hb).1;have hc:p[i+1+d]? =some (p[i+1+d]'(ov)):=bN _;exact Hg (Db h d i a _ ha hc) (h.sorted (i+1+d) _ b hc hb)
variable{p:ae Clue}{k:aT}
def Uc(h:fE k p){a b:Clue}(ha:a∈p)(hb:b∈p)(h1:a.aN=b.aN)(h2:a.at_=b.at_):a=b:=by
 obtain⟨i,hi⟩:=gT ha;obtain⟨j,hj⟩:=gT hb;rcases Nat.lt_trichotomy i j with hl|hl|hl
 .have:=tL.1 (Db h (j - (i+1)) i a b hi (by grind));omega
 .grind
 .have:=tL.1 (Db h (i - (j+1)) j b a hj (by grind));omega
def KF(h:fE k p){c a:Int}{v:ae Int}:tN p c a=some v↔∃g∈p,g.aN=c/\g.at_=a/\g.values=v:=by
 unfold tN;constructor
 .intro hf;obtain⟨g,hg,rfl⟩:=lT.1 hf;have h1':=List.find?_some hg;have h1:=jI h1';exact⟨g,QM hg,h1.1,h1.2,rfl⟩
 .rintro⟨g,hg,h1,h2,rfl⟩;cases hf:p.find? (λg=>decide (g.aN=c/\g.at_=a))with
  |none=>exact absurd (eB ⟨h1,h2⟩) (QK.1 hf g hg)
  |some g2=>
   have h3':=List.find?_some hf;have h3:=jI h3';rw[Uc h hg (QM hf) ov ov];rfl
variable{r:bF}{ls:ae (ae Int)}
def alG{y:Nat×ae Int×ae Int}:y∈lY p r ls↔ls[y.1]? =some y.2.1/\((r.aN<0/\y.2.2=[])\/(0<=r.aN/\tN p r.aN (y.1:Int)=some y.2.2)):=by
 obtain⟨j,l,v⟩:=y;unfold lY;rw[IU];constructor
 .rintro⟨⟨x,i⟩,hx,h⟩;have hx:=xQ.1 hx;unfold pK at h;split at h
  .rename_i hc;cases h;exact⟨hx,.inl ⟨hc,rfl⟩⟩
  .obtain⟨w,hw,e⟩:=lT.1 h;cases e;exact⟨hx,.inr ⟨ov,hw⟩⟩
 .rintro⟨h1,h2⟩;refine⟨(l,j),xQ.2 h1,?_⟩;unfold pK;rcases h2 with⟨hc,e⟩|⟨hc,e⟩
  .rw[if_pos hc];dsimp only at e;rw[e]
  .rw[if_neg ov];rw[e];rfl
def aqN(hQ:fE k p)(hls:k.lists[(iG r).toNat]? =some ls)(h0:r.aN<0->r.family=iG r)(h1:0<=r.aN->∃c,k.decl.dn[r.aN.toNat]? =some c/\c.family=iG r)
 (P:ae Int->ae Int->Prop):(∀x∈ik k p r,P x.1 x.2)↔∀y∈lY p r ls,P y.2.1 (if r.aN<0 then[r.n]else y.2.2):=by
 unfold ik;by_cases hc:r.aN<0
 .rw[if_pos hc,h0 hc,fK hls];constructor
  .intro h y hy;obtain⟨h2,_⟩:=alG.1 hy;rw[if_pos hc];exact h _ (cO.2 ⟨_,aV h2,rfl⟩)
  .intro h x hx;obtain⟨l,hl,rfl⟩:=cO.1 hx;obtain⟨j,hj⟩:=gT hl;have:=h (j,l,[]) (alG.2 ⟨hj,.inl ⟨hc,rfl⟩⟩);rw[if_pos hc]at this;exact this
 .rw[if_neg hc];obtain⟨c,hc1,hc2⟩:=h1 ov;have hcell:∀g∈p,g.aN=r.aN->∃(j:Nat) (ps:ae Int),g.at_=j/\ls[j]? =some ps/\kL k g=ps:=λg hg hgc=>by
   obtain⟨c',l,ps,a1,a2,a3,a4,a5,a6,a7⟩:=(hQ.right g hg).cells;rw[hgc,hc1]at a1;cases a1;rw[hc2,hls]at a2;cases a2;exact⟨g.at_.toNat,ps,ov,a3,a7⟩
  constructor
  .intro h y hy;obtain⟨h2,h3⟩:=alG.1 hy;rw[if_neg hc];rcases h3 with h3|h3
   .exact absurd h3.1 hc
   obtain⟨g,g1,g2,g3,g4⟩:=(KF hQ).1 h3.2;obtain⟨j,ps,b1,b2,b3⟩:=hcell g g1 g2;have hj:j=y.1:=ov
   subst hj;rw[h2]at b2;cases b2;have:=h _ (cO.2 ⟨g,qm.2 ⟨g1,eB g2⟩,rfl⟩);rw[b3,g4]at this;exact this
  .intro h x hx;obtain⟨g,hg,rfl⟩:=cO.1 hx;obtain⟨g1,g2⟩:=qm.1 hg;have g2:=jI g2;obtain⟨j,ps,b1,b2,b3⟩:=hcell g g1 g2;have:=h (j,ps,g.values) (alG.2 ⟨b2,.inr ⟨ov,(KF hQ).2 ⟨g,g1,g2,b1,rfl⟩⟩⟩);rw[if_neg hc]at this;rw[b3];exact this
def anO(hls:k.lists[(iG r).toNat]? =some ls){Q:Nat×ae Int×ae Int->Prop}(h:∀y,y.2.1.length<jS r->Q y):(∀y∈lY p r ls,Q y)↔∀y∈Da k p r,Q y:=by
 unfold Da
 grind
end Kd
namespace Kd
open Go Go.Ideal
def Pd:∀{l m:ae Int},l.Nodup->(∀x∈l,x∈m)->l.length<=m.length
 |[],m,_,_=>bI _
 |a::l,m,hd,hs=>by
  have ha:=hs a (eX ..);have:=Pd (m:=m.erase a) (aqz.1 hd).2 (by grind)
  grind
def aa3{g:bY}(hg:ig g):0<g.cells.length:=by
 apply Classical.byContradiction;intro h0;have he:g.cells=[]:=(by grind)
 rw[hg.cells]at he;have hlen:=hg.make.len;have:=Pd (KD _) (λx hx=>by
  have:=List.filter_eq_nil_iff.1 he x hx;simpa using this)
 rw[kK]at this;omega
end Kd
namespace Kd
open Go Go.Ideal Canon Gph
def alH{g:bY}(hg:ig g)(k:Int):(iE g k).length<=2048:=by
 have hl:=hg.len;have hn:=yF g;have hL:=λkf=>Kt hg kf;unfold iE;split
 .unfold l9;rw[bi,o8];omega
 split
 .have:=(hL (λs=>(s.2,true))).1;omega
 split
 .have:=(hL (λs=>(s.1,true))).1;omega
 split
 .unfold uS;split
  .have:=(hL (λs=>(s.1+s.2,true))).1;omega
  split
  .have h1:=hL (λs=>(0,decide (s.1=s.2)));have h2:=hL (λs=>(0,decide (s.1+s.2=g.w - 1)));have:=(O1 h1.2 h2.2 (lK g (λs=>(0,decide (s.1+s.2=g.w - 1)))).length).1;rw[dK]at this;omega
  .simp
 split
 .omega
 split
 .unfold qC;rw[bi,W9];omega
 split
 .have:=O3 (aH:=gI g) Ku (gI g).length (bG _);rw[dK]at this;omega
 .simp
def KG{d:dR}(hg:ig (bO d))(hr:∀r∈d.regions,uT (bO d) r.lists):∀l∈oC d,l.length<=2048:=by
 intro l hl;rcases fU.1 hl with hl|hl
 .obtain⟨f,_,rfl⟩:=cO.1 hl;exact alH hg _
 .obtain⟨r,hrm,rfl⟩:=cO.1 hl;have:=(hr r hrm).len;unfold jr;rw[bi];omega
def oD(k:aT)(p:ae Clue)(j:Nat):ae rZ:=(k.decl.rules.take j).zipIdx.flatMap λx=>qE k p x.1 x.2
variable{p:ae Clue}{k:aT}
def aa4:oD k p k.decl.rules.length=mP k p:=by unfold oD mP;rw[dK]
variable{r:bF}{j:Nat}
def Pe(h:k.decl.rules[j]? =some r):oD k p (j+1)=oD k p j++qE k p r j:=by
 have hk:=(bz.1 h).1;unfold oD;exact mQ
def Pf{ls:ae (ae Int)}:(lY p r ls).length<=ls.length:=by
 exact lZ (Mg _ _) (by rw[W9];exact bG _)
def alI(hl:∀l∈k.lists,l.length<=2048):(qE k p r j).length<=2048:=by
 unfold qE Da;rw[bi];refine lZ (zh _ _) (lZ Pf ?_)
 grind
def aa5{k:aT}{p:ae Clue}(hl:∀l∈k.lists,l.length<=2048):∀j,j<=k.decl.rules.length->(oD k p j).length<=2048*j
 |0,_=>bI _
 |j+1,hj=>by
  have:=aa5 (p:=p) hl j ov;rw[Pe (bN ov),fu];have:=alI (p:=p) (r:=k.decl.rules[j]) (j:=j) hl;omega
end Kd
namespace Vm
open Gph
structure Ins where
 op:Int
 a:Int
structure Env where
 grid:List Int
 values:List Int
 tables:List (List Int)
 aH:List (List Int)
def kH(grid:ae Int)(c:Int):Nat:=(grid.getD c.toNat 0).toNat
def Fx(values grid:ae Int)(c:Int):Int:=values.getD (kH grid c) 0
def bV(b:Bool):Int:=cond b 1 0
def mkV(grid:ae Int)(set:Int):ae Bool:=grid.map λs=>set.toNat.testBit s.toNat
def acf(grid:ae Int)(set:Int):Nat:=((mkV grid set).filter id).length
def aij(m:Env)(set:Int):Nat:=if acf m.grid set=0 then 0 else(A7 m.aH (mkV m.grid set) (((mkV m.grid set).idxOf true:Nat):Int)).length
def pkV(l:ae Int)(x:Int):Int:=if 0<=x then l.getD x.toNat (-1)else -1
def y7(n:Nat)(i:Ins):Nat:=if i.op=13\/i.op=14 then n else 1
def jb(n:Nat):ae Ins->Nat
 |[]=>0
 |i::l=>y7 n i+jb n l
inductive Run(m:Env):List Ins->List Int->List Int->Nat->Int->Prop
 |nil {st rg}:Run m [] st rg 0 (-1)
 |const {a tl st rg K b}:Run m tl (a::st) rg K b->Run m (⟨1,a⟩::tl) st rg (K+1) b
 |cell {a x tl st rg K b}:0<=a->m.grid[a.toNat]? =some x->Run m tl (x::st) rg K b->Run m (⟨2,a⟩::tl) st rg (K+1) b
 |val {a x v tl st rg K b}:0<=x->m.values[x.toNat]? =some v->Run m tl (v::st) rg K b->Run m (⟨3,a⟩::tl) (x::st) rg (K+1) b
 |aP {a x tl st rg K b}:0<=x->x<64->0<=a->a<65536->Run m tl (bV (a.toNat.testBit x.toNat)::st) rg K b->Run m (⟨4,a⟩::tl) (x::st) rg (K+1) b
 |add {a x y tl st rg K b}: -1073741824<=x->x<=1073741824-> -1073741824<=y->y<=1073741824->Run m tl ((x+y)::st) rg K b->Run m (⟨5,a⟩::tl) (x::y::st) rg (K+1) b
 |eq {a x y tl st rg K b}:Run m tl (bV (decide (x=y))::st) rg K b->Run m (⟨6,a⟩::tl) (x::y::st) rg (K+1) b
 |less {a x y tl st rg K b}:Run m tl (bV (decide (y<x))::st) rg K b->Run m (⟨7,a⟩::tl) (x::y::st) rg (K+1) b
 |not {a x tl st rg K b}:Run m tl (bV (decide (x=0))::st) rg K b->Run m (⟨8,a⟩::tl) (x::st) rg (K+1) b
 |store {a x tl st rg K b}:0<=a->a<2->Run m tl st (rg.set a.toNat x) K b->Run m (⟨9,a⟩::tl) (x::st) rg (K+1) b
 |acR {a x tl st rg K b}:0<=a->a<2->rg[a.toNat]? =some x->Run m tl (x::st) rg K b->Run m (⟨10,a⟩::tl) st rg (K+1) b
 |pick {a x l tl st rg K b}:0<=a->m.tables[a.toNat]? =some l->Run m tl (pkV l x::st) rg K b->Run m (⟨11,a⟩::tl) (x::st) rg (K+1) b
 |aoP {a tl st rg K b}:0<=a->a.toNat<=tl.length->Run m (tl.drop a.toNat) st rg K b->Run m (⟨12,a⟩::tl) (0::st) rg (K+1) b
 |atP {a x tl st rg K b}:x≠0->Run m tl st rg K b->Run m (⟨12,a⟩::tl) (x::st) rg (K+1) b
 |size {a tl st rg K b}:0<=a->a<65536->Run m tl ((acf m.grid a:Int)::st) rg K b->Run m (⟨13,a⟩::tl) st rg (K+m.grid.length) b
 |reach {a tl st rg K b}:0<=a->a<65536->Run m tl ((aij m a:Int)::st) rg K b->Run m (⟨14,a⟩::tl) st rg (K+m.grid.length) b
 |avB {a tl st rg}:Run m (⟨15,a⟩::tl) (0::st) rg 1 a
 |awn {a x tl st rg K b}:x≠0->Run m tl st rg K b->Run m (⟨15,a⟩::tl) (x::st) rg (K+1) b
def acg(n:Nat):∀a b:ae Ins,jb n (a++b)=jb n a+jb n b
 |[],b=>by simp[jb]
 |i::a,b=>by rw[bQ,jb,jb,acg n a b];omega
def ayg(n k:Nat)(l:ae Ins):jb n (l.drop k)<=jb n l:=by
 have:=acg n (l.take k) (l.drop k);rw[l5]at this;omega
def Run.cost{m:Env}{l:ae Ins}{st rg:ae Int}{K:Nat}{b:Int}(h:Run m l st rg K b):K<=jb m.grid.length l:=by
 induction h with
 |nil=>exact bG _
 |aoP _ _ _ ih=>have:=ayg m.grid.length;rename_i a tl st rg K b _ _ _;have:=this a.toNat tl;simp only[jb,y7]at *;simp at *;omega
 |size _ _ _ ih=>simp only[jb,y7]at *;simp at *;omega
 |reach _ _ _ ih=>simp only[jb,y7]at *;simp at *;omega
 |avB=>simp only[jb,y7];simp
 |_=>simp only[jb,y7]at *;simp at *;omega
def R(m:Env)(l:ae Ins)(st rg:ae Int)(b:Int):Prop:=∃K,Run m l st rg K b
section
variable {m:Env} {tl rest:ae Ins} {st rg:ae Int} {a b x y:Int}
def R.const(h:R m tl (a::st) rg b):R m (⟨1,a⟩::tl) st rg b:=let⟨K,h⟩:=h;⟨K+1,.const h⟩
def R.add(h1:0<=x/\x<=1073741824)(h2:0<=y/\y<=1073741824)(h:R m tl ((x+y)::st) rg b):R m (⟨5,a⟩::tl) (x::y::st) rg b:=let⟨K,h⟩:=h;⟨K+1,.add ov ov ov ov h⟩
def R.awo(h1: -1073741824<=x/\x<=1073741824)(h2: -1073741824<=y/\y<=1073741824)(h:R m tl ((x+y)::st) rg b):R m (⟨5,a⟩::tl) (x::y::st) rg b:=let⟨K,h⟩:=h;⟨K+1,.add ov ov ov ov h⟩
def R.eq(h:R m tl (bV (decide (x=y))::st) rg b):R m (⟨6,a⟩::tl) (x::y::st) rg b:=let⟨K,h⟩:=h;⟨K+1,.eq h⟩
def R.less(h:R m tl (bV (decide (y<x))::st) rg b):R m (⟨7,a⟩::tl) (x::y::st) rg b:=let⟨K,h⟩:=h;⟨K+1,.less h⟩
def R.not(h:R m tl (bV (decide (x=0))::st) rg b):R m (⟨8,a⟩::tl) (x::st) rg b:=let⟨K,h⟩:=h;⟨K+1,.not h⟩
variable{n:Nat}
def R.store(hn:n<2)(h:R m tl st (rg.set n x) b):R m (⟨9,(n:Int)⟩::tl) (x::st) rg b:=let⟨K,h⟩:=h;⟨K+1,.store ov ov (by rwa [fI])⟩
def R.acR(hn:n<2)(hx:rg[n]? =some x)(h:R m tl (x::st) rg b):R m (⟨10,(n:Int)⟩::tl) st rg b:=let⟨K,h⟩:=h;⟨K+1,.acR ov ov (by rwa [fI]) h⟩
def R.pick{l:ae Int}(hx:m.tables[n]? =some l)(h:R m tl (pkV l x::st) rg b):R m (⟨11,(n:Int)⟩::tl) (x::st) rg b:=let⟨K,h⟩:=h;⟨K+1,.pick ov (by rwa [fI]) h⟩
def R.aoP(hn:n<=tl.length)(h:R m (tl.drop n) st rg b):R m (⟨12,(n:Int)⟩::tl) (0::st) rg b:=let⟨K,h⟩:=h;⟨K+1,.aoP ov ov (by rwa [fI])⟩
def R.atP(hx:x≠0)(h:R m tl st rg b):R m (⟨12,a⟩::tl) (x::st) rg b:=let⟨K,h⟩:=h;⟨K+1,.atP hx h⟩
def R.size(h0:0<=a)(h1:a<65536)(h:R m tl ((acf m.grid a:Int)::st) rg b):R m (⟨13,a⟩::tl) st rg b:=let⟨K,h⟩:=h;⟨_,.size h0 h1 h⟩
def R.reach(h0:0<=a)(h1:a<65536)(h:R m tl ((aij m a:Int)::st) rg b):R m (⟨14,a⟩::tl) st rg b:=let⟨K,h⟩:=h;⟨_,.reach h0 h1 h⟩
def R.dem{p:Bool}(h:p=true->R m tl st rg b)(hn:p=false->b=a):R m (⟨15,a⟩::tl) (bV p::st) rg b:=by
 cases p with
 |true=>obtain⟨K,h⟩:=h rfl;exact⟨K+1,.awn oU h⟩
 |false=>have:=hn rfl;subst this;exact⟨1,.avB⟩
end
def aa(set cell:Int):ae Ins:=[⟨2,cell⟩,⟨4,set⟩]
def aL(cell:Int):ae Ins:=[⟨2,cell⟩,⟨3,0⟩]
def acu(push:Int->ae Ins):ae Int->ae Ins
 |[]=>[]
 |c::cs=>push c++⟨5,0⟩::acu push cs
def CE(push:Int->ae Ins):ae Int->ae Ins
 |[]=>[]
 |c::cs=>push c++acu push cs
def Nb(push:Int->ae Ins)(l:ae Int):ae Ins:=if l.length=0 then[⟨1,0⟩]else CE push l
def acv(lo hi n:Int):ae Ins:=⟨9,1⟩::(if 0<lo then[⟨1,lo - 1⟩,⟨10,1⟩,⟨7,0⟩,⟨15,n⟩]else[])++[⟨1,hi⟩,⟨10,1⟩,⟨7,0⟩,⟨8,0⟩,⟨15,n⟩]
def af2(cells:ae Int)(n:Int)(s:Nat):ae Ins:=Nb (aa ((1<<<s:Nat):Int)) cells++[⟨1,2⟩,⟨7,0⟩,⟨15,n⟩]
def aqR(symbols:Nat)(cells:ae Int)(n:Int):ae Ins:=(List.range symbols).flatMap (af2 cells n)
def adF(cells:ae Int)(n:Int)(i:Nat):ae Ins:=aL (cells.getD i 0)++aL (cells.getD (i+1) 0)++[⟨7,0⟩,⟨15,n⟩]
def aqT(cells:ae Int)(n:Int):ae Ins:=(List.range (cells.length - 1)).flatMap (adF cells n)
def mi:ae Int->ae Bool
 |[]=>[]
 |[r]=>List.replicate r.toNat true
 |r::rs=>List.replicate r.toNat true++false::mi rs
def vw(line:ae Bool)(s:Nat):Int:=
 if s<line.length/\line[s]? =some true then(if s=0\/s=line.length\/line[s - 1]? =some false then(s:Int)else -1)
 else if s<line.length then(s:Int)+1 else if s=0\/s=line.length\/line[s - 1]? =some false then(s:Int)else -1
def vG(line:ae Bool)(s:Nat):Int:=if s<line.length/\line[s]? =some true then(s:Int)+1 else -1
def aam(line:ae Bool):ae Int:=(List.range (line.length+1)).flatMap λs=>[vw line s,vG line s]
def ajq(set tb c:Int):ae Ins:=[⟨10,0⟩,⟨10,0⟩,⟨5,0⟩,⟨2,c⟩,⟨4,set⟩,⟨5,0⟩,⟨11,tb⟩,⟨9,0⟩]
def aoT(cells:ae Int)(set tb len n:Int):ae Ins:=⟨1,0⟩::⟨9,0⟩::(cells.flatMap (ajq set tb)++[⟨10,0⟩,⟨1,len⟩,⟨6,0⟩,⟨15,n⟩])
def adU(a b lo:Int):ae Ins:=aL a++aL b++[⟨1,lo⟩,⟨5,0⟩,⟨7,0⟩]
def aoU(a b lo n:Int):ae Ins:=adU a b lo++adU b a lo++[⟨5,0⟩,⟨1,2⟩,⟨7,0⟩,⟨15,n⟩]
def agr(a b set other n:Int):ae Ins:=aa set a++aa other b++[⟨5,0⟩,⟨1,2⟩,⟨7,0⟩,⟨15,n⟩]
def aqA(a b set other n:Int):ae Ins:=agr a b set other n++agr b a set other n
def ajz(set n:Int):ae Ins:=[⟨13,set⟩,⟨14,set⟩,⟨6,0⟩,⟨15,n⟩]
def aak(set n:Int)(l:ae Int):ae Ins:=Nb (aa set) l++[⟨1,2⟩,⟨6,0⟩,⟨15,n⟩]
def acJ(set n:Int)(x:ae Int×Nat):ae Ins:=aa set (x.2:Int)++⟨12,((aak set n x.1).length:Int)⟩::aak set n x.1
def anX(aH:ae (ae Int))(set n:Int):ae Ins:=aH.zipIdx.flatMap (acJ set n)++ajz set n
def ach(q:Kn)(tb n:Int)(c:rZ):ae Ins:=
 if c.kind=1 then aqR q.symbols.toNat c.cells n
 else if c.kind=2 then Nb (aa c.set) c.cells++acv c.lo c.hi n
 else if c.kind=3 then Nb aL c.cells++acv c.lo c.hi n
 else if c.kind=4 then aqT c.cells n
 else if c.kind=5 then aoT c.cells c.set tb ((mi c.runs).length:Int) n
 else if c.kind=6 then aoU (c.cells.getD 0 0) (c.cells.getD 1 0) c.lo n
 else if c.kind=7 then aqA (c.cells.getD 0 0) (c.cells.getD 1 0) c.set c.other n
 else if c.kind=8 then ajz c.set n
 else anX q.aH c.set n
def aa7(c:rZ):ae (ae Int):=if c.kind=5 then[aam (mi c.runs)]else[]
def iA(cs:ae rZ):ae (ae Int):=cs.flatMap aa7
def j4(q:Kn):Nat->Nat->ae rZ->ae Ins
 |_,_,[]=>[]
 |t,n,c::cs=>ach q (t:Int) (n:Int) c++j4 q (t+(aa7 c).length) (n+1) cs
def awp(q:Kn)(c:rZ):∀(cs:ae rZ) (t n:Nat),j4 q t n (cs++[c])=j4 q t n cs++ach q ((t+(iA cs).length:Nat):Int) ((n+cs.length:Nat):Int) c
 |[],t,n=>by simp[j4,iA]
 |d::cs,t,n=>by
  rw[bQ,j4,j4,awp q c cs,gp];simp only[iA,FK,fu,rJ];rw[show t+(aa7 d).length+(List.flatMap aa7 cs).length=t+((aa7 d).length+(List.flatMap aa7 cs).length)by omega,show n+1+cs.length=n+(cs.length+1)by omega]
def awq(push:Int->ae Ins)(x:Int):∀l:ae Int,CE push (l++[x])=CE push l++(push x++if l.length=0 then[]else[⟨5,0⟩])
 |[]=>by simp[CE,acu]
 |c::cs=>by
  have:∀cs:ae Int,acu push (cs++[x])=acu push cs++(push x++[⟨5,0⟩]):=by
   intro cs;induction cs with
   |nil=>simp[acu]
   |cons d cs ih=>rw[bQ,acu,acu,ih];simp
  rw[bQ,CE,CE,this];simp
end Vm
namespace Gph
def avC{g:ae (ae Int)}{aP:ae Bool}:∀(ns:ae Int) (met:ae Bool) (q:ae Int),met.length=g.length->(∀n∈ns,Rg g n)->∃t,(inner aP ns met q).2=q++t/\t.Nodup
 |[],met,q,hm,hr=>⟨[],by simp[inner],Ad⟩
 |a::ns,met,q,hm,hr=>by
  have ha:=hr a ox;have hr':∀n∈ns,Rg g n:=λn hn=>hr n (by simp[hn]);rw[inner];by_cases hc:(dU aP a&&!dU met a)=true
  .rw[if_pos hc];obtain⟨t,h1,h2⟩:=avC ns (met.set a.toNat true) (q++[a]) p0 hr';obtain⟨_,_,_,t',h5,h3⟩:=OP (g:=g) (aP:=aP) ns (met.set a.toNat true) (q++[a]) p0 hr';have e:t'=t:=List.append_cancel_left (h5.symm.trans h1);subst e;refine⟨a::t',by rw[h1];simp,aqz.2 ⟨λh=>?_,h2⟩⟩;have:=((h3 a).1 h).2.2;rw[OO ha.1 ha.1 (by have:=ha.2;omega)]at this;simp at this
  .rw[if_neg hc];exact avC ns met q hm hr'
def awr{g:ae (ae Int)}{aP:ae Bool}(hg:∀l∈g,∀n∈l,Rg g n):∀(f:Nat) (met:ae Bool) (queue V:ae Int),met.length=g.length->(∀n∈queue,Rg g n)->
 (∀n,0<=n->(dU met n=true↔n∈V\/n∈queue))->(V++queue).Nodup->(V++uP g aP f met queue).Nodup
 |0,met,queue,V,hm,hq,hM,hn=>by
  simp only[uP];exact hn.sublist ox
 |f+1,met,[],V,hm,hq,hM,hn=>by
  simp only[uP];exact hn
 |f+1,met,q::qs,V,hm,hq,hM,hn=>by
  have hq0:=hq q ox;have hgd:=fK hq0;have hns:∀n∈g.getD q.toNat [],Rg g n:=hg _ (aV hgd);obtain⟨h1,h2,h4,t,h5,h3⟩:=OP (g:=g) (aP:=aP) (g.getD q.toNat []) met (q::qs) hm hns;obtain⟨t',h6,h7⟩:=avC (g:=g) (aP:=aP) (g.getD q.toNat []) met (q::qs) hm hns;have e:t'=t:=List.append_cancel_left (h6.symm.trans h5);subst e;rw[uP];generalize hin:inner aP (g.getD q.toNat []) met (q::qs)=r at h1 h2 h4 h5;obtain⟨met',q'⟩:=r;dsimp only at h1 h2 h4 h5⊢;subst h5;rw[bQ,List.tail_cons];have hnm:∀n∈t',¬(n∈V\/n∈q::qs):=λn hn h=>by
   obtain⟨_,_,q3⟩:=(h3 n).1 hn;rw[(hM n (hns n ((h3 n).1 hn).1).1).2 h]at q3;cases q3
  have ih:=awr (aP:=aP) hg f met' (qs++t') (V++[q]) h1 (λn hn=>by
   rcases fU.1 hn with h|h
   .exact hq n oW
   .exact hns n ((h3 n).1 h).1) (λn hn=>by
    rw[h2 n hn,hM n hn];simp only[dm,fU,h3 n,IR,or_false];constructor
    .rintro((h|rfl|h)|⟨h,h'⟩)
     .exact .inl (.inl h)
     .exact .inl (.inr rfl)
     .exact .inr (.inl h)
     .cases hme:dU met n with
      |true=>
       rcases(hM n hn).1 hme with h''|h''
       .exact .inl (.inl h'')
       .rcases dm.1 h'' with rfl|h''
        .exact .inl (.inr rfl)
        .exact .inr (.inl h'')
      |false=>exact .inr (.inr ⟨h,h',rfl⟩)
    .rintro((h|rfl)|h|⟨h,h',_⟩)
     .exact .inl (.inl h)
     .exact .inl (.inr (.inl rfl))
     .exact .inl (.inr (.inr h))
     .exact .inr ⟨h,h'⟩) (by
    have e:V++[q]++(qs++t')=(V++q::qs)++t':=ox
    rw[e];refine j5.2 ⟨hn,h7,λa ha b hb hab=>?_⟩;subst hab;exact hnm a hb (fU.1 ha))
  have e:V++[q]++uP g aP f met' (qs++t')=V++q::uP g aP f met' (qs++t'):=ox
  rwa [e]at ih
variable{aP:ae Bool}{g:ae (ae Int)}
def avD(hg:∀l∈g,∀n∈l,Rg g n){s:Int}(hs:Rg g s):(A7 g aP s).Nodup:=by
 have hs':=hs;unfold Rg at hs';have:=awr (aP:=aP) hg (g.length+1) (rq g.length s) [s] [] (aau _ _) (by simpa using hs) (λn hn=>by
  rw[rq,OO hs'.1 hn (by rw[zg];omega)];have:dU (List.replicate g.length false) n=false:=by
   unfold dU
   grind
  simp[this]) ox
 rwa [bP]at this
def an4:∀{l m:ae Int},l.Nodup->(∀x∈l,x∈m)->l.length<=m.length
 |[],m,_,_=>bI _
 |a::l,m,h,hs=>by
  have ha:=hs a ox;have:=an4 (l:=l) (m:=m.erase a) (aqz.1 h).2 (λx hx=>(List.mem_erase_of_ne (by rintro rfl;exact(aqz.1 h).1 hx)).2 (hs x oR));rw[List.length_erase_of_mem ha]at this;have:=List.length_pos_of_mem ha;simp only[rJ];omega
def adm(aP:ae Bool)(n:Nat):ae Int:=((List.range n).filter λi=>dU aP (i:Nat)).map λi:Nat=>(i:Int)
def agt{n:Nat}{x:Int}:x∈adm aP n↔0<=x/\x<n/\dU aP x=true:=by
 unfold adm;simp only[cO,qm,xP];constructor
 .rintro⟨i,⟨h1,h2⟩,rfl⟩;exact⟨ov,ov,h2⟩
 .rintro⟨h1,h2,h3⟩;exact⟨x.toNat,⟨ov,by rwa [rR h1]⟩,ov⟩
def ayh(aP:ae Bool)(n:Nat):(adm aP n).Nodup:=by
 unfold adm;refine List.Pairwise.map _ (λa b h e=>h ov) ((List.nodup_range).sublist (List.filter_sublist))
def ajA(aP:ae Bool)(n:Nat):(adm aP n).length=wh aP n:=by unfold adm wh;rw[bi]
def aws(aP:ae Bool):(aP.filter id).length=wh aP aP.length:=by
 have e:aP=(List.range aP.length).map λi=>dU aP (i:Nat):=by
  apply List.ext_getElem
  .simp
  .intro i h1 h2;simp[dU,h1]
 unfold wh;conv=>lhs;rw[e]
 rw[List.filter_map,bi];rfl
def cnt_mono(k d:Nat):cnt g aP k<=cnt g aP (k+d):=by
 exact mc
def atQ{aP:ae Bool}:∀{n:Nat},(∃i:Nat,i<n/\dU aP (i:Nat)=true)->∃f:Nat,f<n/\dU aP (f:Nat)=true/\∀j,j<f->dU aP (j:Nat)=false
 |0,⟨i,h,_⟩=>by omega
 |n+1,⟨i,h,hi⟩=>by
  by_cases he:∃j:Nat,j<n/\dU aP (j:Nat)=true
  .obtain⟨f,h1,h2,h3⟩:=atQ he;exact⟨f,ov,h2,h3⟩
  .have:i=n:=by
    apply Classical.byContradiction;intro hne;exact he ⟨i,ov,hi⟩
   subst this;exact⟨i,ov,hi,λj hj=>avv.2 λh=>he ⟨j,hj,h⟩⟩
variable{f:Nat}
def abv(hf:f<g.length)(hin:dU aP f=true)(Cx:∀j,j<f->dU aP (j:Nat)=false):1<=cnt g aP g.length:=by
 have uK:1<=cnt g aP (f+1):=by
  rw[cnt,if_pos ⟨hin,λ⟨j,h1,h2,_⟩=>by rw[Cx j h1]at h2;cases h2⟩];omega
 have:=cnt_mono (g:=g) (aP:=aP) (f+1) (g.length - (f+1));rw[show f+1+(g.length - (f+1))=g.length by omega]at this;omega
def Pv{g:ae (ae Int)}{aP:ae Bool}:∀n,(∀i:Nat,i<n->dU aP (i:Nat)=false)->cnt g aP n=0
 |0,_=>rfl
 |n+1,h=>by
  rw[cnt,Pv n (λi hi=>h i ov),if_neg (λq=>by rw[h n ov]at q;cases q.1)]
def awt(hf:f<aP.length)(hin:dU aP f=true)(Cx:∀j,j<f->dU aP (j:Nat)=false):aP.idxOf true=f:=by
 induction aP generalizing f with
 |nil=>simp at hf
 |cons b l ih=>
  cases f with
  |zero=>
   have:b=true:=hin;subst this;simp
  |succ f=>
   have h0:b=false:=Cx 0 ov;subst h0;have:=ih (f:=f) (by simpa using hf) (by simpa[dU]using hin) (λj hj=>by simpa[dU]using Cx (j+1) ov);rw[List.idxOf_cons,this];simp
def ayi(h:nQ g)(hl:aP.length=g.length):
 (aP.filter id).length=(if(aP.filter id).length=0 then 0 else(A7 g aP ((aP.idxOf true:Nat):Int)).length)↔(fD g aP g.length).2<=1:=by
 rw[TL h.rg g.length (bG _),aws,hl];by_cases he:∃i:Nat,i<g.length/\dU aP (i:Nat)=true
 .obtain⟨f,h1,h2,h3⟩:=atQ he;have hp:=abv h1 h2 h3;have hs:wh aP g.length≠0:=by
   rw[<- ajA];intro h0;have:(f:Int)∈adm aP g.length:=agt.2 ⟨ov,ov,h2⟩;rw[pU.1 h0]at this;cases this
  rw[if_neg hs,awt ov h2 h3];have hfr:Rg g (f:Int):=⟨ov,ov⟩
  have hin:∀n,ni g aP f n->dU aP n=true:=λn hr=>by
   cases hr with
   |refl=>exact h2
   |step _ _ _ q=>exact q
  have hsub:∀x∈A7 g aP (f:Int),x∈adm aP g.length:=λx hx=>by
   have hr:=(TJ h.rg hfr x).1 hx;have:=hr.rg h hfr;exact agt.2 ⟨this.1,this.2,hin x hr⟩
  have hle:=an4 (avD h.rg hfr) hsub;rw[ajA]at hle;have hone:=ak1 h h1 h2 h3;constructor
  .intro he;have:cnt g aP g.length=1:=hone.2 λi hi hii=>by
    rw[<- TJ h.rg hfr];apply Classical.byContradiction;intro hno;have:=an4 (l:=(i:Int)::A7 g aP (f:Int)) (m:=adm aP g.length) (aqz.2 ⟨hno,avD h.rg hfr⟩) (λx hx=>by
     rcases dm.1 hx with rfl|hx
     .exact agt.2 ⟨ov,ov,hii⟩
     .exact hsub x hx)
    rw[ajA,rJ]at this;omega
   omega
  .intro h1';have hc:cnt g aP g.length=1:=by omega
   have hall:=hone.1 hc;have:=an4 (ayh aP g.length) (m:=A7 g aP (f:Int)) (λx hx=>by
    obtain⟨q1,q2,q3⟩:=agt.1 hx;rw[TJ h.rg hfr];have:=hall x.toNat ov (by rwa [rR q1])
    rwa [rR q1]at this)
   rw[ajA]at this;omega
 .have hz:∀i:Nat,i<g.length->dU aP (i:Nat)=false:=λi hi=>avv.2 λhh=>he ⟨i,hi,hh⟩;have hs:wh aP g.length=0:=by
   rw[<- ajA,pU,axO];intro x hx;obtain⟨q1,q2,q3⟩:=agt.1 hx;exact he ⟨x.toNat,ov,by rwa [rR q1]⟩
  rw[hs,Pv _ hz];simp
def ayj(h:nQ g)(hl:aP.length=g.length)(hnd:∀l∈g,l.Nodup)(ar1:∀(i:Nat) l,g[i]? =some l->(i:Int)∉l):
 (A9 g aP g.length/\(fD g aP g.length).2<=1)↔((fD g aP g.length).2≠0->G5 g aP=true)/\((fD g aP g.length).2=0->True):=by
 have hpc:=TL (aP:=aP) h.rg g.length (bG _);rw[OU];by_cases he:∃i:Nat,i<g.length/\dU aP (i:Nat)=true
 .obtain⟨f,h1,h2,h3⟩:=atQ he;have hp:=abv h1 h2 h3;rw[hpc];refine⟨λ⟨q1,q2⟩=>⟨λ_=>⟨q1,?_,ov⟩,λ_=>trivial⟩,λq=>?_⟩
  .have hd:=q1 f h1 h2;have hgf:g[f]? =some (g.getD f []):=by
    have:=fK (g:=g) (n:=(f:Int)) ⟨ov,ov⟩;simpa using this
   have hnf:=hnd _ (aV hgf);have hif:=ar1 f _ hgf;have hrg:=h.rg _ (aV hgf);rw[<- ajA];unfold A8 at hd;have:=an4 (l:=(f:Int)::(g.getD f []).filter (dU aP)) (m:=adm aP g.length) (aqz.2 ⟨λhh=>hif (qm.1 hh).1,hnf.sublist List.filter_sublist⟩) (λx hx=>by
    rcases dm.1 hx with rfl|hx
    .exact agt.2 ⟨ov,ov,h2⟩
    .obtain⟨x1,x2⟩:=qm.1 hx;have:=hrg x x1;exact agt.2 ⟨this.1,this.2,x2⟩)
   rw[rJ,hd]at this;omega
  .have:=q.1 ov;exact⟨this.1,ov⟩
 .have hz:∀i:Nat,i<g.length->dU aP (i:Nat)=false:=λi hi=>avv.2 λhh=>he ⟨i,hi,hh⟩;rw[hpc,Pv _ hz];refine⟨λ_=>⟨λhh=>absurd rfl hh,λ_=>trivial⟩,λ_=>⟨λi hi hii=>?_,ov⟩⟩;rw[hz i hi]at hii;cases hii
end Gph
namespace Vm
def CS:Nat->ae Bool->ae Int
 |n,[]=>if 0<n then[(n:Int)]else[]
 |n,b::bs=>if b then CS (n+1) bs else if 0<n then(n:Int)::CS 0 bs else CS 0 bs
def ab7(t:ae Int):Int->ae Bool->Int
 |s,[]=>s
 |s,b::bs=>ab7 t (pkV t (s+s+bV b)) bs
variable{s:Nat}
def awu{line:ae Bool}(hs:s<=line.length)(b:Bool):pkV (aam line) ((s:Int)+(s:Int)+bV b)=cond b (vG line s) (vw line s):=by
 have hg:∀(n k:Nat) (f h:Nat->Int) (b:Bool),k<n->((List.range n).flatMap λi=>[f i,h i]).getD (k+k+cond b 1 0) (-1)=cond b (h k) (f k):=by
  intro n;induction n with
  |zero=>intro k f h b hk;omega
  |succ n ih=>
   intro k f h b hk;rw[List.range_succ_eq_map,FK,List.flatMap_map];cases k with
   |zero=>cases b<;>rfl
   |succ k=>
    have:=ih k (λi=>f (i+1)) (λi=>h (i+1)) b ov;rw[show k+1+(k+1)+cond b 1 0=k+k+cond b 1 0+2 by omega];simpa using this
 have h0:=hg (line.length+1) s (vw line) (vG line) b ov;unfold pkV aam;have e:((s:Int)+(s:Int)+bV b).toNat=s+s+cond b 1 0:=by cases b<;>simp[bV]<;>omega
 rw[if_pos (by cases b<;>simp[bV]<;>omega),e,h0]
def asc(t:ae Int):∀bs:ae Bool,ab7 t (-1) bs= -1
 |[]=>rfl
 |b::bs=>by
  rw[ab7];have:pkV t (-1+ -1+bV b)= -1:=by unfold pkV;cases b<;>simp[bV]
  rw[this];exact asc t bs
def atS(r:Int)(rs:ae Int):mi (r::rs)=List.replicate r.toNat true++(if rs=[]then[]else false::mi rs):=by
 cases rs with
 |nil=>simp[mi]
 |cons a l=>simp[mi]
def aut:∀(bs:ae Bool) (n:Nat),0<n->∃m l,CS n bs=(m:Int)::l/\(n:Int)<=m
 |[],n,h=>⟨n,[],by rw[CS,if_pos h],ov⟩
 |b::bs,n,h=>by
  rw[CS];cases b with
  |true=>obtain⟨m,l,h1,h2⟩:=aut bs (n+1) ov;exact⟨m,l,h1,ov⟩
  |false=>rw[if_neg ox,if_pos h];exact⟨n,_,rfl,ov⟩
def avE{l:ae Bool}{b:Bool}{m:ae Bool}(h:l.drop s=b::m):s<l.length/\l[s]? =some b/\l.drop (s+1)=m:=by
 have hl:s<l.length:=by
  exact fp
 exact ju
def awv(line:ae Bool):∀(bs:ae Bool),
 (∀(s:Nat) (rs:ae Int),s<=line.length->(∀r∈rs,1<=r)->line.drop s=mi rs->(s=0\/s=line.length\/line[s - 1]? =some false)->(ab7 (aam line) (s:Int) bs=(line.length:Int)↔CS 0 bs=rs))/\
 (∀(s m j:Nat) (rs:ae Int),0<s->0<j->s<=line.length->(∀r∈rs,1<=r)->line[s - 1]? =some true->line.drop s=List.replicate m true++(if rs=[]then[]else false::mi rs)->(ab7 (aam line) (s:Int) bs=(line.length:Int)↔CS j bs=((j+m:Nat):Int)::rs))
 |[]=>by
  refine⟨λs rs hs hr hd hp=>?_,λs m j rs hs0 hj hs hr hp hd=>?_⟩
  .rw[ab7,CS,if_neg ov];constructor
   .intro h;rw[BU ov]at hd;cases rs with
    |nil=>rfl
    |cons r rs=>
     have:=hr r ox;rw[atS]at hd;have h2:r.toNat=0:=by
      exact fS
     omega
   .intro h;subst h;exact nj
  .rw[ab7,CS,if_pos hj];constructor
   .intro h;rw[BU ov]at hd;have hm:m=0:=by
     exact fS
    subst hm;by_cases he:rs=[]
    .subst he;rfl
    .rw[if_neg he]at hd;simp at hd
   .intro h;injection h with h1 h2;have hm:m=0:=by omega
    subst hm;subst h2;exact fS
 |b::bs=>by
  obtain⟨ih1,ih2⟩:=awv line bs;refine⟨λs rs hs hr hd hp=>?_,λs m j rs hs0 hj hs hr hp hd=>?_⟩
  .rw[ab7,awu hs];cases rs with
   |nil=>
    have hs':s=line.length:=by
     exact nj
    have hnl:¬s<line.length:=ov
    cases b with
    |true=>
     have hm:vG line s= -1:=tf
     show ab7 _ (vG line s) bs=_↔_;rw[hm,asc];obtain⟨m,l,h1,h2⟩:=aut bs 1 ov;have:CS 0 (true::bs)=CS 1 bs:=rfl;rw[this,h1];constructor
     .intro h;omega
     .intro h;cases h
    |false=>
     have hm:vw line s=s:=by unfold vw;rw[if_neg (λh=>hnl h.1),if_neg hnl,if_pos hp]
     show ab7 _ (vw line s) bs=_↔_;rw[hm];exact ih1 s [] hs hr hd hp
   |cons r rs=>
    have hr1:=hr r ox;rw[atS]at hd;obtain⟨k,hk⟩:∃k,r.toNat=k+1:=⟨r.toNat - 1,ov⟩
    rw[hk,wR,bQ]at hd;obtain⟨h1,h2,h3⟩:=avE hd;cases b with
    |true=>
     have hm:vG line s=((s+1:Nat):Int):=tg
     show ab7 _ (vG line s) bs=_↔_;rw[hm,ih2 (s+1) k 1 rs ov ov ov (λx hx=>hr x oR) pN h3];have:CS 0 (true::bs)=CS 1 bs:=rfl;rw[this,show((1+k:Nat):Int)=r by omega]
    |false=>
     have hm:vw line s=s:=by unfold vw;rw[if_pos ⟨h1,h2⟩,if_pos hp]
     show ab7 _ (vw line s) bs=_↔_;rw[hm];exact ih1 s (r::rs) hs hr (by rw[hd,atS,hk,wR,bQ]) hp
  .rw[ab7,awu hs];cases m with
   |succ m=>
    rw[wR,bQ]at hd;obtain⟨h1,h2,h3⟩:=avE hd;cases b with
    |true=>
     have hm:vG line s=((s+1:Nat):Int):=tg
     show ab7 _ (vG line s) bs=_↔_;rw[hm,ih2 (s+1) m (j+1) rs ov ov ov hr pN h3];have:CS j (true::bs)=CS (j+1) bs:=rfl;rw[this,show j+1+m=j+(m+1)by omega]
    |false=>
     have hm:vw line s= -1:=by
      unfold vw;rw[if_pos ⟨h1,h2⟩,if_neg (by rw[hp];rintro(h|h|h);omega;omega;cases h)]
     show ab7 _ (vw line s) bs=_↔_;rw[hm,asc];have:CS j (false::bs)=(j:Int)::CS 0 bs:=by rw[CS,if_neg ox,if_pos hj]
     rw[this];constructor
     .intro h;omega
     .intro h;injection h with h _;omega
   |zero=>
    rw[av9,bP]at hd;by_cases he:rs=[]
    .subst he;rw[if_pos rfl]at hd;have hs':s=line.length:=by
      exact fS
     have hnl:¬s<line.length:=ov
     cases b with
     |true=>
      have hm:vG line s= -1:=tf
      exact ed
     |false=>
      have hm:vw line s=s:=by unfold vw;rw[if_neg (λh=>hnl h.1),if_neg hnl,if_pos (.inr (.inl hs'))]
      show ab7 _ (vw line s) bs=_↔_;rw[hm,ih1 s [] hs ox (by rw[hd];rfl) (.inr (.inl hs'))];exact ff
    .rw[if_neg he]at hd;obtain⟨h1,h2,h3⟩:=avE hd;have hnt:¬(s<line.length/\line[s]? =some true):=by rw[h2];rintro⟨_,h⟩;cases h
     cases b with
     |true=>
      have hm:vG line s= -1:=by unfold vG;rw[if_neg hnt]
      exact ed
     |false=>
      have hm:vw line s=((s+1:Nat):Int):=by unfold vw;rw[if_neg hnt,if_pos h1];omega
      show ab7 _ (vw line s) bs=_↔_;rw[hm,ih1 (s+1) rs ov hr h3 (.inr (.inr pN))];exact ff
end Vm
namespace Vm
open Gph
structure JK(m:Env)(S:Nat):Prop where
 s16:S<=16
 grid:∀x∈m.grid,0<=x/\x<S
 aww:m.grid.length<=256
 PG:m.values.length=S
 vals:∀v∈m.values,0<=v/\v<=99
 tT:m.aH.length=m.grid.length
 jB:nQ m.aH
 nd:∀l∈m.aH,l.Nodup
 irr:∀(i:Nat) l,m.aH[i]? =some l->(i:Int)∉l
def awx(grid:ae Int)(set:Nat)(cells:ae Int):Nat:=(cells.filter λc=>set.testBit (kH grid c)).length
def amo(q:Kn)(c:rZ)(grid:ae Int):Prop:=
 if c.kind=1 then(c.cells.map (kH grid)).Nodup
 else if c.kind=2 then c.lo<=(awx grid c.set.toNat c.cells:Int)/\(awx grid c.set.toNat c.cells:Int)<=c.hi
 else if c.kind=3 then c.lo<=(c.cells.map (Fx q.values grid)).sum/\(c.cells.map (Fx q.values grid)).sum<=c.hi
 else if c.kind=4 then(c.cells.map (Fx q.values grid)).Pairwise (·<·)
 else if c.kind=5 then CS 0 (c.cells.map λx=>c.set.toNat.testBit (kH grid x))=c.runs
 else if c.kind=6 then c.lo<=max (Fx q.values grid (c.cells.getD 0 0) - Fx q.values grid (c.cells.getD 1 0)) (Fx q.values grid (c.cells.getD 1 0) - Fx q.values grid (c.cells.getD 0 0))
 else if c.kind=7 then¬((c.set.toNat.testBit (kH grid (c.cells.getD 0 0))=true/\c.other.toNat.testBit (kH grid (c.cells.getD 1 0))=true)\/(c.set.toNat.testBit (kH grid (c.cells.getD 1 0))=true/\c.other.toNat.testBit (kH grid (c.cells.getD 0 0))=true))
 else(fD q.aH (mkV grid c.set) q.aH.length).2<=1/\(c.kind=9->A9 q.aH (mkV grid c.set) q.aH.length)
section
variable {m:Env} {S:Nat} {rest:ae Ins} {st rg:ae Int} {b n:Int}
def JK.sy(hE:JK m S){c:Int}(hc:0<=c/\c<m.grid.length):m.grid[c.toNat]? =some (kH m.grid c:Int)/\kH m.grid c<S:=by
 have hl:c.toNat<m.grid.length:=ov
 have hx:=hE.grid _ (rG hl);have e:m.grid.getD c.toNat 0=m.grid[c.toNat]:=by simp[hl]
 unfold kH;rw[e,bN hl];exact⟨by rw[rR hx.1],ov⟩
def asq(hE:JK m S){c set:Int}(hc:0<=c/\c<m.grid.length)(hs:0<=set/\set<65536)(h:R m rest (bV (set.toNat.testBit (kH m.grid c))::st) rg b):R m (aa set c++rest) st rg b:=by
 obtain⟨h1,h2⟩:=hE.sy hc;have:=hE.s16;obtain⟨K,h⟩:=h;exact⟨K+1+1,.cell hc.1 h1 (.aP ov ov hs.1 hs.2 (by rwa [fI]))⟩
def JK.va(hE:JK m S){c:Int}(hc:0<=c/\c<m.grid.length):m.values[kH m.grid c]? =some (Fx m.values m.grid c)/\0<=Fx m.values m.grid c/\Fx m.values m.grid c<=99:=by
 obtain⟨h1,h2⟩:=hE.sy hc;have hl:kH m.grid c<m.values.length:=by have:=hE.PG;omega
 have e:Fx m.values m.grid c=m.values[kH m.grid c]:=by unfold Fx;simp[hl]
 rw[e];exact⟨bN hl,hE.vals _ (rG hl)⟩
def val_ok(hE:JK m S){c:Int}(hc:0<=c/\c<m.grid.length)(h:R m rest (Fx m.values m.grid c::st) rg b):R m (aL c++rest) st rg b:=by
 obtain⟨h1,h2⟩:=hE.sy hc;obtain⟨K,h⟩:=h;exact⟨K+1+1,.cell hc.1 h1 (.val ov (by rw[fI];exact(hE.va hc).1) h)⟩
def Push(m:Env)(rg:ae Int)(b:Int)(push:Int->ae Ins)(f:Int->Int)(cells:ae Int):Prop:=∀c∈cells,0<=f c/\f c<=99/\∀rest st,R m rest (f c::st) rg b->R m (push c++rest) st rg b
def awy{push:Int->ae Ins}{f:Int->Int}:∀{cells:ae Int} (hp:Push m rg b push f cells) {s:Int},0<=s->s+99*cells.length<=1000000->R m rest ((s+(cells.map f).sum)::st) rg b->R m (acu push cells++rest) (s::st) rg b
 |[],hp,s,h0,h1,h=>by simpa[acu]using h
 |c::cs,hp,s,h0,h1,h=>by
  obtain⟨p1,p2,p3⟩:=hp c ox;rw[acu,gp,bQ];simp only[rJ]at h1;refine p3 _ _ (R.add ⟨p1,ov⟩ ⟨h0,ov⟩ (awy (cells:=cs) (λx hx=>hp x oR) ov ov ?_));rw[iX,FJ]at h
  rwa [show f c+s+(cs.map f).sum=s+(f c+(cs.map f).sum)by omega]
def auK{push:Int->ae Ins}{f:Int->Int}{cells:ae Int}(hp:Push m rg b push f cells)(hl:cells.length<=256)(h:R m rest ((cells.map f).sum::st) rg b):R m (Nb push cells++rest) st rg b:=by
 cases cells with
 |nil=>exact R.const h
 |cons c cs=>
  obtain⟨p1,p2,p3⟩:=hp c ox;rw[Nb,if_neg ox,CE,gp];simp only[rJ]at hl;exact p3 _ _ (awy (λx hx=>hp x oR) p1 ov (by rwa [iX,FJ]at h))
def awz(p:Bool):0<=bV p/\bV p<=99:=by cases p<;>decide
def avH(hE:JK m S){set:Int}{cells:ae Int}(hc:∀c∈cells,0<=c/\c<m.grid.length)(hs:0<=set/\set<65536):Push m rg b (aa set) (λc=>bV (set.toNat.testBit (kH m.grid c))) cells:=
 λc hcm=>⟨(awz _).1,(awz _).2,λrest st h=>asq hE (hc c hcm) hs h⟩
def ayk(hE:JK m S){cells:ae Int}(hc:∀c∈cells,0<=c/\c<m.grid.length):Push m rg b aL (Fx m.values m.grid) cells:=
 λc hcm=>⟨(hE.va (hc c hcm)).2.1,(hE.va (hc c hcm)).2.2,λrest st h=>val_ok hE (hc c hcm) h⟩
def auM{α:Type}(p:α->Bool):∀l:ae α,(l.map λc=>bV (p c)).sum=((l.filter p).length:Int)
 |[]=>rfl
 |c::cs=>by
  rw[iX,FJ,auM p cs,FH];cases p c<;>simp[bV]<;>omega
def awC{lo hi x:Int}(hx:0<=x)(hrg:rg.length=2)(h:lo<=x/\x<=hi->∀rg',rg'.length=2->R m rest st rg' b)(hn:¬(lo<=x/\x<=hi)->b=n):R m (acv lo hi n++rest) (x::st) rg b:=by
 have hl:(rg.set 1 x).length=2:=sB
 have hg:(rg.set 1 x)[1]? =some x:=by simp[hrg]
 have awD:lo<=x->R m ([⟨1,hi⟩,⟨10,1⟩,⟨7,0⟩,⟨8,0⟩,⟨15,n⟩]++rest) st (rg.set 1 x) b:=λhlo=>by
  refine R.const (R.acR (n:=1) ov hg (R.less (R.not (R.dem (λhp=>h ⟨hlo,?_⟩ _ hl) (λhp=>hn ?_)))))
  .apply Classical.byContradiction;intro hno;rw[eB (show hi<x by omega)]at hp;simp[bV]at hp
  .rintro⟨_,h2⟩;rw[dA (show¬hi<x by omega)]at hp;simp[bV]at hp
 unfold acv;rw[bQ,bQ,gp];refine R.store (n:=1) ov ?_;by_cases hlo:0<lo
 .rw[if_pos hlo];refine R.const (R.acR (n:=1) ov hg (R.less (R.dem (λhp=>awD ?_) (λhp=>hn ?_))))
  .have:=jI hp;omega
  .have:=wS hp;omega
 .rw[if_neg hlo];exact awD ov
def auN{α:Type}{f:α->ae Ins}{p:α->Prop}:∀(l:ae α) (h:∀x∈l,∀rest,(p x->R m rest [] rg b)->(¬p x->b=n)->R m (f x++rest) [] rg b),((∀x∈l,p x)->R m rest [] rg b)->(¬(∀x∈l,p x)->b=n)->R m (l.flatMap f++rest) [] rg b
 |[],h,h1,h2=>h1 ox
 |x::l,h,h1,h2=>by
  rw[FK,gp];refine h x ox _ (λhx=>auN l (λy hy=>h y qf) (λhl=>h1 (λy hy=>?_)) (λhl=>h2 (λha=>hl (λy hy=>ha y qf)))) (λhx=>h2 (λha=>hx (ha x ox)));rcases dm.1 hy with rfl|hy
  .exact hx
  .exact hl y hy
def ayl(hE:JK m S){cells:ae Int}(hc:∀c∈cells,0<=c/\c<m.grid.length)(hl:cells.length<=256)(h:(cells.map (kH m.grid)).Nodup->R m rest [] rg b)(hn:¬(cells.map (kH m.grid)).Nodup->b=n):R m (aqR S cells n++rest) [] rg b:=by
 have hiff:(∀s∈List.range S,((cells.map λc=>bV ((((1<<<s:Nat):Int).toNat).testBit (kH m.grid c))).sum<2))↔(cells.map (kH m.grid)).Nodup:=by
  rw[List.nodup_iff_count];have e:∀s,(cells.map λc=>bV ((((1<<<s:Nat):Int).toNat).testBit (kH m.grid c))).sum=((cells.map (kH m.grid)).count s:Int):=λs=>by
   rw[auM,List.count_eq_countP,List.countP_map,List.countP_eq_length_filter];congr 2;refine List.filter_congr λc _=>?_;rw[fI,aoz,BS,Nat.testBit_two_pow];exact wM.2 (by simp;exact eq_comm)
  constructor
  .intro hs a;by_cases ha:a<S
   .have:=hs a (xP.2 ha);rw[e]at this;omega
   .rw[List.count_eq_zero_of_not_mem]
    .omega
    .intro hm;obtain⟨c,h1,h2⟩:=cO.1 hm;have:=(hE.sy (hc c h1)).2;omega
  .intro hs a _;have:=hs a;rw[e];omega
 have aA5:=hE.s16;refine auN (p:=λs=>(cells.map λc=>bV ((((1<<<s:Nat):Int).toNat).testBit (kH m.grid c))).sum<2) _ (λs hs rest' h1 h2=>?_) (λhall=>h (hiff.1 hall)) (λhall=>hn (λhh=>hall (hiff.2 hh)));have hsS:=xP.1 hs;have hp:1<<<s<65536:=by
  rw[aoz,BS];have:=Mk (a:=2) ov (show s<16 by omega);omega
 rw[af2,gp];refine auK (avH hE hc ⟨Int.natCast_nonneg _,Int.ofNat_lt.2 hp⟩) hl (R.const (R.less (R.dem (λhp=>h1 (jI hp)) (λhp=>h2 (wS hp)))))
def awF:∀{l:ae Int},(∀i∈List.range (l.length - 1),l.getD i 0<l.getD (i+1) 0)↔l.Pairwise (·<·)
 |[]=>by simp
 |[a]=>by simp
 |a::c::l=>by
  have ih:=awF (l:=c::l);rw[rQ,<- ih];constructor
  .intro h;have ht:∀i∈List.range ((c::l).length - 1),(c::l).getD i 0<(c::l).getD (i+1) 0:=λi hi=>by
    have:=h (i+1) (by simp at hi⊢;omega);simpa using this
   refine⟨λx hx=>?_,ht⟩;have h0:a<c:=by have:=h 0 ox;simpa using this
   rcases dm.1 hx with rfl|hx
   .exact h0
   .have:=(rQ.1 (ih.1 ht)).1 x hx;omega
  .rintro⟨h1,h2⟩ i hi;cases i with
   |zero=>simpa using h1 c ox
   |succ i=>
    have:=h2 i (by simp at hi⊢;omega);simpa using this
def getD_map'{α:Type}(f:α->Int)(d:α)(l:ae α)(i:Nat)(h:i<l.length):(l.map f).getD i 0=f (l.getD i d):=oW
def aym(hE:JK m S){cells:ae Int}(hc:∀c∈cells,0<=c/\c<m.grid.length)(h:(cells.map (Fx m.values m.grid)).Pairwise (·<·)->R m rest [] rg b)(hn:¬(cells.map (Fx m.values m.grid)).Pairwise (·<·)->b=n):R m (aqT cells n++rest) [] rg b:=by
 have hiff:=awF (l:=cells.map (Fx m.values m.grid));rw[bi]at hiff;refine auN (p:=λi=>(cells.map (Fx m.values m.grid)).getD i 0<(cells.map (Fx m.values m.grid)).getD (i+1) 0) _ (λi hi rest' h1 h2=>?_) (λhall=>h (hiff.1 hall)) (λhall=>hn (λhh=>hall (hiff.2 hh)));have hi:=xP.1 hi;rw[getD_map' _ 0 _ _ ov,getD_map' _ 0 _ _ ov]at h1 h2;have hm:∀j,j<cells.length->cells.getD j 0∈cells:=λj hj=>by simp[hj]
 rw[adF,gp,gp];exact val_ok hE (hc _ (hm i ov)) (val_ok hE (hc _ (hm (i+1) ov)) (R.less (R.dem (λhp=>h1 (jI hp)) (λhp=>h2 (wS hp)))))
def auW(p r:Bool):decide (bV p+bV r<2)=!(p&&r):=by cases p<;>cases r<;>rfl
def ast(p:Bool):0<=bV p/\bV p<=1073741824:=by cases p<;>simp[bV]
def awG(hE:JK m S){set:Int}(hs:0<=set/\set<65536){line:ae Bool}{tb:Nat}(htb:m.tables[tb]? =some (aam line))(hll:line.length<=100000):
 ∀{cells:ae Int} {s:Int} {rg:ae Int},(∀c∈cells,0<=c/\c<m.grid.length)->rg.length=2->rg[0]? =some s-> -1<=s->s<=100000->
  (∀rg',rg'.length=2->rg'[0]? =some (ab7 (aam line) s (cells.map λc=>set.toNat.testBit (kH m.grid c)))->R m rest [] rg' b)->R m (cells.flatMap (ajq set (tb:Int))++rest) [] rg b
 |[],s,rg,hc,hrg,hg,h0,h1,h=>h rg hrg hg
 |c::cs,s,rg,hc,hrg,hg,h0,h1,h=>by
  obtain⟨q1,q2⟩:=hE.sy (hc c ox);have:=hE.s16;have hb:=ast (set.toNat.testBit (kH m.grid c));have hb1:bV (set.toNat.testBit (kH m.grid c))<=1:=by cases set.toNat.testBit (kH m.grid c)<;>simp[bV]
  have hpk: -1<=pkV (aam line) (s+s+bV (set.toNat.testBit (kH m.grid c)))/\pkV (aam line) (s+s+bV (set.toNat.testBit (kH m.grid c)))<=100000:=by
   unfold pkV;split
   .generalize(s+s+bV (set.toNat.testBit (kH m.grid c))).toNat=k;by_cases hk:k<(aam line).length
    .have hm:(aam line).getD k (-1)∈aam line:=by simp[hk]
     generalize(aam line).getD k (-1)=x at hm⊢;unfold aam at hm;obtain⟨i,hi,hx⟩:=atK.1 hm;have hi:=xP.1 hi;rcases dm.1 hx with rfl|hx
     .unfold vw;split<;>(try split)<;>(try split)<;>omega
     .rw[eG.1 hx];unfold vG;split<;>omega
    .have:(aam line).getD k (-1)= -1:=by rw[DV,fT ov];rfl
     omega
   .omega
  rw[FK,gp];have ih:=awG (cells:=cs) (s:=pkV (aam line) (s+s+bV (set.toNat.testBit (kH m.grid c)))) (rg:=rg.set 0 (pkV (aam line) (s+s+bV (set.toNat.testBit (kH m.grid c))))) hE hs htb hll (λx hx=>hc x oR) sB (by simp[hrg]) hpk.1 hpk.2 (λrg' h3 h4=>h rg' h3 (by rw[iX,ab7];exact h4));refine R.acR (n:=0) ov hg (R.acR (n:=0) ov hg (R.awo ov ov ?_));refine asq (rest:=⟨5,0⟩::⟨11,(tb:Int)⟩::⟨9,0⟩::(cs.flatMap (ajq set (tb:Int))++rest)) hE (hc c ox) hs (R.awo ov ov ?_);rw[show bV (set.toNat.testBit (kH m.grid c))+(s+s)=s+s+bV (set.toNat.testBit (kH m.grid c))by omega];exact R.pick htb (R.store (n:=0) ov ih)
def ayn(hE:JK m S){cells runs:ae Int}{set:Int}(hc:∀c∈cells,0<=c/\c<m.grid.length)(hs:0<=set/\set<65536){tb:Nat}(htb:m.tables[tb]? =some (aam (mi runs)))(hr:∀r∈runs,1<=r)(hll:(mi runs).length<=65536)(hrg:rg.length=2)
 (h:CS 0 (cells.map λx=>set.toNat.testBit (kH m.grid x))=runs->∀rg',rg'.length=2->R m rest [] rg' b) (hn:¬CS 0 (cells.map λx=>set.toNat.testBit (kH m.grid x))=runs->b=n):R m (aoT cells set (tb:Int) ((mi runs).length:Int) n++rest) [] rg b:=by
 have ha:=(awv (mi runs) (cells.map λx=>set.toNat.testBit (kH m.grid x))).1 0 runs (bI _) hr rfl (.inl rfl);rw[aoT,bQ,bQ,gp];refine R.const (R.store (n:=0) ov (awG (s:=0) hE hs htb ov hc sB (by simp[hrg]) ov ov (λrg' h1 h2=>?_)));refine R.acR (n:=0) ov h2 (R.const (R.eq (R.dem (λhp=>h (ha.1 ?_) _ h1) (λhp=>hn (λhh=>?_)))))
 .exact(jI hp).symm
 .exact wS hp (ha.2 hh).symm
def ayo(hE:JK m S){u v lo:Int}(hu:0<=u/\u<m.grid.length)(hv:0<=v/\v<m.grid.length)(hlo:0<=lo/\lo<=65536)
 (h:lo<=max (Fx m.values m.grid u - Fx m.values m.grid v) (Fx m.values m.grid v - Fx m.values m.grid u)->R m rest [] rg b) (hn:¬lo<=max (Fx m.values m.grid u - Fx m.values m.grid v) (Fx m.values m.grid v - Fx m.values m.grid u)->b=n):R m (aoU u v lo n++rest) [] rg b:=by
 have h1:=(hE.va hu).2;have h2:=(hE.va hv).2;generalize hx:Fx m.values m.grid u=x at h h1 hn;generalize hy:Fx m.values m.grid v=y at h h2 hn;have one:∀(u v:Int) (rest:ae Ins) (st:ae Int),(0<=u/\u<m.grid.length)->(0<=v/\v<m.grid.length)->R m rest (bV (decide (Fx m.values m.grid u<lo+Fx m.values m.grid v))::st) rg b->R m (adU u v lo++rest) st rg b:=by
  intro u v rest st hu hv hh;have h1:=(hE.va hu).2;have h2:=(hE.va hv).2;rw[adU,gp,gp];exact val_ok hE hu (val_ok hE hv (R.const (R.add ⟨hlo.1,ov⟩ ⟨h2.1,ov⟩ (R.less hh))))
 rw[aoU,gp,gp];refine one u v _ _ hu hv (one v u _ _ hv hu (R.add (ast _) (ast _) (R.const (R.less (R.dem (λhp=>h ?_) (λhp=>hn ?_))))))
 .rw[hx,hy,auW]at hp;have:lo+x<=y\/lo+y<=x:=by simpa using hp
  omega
 .rw[hx,hy,auW]at hp;have:y<lo+x/\x<lo+y:=by simpa using hp
  omega
def awH(hE:JK m S){u v set other:Int}(hu:0<=u/\u<m.grid.length)(hv:0<=v/\v<m.grid.length)(hs:0<=set/\set<65536)(ho:0<=other/\other<65536)
 (h:¬(set.toNat.testBit (kH m.grid u)=true/\other.toNat.testBit (kH m.grid v)=true)->R m rest [] rg b) (hn:(set.toNat.testBit (kH m.grid u)=true/\other.toNat.testBit (kH m.grid v)=true)->b=n):R m (agr u v set other n++rest) [] rg b:=by
 rw[agr,gp,gp];refine asq hE hu hs (asq hE hv ho (R.add (ast _) (ast _) (R.const (R.less (R.dem (λhp=>h ?_) (λhp=>hn ?_))))))
 .rw[auW]at hp;intro hh;rw[hh.1,hh.2]at hp;cases hp
 .rw[auW]at hp;have:other.toNat.testBit (kH m.grid v)=true/\set.toNat.testBit (kH m.grid u)=true:=by simpa using hp
  exact⟨this.2,this.1⟩
def awI(hE:JK m S){set:Int}(hs:0<=set/\set<65536)(h:(fD m.aH (mkV m.grid set) m.aH.length).2<=1->R m rest [] rg b)(hn:¬(fD m.aH (mkV m.grid set) m.aH.length).2<=1->b=n):R m (ajz set n++rest) [] rg b:=by
 have hi:=ayi (aP:=mkV m.grid set) hE.jB (by rw[mkV,bi,hE.tT]);refine R.size hs.1 hs.2 (R.reach hs.1 hs.2 (R.eq (R.dem (λhp=>h (hi.1 ?_)) (λhp=>hn (λhh=>?_)))))
 .have:=jI hp;unfold aij acf at this;omega
 .refine wS hp ?_;have:=hi.2 hh;unfold aij acf;omega
def awJ{grid:ae Int}{set c:Int}(hc:0<=c/\c<grid.length):dU (mkV grid set) c=set.toNat.testBit (kH grid c):=by
 have hl:c.toNat<grid.length:=ov
 unfold dU mkV kH;simp[hl]
def ayp(hE:JK m S){set:Int}(hs:0<=set/\set<65536)(h:(fD m.aH (mkV m.grid set) m.aH.length).2<=1/\A9 m.aH (mkV m.grid set) m.aH.length->R m rest [] rg b)(hn:¬((fD m.aH (mkV m.grid set) m.aH.length).2<=1/\A9 m.aH (mkV m.grid set) m.aH.length)->b=n):R m (anX m.aH set n++rest) [] rg b:=by
 have hg:=hE.tT;have hgl:=hE.aww;have hiff:(∀x∈m.aH.zipIdx,dU (mkV m.grid set) (x.2:Int)=true->A8 (mkV m.grid set) x.1=2)↔A9 m.aH (mkV m.grid set) m.aH.length:=by
  constructor
  .intro hh i hi hii;exact hh (m.aH.getD i [],i) (xQ.2 (by simp[hi])) hii
  .rintro hh ⟨l,i⟩ hx hii;have hx:=xQ.1 hx;have hi:=(bz.1 hx).1;have:=hh i hi hii
   rwa [show m.aH.getD i []=l by simp[List.getD,hx]]at this
 rw[anX,gp];refine auN (p:=λx=>dU (mkV m.grid set) (x.2:Int)=true->A8 (mkV m.grid set) x.1=2) _ (λx hx rest' h1 h2=>?_) (λhall=>awI hE hs (λhp=>h ⟨hp,hiff.1 hall⟩) (λhp=>hn (λhh=>hp hh.1))) (λhall=>hn (λhh=>hall (hiff.2 hh.2)));obtain⟨l,i⟩:=x;have hx:=xQ.1 hx;have hi:=(bz.1 hx).1;have hir:(0:Int)<=(i:Int)/\(i:Int)<m.grid.length:=⟨ov,ov⟩
 have hlm:=aV hx;have hlr:∀c∈l,0<=c/\c<m.grid.length:=λc hc=>by have:=hE.jB.rg l hlm c hc;unfold Rg at this;omega
 have hll:l.length<=256:=by
  have:=an4 (hE.nd l hlm) (m:=adm (List.replicate m.grid.length true) m.grid.length) (λc hc=>agt.2 ⟨(hlr c hc).1,(hlr c hc).2,by have:=hlr c hc;unfold dU;rw[DV,aeS,if_pos ov];rfl⟩);rw[ajA]at this;have:=akY (List.replicate m.grid.length true) m.grid.length;omega
 rw[acJ,gp];refine asq hE hir hs ?_;dsimp only at h1 h2⊢;rw[awJ hir]at h1 h2;cases hb:set.toNat.testBit (kH m.grid (i:Int))with
 |false=>
  rw[hb]at h1;refine R.aoP ox ?_;show R m ((aak set n l++rest').drop (aak set n l).length) [] rg b;rw[List.drop_left];exact h1 (λhh=>by cases hh)
 |true=>
  refine R.atP oU ?_;have hd:(l.map λc=>bV (set.toNat.testBit (kH m.grid c))).sum=(A8 (mkV m.grid set) l:Int):=by
   rw[auM,A8];congr 2;exact List.filter_congr λc hc=>(awJ (hlr c hc)).symm
  show R m (aak set n l++rest') [] rg b;rw[aak,gp];refine auK (avH hE hlr hs) hll (R.const (R.eq (R.dem (λhp=>h1 (λ_=>?_)) (λhp=>h2 (λhh=>?_)))))
  .have:=jI hp;rw[hd]at this;omega
  .have:=hh hb;refine wS hp ?_;rw[hd];omega
end
variable{S:Nat}
def awK(h:S<=16):2^S<=65536:=lZ (Nat.pow_le_pow_right ov h) oU
def aqW:∀(rs:ae Int),(∀r∈rs,r<=256)->(mi rs).length<=257*rs.length
 |[],_=>by simp[mi]
 |r::rs,h=>by
  have:=h r ox;have ih:=aqW rs (λx hx=>h x oR);rw[atS];split
  .simp;omega
  .simp;omega
def ayq{m:Env}(hE:JK m S){q:Kn}(hq1:q.values=m.values)(hq2:q.aH=m.aH)(hq3:q.symbols=S){c:rZ}(hc:TM (m.grid.length:Int) (S:Int) c){tb:Nat}{n b:Int}{rest:ae Ins}{rg:ae Int}
 (htb:c.kind=5->m.tables[tb]? =some (aam (mi c.runs))) (hrg:rg.length=2) (h:amo q c m.grid->∀rg',rg'.length=2->R m rest [] rg' b) (hn:¬amo q c m.grid->b=n):R m (ach q (tb:Int) n c++rest) [] rg b:=by
 have hp:=awK hE.s16;have hs:0<=c.set/\c.set<65536:=by have:=hc.set;rw[fI]at this;omega
 have ho:0<=c.other/\c.other<65536:=by have:=hc.other;rw[fI]at this;omega
 have hcl:∀x∈c.cells,0<=x/\x<m.grid.length:=λx hx=>by
  exact oe
 have hll:c.cells.length<=256:=by
  have:=hE.aww;rcases hc.len with h|h
  .omega
  .rw[h];simp
 have hgd:∀j,j<c.cells.length->0<=c.cells.getD j 0/\c.cells.getD j 0<m.grid.length:=λj hj=>hcl _ (by simp[hj]);have hk:=hc.kind;unfold amo at h hn;unfold ach;rw[hq1]at h hn;rw[hq2]at h hn⊢;rw[hq3,fI];by_cases k1:c.kind=1
 .rw[if_pos k1]at h hn⊢;exact ayl hE hcl hll (λhh=>h hh _ hrg) hn
 rw[if_neg k1]at h hn⊢;by_cases k2:c.kind=2
 .rw[if_pos k2]at h hn⊢;rw[gp];refine auK (avH hE hcl hs) hll ?_;rw[auM];exact awC ov hrg h hn
 rw[if_neg k2]at h hn⊢;by_cases k3:c.kind=3
 .rw[if_pos k3]at h hn⊢;rw[gp];refine auK (ayk hE hcl) hll (awC ?_ hrg h hn);have:∀l:ae Int,(∀x∈l,0<=x/\x<m.grid.length)->0<=(l.map (Fx m.values m.grid)).sum:=by
   intro l;induction l with
   |nil=>intro _;simp
   |cons a l ih=>
    intro hl;have:=(hE.va (hl a ox)).2.1;have:=ih (λx hx=>hl x oR);rw[iX,FJ];omega
  exact this _ hcl
 rw[if_neg k3]at h hn⊢;by_cases k4:c.kind=4
 .rw[if_pos k4]at h hn⊢;exact aym hE hcl (λhh=>h hh _ hrg) hn
 rw[if_neg k4]at h hn⊢;by_cases k5:c.kind=5
 .rw[if_pos k5]at h hn⊢;have hrl:=hc.au0;have:=aqW c.runs (λr hr=>(hc.runs r hr).2);exact ayn hE hcl hs (htb k5) (λr hr=>(hc.runs r hr).1) ov hrg h hn
 rw[if_neg k5]at h hn⊢;by_cases k6:c.kind=6
 .rw[if_pos k6]at h hn⊢;have h2:=hc.two (.inl k6);exact ayo hE (hgd 0 ov) (hgd 1 ov) hc.lo (λhh=>h hh _ hrg) hn
 rw[if_neg k6]at h hn⊢;by_cases k7:c.kind=7
 .rw[if_pos k7]at h hn⊢;have h2:=hc.two (.inr k7);rw[aqA,gp];refine awH hE (hgd 0 ov) (hgd 1 ov) hs ho (λh1=>awH hE (hgd 1 ov) (hgd 0 ov) hs ho (λh3=>h (by rintro(hh|hh);exact h1 hh;exact h3 hh) _ hrg) (λhh=>hn (λhx=>hx (.inr hh)))) (λhh=>hn (λhx=>hx (.inl hh)))
 rw[if_neg k7]at h hn⊢;by_cases k8:c.kind=8
 .rw[if_pos k8];exact awI hE hs (λhh=>h ⟨hh,λh9=>by omega⟩ _ hrg) (λhh=>hn (λhx=>hh hx.1))
 rw[if_neg k8];have k9:c.kind=9:=ov
 exact ayp hE hs (λhh=>h ⟨hh.1,λ_=>hh.2⟩ _ hrg) (λhh=>hn (λhx=>hh ⟨hx.1,hx.2 k9⟩))
open Classical in
noncomputable def aoY(q:Kn)(grid:ae Int):Nat->ae rZ->Int
 |_,[]=> -1
 |n,c::cs=>if amo q c grid then aoY q grid (n+1) cs else(n:Int)
def awL(q:Kn)(grid:ae Int):∀(n:Nat) (cs:ae rZ),(aoY q grid n cs= -1/\∀c∈cs,amo q c grid)\/∃(j:Nat) (c:rZ),cs[j]? =some c/\¬amo q c grid/\aoY q grid n cs=((n+j:Nat):Int)
 |n,[]=>.inl ⟨rfl,ox⟩
 |n,c::cs=>by
  rw[aoY];by_cases hm:amo q c grid
  .rw[if_pos hm];rcases awL q grid (n+1) cs with⟨h1,h2⟩|⟨j,d,h1,h2,h3⟩
   .exact .inl ⟨h1,λx hx=>by rcases dm.1 hx with rfl|hx;exact hm;exact h2 x hx⟩
   .exact .inr ⟨j+1,d,by simpa using h1,h2,by rw[h3];omega⟩
  .rw[if_neg hm];exact .inr ⟨0,c,rfl,hm,rfl⟩
def awM{m:Env}{S:Nat}(hE:JK m S){q:Kn}(hq1:q.values=m.values)(hq2:q.aH=m.aH)(hq3:q.symbols=S):∀(cs:ae rZ) (t n:Nat) (rg:ae Int),(∀c∈cs,TM (m.grid.length:Int) (S:Int) c)->(∀(i:Nat) l,(iA cs)[i]? =some l->m.tables[t+i]? =some l)->rg.length=2->R m (j4 q t n cs) [] rg (aoY q m.grid n cs)
 |[],t,n,rg,hc,ht,hrg=>⟨0,.nil⟩
 |c::cs,t,n,rg,hc,ht,hrg=>by
  rw[j4,aoY];have ht':∀(i:Nat) l,(iA cs)[i]? =some l->m.tables[t+(aa7 c).length+i]? =some l:=λi l hl=>by
   have:=ht ((aa7 c).length+i) l (by rw[iA,FK,sN ov,show(aa7 c).length+i - (aa7 c).length=i by omega];exact hl)
   rwa [pR]
  refine ayq hE hq1 hq2 hq3 (hc c ox) (λk5=>?_) hrg (λhm rg' ayr=>?_) (λhm=>by rw[if_neg hm])
  .have:=ht 0 (aam (mi c.runs)) (by rw[iA,FK,aa7,if_pos k5];rfl);simpa using this
  .rw[if_pos hm];exact awM hE hq1 hq2 hq3 cs _ _ rg' (λx hx=>hc x oR) ht' ayr
end Vm
namespace Vm
open Gph
inductive TS(nT C S:Nat):Ins->List Nat->List Nat->Prop
 |const {a:Int} {t:List Nat}:0<=a->a<=65536->t.length<32->TS nT C S ⟨1,a⟩ t (1::t)
 |cell {a:Int} {t:List Nat}:0<=a->a<(C:Int)->t.length<32->TS nT C S ⟨2,a⟩ t (2::t)
 |val {t}:TS nT C S ⟨3,0⟩ (2::t) (1::t)
 |aP {a:Int} {t:List Nat}:0<=a->a<((2^S:Nat):Int)->TS nT C S ⟨4,a⟩ (2::t) (1::t)
 |add {t}:TS nT C S ⟨5,0⟩ (1::1::t) (1::t)
 |eq {t}:TS nT C S ⟨6,0⟩ (1::1::t) (1::t)
 |less {t}:TS nT C S ⟨7,0⟩ (1::1::t) (1::t)
 |not {t}:TS nT C S ⟨8,0⟩ (1::t) (1::t)
 |store {a:Int} {t:List Nat}:0<=a->a<=15->TS nT C S ⟨9,a⟩ (1::t) t
 |acR {a:Int} {t:List Nat}:0<=a->a<=15->t.length<32->TS nT C S ⟨10,a⟩ t (1::t)
 |pick {a:Int} {t:List Nat}:0<=a->a<(nT:Int)->TS nT C S ⟨11,a⟩ (1::t) (1::t)
 |skip {a:Int} {t:List Nat}:0<=a->TS nT C S ⟨12,a⟩ (1::t) t
 |size {a:Int} {t:List Nat}:0<=a->a<((2^S:Nat):Int)->t.length<32->TS nT C S ⟨13,a⟩ t (1::t)
 |reach {a:Int} {t:List Nat}:0<=a->a<((2^S:Nat):Int)->t.length<32->TS nT C S ⟨14,a⟩ t (1::t)
 |dem {a:Int} {t:List Nat}:0<=a->a<4096->TS nT C S ⟨15,a⟩ (1::t) t
structure CkF(nT C S:Nat)(l:List Ins)(t:List Nat)(ty:Nat->List Nat):Prop where
 z:ty 0=t
 e:ty l.length=[]
 s:∀j i,l[j]? =some i->TS nT C S i (ty j) (ty (j+1))/\(i.op=12->j+1+i.a.toNat<=l.length/\ty (j+1+i.a.toNat)=ty (j+1))
 b:∀j,j<=l.length->(ty j).length<=32
inductive St(nT C S:Nat):List Ins->List Nat->List Nat->Prop
 |nil {t}:St nT C S [] t t
 |cons {i l t t1 t2}:i.op≠12->TS nT C S i t t1->St nT C S l t1 t2->St nT C S (i::l) t t2
inductive Bl(nT C S:Nat):List Ins->Prop
 |nil:Bl nT C S []
 |str {a l}:St nT C S a [] []->Bl nT C S l->Bl nT C S (a++l)
 |skp {p a l}:St nT C S p [] [1]->St nT C S a [] []->Bl nT C S l->Bl nT C S (p++⟨12,(a.length:Int)⟩::(a++l))
section
variable {nT C S:Nat}
variable{t t1:ae Nat}{a:ae Ins}
def St.app{b:ae Ins}{t2:ae Nat}(h:St nT C S a t t1)(h2:St nT C S b t1 t2):St nT C S (a++b) t t2:=by
 induction h with
 |nil=>exact h2
 |cons h1 h3 _ ih=>exact .cons h1 h3 (ih h2)
variable{l:ae Ins}{i:Ins}{ty:Nat->ae Nat}
def awO(h:TS nT C S i t t1)(ht:t.length<=32)(hs:i.op=12->i.a.toNat<=l.length/\ty i.a.toNat=t1)(hc:CkF nT C S l t1 ty):CkF nT C S (i::l) t (λj=>match j with|0=>t|j+1=>ty j):=by
 refine⟨rfl,hc.e,λj i' hj=>?_,λj hj=>?_⟩
 .cases j with
  |zero=>
   cases hj;refine⟨by show TS nT C S i t (ty 0);rw[hc.z];exact h,λh12=>?_⟩;obtain⟨q1,q2⟩:=hs h12;refine⟨by simp;omega,?_⟩;rw[show 0+1+i.a.toNat=i.a.toNat+1 by omega];show ty i.a.toNat=ty 0;rw[q2,hc.z]
  |succ j=>
   obtain⟨q1,q2⟩:=hc.s j i' sx;refine⟨q1,λh12=>?_⟩;obtain⟨q3,q4⟩:=q2 h12;refine⟨by simp;omega,?_⟩;rw[show j+1+1+i'.a.toNat=(j+1+i'.a.toNat)+1 by omega];exact q4
 .cases j with
  |zero=>exact ht
  |succ j=>exact hc.b j sx
def avI(h:St nT C S a t t1)(ht:t.length<=32)(hc:CkF nT C S l t1 ty):∃ty',CkF nT C S (a++l) t ty'/\∀j,ty' (a.length+j)=ty j:=by
 induction h with
 |nil=>exact⟨ty,hc,λj=>by simp⟩
 | @cons i a t t1 t2 h1 h3 h4 ih=>
   have h5:t1.length<=32:=by cases h3<;>simp at *<;>omega
   obtain⟨ty',q1,q2⟩:=ih h5 hc;refine⟨_,awO h3 ht (λh=>absurd h h1) q1,λj=>?_⟩;rw[rJ,show a.length+1+j=(a.length+j)+1 by omega];exact q2 j
def ays(h:Bl nT C S l):∃ty,CkF nT C S l [] ty:=by
 induction h with
 |nil=>exact⟨λ_=>[],rfl,rfl,λj i hj=>by simp at hj,λ_ _=>by simp⟩
 |str h1 _ ih=>
  obtain⟨ty,hc⟩:=ih;obtain⟨ty',q,_⟩:=avI h1 ox hc;exact⟨ty',q⟩
 | @skp p a l h1 h2 _ ih=>
   obtain⟨ty,hc⟩:=ih;obtain⟨ty',q1,q2⟩:=avI h2 ox hc;have h3:=awO (i:=⟨12,(a.length:Int)⟩) (t:=[1]) (.skip ov) ox (λ_=>by
    rw[fI];refine⟨ox,?_⟩;have:=q2 0;rw[FD]at this;rw[this,hc.z]) q1
   obtain⟨ty3,q3,_⟩:=avI h1 ox h3;exact⟨ty3,q3⟩
def st1(h:i.op≠12)(h1:TS nT C S i t t1):St nT C S [i] t t1:=.cons h h1 .nil
variable{set c:Int}
def aq4(hs:0<=set/\set<(2^S:Nat))(hc:0<=c/\c<C)(ht:t.length<32):St nT C S (aa set c) t (1::t):=.cons ox (.cell hc.1 hc.2 ht) (st1 ox (.aP hs.1 hs.2))
def asz(hc:0<=c/\c<C)(ht:t.length<32):St nT C S (aL c) t (1::t):=.cons ox (.cell hc.1 hc.2 ht) (st1 ox .val)
def awP{push:Int->ae Ins}:∀{cells:ae Int} {t:ae Nat},(∀c∈cells,∀t:ae Nat,t.length<32->St nT C S (push c) t (1::t))->t.length<31->St nT C S (acu push cells) (1::t) (1::t)
 |[],t,hp,ht=>.nil
 |c::cs,t,hp,ht=>(hp c ox (1::t) oF).app (.cons ox .add (awP (λx hx=>hp x oR) ht))
def auY{push:Int->ae Ins}{cells:ae Int}(hp:∀c∈cells,∀t:ae Nat,t.length<32->St nT C S (push c) t (1::t))(ht:t.length<31):St nT C S (Nb push cells) t (1::t):=by
 cases cells with
 |nil=>exact st1 ox (.const ov ov ov)
 |cons c cs=>
  rw[Nb,if_neg ox,CE];exact(hp c ox t ov).app (awP (λx hx=>hp x oR) ht)
variable{n:Int}
def awQ{lo hi:Int}(hlo:lo<=65536)(hhi:0<=hi/\hi<=65536)(hn:0<=n/\n<4096):St nT C S (acv lo hi n) [1] []:=by
 have h2:St nT C S [⟨1,hi⟩,⟨10,1⟩,⟨7,0⟩,⟨8,0⟩,⟨15,n⟩] [] []:=.cons ox (.const hhi.1 hhi.2 ox) (.cons ox (.acR ov ov ox) (.cons ox .less (.cons ox .not (st1 ox (.dem hn.1 hn.2)))));unfold acv;refine .cons ox (.store ov ov) ?_;split
 .exact(St.cons ox (.const ov ov ox) (.cons ox (.acR ov ov ox) (.cons ox .less (st1 ox (.dem hn.1 hn.2))))).app h2
 .exact h2
def auZ{α:Type}{f:α->ae Ins}:∀{l:ae α},(∀x∈l,St nT C S (f x) [] [])->St nT C S (l.flatMap f) [] []
 |[],_=>.nil
 |x::l,h=>by rw[FK];exact(h x ox).app (auZ (λy hy=>h y qf))
def awR(hs:0<=set/\set<(2^S:Nat))(hn:0<=n/\n<4096):St nT C S (ajz set n) [] []:=
 .cons ox (.size hs.1 hs.2 ox) (.cons ox (.reach hs.1 hs.2 ox) (.cons ox .eq (st1 ox (.dem hn.1 hn.2))))
def awS{set n:Int}{rest:ae Ins}(hs:0<=set/\set<(2^S:Nat))(hn:0<=n/\n<4096)(hr:Bl nT C S rest):∀(l:ae (ae Int×Nat)),(∀x∈l,x.2<C/\∀c∈x.1,0<=c/\c<C)->Bl nT C S (l.flatMap (acJ set n)++rest)
 |[],h=>hr
 |x::l,h=>by
  obtain⟨h1,h2⟩:=h x ox;have ih:=awS hs hn hr l (λy hy=>h y qf);have:=Bl.skp (aq4 (nT:=nT) (t:=[]) hs (c:=(x.2:Int)) ⟨ov,ov⟩ ox) (a:=aak set n x.1) ((auY (λc hc t ht=>aq4 hs (h2 c hc) ht) ox).app (.cons ox (.const ov ov ox) (.cons ox .eq (st1 ox (.dem hn.1 hn.2))))) ih;rw[FK,acJ,gp,gp,bQ];exact this
def ayu{q:Kn}{c:rZ}(hq3:q.symbols=S)(hc:TM (C:Int) (S:Int) c)(hS:S<=16){tb:Nat}{n:Int}{rest:ae Ins}(hn:0<=n/\n<4096)(htb:c.kind=5->tb<nT)(hnb:q.aH.length=C)(hnr:∀l∈q.aH,∀x∈l,0<=x/\x<(C:Int))(hr:Bl nT C S rest):Bl nT C S (ach q (tb:Int) n c++rest):=by
 have hs:=hc.set;have ho:=hc.other;rw[fI]at hs ho;have hcl:∀x∈c.cells,0<=x/\x<(C:Int):=λx hx=>by
  exact oe
 have hgd:∀j,j<c.cells.length->0<=c.cells.getD j 0/\c.cells.getD j 0<(C:Int):=λj hj=>hcl _ (by simp[hj]);have hlo:=hc.lo;have hhi:=hc.hi;unfold ach;rw[hq3,fI];split
 .refine .str (auZ (λs hsm=>?_)) hr;have hsS:=xP.1 hsm;have hp:1<<<s<2^S:=by rw[aoz,BS];exact Mk ov hsS
  exact(auY (λx hx t ht=>aq4 ⟨Int.natCast_nonneg _,Int.ofNat_lt.2 hp⟩ (hcl x hx) ht) ox).app (.cons ox (.const ov ov ox) (.cons ox .less (st1 ox (.dem hn.1 hn.2))))
 split
 .exact .str ((auY (λx hx t ht=>aq4 hs (hcl x hx) ht) ox).app (awQ hlo.2 hhi hn)) hr
 split
 .exact .str ((auY (λx hx t ht=>asz (hcl x hx) ht) ox).app (awQ hlo.2 hhi hn)) hr
 split
 .refine .str (auZ (λi hi=>?_)) hr;have hi:=xP.1 hi;exact((asz (hgd i ov) ox).app (asz (hgd (i+1) ov) ox)).app (.cons ox .less (st1 ox (.dem hn.1 hn.2)))
 split
 .rename_i k5;have hll:(mi c.runs).length<=65536:=by
   have:=aqW c.runs (λr hr=>(hc.runs r hr).2);have:=hc.au0;omega
  refine .str (.cons ox (.const ov ov ox) (.cons ox (.store ov ov) ((auZ (λx hx=>?_)).app (.cons ox (.acR ov ov ox) (.cons ox (.const ov ov ox) (.cons ox .eq (st1 ox (.dem hn.1 hn.2)))))))) hr;have:=htb k5;have hx:=hcl x hx;exact .cons ox (.acR ov ov ox) (.cons ox (.acR ov ov ox) (.cons ox .add (.cons ox (.cell hx.1 hx.2 ox) (.cons ox (.aP hs.1 hs.2) (.cons ox .add (.cons ox (.pick ov ov) (st1 ox (.store ov ov))))))))
 split
 .rename_i k6;have h2:=hc.two (.inl k6);have hu:=hgd 0 ov;have hv:=hgd 1 ov;have one:∀(u v:Int) (t:ae Nat),t.length<29->(0<=u/\u<(C:Int))->(0<=v/\v<(C:Int))->St nT C S (adU u v c.lo) t (1::t):=λu v t ht hu hv=>
   ((asz hu ov).app (asz hv oF)).app (.cons ox (.const hlo.1 hlo.2 oF) (.cons ox .add (st1 ox .less)))
  exact .str (((one _ _ [] ox hu hv).app (one _ _ [1] ox hv hu)).app (.cons ox .add (.cons ox (.const ov ov ox) (.cons ox .less (st1 ox (.dem hn.1 hn.2)))))) hr
 split
 .rename_i k7;have h2:=hc.two (.inr k7);have hu:=hgd 0 ov;have hv:=hgd 1 ov;have one:∀(u v:Int),(0<=u/\u<(C:Int))->(0<=v/\v<(C:Int))->St nT C S (agr u v c.set c.other n) [] []:=λu v hu hv=>
   ((aq4 hs hu ox).app (aq4 ho hv ox)).app (.cons ox .add (.cons ox (.const ov ov ox) (.cons ox .less (st1 ox (.dem hn.1 hn.2)))))
  exact .str ((one _ _ hu hv).app (one _ _ hv hu)) hr
 split
 .exact .str (awR hs hn) hr
 .rw[anX,gp];refine awS hs hn (.str (awR hs hn) hr) _ ?_;rintro⟨l,i⟩ hx;have hx:=xQ.1 hx;have hi:=(bz.1 hx).1;exact⟨by dsimp only;omega,hnr l (aV hx)⟩
def awT{q:Kn}(hq3:q.symbols=S)(hS:S<=16)(hnb:q.aH.length=C)(hnr:∀l∈q.aH,∀x∈l,0<=x/\x<(C:Int)):∀(cs:ae rZ) (t n:Nat),(∀c∈cs,TM (C:Int) (S:Int) c)->t+(iA cs).length<=nT->n+cs.length<=4096->Bl nT C S (j4 q t n cs)
 |[],t,n,hc,ht,hn=>.nil
 |c::cs,t,n,hc,ht,hn=>by
  rw[iA,FK,fu]at ht;simp only[rJ]at hn;exact ayu hq3 (hc c ox) hS ov (λk5=>by rw[aa7,if_pos k5]at ht;simp at ht;omega) hnb hnr (awT hq3 hS hnb hnr cs _ _ (λx hx=>hc x oR) (by show t+(aa7 c).length+(cs.flatMap aa7).length<=nT;omega) ov)
end
def agS(aH:ae (ae Int)):Nat:=(aH.map List.length).sum
def szC(q:Kn)(c:rZ):Nat:=1+c.cells.length+if c.kind=9 then agS q.aH else 0
def szP(q:Kn):Nat:=1+(q.cons.map (szC q)).sum
section
variable {N:Nat}
def awU{push:Int->ae Ins}(h:∀c,jb N (push c)=2):∀l:ae Int,jb N (acu push l)=3*l.length
 |[]=>rfl
 |c::l=>by rw[acu,acg,h,jb,awU h l];simp[y7];omega
def au5{push:Int->ae Ins}(h:∀c,jb N (push c)=2)(l:ae Int):jb N (Nb push l)<=3*l.length+1:=by
 cases l with
 |nil=>simp[Nb,jb,y7]
 |cons c l=>rw[Nb,if_neg ox,CE,acg,h,awU h];simp;omega
def au9{α:Type}{f:α->ae Ins}{k:Nat}(h:∀x,jb N (f x)<=k):∀l:ae α,jb N (l.flatMap f)<=k*l.length
 |[]=>by simp[jb]
 |x::l=>by
  have:=h x;have:=au9 h l;rw[FK,acg,rJ,Nat.mul_add];omega
def asA(set c:Int):jb N (aa set c)=2:=by simp[aa,jb,y7]
def ava(c:Int):jb N (aL c)=2:=by simp[aL,jb,y7]
def awV(lo hi n:Int):jb N (acv lo hi n)<=10:=by
 unfold acv;rw[bQ];split<;>simp[jb,y7]
def awW(set n:Int):∀(l:ae (ae Int×Nat)),jb N (l.flatMap (acJ set n))<=7*l.length+3*(l.map λx=>x.1.length).sum
 |[]=>by simp[jb]
 |x::l=>by
  have h1:=awW set n l;have h2:=au5 (N:=N) (asA set) x.1;rw[FK,acg,acJ,acg,asA,jb,aak,acg];simp[jb,y7];omega
def ayv(aH:ae (ae Int))(n:Nat):((aH.zipIdx n).map λx=>x.1.length).sum=agS aH:=by
 have:(aH.zipIdx n).map (λx=>x.1.length)=aH.map List.length:=by
  have:(λx:ae Int×Nat=>x.1.length)=List.length∘Prod.fst:=rfl;rw[this,<- rO,List.zipIdx_map_fst]
 rw[this,agS]
variable{q:Kn}
def ayw{c:rZ}{S:Nat}(hq3:q.symbols=S)(hS:S<=16)(hc:TM (N:Int) (S:Int) c)(hnb:q.aH.length=N){tb n:Int}:jb N (ach q tb n c)<=64*szC q c:=by
 have hk:=hc.kind;unfold ach szC;rw[hq3,fI];split
 .have h1:∀s,jb N (af2 c.cells n s)<=3*c.cells.length+4:=λs=>by
   have:=au5 (N:=N) (asA ((1<<<s:Nat):Int)) c.cells;have h2:jb N [⟨1,2⟩,⟨7,0⟩,⟨15,n⟩]=3:=by simp[jb,y7]
   rw[af2,acg,h2];omega
  have h2:=au9 h1 (List.range S);rw[o8]at h2;have h3:(3*c.cells.length+4)*S<=(3*c.cells.length+4)*16:=Nat.mul_le_mul_left _ hS;unfold aqR;omega
 split
 .have:=au5 (N:=N) (asA c.set) c.cells;have:=awV (N:=N) c.lo c.hi n;rw[acg];omega
 split
 .have:=au5 (N:=N) ava c.cells;have:=awV (N:=N) c.lo c.hi n;rw[acg];omega
 split
 .have h1:∀s,jb N (adF c.cells n s)<=6:=λs=>by
   rw[adF,acg,acg,ava,ava];simp[jb,y7]
  have h2:=au9 h1 (List.range (c.cells.length - 1));rw[o8]at h2;unfold aqT;omega
 split
 .have h1:∀x,jb N (ajq c.set tb x)<=8:=λx=>by simp[ajq,jb,y7]
  have h2:=au9 h1 c.cells;rw[aoT];simp only[jb,acg,y7];simp;omega
 split
 .simp[aoU,adU,acg,ava,jb,y7];omega
 split
 .simp[aqA,agr,acg,asA,jb,y7];omega
 have hal:=hc.all ov;have hcon:jb N (ajz c.set n)=2*N+2:=by simp[ajz,jb,y7];omega
 split
 .rw[hcon];omega
 .have k9:c.kind=9:=by omega
  have:=awW (N:=N) c.set n q.aH.zipIdx;rw[ayv,W9]at this;rw[if_pos k9,anX,acg,hcon];omega
def avJ{q:Kn}{S:Nat}(hq3:q.symbols=S)(hS:S<=16)(hnb:q.aH.length=N):∀(cs:ae rZ) (t n:Nat),(∀c∈cs,TM (N:Int) (S:Int) c)->jb N (j4 q t n cs)<=64*(cs.map (szC q)).sum
 |[],t,n,hc=>by simp[j4,jb]
 |c::cs,t,n,hc=>by
  have h1:=ayw (tb:=(t:Int)) (n:=(n:Int)) hq3 hS (hc c ox) hnb;have h2:=avJ hq3 hS hnb cs (t+(aa7 c).length) (n+1) (λx hx=>hc x oR);rw[j4,acg,iX,FJ];omega
def ayx(hcl:∀c∈q.cons,c.cells.length<=16)(he:agS q.aH<=256)(hn:q.cons.length<=960):64*szP q<=16777216:=by
 have:∀cs:ae rZ,(∀c∈cs,c.cells.length<=16)->(cs.map (szC q)).sum<=273*cs.length:=by
  intro cs;induction cs with
  |nil=>intro _;simp
  |cons c cs ih=>
   intro h;have h1:=h c ox;have h2:=ih (λx hx=>h x oR);have h3:szC q c<=273:=by unfold szC;split<;>omega
   rw[iX,FJ,rJ];omega
 have:=this q.cons hcl;unfold szP;omega
def awX{aH:ae (ae Int)}{n:Nat}:(∀l∈aH,l.length<=n)->agS aH<=n*aH.length:=by
 induction aH with
 |nil=>intro _;simp[agS]
 |cons a l ih=>
  intro h;have h1:=h a ox;have h2:=ih (λx hx=>h x oR);unfold agS at h2⊢;rw[iX,FJ,rJ,Nat.mul_add];omega
end
