/- Part. -/
import Derived.Test.YtignbinlipkmfaaGreatDoorIdealNR
set_option linter.all false
namespace Gph
def fT(l:ae Bool)(n:Int):Bool:=l.getD n.toNat false
def inner(bT:ae Bool):ae Int->ae Bool->ae Int->ae Bool×ae Int
 |[],met,q=>(met,q)
 |n::ns,met,q=>if fT bT n&&!fT met n then inner bT ns (met.set n.toNat true) (q++[n])else inner bT ns met q
def zA(g:ae (ae Int))(bT:ae Bool):Nat->ae Bool->ae Int->ae Int
 |0,_,_=>[]
 |_+1,_,[]=>[]
 |f+1,met,q::qs=>q::zA g bT f (inner bT (g.getD q.toNat []) met (q::qs)).1 (inner bT (g.getD q.toNat []) met (q::qs)).2.tail
def Et(m:Nat)(s:Int):ae Bool:=(List.replicate m false).set s.toNat true
def OQ(g:ae (ae Int))(bT:ae Bool)(s:Int):ae Int:=zA g bT (g.length+1) (Et g.length s) [s]
def left(met:ae Bool):Nat:=(met.filter (!·)).length
variable{met:ae Bool}
def al6{n:Nat}(h:met[n]? =some false):left (met.set n true)+1=left met:=by
 induction met generalizing n with
 |nil=>cases h
 |cons b met ih=>
  cases n with
  |zero=>cases h;simp[left]
  |succ n=>
   have:=ih tw;simp only[left,QT]at this⊢;cases b<;>simp at this⊢<;>omega
variable{a n:Int}
def OT(ha:0<=a)(hn:0<=n)(h:a<met.length):fT (met.set a.toNat true) n=(decide (n=a)||fT met n):=by
 unfold fT
 grind
def Rg(g:ae (ae Int))(n:Int):Prop:=0<=n/\n<g.length
def TP{g:ae (ae Int)}{bT:ae Bool}:∀(ns:ae Int) (met:ae Bool) (q:ae Int),met.length=g.length->(∀n∈ns,Rg g n)->
 (inner bT ns met q).1.length=g.length/\(∀n,0<=n->(fT (inner bT ns met q).1 n=true↔fT met n=true\/(n∈ns/\fT bT n=true)))/\
 left (inner bT ns met q).1+(inner bT ns met q).2.length=left met+q.length/\∃t,(inner bT ns met q).2=q++t/\∀n,(n∈t↔n∈ns/\fT bT n=true/\fT met n=false)
 |[],met,q,hm,hr=>by simp[inner,hm]
 |a::ns,met,q,hm,hr=>by
  have ha:=hr a tg;have hr':∀n∈ns,Rg g n:=(by grind)
  unfold Rg at ha;rw[inner];by_cases hc:(fT bT a&&!fT met a)=true
  .rw[if_pos hc];simp only[eU,QV]at hc;obtain⟨h1,h2,h4,t,h5,h3⟩:=TP (g:=g) (bT:=bT) ns (met.set a.toNat true) (q++[a]) (by simpa using hm) hr';refine⟨h1,λn hn=>?_,?_,a::t,by rw[h5];simp,λn=>?_⟩
   .rw[h2 n hn,OT ha.1 hn tf]
    grind
   .have hs:met[a.toNat]? =some false:=by
     have:fT met a=false:=hc.2;unfold fT at this
     grind
    have:=al6 hs
    grind
   .rw[dB,h3 n];simp only[dB];constructor
    .rintro(rfl|⟨h,h',h''⟩)
     .exact⟨.inl rfl,hc⟩
     .have hn:=(hr' n h).1;rw[OT ha.1 hn tf]at h''
      grind
    .rintro⟨rfl|h,h',h''⟩
     .exact .inl rfl
     .by_cases e:n=a
      .exact .inl e
      .refine .inr ⟨h,h',?_⟩;rw[OT ha.1 (hr' n h).1 tf];simp[e,h'']
  .rw[if_neg hc];obtain⟨h1,h2,h4,t,h5,h3⟩:=TP (g:=g) (bT:=bT) ns met q hm hr'
   grind
inductive mM(g:List (List Int))(bT:List Bool)(s:Int):Int->Prop
 |refl:mM g bT s s
 |step {i n:Int} {l:List Int} (h:mM g bT s i) (hl:g[i.toNat]? =some l) (hn:n∈l) (hi:fT bT n=true):mM g bT s n
variable{g:ae (ae Int)}{bT:ae Bool}
def mM.trans{b c:Int}(h:mM g bT a b)(h2:mM g bT b c):mM g bT a c:=by
 induction h2 with
 |refl=>exact h
 |step _ hl hn hi ih=>exact .step ih hl hn hi
def iR(h:Rg g n):g[n.toNat]? =some (g.getD n.toNat []):=by
 have hl:n.toNat<g.length:=by unfold Rg at h;omega
 grind
def aan{g:ae (ae Int)}{bT:ae Bool}(hg:∀l∈g,∀n∈l,Rg g n):∀(f:Nat) (met:ae Bool) (queue V:ae Int),met.length=g.length->(∀n∈queue,Rg g n)->
 (∀n,0<=n->(fT met n=true↔n∈V\/n∈queue))->(∀v∈V,∀l,g[v.toNat]? =some l->∀n∈l,fT bT n=true->n∈V\/n∈queue)->left met+queue.length<=f->
 (∀v,v∈V\/v∈zA g bT f met queue->∀l,g[v.toNat]? =some l->∀n∈l,fT bT n=true->n∈V\/n∈zA g bT f met queue)/\(∀n∈queue,n∈zA g bT f met queue)/\
 (∀n∈zA g bT f met queue,∃q∈queue,mM g bT q n)/\∀n∈zA g bT f met queue,Rg g n
 |0,met,queue,V,hm,hq,hM,hcl,hf=>by
  have:queue=[]:=lW.1 tf;subst this;exact lR
 |f+1,met,[],V,hm,hq,hM,hcl,hf=>by
  exact lR
 |f+1,met,q::qs,V,hm,hq,hM,hcl,hf=>by
  have hq0:=hq q tg;have hgd:=iR hq0;have hns:∀n∈g.getD q.toNat [],Rg g n:=hg _ (aU hgd);obtain⟨h1,h2,h4,t,h5,h3⟩:=TP (g:=g) (bT:=bT) (g.getD q.toNat []) met (q::qs) hm hns;rw[zA];generalize hin:inner bT (g.getD q.toNat []) met (q::qs)=r at h1 h2 h4 h5;obtain⟨met',q'⟩:=r;dsimp only at h1 h2 h4 h5⊢;subst h5;rw[fB,List.tail_cons];have hqt:∀n∈qs++t,Rg g n:=λn hn=>by
   rcases eP.1 hn with h|h
   .exact hq n tR
   .exact hns n ((h3 n).1 h).1
  obtain⟨c1,c2,c3,c4⟩:=aan hg f met' (qs++t) (q::V) h1 hqt (λn hn=>by
   rw[h2 n hn,hM n hn];simp only[dB,eP,h3 n];constructor
   .rintro((h|rfl|h)|⟨h,h'⟩)
    .exact .inl (.inr h)
    .exact .inl (.inl rfl)
    .exact .inr (.inl h)
    .cases hme:fT met n with
     |true=>
      rcases(hM n hn).1 hme with h''|h''
      .exact .inl (.inr h'')
      .rcases dB.1 h'' with rfl|h''
       .exact .inl (.inl rfl)
       .exact .inr (.inl h'')
     |false=>exact .inr (.inr ⟨h,h',rfl⟩)
   .rintro((rfl|h)|h|⟨h,h',_⟩)
    .exact .inl (.inr (.inl rfl))
    .exact .inl (.inl h)
    .exact .inl (.inr (.inr h))
    .exact .inr ⟨h,h'⟩) (λv hv l hl n hn hi=>by
   rcases dB.1 hv with rfl|hv
   .rw[hgd]at hl;cases hl;have hn0:=(hns n hn).1;cases hme:fT met n with
    |true=>
     rcases(hM n hn0).1 hme with h''|h''
     .exact .inl (by simp[h''])
     .rcases dB.1 h'' with rfl|h''
      .exact .inl tg
      .exact .inr (by simp[h''])
    |false=>exact .inr (xD _ ((h3 n).2 ⟨hn,hi,hme⟩))
   .rcases hcl v hv l hl n hn hi with h|h
    .exact .inl tR
    .rcases dB.1 h with rfl|h
     .exact .inl tg
     .exact .inr tR) (by
   simp only[fB,uS,fV]at h4 hf⊢;omega)
  refine⟨λv hv l hl n hn hi=>?_,λn hn=>?_,λn hn=>?_,λn hn=>?_⟩
  .have:=c1 v (by
    rcases hv with h|h
    .exact .inl tR
    .rcases dB.1 h with rfl|h
     .exact .inl tg
     .exact .inr h) l hl n hn hi
   rcases this with h|h
   .rcases dB.1 h with rfl|h
    .exact .inr tg
    .exact .inl h
   .exact .inr tR
  .rcases dB.1 hn with rfl|hn
   .simp
   .exact iw _ (c2 n (by simp[hn]))
  .rcases dB.1 hn with rfl|hn
   .exact⟨n,tg,.refl⟩
   .obtain⟨p,hp,hr⟩:=c3 n hn;rcases eP.1 hp with hp|hp
    .exact⟨p,by simp[hp],hr⟩
    .obtain⟨h,h',_⟩:=(h3 p).1 hp;exact⟨q,tg,(mM.step .refl hgd h h').trans hr⟩
  .rcases dB.1 hn with rfl|hn
   .exact hq0
   .exact c4 n hn
def aao(m:Nat)(s:Int):(Et m s).length=m:=by rw[Et,oU,Du]
def TQ(hg:∀l∈g,∀n∈l,Rg g n){s:Int}(hs:Rg g s)(n:Int):n∈OQ g bT s↔mM g bT s n:=by
 have hs':=hs;unfold Rg at hs';obtain⟨c1,c2,c3,_⟩:=aan hg (g.length+1) (Et g.length s) [s] [] (aao _ _) (by grind) (λn hn=>by
  rw[Et,OT hs'.1 hn (by grind)];have:fT (List.replicate g.length false) n=false:=by
   unfold fT
   grind
  simp[this]) tg (by
  have:left (Et g.length s)<=(Et g.length s).length:=Ik _ _;rw[aao]at this;simp;omega)
 constructor
 .intro h;obtain⟨q,hq,hr⟩:=c3 n h
  grind
 .intro h;induction h with
  |refl=>exact c2 s tg
  |step _ hl hn hi ih=>exact(c1 _ (.inr ih) _ hl _ hn hi).resolve_left tg
def al8(hg:∀l∈g,∀n∈l,Rg g n){s:Int}(hs:Rg g s):∀n∈OQ g bT s,Rg g n:=λn hn=>by
 have h:=(TQ hg hs n).1 hn;cases h with
 |refl=>exact hs
 |step _ hl hn _=>grind
def Eu(part:ae Int)(ns:ae Int)(m:Int):ae Int:=ns.foldl (λp n=>p.set n.toNat m) part
def aap:∀(ns part:ae Int) (m:Int),(Eu part ns m).length=part.length
 |[],part,m=>rfl
 |n::ns,part,m=>by
  show(Eu (part.set n.toNat m) ns m).length=_;rw[aap ns,oU]
def Kb(g:ae (ae Int))(bT:ae Bool)(x:ae Int×Nat)(i:Nat):ae Int×Nat:=
 if fT bT i=true/\x.1.getD i 0<=0 then(Eu x.1 (OQ g bT i) (x.2+1:Nat),x.2+1)else x
def nX(g:ae (ae Int))(bT:ae Bool)(k:Nat):ae Int×Nat:=(List.range k).foldl (Kb g bT) (List.replicate g.length 0,0)
def TR(g:ae (ae Int))(bT:ae Bool)(k:Nat):nX g bT (k+1)=Kb g bT (nX g bT k) k:=by
 rw[nX,Dv,yU];rfl
def aaq(g:ae (ae Int))(bT:ae Bool):∀k,(nX g bT k).1.length=g.length/\(nX g bT k).2<=k/\∀p∈(nX g bT k).1,0<=p/\p<=(nX g bT k).2
 |0=>by
  refine⟨by simp[nX],by simp[nX],λp hp=>?_⟩;simp[nX]at hp⊢;omega
 |k+1=>by
  obtain⟨h1,h2,h3⟩:=aaq g bT k;rw[TR,Kb];split
  .refine⟨by rw[aap];exact h1,tf,?_⟩;have:∀(ns part:ae Int) (m:Nat),(∀p∈part,0<=p/\p<=m)->∀p∈Eu part ns m,0<=p/\p<=m:=by
    intro ns;induction ns with
    |nil=>intro part m h;exact h
    |cons n ns ih=>
     intro part m h;refine ih _ m λp hp=>?_
     grind
   exact this _ _ _ (by grind)
  grind
end Gph
namespace Gph
def OU(bT:ae Bool)(k:Nat):Nat:=((List.range k).filter λi=>fT bT (i:Nat)).length
end Gph
namespace Gph
variable {g:ae (ae Int)} {bT:ae Bool}
def aar:∀(ns part:ae Int) (m:Int) (n:Nat),(∀x∈ns,0<=x/\x<part.length)->(Eu part ns m).getD n 0=if(n:Int)∈ns then m else part.getD n 0
 |[],part,m,n,_=>by simp[Eu]
 |a::ns,part,m,n,h=>by
  have ha:=h a tg;have h2:=aar ns (part.set a.toNat m) m n (by grind);show(Eu (part.set a.toNat m) ns m).getD n 0=_
  grind
def TS(g:ae (ae Int))(bT:ae Bool)(k n:Nat):Prop:=∃j,j<k/\fT bT j=true/\mM g bT j n
def aas(hg:∀l∈g,∀n∈l,Rg g n):∀k,k<=g.length->∀n:Nat,n<g.length->(0<(nX g bT k).1.getD n 0↔TS g bT k n)
 |0,_,n,hn=>by
  constructor
  .intro h;simp[nX,hn]at h
  .rintro⟨j,hj,_⟩;omega
 |k+1,hk,n,hn=>by
  have ih:=aas hg k tf;have hlen:=(aaq g bT k).1;have hkr:Rg g k:=⟨tf,tf⟩
  rw[TR,Kb];by_cases hc:fT bT k=true/\(nX g bT k).1.getD k 0<=0
  .rw[if_pos hc];rw[aar _ _ _ _ (λx hx=>by rw[hlen];exact al8 hg hkr x hx)];by_cases hr:(n:Int)∈OQ g bT k
   .rw[if_pos hr];have:=(TQ hg hkr n).1 hr;exact⟨λ_=>⟨k,tf,hc.1,this⟩,λ_=>by omega⟩
   .rw[if_neg hr,ih n hn];rw[TQ hg hkr]at hr;constructor
    .rintro⟨j,h1,h2,h3⟩;exact qu
    .rintro⟨j,h1,h2,h3⟩;by_cases e:j=k
     .subst e;exact absurd h3 hr
     .exact qu
  .rw[if_neg hc,ih n hn];constructor
   .rintro⟨j,h1,h2,h3⟩;exact qu
   .rintro⟨j,h1,h2,h3⟩;by_cases e:j=k
    .subst e;have:0<(nX g bT j).1.getD j 0:=by
      grind
     obtain⟨i,q1,q2,q3⟩:=(ih j tf).1 this;exact⟨i,q1,q2,q3.trans h3⟩
    .exact qu
open Classical in
noncomputable def cnt(g:ae (ae Int))(bT:ae Bool):Nat->Nat
 |0=>0
 |k+1=>cnt g bT k+if fT bT k=true/\¬TS g bT k k then 1 else 0
def TT(hg:∀l∈g,∀n∈l,Rg g n):∀k,k<=g.length->(nX g bT k).2=cnt g bT k
 |0,_=>by simp[nX,cnt]
 |k+1,hk=>by
  have ih:=TT hg k tf;have hs:=aas (bT:=bT) hg k tf k tf;rw[TR,Kb,cnt]
  grind
def oz(g:ae (ae Int)):Prop:=∀(i:Nat) l,g[i]? =some l->∀n∈l,Rg g n/\∀l',g[n.toNat]? =some l'->(i:Int)∈l'
def oz.rg(h:oz g):∀l∈g,∀n∈l,Rg g n:=λl hl n hn=>by
 obtain⟨i,hi⟩:=iI hl;exact(h i l hi n hn).1
def mM.rg(h:oz g){a b:Int}(ha:Rg g a)(r:mM g bT a b):Rg g b:=by
 cases r with
 |refl=>exact ha
 |step _ hl hn _=>exact h.rg _ (aU hl) _ hn
def mM.symm(h:oz g){a b:Int}(ha:Rg g a)(hi:fT bT a=true)(r:mM g bT a b):mM g bT b a:=by
 induction r with
 |refl=>exact .refl
 |step r0 hl hn hin ih=>
  rename_i i n l;have hri:=mM.rg h ha r0;have ama:fT bT i=true:=by
   cases r0 with
   |refl=>exact hi
   |step _ _ _ q=>exact q
  obtain⟨q1,q2⟩:=h i.toNat l hl n hn;have:=q2 _ (iR q1);have hc:(i.toNat:Int)=i:=by unfold Rg at hri;omega
  rw[hc]at this;exact(mM.step .refl (iR q1) this ama).trans ih
def amb(h:oz g){f:Nat}(hf:f<g.length)(hin:fT bT f=true)(Ce:∀j,j<f->fT bT (j:Nat)=false):
 cnt g bT g.length=1↔∀i:Nat,i<g.length->fT bT i=true->mM g bT f i:=by
 have base:∀k,k<=f->cnt g bT k=0:=by
  intro k;induction k with
  |zero=>intro _;rfl
  |succ k ih=>
   intro hk;rw[cnt,ih tf,if_neg (λq=>by rw[Ce k tf]at q;cases q.1)]
 have vz:cnt g bT (f+1)=1:=by
  rw[cnt,base f (bI _),if_pos ⟨hin,λ⟨j,h1,h2,_⟩=>by rw[Ce j h1]at h2;cases h2⟩]
 have mono:∀k d,cnt g bT k<=cnt g bT (k+d):=by
  intro k d;induction d with
  |zero=>exact bI _
  |succ d ih=>rw[<- oq,cnt];omega
 constructor
 .intro h1 i;induction i using Nat.strongRecOn with
  |_ i ih=>
   intro hi hii;by_cases e:i=f
   .subst e;exact .refl
   have hfi:f<i:=by
    apply Classical.byContradiction;intro hno;rw[Ce i tf]at hii;cases hii
   have ho:TS g bT i i:=by
    apply Classical.byContradiction;intro hno;have e1:cnt g bT (i+1)=cnt g bT i+1:=by rw[cnt,if_pos ⟨hii,hno⟩]
    have e2:=mono (f+1) (i - (f+1));have e3:=mono (i+1) (g.length - (i+1));rw[show f+1+(i - (f+1))=i by omega]at e2;rw[show i+1+(g.length - (i+1))=g.length by omega]at e3;omega
   obtain⟨j,q1,q2,q3⟩:=ho;exact(ih j q1 tf q2).trans q3
 .intro hall;have:∀d,f+1+d<=g.length->cnt g bT (f+1+d)=1:=by
   intro d;induction d with
   |zero=>intro _;exact vz
   |succ d ih=>
    intro hd;rw[<- oq,cnt,ih tf,if_neg (λq=>q.2 ⟨f,tf,hin,hall _ tf q.1⟩)]
  have:=this (g.length - (f+1)) tf
  rwa [show f+1+(g.length - (f+1))=g.length by omega]at this
end Gph
namespace Gph
structure Kc where
 kind:Int
 cells:List Int
 set:Int
 other:Int
 lo:Int
 hi:Int
 runs:List Int
 rule:Int
 at_:Int
structure TU where
 cells:Int
 symbols:Int
 values:List Int
 aR:List (List Int)
 cons:List Kc
structure TV(cells symbols:Int)(c:Kc):Prop where
 cell:∀(i:Nat) x,c.cells[i]? =some x->0<=x/\x<cells/\(8<=c.kind->x=i)
 nd:c.cells.Nodup
 kind:1<=c.kind/\c.kind<=9
 two:c.kind=6\/c.kind=7->c.cells.length=2
 all:8<=c.kind->(c.cells.length:Int)=cells
 set:0<=c.set/\c.set<(2^symbols.toNat:Nat)
 other:0<=c.other/\c.other<(2^symbols.toNat:Nat)
 lo:0<=c.lo/\c.lo<=65536
 hi:0<=c.hi/\c.hi<=65536
 aws:c.runs.length<=8
 runs:∀x∈c.runs,1<=x/\x<=256
def TV.len{cells symbols:Int}{c:Kc}(h:TV cells symbols c):(c.cells.length:Int)<=cells\/c.cells=[]:=by
 by_cases hn:c.cells=[]
 .exact .inr hn
 have hb:∀x∈c.cells,0<=x/\x<cells:=λx hx=>by
  obtain⟨i,hi⟩:=iI hx;have:=h.cell i x hi;exact⟨this.1,this.2.1⟩
 have:∀(m:Nat) (l:ae Int),l.Nodup->(∀x∈l,0<=x/\x<m)->l.length<=m:=by
  intro m;induction m with
  |zero=>
   intro l _ hl;cases l with
   |nil=>simp
   |cons a l=>have:=hl a tg;omega
  |succ m ih=>
   intro l hd hl;by_cases hm:(m:Int)∈l
   .have h1:=afR hm
    grind
   grind
 have h0:0<=cells:=by
  obtain⟨a,ha⟩:=List.exists_mem_of_ne_nil _ hn;have:=hb a ha;omega
 have:=this cells.toNat c.cells h.nd (by grind);omega
end Gph
namespace Kd
open Go Go.Ideal
structure oz where
 name:ByteArray
 value:Int
 deriving DecidableEq
structure pu where
 name:ByteArray
 lists:List (List Int)
 deriving DecidableEq
structure iT where
 name:ByteArray
 on:ByteArray
 family:Int
 type:Int
 lo:Int
 hi:Int
 deriving DecidableEq
structure bE where
 name:ByteArray
 on:ByteArray
 kind:Int
 family:Int
 names:List ByteArray
 others:List ByteArray
 set:Int
 other:Int
 op:Int
 n:Int
 dm:ByteArray
 aS:Int
 deriving DecidableEq
structure bK where
 name:ByteArray
 version:Int
 shape:Int
 w:Int
 h:Int
 holes:List Int
 symbols:List oz
 regions:List pu
 aQ:List iT
 rules:List bE
 deriving DecidableEq
structure bA where
 shape:Int
 w:Int
 h:Int
 holes:List Int
 cells:List Int
 deriving DecidableEq
structure aZ where
 decl:bK
 grid:bA
 aR:List (List Int)
 lists:List (List (List Int))
 deriving DecidableEq
def fG:Enc oz:=⟨2,Unit,λx _=>[.string x.name,.int .i64 x.value],λ_ _=>[],λ_ _=>rfl⟩
def fw:Enc pu:=⟨2,ah,λx v=>[.string x.name,v],λx v=>[aj (ay ai) v x.lists],λ_ _=>rfl⟩
def bZ:Enc iT:=⟨6,Unit,λx _=>[.string x.name,.string x.on,.int .i64 x.family,.int .i64 x.type,.int .i64 x.lo,.int .i64 x.hi],λ_ _=>[],λ_ _=>rfl⟩
abbrev mg(x:bE)(v1 v2:ah):ae ah:=[.string x.name,.string x.on,.int .i64 x.kind,.int .i64 x.family,v1,v2,.int .i64 x.set,.int .i64 x.other,.int .i64 x.op,.int .i64 x.n,.string x.dm,.int .i64 x.aS]
def bi:Enc bE:=⟨12,ah×ah,λx v=>mg x v.1 v.2,λx v=>[aj aX v.1 x.names,aj aX v.2 x.others],λ_ _=>rfl⟩
abbrev iD(d:bK)(vh vs vr vc vu:ah):ae ah:=[.string d.name,.int .i64 d.version,.int .i64 d.shape,.int .i64 d.w,.int .i64 d.h,vh,vs,vr,vc,vu]
abbrev nK(d:bK)(vh vs vr vc vu:ah):ae aM:=[aj ai vh d.holes,aj fG vs d.symbols,aj fw vr d.regions,aj bZ vc d.aQ,aj bi vu d.rules]
def eD(s:ByteArray):ae ByteArray->Nat
 |[]=>0
 |a::l=>if s=a then 0 else eD s l+1
def AJ{s:ByteArray}:∀{l:ae ByteArray},s∈l->eD s l<l.length
 |[],h=>by cases h
 |a::l,h=>by
  unfold eD;split
  .simp
  .rename_i hne;have:=AJ ((dB.1 h).resolve_left hne);simp;omega
def gq(names:ae ByteArray)(start:Nat):ae (ByteArray×ah):=names.zipIdx.map λp=>(p.1,.int .i64 ((start+p.2:Nat):Int))
def TW(a b:ae ByteArray)(start:Nat):gq (a++b) start=gq a start++gq b (start+a.length):=by
 unfold gq;rw[WC,ek];congr 1;rw[show b.zipIdx (0+a.length)=(b.zipIdx 0).map (λp=>(p.1,p.2+a.length))by
  rw[List.zipIdx_eq_map_add]
  grind]
 rw[sj];apply yS
 grind
def wS(names:ae ByteArray)(start:Nat):(gq names start).map (·.1)=names:=by
 unfold gq;rw[sj];have:((λp:ByteArray×ah=>p.1)∘λp:ByteArray×Nat=>(p.1,Value.int .i64 ((start+p.2:Nat))))=Prod.fst:=rfl;rw[this,List.zipIdx_map_fst]
variable{α:Type}
def AL{β:Type}[DecidableEq α](a b:α)(v:β)(l:ae (α×β)):dG a ((b,v)::l)=if a=b then some v else dG a l:=rfl
def vH{α β:Type}[DecidableEq α]{a:α}:∀{l:ae (α×β)},a∉l.map (·.1)->dG a l=none
 |[],_=>rfl
 |(b,v)::l,h=>by
  unfold dG;rw[if_neg (by grind),vH (by grind)]
def Ke{α β:Type}[DecidableEq α]{a:α}:∀{l:ae (α×β)},a∈l.map (·.1)->∃v,dG a l=some v
 |[],h=>by cases h
 |(b,v)::l,h=>by
  unfold dG;by_cases e:a=b
  .exact⟨v,by rw[if_pos e]⟩
  .obtain⟨u,hu⟩:=Ke ((dB.1 h).resolve_left e);exact⟨u,by rw[if_neg e,hu]⟩
def AO{s:ByteArray}:∀{names:ae ByteArray} {start:Nat},s∈names->dG s (gq names start)=some (.int .i64 ((start+eD s names:Nat):Int))
 |[],start,h=>by cases h
 |a::l,start,h=>by
  have e:gq (a::l) start=(a,.int .i64 (start:Int))::gq l (start+1):=by
   have:=TW [a] l start;simpa[gq]using this
  rw[e];unfold dG eD;by_cases hs:s=a
  .grind
  .rw[if_neg hs,if_neg hs,AO (by grind),show start+1+eD s l=start+(eD s l+1)by omega]
def GJ{α β:Type}[DecidableEq α]{a:α}{v:β}:∀{l:ae (α×β)},a∉l.map (·.1)->upd a v l=l++[(a,v)]
 |[],_=>rfl
 |(b,u)::l,h=>by
  unfold upd;rw[if_neg (by grind),GJ (by grind)];rfl
def jB:ae ByteArray:=[⟨⟨[99,101,108,108,115]⟩⟩,⟨⟨[114,111,119,115]⟩⟩,⟨⟨[99,111,108,117,109,110,115]⟩⟩,⟨⟨[100,105,97,103,111,110,97,108,115]⟩⟩,⟨⟨[97,114,111,117,110,100]⟩⟩,⟨⟨[110,101,97,114]⟩⟩,⟨⟨[112,97,105,114,115]⟩⟩,⟨⟨[97,108,108]⟩⟩]
def bX(d:bK):ae ByteArray:=d.symbols.map (·.name)
def cO(d:bK):ae ByteArray:=jB++d.regions.map (·.name)
def dN(d:bK):ae ByteArray:=d.aQ.map (·.name)
def pz(d:bK):ae ByteArray:=d.rules.map (·.name)
def gY(dK l:ae ByteArray):Nat:=l.foldl (λm s=>m|||1<<<eD s dK) 0
def mO(jL:ae ByteArray)(c:iT):iT:={c with family:=(eD c.on jL:Int)}
def nL(dK jL jS:ae ByteArray)(r:bE):bE:=
 {r with family:=if r.on=⟨⟨[]⟩⟩then 0 else(eD r.on jL:Int),aS:=if r.dm=⟨⟨[]⟩⟩then -1 else(eD r.dm jS:Int),set:=(gY dK r.names:Int),other:=(gY dK r.others:Int)}
def bO(d:bK):bK:={d with aQ:=d.aQ.map (mO (cO d)),rules:=d.rules.map (nL (bX d) (cO d) (dN d))}
structure Ew(dK jL jS:List ByteArray)(r:bE):Prop where
 on:r.on=⟨⟨[]⟩⟩\/r.on∈jL
 names:∀s∈r.names,s∈dK
 others:∀s∈r.others,s∈dK
 dm:r.dm=⟨⟨[]⟩⟩\/r.dm∈jS
structure GK(d:bK):Prop where
 dK:d.symbols.length<=16
 TY:(bX d).Nodup
 TZ:(cO d).Nodup
 T9:(dN d).Nodup
 OV:∀c∈d.aQ,c.on∈cO d
 Ua:(pz d).Nodup
 pE:∀r∈d.rules,Ew (bX d) (cO d) (dN d) r
def kE{α:Type}(f:α->α)(k:Nat)(xs:ae α):ae α:=(xs.take k).map f++xs.drop k
def aat(f:α->α)(xs:ae α):kE f xs.length xs=xs.map f:=by simp[kE]
def Cx(f:α->α)(k:Nat)(xs:ae α):(kE f k xs).length=xs.length:=by simp[kE];omega
def aau(f:α->α){k:Nat}{xs:ae α}(hk:k<xs.length):(kE f k xs)[k]? =xs[k]?:=by
 unfold kE
 grind
def aav(f:α->α){k:Nat}{xs:ae α}{x:α}(hx:xs[k]? =some x):(kE f k xs).set k (f x)=kE f (k+1) xs:=by
 have hk:=(bJ.1 hx).1;unfold kE;rw[Dr _ _ tx,bC,gM,MX tf];have hd:xs.drop k=x::xs.drop (k+1):=by
  rw[qp hk];congr 1;rw[bY hk]at hx;exact Option.some.inj hx
 rw[hd,qw,hx];simp
end Kd
namespace Kd
open Go Go.Ideal
structure qZ(s w h:Int)(holes:List Int):Prop where
 sh:s=1\/s=2
 wi:1<=w/\w<=16
 he:1<=h/\h<=16
 len:(holes.length:Int)<w*h
 inc:holes.Pairwise (·<·)
 mem:∀x∈holes,0<=x/\x<w*h
def iM(n:Nat)(holes:ae Int):ae Int:=((List.range n).map λi:Nat=>(i:Int)).filter λi=>!decide (i∈holes)
def OW(n:Nat)(holes:ae Int):iM (n+1) holes=iM n holes++if(n:Int)∈holes then[]else[(n:Int)]:=by
 unfold iM;rw[Dv,ek]
 grind
def GL(n:Nat)(holes:ae Int):(iM n holes).length<=n:=by
 unfold iM
 grind
variable{n:Nat}{x:Int}
def aaw{holes:ae Int}(h:x∈iM n holes):0<=x/\x<n/\x∉holes:=by
 unfold iM at h
 grind
def OX(n:Nat)(holes:ae Int):(iM n holes).Pairwise (·<·):=by
 refine List.Pairwise.filter _ ?_;exact kj
def pF(w h:Int)(holes:ae Int):ae Int:=iM (w*h).toNat holes
def zB{w h:Int}(hw:1<=w/\w<=16)(hh:1<=h/\h<=16):1<=w*h/\w*h<=256:=by
 have h1:=Int.mul_le_mul hw.1 hh.1 tf tf;have h2:=Int.mul_le_mul hw.2 hh.2 tf tf;omega
structure eF(g:bA):Prop where
 make:qZ g.shape g.w g.h g.holes
 cells:g.cells=pF g.w g.h g.holes
variable{g:bA}
def eF.cell(h:eF g):∀x∈g.cells,0<=x/\x<256:=by
 intro x hx;rw[h.cells]at hx;have h1:=aaw hx;have h2:=zB h.make.wi h.make.he;omega
def eF.len(h:eF g):g.cells.length<=256:=by
 rw[h.cells];have h1:=GL (g.w*g.h).toNat g.holes;have h2:=zB h.make.wi h.make.he;unfold pF;omega
def jY(g:bA)(pos:Int):Int×Int:=(if g.shape=2 then pos.tmod g.w - (pos.tdiv g.w).tdiv 2 else pos.tmod g.w,pos.tdiv g.w)
def bN(g:bA):ae (Int×(Int×Int)):=g.cells.zipIdx.map λp=>((p.2:Int),jY g p.1)
variable{k:Nat}
def AP(h:g.cells[k]? =some x):(bN g)[k]? =some ((k:Int),jY g x):=by
 unfold bN
 grind
def sS(g:bA):(bN g).length=g.cells.length:=by simp[bN]
def aax{a b:ae Int}(h:a.Perm b):cK a=cK b:=by
 have h1:(cK a).Perm (cK b):=(Bz a _).trans (h.trans (Bz b _).symm);have s1:(cK a).Pairwise (λx y=>x<=y):=by
  have:=WE (le:=λx y:Int=>decide (x<=y)) (by grind) (λa b=>by simp;omega) a;exact pT
 have s2:(cK b).Pairwise (λx y=>x<=y):=by
  have:=WE (le:=λx y:Int=>decide (x<=y)) (by grind) (λa b=>by simp;omega) b;exact pT
 generalize cK a=u at h1 s1;generalize cK b=v at h1 s2;induction u generalizing v with
 |nil=>exact(List.nil_perm.1 h1).symm▸rfl
 |cons x u ih=>
  cases v with
  |nil=>grind
  |cons y v=>
   have hxy:x=y:=by
    have hx:x∈y::v:=(by grind)
    have hy:y∈x::u:=(by grind)
    rcases dB.1 hx with e|hx
    .exact e
    rcases dB.1 hy with e|hy
    .exact e.symm
    have:=(wo.1 s1).1 y hy;have:=(wo.1 s2).1 x hx;omega
   grind
def fA:ae (Int×Int):=[(1,0),(-1,0),(0,1),(0, -1),(1, -1),(-1,1)]
def ed(g:bA):Nat:=if g.shape=1 then 4 else 6
def gu(xs:ae (Int×(Int×Int))):ae ((Int×Int)×ah):=xs.foldl (λm p=>upd p.2 (.int .i64 p.1) m) []
def Ub(xs:ae (Int×(Int×Int)))(p:Int×(Int×Int)):gu (xs++[p])=upd p.2 (.int .i64 p.1) (gu xs):=by
 unfold gu;rw[yU];rfl
def aay{xs:ae (Int×(Int×Int))}:∀a v,dG a (gu xs)=some v->∃c,v=.int .i64 c/\∃p∈xs,p.1=c:=by
 have hup:∀(m:ae ((Int×Int)×ah)) (b:Int×Int) (u:ah) (a:Int×Int) (v:ah),dG a (upd b u m)=some v->(a=b/\v=u)\/dG a m=some v:=by
  intro m;induction m with
  |nil=>
   intro b u a v h;have h:(if a=b then some u else none)=some v:=h
   grind
  |cons q m ih=>
   intro b u a v h;obtain⟨k,w⟩:=q;unfold upd at h;by_cases e:b=k
   .rw[if_pos e,AL]at h;by_cases e2:a=b
    .grind
    .rw[if_neg e2]at h;right;rw[AL,if_neg (by grind)];exact h
   .rw[if_neg e,AL]at h;by_cases e2:a=k
    .rw[if_pos e2]at h;right;rw[AL,if_pos e2];exact h
    .rw[if_neg e2]at h;rcases ih b u a v h with h|h
     .exact .inl h
     .right;rw[AL,if_neg e2];exact h
 have:∀(xs:ae (Int×(Int×Int))) (m:ae ((Int×Int)×ah)) a v,dG a (xs.foldl (λm p=>upd p.2 (.int .i64 p.1) m) m)=some v->(∃c,v=.int .i64 c/\∃p∈xs,p.1=c)\/dG a m=some v:=by
  intro xs;induction xs with
  |nil=>intro m a v h;exact .inr h
  |cons p xs ih=>
   grind
 intro a v h;rcases this xs [] a v h with h|h
 .exact h
 .cases h
def numOf:ak ah->ak Int
 |some (.int .i64 n)=>some n
 |_=>none
def iH(m:ae ((Int×Int)×ah))(s:Int×Int)(ds:ae (Int×Int)):ae Int:=ds.filterMap λd=>numOf (dG (s.1+d.1,s.2+d.2) m)
def amc(m:ae ((Int×Int)×ah))(s:Int×Int)(ds:ae (Int×Int))(d:Int×Int):iH m s (ds++[d])=iH m s ds++(numOf (dG (s.1+d.1,s.2+d.2) m)).toList:=by
 unfold iH
 grind
def OY(m:ae ((Int×Int)×ah))(s:Int×Int)(ds:ae (Int×Int)):(iH m s ds).length<=ds.length:=WG _ _
def oC(g:bA)(p:Int×(Int×Int)):ae Int:=cK (iH (gu (bN g)) p.2 (fA.take (ed g)))
def bR(g:bA):ae (ae Int):=(bN g).map (oC g)
def OZ(h:eF g):∀p∈bN g,(0<=p.1/\p.1<256)/\(-256<=p.2.1/\p.2.1<256)/\(0<=p.2.2/\p.2.2<256):=by
 intro p hp;obtain⟨k,hk⟩:=xG.1 hp;have hkl:=(bJ.1 hk).1;rw[sS]at hkl;have hx:=bY hkl;rw[AP hx]at hk;cases hk;have hb:=h.cell _ (aU hx);have hl:=h.len;generalize g.cells[k]=x at hb;have hw:=h.make.wi;have hq:0<=x.tdiv g.w/\x.tdiv g.w<=x:=by
  rw[su hb.1];exact⟨Dw hb.1 tf,Int.ediv_le_self _ hb.1⟩
 have hr:0<=x.tmod g.w/\x.tmod g.w<=x:=by
  rw[BA hb.1];refine⟨Q3 _ tf,?_⟩;have:=MZ x g.w;have h3:0<=g.w*(x/g.w):=Int.mul_nonneg tf (Dw hb.1 tf);omega
 have hq2:0<=(x.tdiv g.w).tdiv 2/\(x.tdiv g.w).tdiv 2<=x.tdiv g.w:=by
  rw[su hq.1];omega
 unfold jY;dsimp only;refine⟨tf,?_,tf⟩;split<;>omega
def uC:Enc (Int×Int):=⟨2,Unit,λx _=>[.int .i64 x.1,.int .i64 x.2],λ_ _=>[],λ_ _=>rfl⟩
abbrev GM:ae ah:=[.int .i64 1,.int .i64 0,.int .i64 (-1),.int .i64 0,.int .i64 0,.int .i64 1,.int .i64 0,.int .i64 (-1),.int .i64 1,.int .i64 (-1),.int .i64 (-1),.int .i64 1]
variable{b m:Nat}
def amd{w:Wd}(h:(dO b 0 GM).p w)(hm:m<=6):(aj uC (.slice (some ⟨b,0,some 0⟩) m 6) (fA.take m)).p w:=by
 obtain⟨cells,h1,h2⟩:=h;have hl:(fA.take m).length=m:=by rw[gM];show min m 6=m;omega
 refine .inr ⟨b,0,0,6,cells,(by grind),h1,λk x hk=>⟨(),λj u hj=>?_,λf hf=>by cases hf⟩⟩;have:=h2 (k*2+j) u (zu (E:=uC) (aD:=fA.map λd=>(d,())) (p:=(x,())) (by grind) hj);show cells[0+k*2+j]? =_
 grind
def ame:∀d∈fA,(-1<=d.1/\d.1<=1)/\(-1<=d.2/\d.2<=1):=tr
def amf{j:Nat}{d:Int×Int}(h:fA[j]? =some d):jW (kP GM (j*2)) 2=some [.int .i64 d.1,.int .i64 d.2]:=by
 have hj:=(bJ.1 h).1;match j,hj with
 |0,_=>cases h;rfl
 |1,_=>cases h;rfl
 |2,_=>cases h;rfl
 |3,_=>cases h;rfl
 |4,_=>cases h;rfl
 |5,_=>cases h;rfl
variable{α:Type}
def bU{xs:ae α}{x:α}(h:xs[k]? =some x):xs.take (k+1)=xs.take k++[x]:=by
 rw[qw,h];rfl
def Ex(g:bA):ed g<=6:=by unfold ed;split<;>omega
def amg{P:Program}{ρ:az->ah}{x hi:az}{size:Nat}(hx:ρ x=.pointer (some ⟨b,0,none⟩))(hh:ρ hi=.int .i64 (m:Int))(hm:m<=n):Pu P ρ (.Q9 n size x none (some hi) none) (.slice (some ⟨b,0,some 0⟩) m n):=λh=>by
 have hb:bounds? n n none (some (.int .i64 m)) none=some (0,m,n):=by
  show(match upTo n (.int .i64 m)with|none=>none|some hh=>_)=_;have:upTo n (.int .i64 m)=some m:=by
   show cond (Nat.ble m n) (some m) none=_;have:Nat.ble m n=true:=by rw[tN];exact hm
   rw[this];rfl
  rw[this]
 simp only[aK.run,hx,jw,hh,hb];rw[show Nat.mul 0 size=0 from Fv _];rfl
def AQ{p:Int×(Int×Int)}(h:(bN g)[k]? =some p):p.1=(k:Int):=by
 have hk:=(bJ.1 h).1;rw[sS]at hk;rw[AP (bY hk)]at h;cases h;rfl
def O0{vs rest:ae (Int×(Int×Int))}{x:Int×(Int×Int)}(h:vs++x::rest=bN g):x.1=(vs.length:Int)/\vs.length<g.cells.length/\x∈bN g:=by
 have h1:(bN g)[vs.length]? =some x:=by rw[<- h];simp
 refine⟨AQ h1,?_,aU h1⟩;have:=(bJ.1 h1).1
 rwa [sS]at this
def aaz{A:ae (ae Int)}(h:A.length<n)(y:ae Int):(A++List.replicate (n - A.length) []).set A.length y=(A++[y])++List.replicate (n - (A.length+1)) []:=by
 rw[Dr _ _ (bI _),show n - A.length=(n - (A.length+1))+1 by omega,yT];simp
def amh{ws:ae α}{v:α}(h:ws[k]? =some v):ws.set k v=ws:=by
 apply jr
 grind
def yA(g:bA):(bR g).length=g.cells.length:=by
 unfold bR;rw[bC,sS]
def ami(g:bA):(bN g).foldl (λ(xss:ae (ae Int)) (x:Int×(Int×Int))=>xss.set x.1.toNat (oC g x)) (List.replicate g.cells.length [])=bR g:=by
 have key:∀(rest vs:ae (Int×(Int×Int))),vs++rest=bN g->rest.foldl (λxss x=>xss.set x.1.toNat (oC g x)) (vs.map (oC g)++List.replicate (g.cells.length - vs.length) [])=bR g:=by
  intro rest;induction rest with
  |nil=>
   intro vs h;rw[iE]at h;rw[h,sS,tQ,List.replicate_zero,iE];rfl
  |cons x rest ih=>
   intro vs h;have h1:=O0 h;rw[xC,h1.1,jJ];have h2:=aaz (A:=vs.map (oC g)) (by rw[bC];exact h1.2.1) (oC g x);rw[bC]at h2;rw[h2];have h3:=ih (vs++[x]) (by rw[iO];exact h);rw[ek,fV]at h3;exact h3
 have:=key (bN g) [] rfl;exact this
end Kd
namespace Kd
open Go Go.Ideal
def AU{α β:Type}[DecidableEq α](a b:α)(v:β):∀m:ae (α×β),dG a (upd b v m)=if a=b then some v else dG a m
 |[]=>rfl
 |(k,w)::m=>by
  unfold upd;by_cases e:b=k
  .rw[if_pos e,AL,AL]
   grind
  .rw[if_neg e,AL,AL,AU a b v m]
   grind
def aaA{α β:Type}[DecidableEq α](b:α)(v:β):∀m:ae (α×β),(upd b v m).length<=m.length+1
 |[]=>bI _
 |(k,w)::m=>by
  unfold upd;by_cases e:b=k
  .grind
  .rw[if_neg e,uS,uS];have:=aaA b v m;omega
def zC(kf:Int×Int->Int×Bool)(m:ae (Int×ae Int))(p:Int×(Int×Int)):ae (Int×ae Int):=
 cond (kf p.2).2 (upd (kf p.2).1 ((dG (kf p.2).1 m).getD []++[p.1]) m) m
def kZ(kf:Int×Int->Int×Bool)(ps:ae (Int×(Int×Int))):ae (Int×ae Int):=ps.foldl (zC kf) []
def Kg(kf:Int×Int->Int×Bool)(ps:ae (Int×(Int×Int)))(p:Int×(Int×Int)):kZ kf (ps++[p])=zC kf (kZ kf ps) p:=by
 unfold kZ;rw[yU];rfl
def Uc(kf:Int×Int->Int×Bool)(n:Nat):∀ps:ae (Int×(Int×Int)),ps.length=n->(kZ kf ps).length<=ps.length/\∀a,((dG a (kZ kf ps)).getD []).length<=ps.length:=by
 induction n with
 |zero=>
  intro ps h;rw[lW.1 h];exact⟨bI _,λa=>bI _⟩
 |succ n ih=>
  intro ps h;obtain⟨qs,p,rfl⟩:∃qs p,ps=qs++[p]:=⟨ps.dropLast,ps.getLast tS,(Fy _).symm⟩
  have hq:qs.length=n:=tw
  rw[Kg,fV];unfold zC;cases (kf p.2).2 with
  |false=>grind
  |true=>
   refine⟨?_,λa=>?_⟩
   .have:=aaA (kf p.2).1 ((dG (kf p.2).1 (kZ kf qs)).getD []++[p.1]) (kZ kf qs)
    grind
   .show((dG a (upd _ _ _)).getD []).length<=_;rw[AU]
    grind
def jT(g:bA)(kf:Int×Int->Int×Bool):ae (ae Int):=(cK ((kZ kf (bN g)).map (·.1))).map λn=>(dG n (kZ kf (bN g))).getD []
variable{g:bA}
def O1(hg:eF g)(kf:Int×Int->Int×Bool):(jT g kf).length<=256/\∀l∈jT g kf,l.length<=256:=by
 have h:=Uc kf _ (bN g) rfl;have hl:=hg.len;rw[sS]at h;unfold jT;refine⟨?_,λl hl2=>?_⟩
 .have:(cK ((kZ kf (bN g)).map (·.1))).length=((kZ kf (bN g)).map (·.1)).length:=(Bz _ _).length_eq
  grind
 grind
def wT(acc:ae (ae Int))(l:ae Int):ae (ae Int):=if acc.head? =some l then acc else acc++[l]
def lQ(a b:ae (ae Int)):ae (ae Int):=b.foldl wT a
variable{l:ae Int}{k:Nat}
def aaB{a b:ae (ae Int)}(h:b[k]? =some l):lQ a (b.take (k+1))=wT (lQ a (b.take k)) l:=by
 unfold lQ;rw[bU h,yU];rfl
def Ud{a b:ae (ae Int)}{n:Nat}(ha:∀l∈a,l.length<=n)(hb:∀l∈b,l.length<=n):∀k,(lQ a (b.take k)).length<=a.length+k/\∀l∈lQ a (b.take k),l.length<=n
 |0=>⟨bI _,ha⟩
 |k+1=>by
  obtain⟨h1,h2⟩:=Ud ha hb k;cases h:b[k]? with
  |none=>
   have:b.take (k+1)=b.take k:=by rw[qw,h];simp
   grind
  |some l=>
   rw[aaB h];unfold wT
   grind
def mP(g:bA):ae (ae Int):=
 if g.shape=2 then jT g (λs=>(s.1+s.2,true))
 else if g.w=g.h then lQ (jT g (λs=>(0,decide (s.1=s.2)))) (jT g (λs=>(0,decide (s.1+s.2=g.w - 1))))
 else[]
variable{x:Int}
def yB:x∈cK l↔x∈l:=(Bz l _).mem_iff
def amj:∀a c:Int,Value.int .i64 a=Value.int .i64 c->a=c:=λa c h=>by injection h
def mh(n:Nat):ae (ae Int):=(List.range n).map λi:Nat=>[(i:Int)]
def aaC(k:Nat):mh (k+1)=mh k++[[(k:Int)]]:=by
 unfold mh;rw[Dv,ek];rfl
def O3(k:Nat):(mh k).length=k:=by unfold mh;simp
def upTo'(n:Nat):ae Int:=(List.range n).map λi:Nat=>(i:Int)
def vI(k:Nat):upTo' (k+1)=upTo' k++[(k:Int)]:=by
 unfold upTo';rw[Dv,ek];rfl
def jH(k:Nat):(upTo' k).length=k:=by unfold upTo';simp
def mQ(aR:ae (ae Int)):ae (ae Int):=aR.zipIdx.map λp=>cK (p.1++[(p.2:Int)])
variable{aR:ae (ae Int)}
def aaD(h:aR[k]? =some l):mQ (aR.take (k+1))=mQ (aR.take k)++[cK (l++[(k:Int)])]:=by
 have hk:=(bJ.1 h).1;unfold mQ;rw[bU h,WC,gM,MX tf];simp
def Ue(aR:ae (ae Int)):(mQ aR).length=aR.length:=by unfold mQ;simp
def ko(i:Nat)(l:ae Int):ae (ae Int):=(l.filter λj=>decide ((i:Int)<j)).map λj=>[(i:Int),j]
def aaE{i j:Nat}(h:l[j]? =some x):ko i (l.take (j+1))=ko i (l.take j)++if(i:Int)<x then[[(i:Int),x]]else[]:=by
 unfold ko;rw[bU h,Q0]
 grind
def Uf(i:Nat)(l:ae Int):(ko i l).length<=l.length:=by
 unfold ko;grind
def jk(aR:ae (ae Int)):ae (ae Int):=aR.zipIdx.flatMap λp=>ko p.2 p.1
def Ug(h:aR[k]? =some l):jk (aR.take (k+1))=jk (aR.take k)++ko k l:=by
 have hk:=(bJ.1 h).1;unfold jk;rw[bU h,WC,gM,MX tf];simp
def O4{aR:ae (ae Int)}(hn:∀l∈aR,l.length<=6):∀k,k<=aR.length->(jk (aR.take k)).length<=6*k
 |0,_=>by simp[jk]
 |k+1,hk=>by
  have h:aR[k]? =some aR[k]:=bY tf;have:=O4 hn k tf;have h2:=Uf k aR[k];have h3:=hn aR[k] (rY _);rw[Ug h,fV];omega
def Kh:∀l∈bR g,l.length<=6:=by
 intro l hl;obtain⟨p,_,rfl⟩:=dM.1 hl;unfold oC;exact fR
def dL(g:bA)(k:Int):ae (ae Int):=
 if k=0 then mh g.cells.length
 else if k=1 then jT g (λs=>(s.2,true))
 else if k=2 then jT g (λs=>(s.1,true))
 else if k=3 then mP g
 else if k=4 then bR g
 else if k=5 then mQ (bR g)
 else if k=6 then jk (bR g)
 else[upTo' g.cells.length]
end Kd
namespace Kd
open Go Go.Ideal
def zD(p:Int):ae Int->Nat
 |[]=>0
 |a::l=>if p=a then 0 else zD p l+1
def O5{p:Int}:∀{l:ae Int} {n:Nat},l.Pairwise (·<·)->l[n]? =some p->zD p l=n
 |[],n,_,h=>by simp at h
 |a::l,0,_,h=>by
  have h:a=p:=tw
  unfold zD;rw[if_pos h.symm]
 |a::l,n+1,hp,h=>by
  have h1:=(wo.1 hp).1 p (aU h);unfold zD;rw[if_neg tf,O5 (wo.1 hp).2 h]
def Uh{p:Int}:∀{l:ae Int},p∈l->zD p l<l.length
 |[],h=>by cases h
 |a::l,h=>by
  unfold zD;by_cases e:p=a
  .grind
  .rw[if_neg e,uS];have:=Uh (p:=p) (l:=l) (by grind);omega
def Cy(xs:ae Int):ae (Int×ah):=xs.foldl (λm c=>upd c (.bool true) m) []
def aaF(xs:ae Int)(c:Int):Cy (xs++[c])=upd c (.bool true) (Cy xs):=by
 unfold Cy;rw[yU];rfl
def amk(c:Int)(n:Nat):∀xs:ae Int,xs.length=n->dG c (Cy xs)=if c∈xs then some (.bool true)else none:=by
 induction n with
 |zero=>
  intro xs h;rw[lW.1 h];rfl
 |succ n ih=>
  intro xs h;obtain⟨ys,p,rfl⟩:∃ys p,xs=ys++[p]:=⟨xs.dropLast,xs.getLast tS,(Fy _).symm⟩
  rw[aaF,AU]
  grind
def aml(c:Int)(xs:ae Int):jX false (.bool false) c (Cy xs)=.bool (decide (c∈xs)):=by
 unfold jX;rw[amk c _ xs rfl]
 grind
def Ui:∀(m:Nat) (l:ae Int),l.Nodup->(∀x∈l,0<=x/\x<(m:Int))->l.length<=m:=by
 intro m;induction m with
 |zero=>
  intro l _ h;cases l with
  |nil=>exact bI _
  |cons x l=>have:=h x (fF ..);omega
 |succ m ih=>
  intro l hn h;have h1:=ih (l.erase m) (hn.erase _) (λx hx=>by
   have:=h x (List.mem_of_mem_erase hx);have hne:x≠m:=λe=>by subst e;exact(List.Nodup.mem_erase_iff hn).1 hx|>.1 rfl
   omega)
  rw[List.length_erase]at h1;split at h1<;>omega
structure Cz(g:bA)(ps:List Int):Prop where
 ne:ps≠[]
 mem:∀p∈ps,p∈g.cells
 nd:(ps.map λp=>(zD p g.cells:Int)).Nodup
structure wU(g:bA)(rs:List (List Int)):Prop where
 len:rs.length<=64
 all:∀ps∈rs,Cz g ps
def fH(g:bA)(ps:ae Int):ae Int:=ps.map λp=>(zD p g.cells:Int)
def eH(g:bA)(rs:ae (ae Int)):ae (ae Int):=rs.map (fH g)
def O6{g:bA}{ps:ae Int}(hm:∀p∈ps,p∈g.cells)(hn:(fH g ps).Nodup):ps.length<=g.cells.length:=by
 have:=Ui g.cells.length (fH g ps) hn (λx hx=>by
  obtain⟨p,hp,rfl⟩:=dM.1 hx;have:=Uh (hm p hp);omega)
 unfold fH at this
 rwa [bC]at this
end Kd
namespace Kd
open Go Go.Ideal
def yC(xs:ae Int):ae (Int×ah):=(xs.foldl (λs c=>(upd c (.int .i64 ((s.2.count c:Nat)+1)) s.1,s.2++[c])) (([]:ae (Int×ah)),([]:ae Int))).1
def amm(xs:ae Int):∀(m:ae (Int×ah)) (ys:ae Int),(xs.foldl (λs c=>(upd c (.int .i64 ((s.2.count c:Nat)+1)) s.1,s.2++[c])) (m,ys)).2=ys++xs:=by
 induction xs with
 |nil=>intro m ys;simp
 |cons x xs ih=>grind
def aaG(xs:ae Int)(c:Int):yC (xs++[c])=upd c (.int .i64 ((xs.count c:Nat)+1)) (yC xs):=by
 unfold yC;rw[yU,xC,List.foldl_nil];rw[amm,dP]
def amn(c:Int)(n:Nat):∀xs:ae Int,xs.length=n->dG c (yC xs)=if c∈xs then some (.int .i64 (xs.count c:Nat))else none:=by
 induction n with
 |zero=>
  intro xs h;rw[lW.1 h];rfl
 |succ n ih=>
  intro xs h;obtain⟨ys,p,rfl⟩:∃ys p,xs=ys++[p]:=⟨xs.dropLast,xs.getLast tS,(Fy _).symm⟩
  rw[aaG,AU]
  grind
def aaH(c:Int)(xs:ae Int):jX false (.int .i64 0) c (yC xs)=.int .i64 (xs.count c:Nat):=by
 unfold jX;rw[amn c _ xs rfl]
 grind
def aaI(c:Int)(xs:ae Int):xs.count c<=xs.length:=List.count_le_length ..
def aT(d:bK):bA:=⟨d.shape,d.w,d.h,d.holes,pF d.w d.h d.holes⟩
def mR(d:bK):ae (ae (ae Int)):=((List.range 8).map λf:Nat=>dL (aT d) (f:Int))++d.regions.map λr=>eH (aT d) r.lists
def lS(d:bK):aZ:=⟨d,aT d,bR (aT d),mR d⟩
end Kd
namespace Kd
open Go Go.Ideal Canon
def GN:ae Int->Int
 |[]=>0
 |a::l=>if a≠0 then a else GN l
def iU(a b:Clue):Int:=GN [eB a.aS b.aS,eB a.at_ b.at_]
def amo(a b:Clue):iU a b=eT eB [a.aS,a.at_] [b.aS,b.at_]:=by
 unfold iU;simp only[GN,eT]
variable{a b:Clue}
def AV:iU a b<0↔a.aS<b.aS\/(a.aS=b.aS/\a.at_<b.at_):=by
 exact r7
def Uj{c:Clue}(h1:iU a b<0)(h2:iU b c<0):iU a c<0:=by
 rw[AV]at *;omega
def wV(k:aZ)(g:Clue):Prop:=∃(c:iT) (l:ae (ae Int)),0<=g.aS/\k.decl.aQ[g.aS.toNat]? =some c/\k.lists[c.family.toNat]? =some l/\0<=g.at_/\g.at_<l.length/\
 ((c.type=1/\g.values.length=1/\∀x∈g.values,0<=x/\x<=(k.decl.symbols.length:Int) - 1)\/(c.type=2/\g.values.length=1/\∀x∈g.values,c.lo<=x/\x<=c.hi)\/
   (c.type≠1/\c.type≠2/\g.values.length<=8/\∀x∈g.values,1<=x/\x<=256))
structure uD(k:aZ)(p:List Clue):Prop where
 len:p.length<=512
 right:∀g∈p,wV k g
 sorted:∀(i:Nat) a b,p[i]? =some a->p[i+1]? =some b->iU a b<0
def aaJ(k:aZ):Prop:=∀c∈k.decl.aQ,0<=c.family/\c.family<k.lists.length
end Kd
namespace Kd
open Go Go.Ideal Canon
def Uk(k:aZ)(i:Int):Int:=match k.decl.aQ[i.toNat]? with|some c=>c.family|none=>0
def qa(k:aZ)(g:Clue):ae Int:=(k.lists.getD (Uk k g.aS).toNat []).getD g.at_.toNat []
def O7(k:aZ)(p:ae Clue)(r:bE):ae (ae Int×ae Int):=
 if r.aS<0 then(k.lists.getD r.family.toNat []).map λl=>(l,[r.n])else(p.filter λg=>decide (g.aS=r.aS)).map λg=>(qa k g,g.values)
def iR{α:Type}{l:ae α}{n:Nat}{x d:α}(h:l[n]? =some x):l.getD n d=x:=tR
def wV.cells{k:aZ}{g:Clue}(h:wV k g):∃(c:iT) (l:ae (ae Int)) (ps:ae Int),k.decl.aQ[g.aS.toNat]? =some c/\k.lists[c.family.toNat]? =some l/\l[g.at_.toNat]? =some ps/\0<=g.aS/\0<=g.at_/\g.at_<l.length/\qa k g=ps:=by
 obtain⟨c,l,h1,h2,h3,h4,h5,_⟩:=h;have h6:l[g.at_.toNat]? =some (l[g.at_.toNat]'(tf)):=bY _;refine⟨c,l,_,h2,h3,h6,h1,h4,h5,?_⟩;unfold qa Uk
 grind
end Kd
namespace Kd
open Go Go.Ideal Canon
def aV(grid:ae Int)(c:Int):Int:=grid.getD c.toNat 0
def mU{grid:ae Int}{n:Nat}{x:Int}(h:grid[n]? =some x):aV grid (n:Int)=x:=by exact iR h
end Kd
namespace Kd
open Go Go.Ideal
def GQ(n:Nat)(l:ae Int):Prop:=l.length<=4096/\∀c∈l,0<=c/\c<(n:Int)
variable{g:bA}
def O8:∀p∈bN g,0<=p.1/\p.1<(g.cells.length:Int):=by
 intro p hp;obtain⟨k,hk⟩:=xG.1 hp;have hkl:=(bJ.1 hk).1;rw[sS]at hkl;have:=AQ hk;omega
def amq(kf:Int×Int->Int×Bool)(n:Nat):∀ps:ae (Int×(Int×Int)),ps.length=n->∀a,∀c∈(dG a (kZ kf ps)).getD [],∃p∈ps,p.1=c:=by
 induction n with
 |zero=>
  intro ps h a c hc;rw[lW.1 h]at hc;cases hc
 |succ n ih=>
  intro ps h a c hc;obtain⟨qs,p,rfl⟩:∃qs p,ps=qs++[p]:=⟨ps.dropLast,ps.getLast tS,(Fy _).symm⟩
  have hq:qs.length=n:=tw
  have hih:∀a,∀c∈(dG a (kZ kf qs)).getD [],∃p'∈qs++[p],p'.1=c:=λa c hc=>by
   obtain⟨q,h1,h2⟩:=ih qs hq a c hc
   grind
  rw[Kg]at hc;unfold zC at hc;cases hb:(kf p.2).2 with
  |false=>
   grind
  |true=>
   rw[hb]at hc;have hc:c∈(dG a (upd (kf p.2).1 ((dG (kf p.2).1 (kZ kf qs)).getD []++[p.1]) (kZ kf qs))).getD []:=hc;rw[AU]at hc
   grind
def Ki(hg:eF g)(kf:Int×Int->Int×Bool):∀l∈jT g kf,GQ g.cells.length l:=by
 intro l hl;have hlen:=(O1 hg kf).2 l hl;refine⟨tf,λc hc=>?_⟩;obtain⟨n,_,rfl⟩:=dM.1 hl;obtain⟨p,hp,rfl⟩:=amq kf _ (bN g) rfl n c hc;exact O8 p hp
variable{l:ae Int}
def Ul{a b:ae (ae Int)}(h:l∈lQ a b):l∈a\/l∈b:=by
 induction b generalizing a with
 |nil=>exact .inl h
 |cons x b ih=>
  rcases ih h with h|h
  .unfold wT at h
   grind
  grind
def aaK{o:ak ah}{n:Int}(h:numOf o=some n):o=some (.int .i64 n):=by
 unfold numOf at h
 grind
def amr{p:Int×(Int×Int)}:GQ g.cells.length (oC g p):=by
 unfold oC;refine⟨?_,λc hc=>?_⟩
 .exact fR
 .rw[yB]at hc;obtain⟨d,_,hd⟩:=Ic.1 hc;obtain⟨c',h1,q,hq,h2⟩:=aay _ _ (aaK hd);injection h1 with _ h1;rw[h1,<- h2];exact O8 q hq
def Kj:∀l∈bR g,GQ g.cells.length l:=by
 intro l hl;obtain⟨p,_,rfl⟩:=dM.1 hl;exact amr
def ams(l:ae Int):(cK l).length=l.length:=(Bz l _).length_eq
def aaL(hg:eF g)(k:Int):∀l∈dL g k,GQ g.cells.length l:=by
 have hlen:=hg.len;have hnl:=yA g;have hnm:=Kh (g:=g);intro l hl;unfold dL at hl;split at hl
 .unfold mh at hl;obtain⟨i,hi,rfl⟩:=dM.1 hl;have:=r9.1 hi;exact⟨tg,λc hc=>by rw[bS.1 hc];omega⟩
 split at hl
 .exact Ki hg _ l hl
 split at hl
 .exact Ki hg _ l hl
 split at hl
 .unfold mP at hl;split at hl
  .exact Ki hg _ l hl
  split at hl
  .rcases Ul hl with hl|hl
   .exact Ki hg _ l hl
   .exact Ki hg _ l hl
  .cases hl
 split at hl
 .exact Kj l hl
 split at hl
 .unfold mQ at hl;obtain⟨⟨x,i⟩,hx,rfl⟩:=dM.1 hl;have hx:=BB.1 hx;have hxm:=aU hx;have hi:=(bJ.1 hx).1;have h6:=hnm x hxm;refine⟨by rw[ams];simp;omega,λc hc=>?_⟩;rw[yB]at hc;rcases eP.1 hc with hc|hc
  .exact(Kj x hxm).2 c hc
  .rw[bS.1 hc];dsimp only;omega
 split at hl
 .unfold jk at hl;obtain⟨⟨x,i⟩,hx,hl⟩:=List.mem_flatMap.1 hl;have hx:=BB.1 hx;have hxm:=aU hx;have hi:=(bJ.1 hx).1;unfold ko at hl;obtain⟨j,hj,rfl⟩:=dM.1 hl;have hj:=(tT.1 hj).1;refine⟨tg,λc hc=>?_⟩;simp only[dB,MV,or_false]at hc;rcases hc with rfl|rfl
  .omega
  .exact(Kj x hxm).2 _ hj
 .rw[bS.1 hl];refine⟨by rw[jH];omega,λc hc=>?_⟩;unfold upTo' at hc;obtain⟨i,hi,rfl⟩:=dM.1 hc;have:=r9.1 hi;omega
def aaM(hg:eF g){rs:ae (ae Int)}(hr:wU g rs):∀l∈eH g rs,GQ g.cells.length l:=by
 intro l hl;obtain⟨ps,hps,rfl⟩:=dM.1 hl;have hP:=hr.all ps hps;have h1:=O6 hP.mem hP.nd;have h2:=hg.len;refine⟨by unfold fH;rw[bC];omega,λc hc=>?_⟩;obtain⟨p,hp,rfl⟩:=dM.1 hc;have:=Uh (hP.mem p hp);omega
def amt{d:bK}(hg:eF (aT d))(hr:∀r∈d.regions,wU (aT d) r.lists):∀l∈mR d,∀ps∈l,GQ (aT d).cells.length ps:=by
 intro l hl ps hps;rcases eP.1 hl with hl|hl
 .obtain⟨f,_,rfl⟩:=dM.1 hl;exact aaL hg _ ps hps
 .obtain⟨r,hrm,rfl⟩:=dM.1 hl;exact aaM hg (hr r hrm) ps hps
def amu(hw:1<=g.w){x y:Int}(hx:0<=x)(hy:0<=y)(h:jY g x=jY g y):x=y:=by
 unfold jY at h;have h1:=congrArg Prod.fst h;have h2:=congrArg Prod.snd h;dsimp only at h1 h2;rw[su hx,su hy]at h2;rw[su hx,su hy,BA hx,BA hy,h2]at h1;have h3:x%g.w=y%g.w:=by
  split at h1<;>omega
 have e1:=MZ x g.w;have e2:=MZ y g.w;rw[h2]at e1;omega
def Kk(hg:eF g){p q:Int×(Int×Int)}(hp:p∈bN g)(hq:q∈bN g)(h:p.1=q.1\/p.2=q.2):p=q:=by
 obtain⟨k,hk⟩:=xG.1 hp;obtain⟨j,hj⟩:=xG.1 hq;have hkl:=(bJ.1 hk).1;have hjl:=(bJ.1 hj).1;rw[sS]at hkl hjl;rcases h with h|h
 .have h1:=AQ hk;have h2:=AQ hj;have:k=j:=by omega
  subst this;rw[hk]at hj;exact Option.some.inj hj
 .have hx:=bY hkl;have hy:=bY hjl;have hkk:=hk;have hjj:=hj;rw[AP hx]at hk;rw[AP hy]at hj;have hk:=Option.some.inj hk;have hj:=Option.some.inj hj;have hs:jY g g.cells[k]=jY g g.cells[j]:=by rw[<- hk,<- hj]at h;exact h
  have he:=amu (by have:=hg.make.wi;omega) (hg.cell _ (rY _)).1 (hg.cell _ (rY _)).1 hs;have nY:g.cells.Pairwise (·<·):=x7
  have hkj:k=j:=by
   apply Classical.byContradiction;intro hne;have:=xI.1 nY;rcases Nat.lt_or_gt_of_ne hne with hl|hl
   .have:=this k j hkl hjl hl;omega
   .have:=this j k hjl hkl hl;omega
  subst hkj;rw[hkk]at hjj;exact Option.some.inj hjj
def amv(n:Nat):∀xs:ae (Int×(Int×Int)),xs.length=n->(∀p∈xs,∀q∈xs,p.2=q.2->p=q)->∀p∈xs,dG p.2 (gu xs)=some (.int .i64 p.1):=by
 induction n with
 |zero=>grind
 |succ n ih=>
  intro xs h hi p hp;obtain⟨ys,q,rfl⟩:∃ys q,xs=ys++[q]:=⟨xs.dropLast,xs.getLast tS,(Fy _).symm⟩
  rw[Ub,AU];by_cases e:p.2=q.2
  .grind
  .rw[if_neg e];refine ih ys tw (λa ha b hb=>(by grind)) p ?_
   grind
def amw(n:Nat):∀xs:ae (Int×(Int×Int)),xs.length=n->∀a v,dG a (gu xs)=some v->∃p∈xs,p.2=a/\v=.int .i64 p.1:=by
 induction n with
 |zero=>
  intro xs h a v hv;rw[lW.1 h]at hv;cases hv
 |succ n ih=>
  intro xs h a v hv;obtain⟨ys,q,rfl⟩:∃ys q,xs=ys++[q]:=⟨xs.dropLast,xs.getLast tS,(Fy _).symm⟩
  rw[Ub,AU]at hv;by_cases e:a=q.2
  .grind
  .rw[if_neg e]at hv;obtain⟨p,h1,h2⟩:=ih ys tw a v hv
   grind
def O9(hg:eF g){s:Int×Int}{d:Int×Int}{n:Int}:numOf (dG (s.1+d.1,s.2+d.2) (gu (bN g)))=some n↔∃q∈bN g,q.2=(s.1+d.1,s.2+d.2)/\q.1=n:=by
 constructor
 .intro h;obtain⟨q,hq,h1,h2⟩:=amw _ (bN g) rfl _ _ (aaK h)
  grind
 .rintro⟨q,hq,h1,h2⟩;rw[<- h1,amv _ (bN g) rfl (λa ha b hb e=>Kk hg ha hb (.inr e)) q hq,<- h2];rfl
def Um(hg:eF g){p:Int×(Int×Int)}{n:Int}:n∈oC g p↔∃d∈fA.take (ed g),∃q∈bN g,q.2=(p.2.1+d.1,p.2.2+d.2)/\q.1=n:=by
 unfold oC;rw[yB];unfold iH;rw[Ic];constructor
 .rintro⟨d,hd,h⟩;exact⟨d,hd,(O9 hg).1 h⟩
 .rintro⟨d,hd,h⟩;exact⟨d,hd,(O9 hg).2 h⟩
def aaN(g:bA):ed g=4\/ed g=6:=by unfold ed;split<;>simp
variable{m:Nat}
def amx(hm:m=4\/m=6):∀d∈fA.take m,(-d.1, -d.2)∈fA.take m:=by
 rcases hm with rfl|rfl<;>decide
def amy:∀d∈fA.take m,¬(d.1=0/\d.2=0):=by
 intro d hd;have:∀d∈fA,¬(d.1=0/\d.2=0):=tr
 grind
def amz(hm:m=4\/m=6):(fA.take m).Nodup:=by
 rcases hm with rfl|rfl<;>decide
def Un(l:ae Int):(cK l).Pairwise (λx y=>x<=y):=by
 have:=WE (le:=λx y:Int=>decide (x<=y)) (by grind) (λa b=>by simp;omega) l;exact pT
def Pb(h:l.Nodup):(cK l).Pairwise (·<·):=by
 have h1:=Un l;have h2:(cK l).Nodup:=(Bz l _).symm.nodup h;have h3:=List.Pairwise.and h1 h2
 grind
def Uo(hg:eF g)(p:Int×(Int×Int)):(oC g p).Pairwise (·<·):=by
 refine Pb ?_;refine List.Pairwise.filterMap _ ?_ (amz (aaN g));intro d1 d2 hne b hb b' hb' e;subst e;obtain⟨q1,h1,h2,h3⟩:=(O9 hg).1 hb;obtain⟨q2,k1,k2,k3⟩:=(O9 hg).1 hb';have:=Kk hg h1 k1 (.inl (by rw[h3,k3]))
 grind
def aaO(hg:eF g)(i:Nat)(l:ae Int)(hl:(bR g)[i]? =some l)(k:Nat)(n:Int)(hn:l[k]? =some n):
 0<=n/\n<(bR g).length/\n≠i/\(∀m,0<k->l[k - 1]? =some m->m<n)/\∀l',(bR g)[n.toNat]? =some l'->(i:Int)∈l':=by
 have hnm:=yA g;unfold bR at hl;rw[dZ]at hl;obtain⟨p,hp,rfl⟩:=lq.1 hl;have hp1:=AQ hp;have hpm:=aU hp;obtain⟨d,hd,q,hq,hq2,hq1⟩:=(Um hg).1 (aU hn);have hqi:=O8 q hq;refine⟨tf,tf,λe=>?_,λm hk hm=>?_,λl' hl'=>?_⟩
 .have:=Kk hg hq hpm (.inl tf);subst this;have e1:=congrArg Prod.fst hq2;have e2:=congrArg Prod.snd hq2;exact amy d hd ⟨tf,tf⟩
 .have hlt:=Uo hg p;obtain⟨a1,a2⟩:=bJ.1 hm;obtain⟨b1,b2⟩:=bJ.1 hn;have:=xI.1 hlt (k - 1) k a1 b1 tf
  grind
 .unfold bR at hl';rw[dZ]at hl';obtain⟨q',hq',rfl⟩:=lq.1 hl';have h1:=AQ hq';have:=Kk hg (aU hq') hq (.inl tf);rw[Um hg];refine⟨(-d.1, -d.2),amx (aaN g) d hd,p,hpm,?_,hp1⟩
  grind
end Kd
namespace Kd
open Go Go.Ideal Canon Gph
def Ey(r:bE):Int:=if r.kind=6\/r.kind=7\/r.kind=8 then 6 else if r.kind=9\/r.kind=10 then 7 else if r.kind=11 then 0 else r.family
end Kd
namespace Kd
open Go Go.Ideal Canon Gph
def Pd(p:ae Clue)(c:Int)(at_:Int):ak (ae Int):=(p.find? λg=>decide (g.aS=c/\g.at_=at_)).map (·.values)
def Uq(p:ae Clue)(r:bE)(x:ae Int×Nat):ak (Nat×ae Int×ae Int):=if r.aS<0 then some (x.2,x.1,[])else(Pd p r.aS (x.2:Int)).map λv=>(x.2,x.1,v)
def Ur(p:ae Clue)(r:bE)(ls:ae (ae Int)):ae (Nat×ae Int×ae Int):=ls.zipIdx.filterMap (Uq p r)
end Kd
namespace Kd
open Go Go.Ideal Canon Gph
def amA(kf:Int×Int->Int×Bool)(n:Nat):∀ps:ae (Int×(Int×Int)),ps.length=n->∀a,((dG a (kZ kf ps)).getD []).Sublist (ps.map (·.1)):=by
 induction n with
 |zero=>
  intro ps h a;rw[lW.1 h];exact List.Sublist.refl _
 |succ n ih=>
  intro ps h a;obtain⟨qs,p,rfl⟩:∃qs p,ps=qs++[p]:=⟨ps.dropLast,ps.getLast tS,(Fy _).symm⟩
  have hq:qs.length=n:=tw
  rw[Kg];unfold zC;cases hb:(kf p.2).2 with
  |false=>grind
  |true=>
   show((dG a (upd (kf p.2).1 ((dG (kf p.2).1 (kZ kf qs)).getD []++[p.1]) (kZ kf qs))).getD []).Sublist _;rw[AU];by_cases e:a=(kf p.2).1
   .grind
   grind
variable{g:bA}
def amB:(bN g).map (·.1)=upTo' g.cells.length:=by
 apply jr;intro i;unfold upTo';rw[dZ,dZ];by_cases h:i<g.cells.length
 .rw[AP (bY h),yR h];rfl
 .rw[iJ ya,iJ (by rw[tV];omega)];rfl
def Kl(n:Nat):(upTo' n).Nodup:=by
 refine List.Pairwise.map _ (λa b h=>?_) List.nodup_range;intro e;apply h;omega
def aaP{n i:Nat}{x:Int}(h:(upTo' n)[i]? =some x):x=i:=by
 unfold upTo' at h
 grind
def Km(kf:Int×Int->Int×Bool):∀l∈jT g kf,l.Nodup:=by
 intro l hl;obtain⟨n,_,rfl⟩:=dM.1 hl;have:=amA kf _ (bN g) rfl n;rw[amB]at this;exact this.nodup (Kl _)
def Us(hg:eF g)(p:Int×(Int×Int)):(oC g p).Nodup:=(Uo hg p).imp (λh=>by omega)
variable{l:ae Int}
def aaQ(h:l.Nodup):(cK l).Nodup:=(Pb h).imp (λh=>by omega)
def aaR{aR:ae (ae Int)}(h:l∈jk aR):∃(i:Nat) (x:ae Int) (j:Int),aR[i]? =some x/\j∈x/\(i:Int)<j/\l=[(i:Int),j]:=by
 obtain⟨⟨x,i⟩,hx,hl⟩:=List.mem_flatMap.1 h;unfold ko at hl
 grind
def amC(hg:eF g)(k:Int):∀l∈dL g k,l.Nodup:=by
 intro l hl;unfold dL at hl;split at hl
 .unfold mh at hl;obtain⟨i,hi,rfl⟩:=dM.1 hl;simp
 split at hl
 .exact Km _ l hl
 split at hl
 .exact Km _ l hl
 split at hl
 .unfold mP at hl;split at hl
  .exact Km _ l hl
  split at hl
  .rcases Ul hl with hl|hl
   .exact Km _ l hl
   .exact Km _ l hl
  .cases hl
 split at hl
 .unfold bR at hl;obtain⟨p,_,rfl⟩:=dM.1 hl;exact Us hg p
 split at hl
 .unfold mQ at hl;obtain⟨⟨x,i⟩,hx,rfl⟩:=dM.1 hl;have hx:=BB.1 hx;have hxm:=aU hx;refine aaQ ?_;rw[jV];refine⟨?_,tg,λa ha b hb e=>?_⟩
  .unfold bR at hxm;obtain⟨p,_,rfl⟩:=dM.1 hxm;exact Us hg p
  .rw[bS.1 hb]at e;obtain⟨j,hj⟩:=iI ha;exact(aaO hg i x hx j a hj).2.2.1 e
 split at hl
 .obtain⟨i,x,j,h1,h2,h3,rfl⟩:=aaR hl;simp only[QZ,bS,MV,not_false_iff,xH,Dp];omega
 .rw[bS.1 hl];exact Kl _
def amD{d:bK}(hg:eF (aT d))(hr:∀r∈d.regions,wU (aT d) r.lists):∀l∈mR d,∀ps∈l,ps.Nodup:=by
 intro l hl ps hps;rcases eP.1 hl with hl|hl
 .obtain⟨f,_,rfl⟩:=dM.1 hl;exact amC hg _ ps hps
 .obtain⟨r,hrm,rfl⟩:=dM.1 hl;obtain⟨q,hq,rfl⟩:=dM.1 hps;exact((hr r hrm).all q hq).nd
end Kd
namespace Kd
open Go Go.Ideal Canon Gph
def Ut{k:aZ}{p:ae Clue}(h:uD k p):∀(d i:Nat) a b,p[i]? =some a->p[i+1+d]? =some b->iU a b<0
 |0,i,a,b,ha,hb=>h.sorted i a b ha hb
 |d+1,i,a,b,ha,hb=>by
  have hlt:=(bJ.1 hb).1;have hc:p[i+1+d]? =some (p[i+1+d]'(tf)):=bY _;exact Uj (Ut h d i a _ ha hc) (h.sorted (i+1+d) _ b hc hb)
variable{p:ae Clue}{k:aZ}
def aaS(h:uD k p){a b:Clue}(ha:a∈p)(hb:b∈p)(h1:a.aS=b.aS)(h2:a.at_=b.at_):a=b:=by
 obtain⟨i,hi⟩:=iI ha;obtain⟨j,hj⟩:=iI hb;rcases WH i j with hl|hl|hl
 .have:=AV.1 (Ut h (j - (i+1)) i a b hi (by grind));omega
 .grind
 .have:=AV.1 (Ut h (i - (j+1)) j b a hj (by grind));omega
def amE(h:uD k p){c a:Int}{v:ae Int}:Pd p c a=some v↔∃g∈p,g.aS=c/\g.at_=a/\g.values=v:=by
 unfold Pd;constructor
 .intro hf;obtain⟨g,hg,rfl⟩:=lq.1 hf;have h1':=List.find?_some hg;have h1:=iN h1';exact⟨g,WA hg,h1.1,h1.2,rfl⟩
 .rintro⟨g,hg,h1,h2,rfl⟩;cases hf:p.find? (λg=>decide (g.aS=c/\g.at_=a))with
  |none=>exact absurd (dQ ⟨h1,h2⟩) (List.find?_eq_none.1 hf g hg)
  |some g2=>
   have h3':=List.find?_some hf;have h3:=iN h3';rw[aaS h hg (WA hf) tf tf];rfl
def amF{r:bE}{ls:ae (ae Int)}{y:Nat×ae Int×ae Int}:y∈Ur p r ls↔ls[y.1]? =some y.2.1/\((r.aS<0/\y.2.2=[])\/(0<=r.aS/\Pd p r.aS (y.1:Int)=some y.2.2)):=by
 obtain⟨j,l,v⟩:=y;unfold Ur;rw[Ic];constructor
 .rintro⟨⟨x,i⟩,hx,h⟩;have hx:=BB.1 hx;unfold Uq at h;split at h
  .rename_i hc;cases h;exact⟨hx,.inl ⟨hc,rfl⟩⟩
  .obtain⟨w,hw,e⟩:=lq.1 h;cases e;exact⟨hx,.inr ⟨tf,hw⟩⟩
 .rintro⟨h1,h2⟩;refine⟨(l,j),BB.2 h1,?_⟩;unfold Uq;rcases h2 with⟨hc,e⟩|⟨hc,e⟩
  .rw[if_pos hc];dsimp only at e;rw[e]
  .rw[if_neg tf];rw[e];rfl
end Kd
namespace Kd
open Go Go.Ideal
def Pe:∀{l m:ae Int},l.Nodup->(∀x∈l,x∈m)->l.length<=m.length
 |[],m,_,_=>bH _
 |a::l,m,hd,hs=>by
  have ha:=hs a (fF ..);have:=Pe (m:=m.erase a) (QZ.1 hd).2 (by grind)
  grind
def aaT{g:bA}(hg:eF g):0<g.cells.length:=by
 apply Classical.byContradiction;intro h0;have he:g.cells=[]:=(by grind)
 rw[hg.cells]at he;have hlen:=hg.make.len;have:=Pe (Kl _) (λx hx=>by
  have:=List.filter_eq_nil_iff.1 he x hx;simpa using this)
 rw[jH]at this;omega
end Kd
namespace Kd
open Go Go.Ideal Canon Gph
def amG{g:bA}(hg:eF g)(k:Int):(dL g k).length<=2048:=by
 have hl:=hg.len;have hn:=yA g;have hL:=λkf=>O1 hg kf;unfold dL;split
 .unfold mh;rw[bC,tV];omega
 split
 .have:=(hL (λs=>(s.2,true))).1;omega
 split
 .have:=(hL (λs=>(s.1,true))).1;omega
 split
 .unfold mP;split
  .have:=(hL (λs=>(s.1+s.2,true))).1;omega
  split
  .have h1:=hL (λs=>(0,decide (s.1=s.2)));have h2:=hL (λs=>(0,decide (s.1+s.2=g.w - 1)));have:=(Ud h1.2 h2.2 (jT g (λs=>(0,decide (s.1+s.2=g.w - 1)))).length).1;rw[bP]at this;omega
  .simp
 split
 .omega
 split
 .unfold mQ;rw[bC,List.length_zipIdx];omega
 split
 .have:=O4 (aR:=bR g) Kh (bR g).length (bI _);rw[bP]at this;omega
 .simp
def Uu{d:bK}(hg:eF (aT d))(hr:∀r∈d.regions,wU (aT d) r.lists):∀l∈mR d,l.length<=2048:=by
 intro l hl;rcases eP.1 hl with hl|hl
 .obtain⟨f,_,rfl⟩:=dM.1 hl;exact amG hg _
 .obtain⟨r,hrm,rfl⟩:=dM.1 hl;have:=(hr r hrm).len;unfold eH;rw[bC];omega
end Kd
namespace Kd
open Canon
variable{b a:Clue}
def CB:iU a b=0↔a.aS=b.aS/\a.at_=b.at_:=by
 exact r7
def amH(a b:Clue):Aq a b=if iU a b≠0 then iU a b else eT eB a.values b.values:=by
 rw[ajm,<- amo]
def amI:Aq a b<0↔iU a b<0\/(iU a b=0/\eT eB a.values b.values<0):=by
 rw[amH];split<;>omega
structure mV(xs rs:List Clue):Prop where
 inc:rs.Pairwise λa b=>iU a b<0
 sub:∀r∈rs,r∈xs
 all:∀x∈xs,∃r∈rs,iU x r=0/\¬eT eB x.values r.values<0
variable{rs:ae Clue}
def amJ(h:rs.Pairwise λa b=>iU a b<0){a b:Clue}(ha:a∈rs)(hb:b∈rs)(he:iU a b=0):a=b:=by
 induction h with
 |nil=>cases ha
 |cons h1 _ ih=>
  rcases dB.1 ha with e1|ha'<;>rcases dB.1 hb with e2|hb'
  .rw[e1,e2]
  .grind
  .have:=h1 a ha';rw[<- e2]at this;rw[CB]at he;rw[AV]at this;omega
  .exact ih ha' hb'
variable{xs rs':ae Clue}
def mV.mem(h:mV xs rs)(h':mV xs rs'){r:Clue}(hr:r∈rs):r∈rs':=by
 obtain⟨r2,m2,p2,v2⟩:=h'.all r (h.sub r hr);obtain⟨r1,m1,p1,v1⟩:=h.all r2 (h'.sub r2 m2);have h3:iU r r1=0:=by rw[CB]at *;omega
 have:=amJ h.inc hr m1 h3;have hO:=x9 zk;have h4:eT eB r.values r2.values=0:=by
  have:=hO.neg r2.values r.values
  grind
 have h5:=(hO.zero _ _).1 h4;rw[CB]at p2;have:r=r2:=by cases r;simp_all
 rw[this];exact m2
def aaU:∀{a b:ae Clue},(a.Pairwise λx y=>iU x y<0)->(b.Pairwise λx y=>iU x y<0)->(∀x,x∈a↔x∈b)->a=b
 |[],[],_,_,_=>rfl
 |[],y::b,_,_,h=>absurd ((h y).2 (fF ..)) tg
 |x::a,[],_,_,h=>absurd ((h x).1 (fF ..)) tg
 |x::a,y::b,ha,hb,h=>by
  obtain⟨a1,a2⟩:=wo.1 ha;obtain⟨b1,b2⟩:=wo.1 hb;have hxy:x=y:=by
   rcases dB.1 ((h x).1 (fF ..))with e|e
   .exact e
   .rcases dB.1 ((h y).2 (fF ..))with e'|e'
    .exact e'.symm
    .have q1:=b1 x e;have q2:=a1 y e';rw[AV]at q1 q2;omega
  subst hxy;have irr:∀z:Clue,¬iU z z<0:=λz h=>by rw[AV]at h;omega
  rw[aaU a2 b2 λz=>⟨λhz=>?_,λhz=>?_⟩]
  .rcases dB.1 ((h z).1 (iw _ hz))with e|e
   .subst e;exact absurd (a1 z hz) (irr z)
   .exact e
  .rcases dB.1 ((h z).2 (iw _ hz))with e|e
   .subst e;exact absurd (b1 z hz) (irr z)
   .exact e
def mV.uniq(h:mV xs rs)(h':mV xs rs'):rs=rs':=aaU h.inc h'.inc λr=>⟨h.mem h',h'.mem h⟩
def mV.aaW{xs':ae Clue}(h:mV xs rs)(h1:∀x,x∈xs'↔x∈xs):mV xs' rs:=⟨h.inc,λr hr=>(h1 r).2 (h.sub r hr),λx hx=>h.all x ((h1 x).1 hx)⟩
def mV.self(h:mV xs rs):mV rs rs:=⟨h.inc,λ_ h=>h,λx hx=>⟨x,hx,by rw[CB];exact⟨rfl,rfl⟩,Cp⟩⟩
def opn(p:ae Clue)(x:Clue):Bool:=match p.getLast? with
 |none=>true
 |some y=>decide (0<iU x y)
variable{p:ae Clue}
def Uv{x:Clue}:opn (p++[b]) x=decide (0<iU x b):=by
 unfold opn
 grind
def Pf:0<iU a b↔iU b a<0:=by
 exact r7
structure Ez(l p:List Clue)(n:Nat):Prop where
 inc:p.Pairwise λa b=>iU a b<0
 sub:∀r∈p,r∈l
 done:∀x∈l,opn p x=false->∃r∈p,iU x r=0/\¬eT eB x.values r.values<0
 cnt:l.countP (opn p)+n<=l.length
def aaX{α:Type}{p q:α->Bool}:∀{l:ae α} {b:α},b∈l->p b=true->q b=false->(∀x,q x=true->p x=true)->l.countP q+1<=l.countP p
 |x::l,b,hb,h1,h2,h3=>by
  rcases dB.1 hb with rfl|hb
  .have:=List.countP_mono_left (l:=l) λx _=>h3 x
   grind
  .have:=aaX hb h1 h2 h3
   grind
def aaY:∀{p:ae Clue} {y:Clue},(p.Pairwise λa b=>iU a b<0)->p.getLast? =some y->∀a∈p,a=y\/iU a y<0
 |[],y,_,h,a,ha=>by cases ha
 |[x],y,_,h,a,ha=>by
  grind
 |x::z::p,y,hp,h,a,ha=>by
  obtain⟨h1,h2⟩:=wo.1 hp;have h':(z::p).getLast? =some y:=by grind
  rcases dB.1 ha with rfl|ha
  .grind
  .exact aaY h2 h' a ha
variable{l:ae Clue}{n:Nat}
def Ez.step(h:Ez l p n)(hb:b∈l)(ho:opn p b=true)(hl:∀x∈l,opn p x=true->¬Aq x b<0):Ez l (p++[b]) (n+1):=by
 have hab:∀y,p.getLast? =some y->iU y b<0:=λy hy=>by
  unfold opn at ho;rw[hy]at ho;exact Pf.1 (iN ho)
 refine⟨Q4.2 ⟨h.inc,List.pairwise_singleton ..,λa ha b' hb'=>?_⟩,λr hr=>?_,λx hx hc=>?_,?_⟩
 .rw[bS.1 hb'];cases e:p.getLast? with
  |none=>grind
  |some y=>
   have h2:=hab y e;rcases aaY h.inc e a ha with rfl|h1
   .exact h2
   .exact Uj h1 h2
 .rcases eP.1 hr with hr|hr
  .exact h.sub r hr
  grind
 .rw[Uv]at hc;cases e:opn p x with
  |true=>
   have h1:=hl x hx e;rw[amI]at h1
   grind
  |false=>
   obtain⟨r,m,q⟩:=h.done x hx e
   grind
 .have:=aaX (q:=opn (p++[b])) hb ho (by rw[Uv];exact aW (by rw[Pf,AV];omega)) (λx hx=>by
   rw[Uv]at hx;have hx:=iN hx;unfold opn;cases e:p.getLast? with
   |none=>rfl
   |some y=>exact dQ (Pf.2 (Uj (hab y e) (Pf.1 hx))))
  have:=h.cnt;omega
def Ez.stop(h:Ez l p n)(hn:∀x∈l,opn p x=false):mV l p:=⟨h.inc,h.sub,λx hx=>h.done x hx (hn x hx)⟩
def Ez.full(h:Ez l p l.length):mV l p:=h.stop λx hx=>by
 have h1:=h.cnt
 grind
end Kd
namespace Kd
open Canon
variable{rs:ae Clue}
def amK(h:rs.Pairwise λa b=>iU a b<0):rs.Nodup:=h.imp λ{a b} hab he=>by rw[he,AV]at hab;omega
def aaZ{α:Type}[DecidableEq α]:∀{a b:ae α},a.Nodup->(∀x∈a,x∈b)->a.length<=b.length
 |[],_,_,_=>bH _
 |x::a,b,hn,h=>by
  obtain⟨h1,h2⟩:=QZ.1 hn;have:=aaZ (b:=b.erase x) h2 (by grind)
  grind
def amL{xs:ae Clue}(h:mV xs rs):rs.length<=xs.length:=aaZ (amK h.inc) h.sub
end Kd
namespace Kd
open Go Go.Ideal
def Uw:∀{a b:ae Int},a.Pairwise (·<·)->b.Pairwise (·<·)->(∀x,x∈a↔x∈b)->a=b
 |[],[],_,_,_=>rfl
 |[],y::b,_,_,h=>by have:=(h y).2 (fF ..);cases this
 |x::a,[],_,_,h=>by have:=(h x).1 (fF ..);cases this
 |x::a,y::b,ha,hb,h=>by
  have hxy:x=y:=by
   rcases dB.1 ((h x).1 (fF ..))with e|hx
   .exact e
   rcases dB.1 ((h y).2 (fF ..))with e|hy
   .exact e.symm
   have:=(wo.1 ha).1 y hy;have:=(wo.1 hb).1 x hx;omega
  subst hxy;rw[Uw (wo.1 ha).2 (wo.1 hb).2 λz=>?_];constructor
  .intro hz;have:=(wo.1 ha).1 z hz;exact(dB.1 ((h z).1 (iw _ hz))).resolve_left tf
  .intro hz;have:=(wo.1 hb).1 z hz;exact(dB.1 ((h z).2 (iw _ hz))).resolve_left tf
variable{n:Nat}{x:Int}
def amM:x∈upTo' n↔0<=x/\x<(n:Int):=by
 unfold upTo';rw[dM];constructor
 .grind
 .intro h;exact⟨x.toNat,r9.2 tf,tf⟩
def amN(n:Nat):(upTo' n).Pairwise (·<·):=by
 unfold upTo';exact kj
def dY(n:Nat)(p:Int->Bool):ae Int:=(upTo' n).filter p
def amO{p:Int->Bool}:x∈dY n p↔(0<=x/\x<(n:Int))/\p x=true:=by
 unfold dY;rw[tT,amM]
def Pg(n:Nat)(p:Int->Bool):(dY n p).Pairwise (·<·):=List.Pairwise.filter _ (amN n)
def EA(k:Nat)(p:Int->Bool):dY (k+1) p=dY k p++if p (k:Int)then[(k:Int)]else[]:=by
 unfold dY;rw[vI]
 grind
def EB(n:Nat)(p:Int->Bool):(dY n p).length<=n:=by
 refine lV (Ik _ _) ?_;rw[jH];exact bI _
def Ph{l:ae Int}(hi:l.Pairwise (·<·)){n:Nat}{p:Int->Bool}(h:∀x,x∈l↔(0<=x/\x<(n:Int))/\p x=true):l=dY n p:=
 Uw hi (Pg n p) λx=>(h x).trans amO.symm
def amP(n:Nat)(holes:ae Int):iM n holes=dY n λi=>!decide (i∈holes):=rfl
variable{holes:ae Int}
def aa0(hi:holes.Pairwise (·<·))(hm:∀x∈holes,0<=x/\x<(n:Int)):dY n (λi=>decide (i∈holes))=holes:=
 (Ph hi (by grind)).symm
def amQ(hi:holes.Pairwise (·<·))(hm:∀x∈holes,0<=x/\x<(n:Int)):(iM n holes).length+holes.length=n:=by
 have h1:(dY n λi=>decide (i∈holes)).length=holes.length:=by rw[aa0 hi hm]
 have h2:=List.length_eq_countP_add_countP (λi:Int=>decide (i∈holes)) (l:=upTo' n);rw[jH,List.countP_eq_length_filter,List.countP_eq_length_filter]at h2;have h3:iM n holes=List.filter (λa=>decide ¬decide (a∈holes)=true) (upTo' n):=by
  rw[amP];unfold dY
  grind
 rw[h3];unfold dY at h1;omega
structure amR(s w h:Int)(holes:List Int):Prop where
 sh:s=1\/s=2
 wi:1<=w/\w<=16
 he:1<=h/\h<=16
 inc:holes.Pairwise (·<·)
 mem:∀x∈holes,0<=x/\x<w*h
 ne:pF w h holes≠[]
def zF{s w h:Int}:amR s w h holes↔qZ s w h holes:=by
 have key:(1<=w/\w<=16)->(1<=h/\h<=16)->holes.Pairwise (·<·)->(∀x∈holes,0<=x/\x<w*h)->(pF w h holes≠[]↔holes.length<w*h):=by
  intro hw hh hi hm;have hb:=zB hw hh;obtain⟨m,hmm⟩:=jK (show 0<=w*h by omega);rw[hmm]at hm⊢;unfold pF;rw[hmm,jJ];have:=amQ hi hm;rw[<- Ig];omega
 exact⟨λq=>⟨q.sh,q.wi,q.he,(key q.wi q.he q.inc q.mem).1 q.ne,q.inc,q.mem⟩,λq=>⟨q.sh,q.wi,q.he,q.inc,q.mem,(key q.wi q.he q.inc q.mem).2 q.len⟩⟩
def iZ(g:bA)(c:Int):Int×Int:=((g.cells[c.toNat]?).map (jY g)).getD (0,0)
variable{g:bA}{k:Nat}
def GR(h:g.cells[k]? =some x):iZ g (k:Int)=jY g x:=by
 unfold iZ
 grind
def Kn{q:Int×(Int×Int)}:q∈bN g↔(0<=q.1/\q.1<(g.cells.length:Int))/\q.2=iZ g q.1:=by
 constructor
 .intro h;refine⟨O8 q h,?_⟩;obtain⟨k,hk⟩:=xG.1 h;have h1:=AQ hk;have hkl:=(bJ.1 hk).1;rw[sS]at hkl;have hx:=bY hkl;rw[AP hx]at hk;have hk:=Option.some.inj hk;rw[h1,GR hx,<- hk]
 .rintro⟨⟨h1,h2⟩,h3⟩;have hkl:q.1.toNat<g.cells.length:=by omega
  have hx:=bY hkl;have h4:=AP hx;rw[show((q.1.toNat:Nat))=q.1 by omega]at h4;have h5:iZ g q.1=jY g g.cells[q.1.toNat]:=by
   have:=GR hx
   rwa [show((q.1.toNat):Int)=q.1 by omega]at this
  rw[<- h5,<- h3]at h4;exact aU h4
def AX(sh:Int)(s t:Int×Int):Bool:=
 if sh=1 then(decide (t.2 - s.2=0)&&(decide (t.1 - s.1=1)||decide (t.1 - s.1= -1)))||(decide (t.1 - s.1=0)&&(decide (t.2 - s.2=1)||decide (t.2 - s.2= -1)))
 else(decide (t.1 - s.1=1)&&decide (t.2 - s.2=0))||(decide (t.1 - s.1= -1)&&decide (t.2 - s.2=0))||(decide (t.1 - s.1=0)&&decide (t.2 - s.2=1))||(decide (t.1 - s.1=0)&&decide (t.2 - s.2= -1))||(decide (t.1 - s.1=1)&&decide (t.2 - s.2= -1))||(decide (t.1 - s.1= -1)&&decide (t.2 - s.2=1))
def amS{s t:Int×Int}:AX g.shape s t=true↔∃d∈fA.take (ed g),t=(s.1+d.1,s.2+d.2):=by
 obtain⟨t1,t2⟩:=t;unfold AX ed;by_cases h:g.shape=1
 .rw[if_pos h,if_pos h];simp[fA];omega
 .rw[if_neg h,if_neg h];simp[fA];omega
def amT(hg:eF g){p:Int×(Int×Int)}:oC g p=dY g.cells.length λb=>AX g.shape p.2 (iZ g b):=by
 refine Ph (Uo hg p) λc=>?_;rw[Um hg,amS];constructor
 .rintro⟨d,hd,q,hq,h1,rfl⟩;obtain⟨h2,h3⟩:=Kn.1 hq
  grind
 .rintro⟨h2,d,hd,h1⟩;exact⟨d,hd,(c,iZ g c),Kn.2 ⟨h2,rfl⟩,h1,rfl⟩
def aa1(hg:eF g){k:Nat}(hk:k<g.cells.length):(bR g)[k]? =some (dY g.cells.length λb=>AX g.shape (iZ g k) (iZ g b)):=by
 unfold bR;have hx:=bY hk;rw[dZ,AP hx,om,amT hg,GR hx]
def J9{α β:Type}[DecidableEq α](b:α)(v:β):∀m:ae (α×β),(upd b v m).map (·.1)=if b∈m.map (·.1)then m.map (·.1)else m.map (·.1)++[b]
 |[]=>by
  rfl
 |(a,u)::m=>by
  unfold upd;by_cases e:b=a
  .grind
  .rw[if_neg e,kv,J9 b v m]
   grind
def rq(kf:Int×Int->Int×Bool)(ps:ae (Int×(Int×Int)))(n:Int):ae Int:=(ps.filter λp=>(kf p.2).2&&decide ((kf p.2).1=n)).map (·.1)
def Ux(kf:Int×Int->Int×Bool)(ps:ae (Int×(Int×Int)))(p:Int×(Int×Int))(n:Int):rq kf (ps++[p]) n=rq kf ps n++if((kf p.2).2&&decide ((kf p.2).1=n))=true then[p.1]else[]:=by
 unfold rq
 grind
def aa2(kf:Int×Int->Int×Bool)(m:Nat):∀ps:ae (Int×(Int×Int)),ps.length=m->((kZ kf ps).map (·.1)).Nodup/\∀n,(n∈(kZ kf ps).map (·.1)↔rq kf ps n≠[])/\(dG n (kZ kf ps)).getD []=rq kf ps n:=by
 induction m with
 |zero=>
  intro ps h;rw[lW.1 h];exact⟨xH,λn=>⟨by simp[kZ,rq],rfl⟩⟩
 |succ m ih=>
  intro ps h;obtain⟨qs,p,rfl⟩:∃qs p,ps=qs++[p]:=⟨ps.dropLast,ps.getLast tS,(Fy _).symm⟩
  obtain⟨h1,h2⟩:=ih qs tw;rw[Kg];unfold zC;cases hb:(kf p.2).2 with
  |false=>
   refine⟨h1,λn=>?_⟩;rw[Ux,hb,if_neg tg,iE];exact h2 n
  |true=>
   dsimp only[cond];rw[J9];refine⟨?_,λn=>⟨?_,?_⟩⟩
   .grind
   .rw[Ux,hb];by_cases e:(kf p.2).1=n
    .have hc:(true&&decide ((kf p.2).1=n))=true:=by simp[e]
     split
     .rename_i hn;rw[e]at hn;exact⟨λ_=>by simp,λ_=>hn⟩
     grind
    grind
   .rw[AU,Ux,hb]
    grind
def aa3(kf:Int×Int->Int×Bool)(n:Int):rq kf (bN g) n=dY g.cells.length λc=>(kf (iZ g c)).2&&decide ((kf (iZ g c)).1=n):=by
 refine Ph ?_ λc=>?_
 .unfold rq;rw[yV];refine List.Pairwise.filter _ ?_;rw[xI];intro i j hi hj hij;have h1:=AQ (bY hi);have h2:=AQ (bY hj);omega
 .unfold rq;rw[dM];constructor
  .rintro⟨p,hp,rfl⟩;obtain⟨h1,h2⟩:=tT.1 hp;obtain⟨h3,h4⟩:=Kn.1 h1
   grind
  .rintro⟨h1,h2⟩;exact⟨(c,iZ g c),tT.2 ⟨Kn.2 ⟨h1,rfl⟩,h2⟩,rfl⟩
def eY(lo:Int)(k:Nat):ae Int:=(List.range k).map λi:Nat=>lo+(i:Int)
def amU(lo:Int)(k:Nat):eY lo (k+1)=eY lo k++[lo+(k:Int)]:=by
 unfold eY;rw[Dv,ek];rfl
def amV{lo:Int}:x∈eY lo k↔lo<=x/\x<lo+(k:Int):=by
 unfold eY;rw[dM];constructor
 .grind
 .intro h;exact⟨(x - lo).toNat,r9.2 tf,tf⟩
def amW(lo:Int)(k:Nat):(eY lo k).Pairwise (·<·):=by
 unfold eY;exact kj
def CE(L:Int->ae Int)(lo:Int)(k:Nat):ae (ae Int):=((eY lo k).map L).filter λl=>!l.isEmpty
def aa4(L:Int->ae Int)(lo:Int)(k:Nat):CE L lo (k+1)=CE L lo k++if L (lo+(k:Int))=[]then[]else[L (lo+(k:Int))]:=by
 unfold CE;rw[amU,ek]
 grind
def aa5(kf:Int×Int->Int×Bool){lo:Int}{k:Nat}(hk:∀p∈bN g,(kf p.2).2=true->lo<=(kf p.2).1/\(kf p.2).1<lo+(k:Int)):jT g kf=CE (rq kf (bN g)) lo k:=by
 obtain⟨h1,h2⟩:=aa2 kf _ (bN g) rfl;have h3:cK ((kZ kf (bN g)).map (·.1))=(eY lo k).filter λn=>!(rq kf (bN g) n).isEmpty:=by
  refine Uw (Pb h1) (List.Pairwise.filter _ (amW lo k)) λn=>?_;rw[yB,(h2 n).1,tT,amV];have hne:((!(rq kf (bN g) n).isEmpty)=true)↔rq kf (bN g) n≠[]:=by
   grind
  rw[hne];refine⟨λh=>⟨?_,h⟩,λh=>h.2⟩;obtain⟨c,hc⟩:=List.exists_mem_of_ne_nil _ h;unfold rq at hc
  grind
 unfold jT CE;rw[h3,List.filter_map];refine yS λn _=>?_;exact(h2 n).2
def Pj(c:Int×Int->Bool):jT g (λs=>(0,c s))=if dY g.cells.length (λb=>c (iZ g b))=[]then[]else[dY g.cells.length λb=>c (iZ g b)]:=by
 rw[aa5 (lo:=0) (k:=1) (λs=>(0,c s)) (by grind)];rw[aa4];have e:rq (λs=>(0,c s)) (bN g) (0+((0:Nat)))=dY g.cells.length λb=>c (iZ g b):=by
  rw[aa3];simp
 rw[e];rfl
def amX(hg:eF g){k:Nat}{l:ae Int}(hl:(bR g)[k]? =some l):cK (l++[(k:Int)])=dY g.cells.length λb=>decide (b=(k:Int))||decide (b∈l):=by
 have hk:k<g.cells.length:=by have:=(bJ.1 hl).1;rwa [yA]at this
 have hls:=(Kj l (aU hl)).2;have hlt:l.Pairwise (·<·):=by
  have:=aa1 hg hk;rw[hl]at this;rw[Option.some.inj this];exact Pg _ _
 have hkl:(k:Int)∉l:=λh=>by
  obtain⟨j,hj⟩:=xG.1 h;exact(aaO hg k l hl j k hj).2.2.1 rfl
 refine Ph (Pb ?_) λc=>?_
 .rw[jV];exact⟨hlt.imp (λh=>by omega),tg,λa ha b hb=>by rw[bS.1 hb];exact λe=>hkl (e▸ha)⟩
 .rw[yB,eP,bS];simp only[Fs,decide_eq_true_eq];constructor
  .rintro(h|rfl)
   .exact⟨hls c h,.inr h⟩
   .exact⟨tf,.inl rfl⟩
  .rintro⟨_,h|h⟩
   .exact .inr h
   .exact .inl h
end Kd
namespace Kd
open Go Go.Ideal Canon
structure bQ(n:Nat)(p:List Int):Prop where
 len:p.length=n
 eY:∀x∈p,0<=x/\x<(n:Int)
 nd:p.Nodup
variable{p:ae Int}{c:Int}
def rO(h0:0<=c)(h1:c<p.length):p[c.toNat]? =some (aV p c):=by
 unfold aV
 grind
def Uy(h0:0<=c)(h1:c<p.length):aV p c∈p:=aU (rO h0 h1)
variable{n:Nat}
def bQ.at_(h:bQ n p){c:Int}(h0:0<=c)(h1:c<(n:Int)):0<=aV p c/\aV p c<(n:Int):=h.eY _ (Uy h0 (by rw[h.len];exact h1))
variable{α:Type}
def Ko{p:ae α}(h:p.Nodup){i j:Nat}{x:α}(hi:p[i]? =some x)(hj:p[j]? =some x):i=j:=by
 obtain⟨h1,h2⟩:=bJ.1 hi;obtain⟨h3,h4⟩:=bJ.1 hj;rcases WH i j with hl|hl|hl
 .exact absurd (h2.trans h4.symm) (xI.1 h i j h1 h3 hl)
 .exact hl
 .exact absurd (h4.trans h2.symm) (xI.1 h j i h3 h1 hl)
def bQ.inj(h:bQ n p){a b:Int}(a0:0<=a)(a1:a<(n:Int))(b0:0<=b)(b1:b<(n:Int))(e:aV p a=aV p b):a=b:=by
 have h1:=rO a0 (by rw[h.len];exact a1);have h2:=rO b0 (by rw[h.len];exact b1);rw[e]at h1;have:=Ko h.nd h1 h2;omega
def bQ.mem(h:bQ n p){y:Int}(y0:0<=y)(y1:y<(n:Int)):y∈p:=by
 apply Classical.byContradiction;intro hn;have h1:=Pe (m:=(upTo' n).erase y) h.nd (λx hx=>by
  have hne:x≠y:=λe=>hn (e▸hx);refine(List.mem_erase_of_ne hne).2 ?_;have:=h.eY x hx;exact dM.2 ⟨x.toNat,r9.2 tf,tf⟩)
 have hy:y∈upTo' n:=by
  exact dM.2 ⟨y.toNat,r9.2 tf,tf⟩
 have h2:=afR hy;have h3:=WI hy;rw[jH]at h2 h3;have h4:=h.len;omega
def bQ.onto(h:bQ n p){y:Int}(y0:0<=y)(y1:y<(n:Int)):∃c,0<=c/\c<(n:Int)/\aV p c=y:=by
 obtain⟨i,hi⟩:=iI (h.mem y0 y1);have:=(bJ.1 hi).1;have h4:=h.len;refine⟨i,tf,tf,mU hi⟩
def dA(a b:ae Int):ae Int:=b.map (aV a)
def jl(p:ae Int):ae Int:=(List.range p.length).map λy:Nat=>((p.idxOf (y:Int):Nat):Int)
variable{a b:ae Int}
def AY(h0:0<=c)(h1:c<b.length):aV (dA a b) c=aV a (aV b c):=by
 have h:=rO h0 h1;have h2:(b.map (aV a))[c.toNat]? =some (aV a (aV b c)):=by grind
 exact iR h2
variable{l:ae Int}
def Uz{f:Int->Int}(h:l.Nodup)(hf:∀a∈l,∀b∈l,f a=f b->a=b):(l.map f).Nodup:=by
 exact pL
def bQ.comp(ha:bQ n a)(hb:bQ n b):bQ n (dA a b):=by
 refine⟨by unfold dA;rw[bC];exact hb.len,λx hx=>?_,?_⟩
 .obtain⟨y,hy,rfl⟩:=dM.1 hx;have:=hb.eY y hy;exact ha.at_ this.1 this.2
 .exact Uz hb.nd λx hx y hy e=>ha.inj (hb.eY x hx).1 (hb.eY x hx).2 (hb.eY y hy).1 (hb.eY y hy).2 e
def aa6(p:ae Int):(jl p).length=p.length:=by unfold jl;grind
def amY{y:Int}(h0:0<=y)(h1:y<p.length):aV (jl p) y=((p.idxOf y:Nat):Int):=by
 obtain⟨m,rfl⟩:=jK h0;apply mU;unfold jl
 grind
def bQ.idx(h:bQ n p){c:Int}(h0:0<=c)(h1:c<(n:Int)):((p.idxOf (aV p c):Nat):Int)=c:=by
 have hg:=rO h0 (by rw[h.len];exact h1);have h2:p[p.idxOf (aV p c)]? =some (aV p c):=by
  grind
 have:=Ko h.nd hg h2;omega
def bQ.yD(h:bQ n p){c:Int}(h0:0<=c)(h1:c<(n:Int)):aV (jl p) (aV p c)=c:=by
 have:=h.at_ h0 h1;rw[amY this.1 (by rw[h.len];exact this.2),h.idx h0 h1]
def bQ.Kq(h:bQ n p){y:Int}(h0:0<=y)(h1:y<(n:Int)):aV p (aV (jl p) y)=y:=by
 obtain⟨c,c0,c1,rfl⟩:=h.onto h0 h1;rw[h.yD c0 c1]
def bQ.inv(h:bQ n p):bQ n (jl p):=by
 refine⟨by rw[aa6];exact h.len,λx hx=>?_,?_⟩
 .obtain⟨i,hi⟩:=iI hx;have hl:=(bJ.1 hi).1;rw[aa6,h.len]at hl;obtain⟨c,c0,c1,hc⟩:=h.onto (y:=i) tf tf;have:=h.yD c0 c1;rw[hc,mU hi]at this;omega
 .unfold jl;unfold List.Nodup;rw[yV];refine List.Pairwise.imp_of_mem (λ{a b} ha hb hne e=>hne ?_) List.nodup_range;have ha:=r9.1 ha;have hb:=r9.1 hb;rw[h.len]at ha hb;obtain⟨c,c0,c1,hc⟩:=h.onto (y:=a) tf tf;obtain⟨d,d0,d1,hd⟩:=h.onto (y:=b) tf tf;rw[<- hc,<- hd,h.idx c0 c1,h.idx d0 d1]at e;rw[e]at hc;omega
def bQ.ident(n:Nat):bQ n (upTo' n):=by
 refine⟨jH n,λx hx=>?_,Kl n⟩;obtain⟨i,hi⟩:=iI hx;have hl:=(bJ.1 hi).1;rw[jH]at hl;rw[aaP hi];omega
def wW(h0:0<=c)(h1:c<(n:Int)):aV (upTo' n) c=c:=by
 have h:=rO h0 (by rw[jH];exact h1);have:=aaP h;omega
def yE{α:Type}(f:α->α):Nat->α->α
 |0,x=>x
 |t+1,x=>f (yE f t x)
def Pk{m:Nat}{f:Nat->Nat}(hf:∀i,i<m->f i<m):∀t x,x<m->yE f t x<m
 |0,_,h=>h
 |t+1,x,h=>hf _ (Pk hf t x h)
variable{m:Nat}{f:Nat->Nat}
def amZ(hf:∀i,i<m->f i<m){j:Nat}(hj:j<m):∃a b,a<b/\yE f a j=yE f b j:=by
 apply Classical.byContradiction;intro hno;have h:=Ui m ((List.range (m+1)).map λt=>((yE f t j:Nat))) (by
  unfold List.Nodup;rw[yV];exact List.pairwise_lt_range.imp (by grind)) (λx hx=>by
  obtain⟨t,_,rfl⟩:=dM.1 hx;have:=Pk hf t j hj;omega)
 grind
def UA{L:Nat->α}{S:α->α}{R:α->α->Prop}{D:α->Prop}(hD:∀i,i<m->D (L i))(hDS:∀x,D x->D (S x))(hr:∀x,R x x)(hs:∀x y,R x y->R y x)(ht:∀x y z,R x y->R y z->R x z)
 (hS:∀x y,D x->D y->(R (S x) (S y)↔R x y)) (hf:∀i,i<m->f i<m/\R (L (f i)) (S (L i))) {j:Nat} (hj:j<m):∃i,i<m/\R (L j) (S (L i)):=by
 have hf1:=λi hi=>(hf i hi).1;have Pm:∀t,D (yE S t (L j)):=λt=>by
  induction t with
  |zero=>exact hD j hj
  |succ t ih=>exact hDS _ ih
 have key:∀t,R (L (yE f t j)) (yE S t (L j)):=λt=>by
  induction t with
  |zero=>exact hr _
  |succ t ih=>
   have hl:=Pk hf1 t j hj;exact ht _ _ _ (hf _ hl).2 ((hS _ _ (hD _ hl) (Pm t)).2 ih)
 have cancel:∀a d,R (yE S a (L j)) (yE S (a+d) (L j))->R (L j) (yE S d (L j)):=λa d=>by
  induction a with
  |zero=>intro h;rw[gI]at h;exact h
  |succ a ih=>
   intro h;rw[Nat.succ_add]at h;exact ih ((hS _ _ (Pm _) (Pm _)).1 h)
 obtain⟨a,b,hab,e⟩:=amZ hf1 hj;have h1:=key a;have h2:=key b;rw[e]at h1;obtain⟨d,rfl⟩:∃d,b=a+(d+1):=⟨b - a - 1,tf⟩
 have h3:=cancel a (d+1) (ht _ _ _ (hs _ _ h1) h2);have hl:=Pk hf1 d j hj;exact⟨_,hl,ht _ _ _ h3 (hs _ _ ((hS _ _ (hD _ hl) (Pm d)).2 (key d)))⟩
def img(s:ae Int)(l:ae Int):ae Int:=l.map (aV s)
def mo(n:Nat)(l:ae Int):Prop:=∀c∈l,0<=c/\c<(n:Int)
def UB(s l:ae Int):(img s l).length=l.length:=by unfold img;rw[bC]
variable{s:ae Int}
def mo.img(h:bQ n s){l:ae Int}(hl:mo n l):mo n (img s l):=by
 intro c hc;obtain⟨x,hx,rfl⟩:=dM.1 hc;exact h.at_ (hl x hx).1 (hl x hx).2
def aa7{n:Nat}{s:ae Int}(h:bQ n s):∀{a b:ae Int},mo n a->mo n b->img s a=img s b->a=b
 |[],[],_,_,_=>rfl
 |[],_::_,_,_,e=>by cases e
 |_::_,[],_,_,e=>by cases e
 |x::a,y::b,ha,hb,e=>by
  injection e with e1 e2;have hx:=ha x (fF ..);have hy:=hb y (fF ..);rw[h.inj hx.1 hx.2 hy.1 hy.2 e1,aa7 h (λc hc=>ha c (iw _ hc)) (λc hc=>hb c (iw _ hc)) e2]
def Pn(h:bQ n s){l:ae Int}(hl:mo n l):img (jl s) (img s l)=l:=by
 unfold img;rw[sj];conv=>rhs;rw[<- Ih l]
 exact yS λc hc=>h.yD (hl c hc).1 (hl c hc).2
def Po(hl:mo b.length l):img (dA a b) l=img a (img b l):=by
 unfold img;rw[sj];exact yS λc hc=>AY (hl c hc).1 (hl c hc).2
def Pp(s:ae Int){a b:ae Int}(h:a.Perm b):(img s a).Perm (img s b):=h.map _
def am1(h:bQ n s){a b:ae Int}(ha:mo n a)(hb:mo n b)(e:(img s a).Perm (img s b)):a.Perm b:=by
 have:=Pp (jl s) e
 rwa [Pn h ha,Pn h hb]at this
def UC(s l:ae Int):img s l.reverse=(img s l).reverse:=by unfold img;rw[List.map_reverse]
def am2(h:bQ n s){l:ae Int}(hl:mo n l)(hn:l.Nodup):(img s l).Nodup:=by
 exact Uz hn λa ha b hb e=>h.inj (hl a ha).1 (hl a ha).2 (hl b hb).1 (hl b hb).2 e
def Pq(l:ae Int):(cK l).Perm l:=Bz l _
def Ps:cK a=cK b↔a.Perm b:=by
 constructor
 .intro e;exact(Pq a).symm.trans (e▸Pq b)
 .intro h;exact List.Perm.eq_of_pairwise (by grind) (Un a) (Un b) ((Pq a).trans (h.trans (Pq b).symm))
end Kd
namespace Kd
open Go Go.Ideal Canon
def oD(f:Int):Bool:=decide (f=0)||decide (f=4)||decide (f=5)
def wX(L:ae (ae Int))(w:ae Int):Int:=match L.findIdx? (λx=>decide (cK x=cK w))with
 |some i=>(i:Int)
 |none=> -1
def jZ(L:ae (ae Int))(s:ae Int)(f at_:Int):Int:=if oD f then aV s at_ else wX L (img s (L.getD at_.toNat []))
def lT(a b:ae Int):Bool:=decide (cK a=cK b)
def zG(a b:ae Int):Bool:=decide (a=b)
def wY(a b:ae Int):Bool:=decide (a=b)||decide (a=b.reverse)
def qE(L:ae (ae Int))(s:ae Int)(f:Int)(eq:ae Int->ae Int->Bool)(l:ae Int)(j:Nat):Bool:=
 decide (0<=jZ L s f (j:Int))&&(lT (L.getD (jZ L s f (j:Int)).toNat []) (img s l)&&eq (L.getD (jZ L s f (j:Int)).toNat []) (img s l))
def kF(L:ae (ae Int))(s:ae Int)(f:Int)(eq:ae Int->ae Int->Bool):Bool:=L.zipIdx.all λx=>qE L s f eq x.1 x.2
def nZ(aR:ae (ae Int))(s:ae Int):Bool:=aR.zipIdx.all λx=>x.1.all λb=>decide (aV s b∈aR.getD (aV s (x.2:Int)).toNat [])
def pG(vals t:ae Int):Bool:=t.zipIdx.all λx=>decide (aV vals (x.2:Int)=aV vals x.1)
def rP(set other:Nat)(t:ae Int):Bool:=t.zipIdx.all λx=>decide (set.testBit x.2=set.testBit x.1.toNat)&&decide (other.testBit x.2=other.testBit x.1.toNat)
def CF(L:ae (ae Int)):Prop:=∀(i j:Nat) (a b:ae Int),L[i]? =some a->L[j]? =some b->a.Perm b->i=j
def uE{α:Type}{l:ae α}{p:α×Nat->Bool}:l.zipIdx.all p=true↔∀(i:Nat) x,l[i]? =some x->p (x,i)=true:=by
 grind
variable{a b:ae Int}
def EC:lT a b=true↔a.Perm b:=by unfold lT;rw[qL];exact Ps
def GU:wY a b=true↔a=b\/a=b.reverse:=by
 unfold wY
 grind
variable{L:ae (ae Int)}{w:ae Int}
def UD(h:0<=wX L w):∃l,L[(wX L w).toNat]? =some l/\l.Perm w:=by
 unfold wX at h⊢;cases hf:L.findIdx? (λx=>decide (cK x=cK w))with
 |none=>grind
 |some i=>
  obtain⟨h1,h2,_⟩:=afS.1 hf;refine⟨L[i],?_,Ps.1 (iN h2)⟩
  grind
variable{i:Nat}
def am3{l:ae Int}(hD:CF L)(h:L[i]? =some l)(hp:l.Perm w):wX L w=(i:Int):=by
 have h0:0<=wX L w:=by
  unfold wX;cases hf:L.findIdx? (λx=>decide (cK x=cK w))with
  |none=>
   have:=afT.1 hf l (aU h);rw[decide_eq_false_iff_not]at this;exact absurd (Ps.2 hp) this
  |some j=>show(0:Int)<=j;omega
 obtain⟨l',h1,h2⟩:=UD h0;have:=hD _ _ _ _ h h1 (hp.trans h2.symm);omega
structure ru(n:Nat)(L:List (List Int))(f:Int):Prop where
 eY:∀l∈L,mo n l
 len:oD f=true->L.length=n
 dis:oD f=false->CF L
def Goes(L:ae (ae Int))(s:ae Int)(f:Int)(eq:ae Int->ae Int->Bool)(j i:Nat):Prop:=
 ∃l l',L[j]? =some l/\L[i]? =some l'/\l'.Perm (img s l)/\eq l' (img s l)=true/\(oD f=true->(i:Int)=aV s (j:Int))
variable{n j:Nat}{s:ae Int}{f:Int}{eq:ae Int->ae Int->Bool}
def Goes.jZ(hK:ru n L f)(h:Goes L s f eq j i):jZ L s f (j:Int)=(i:Int):=by
 obtain⟨l,l',h1,h2,h3,h4,h5⟩:=h;unfold Kd.jZ;cases hb:oD f with
 |true=>grind
 |false=>
  rw[jJ,iR h1];exact am3 (hK.dis hb) h2 h3
def CG(hK:ru n L f)(hs:bQ n s):kF L s f eq=true↔∀j,j<L.length->∃i,Goes L s f eq j i:=by
 unfold kF;rw[uE];constructor
 .intro h j hj;have hl:=bY hj;have h1:=h j _ hl;dsimp only at h1;unfold qE at h1;rw[eU,eU,qL,EC]at h1;obtain⟨a1,a2,a3⟩:=h1;have hlt:(jZ L s f j).toNat<L.length:=by
   cases hb:oD f with
   |true=>
    have hn:=hK.len hb;have:Kd.jZ L s f j=aV s (j:Int):=by unfold Kd.jZ;rw[if_pos hb]
    have:=hs.at_ (c:=j) tf tf;omega
   |false=>
    have e:Kd.jZ L s f j=wX L (img s (L.getD (j:Int).toNat [])):=by unfold Kd.jZ;grind
    rw[e]at a1⊢;obtain⟨l,h2,_⟩:=UD a1
    grind
  have hl':=bY hlt;rw[iR hl']at a2 a3;refine⟨_,_,_,hl,hl',a2,a3,λhb=>?_⟩;have:Kd.jZ L s f j=aV s j:=by unfold Kd.jZ;rw[if_pos hb]
  omega
 .intro h j l hl;obtain⟨i,hg⟩:=h j (by grind);have hw:=hg.jZ hK;obtain⟨l0,l',h1,h2,h3,h4,h5⟩:=hg;rw[hl]at h1;cases h1;unfold qE;rw[hw,jJ,iR h2,h4,EC.2 h3];simp
def Goes.lt(h:Goes L s f eq j i):j<L.length/\i<L.length:=by
 obtain⟨l,l',h1,h2,_⟩:=h
 grind
def Goes.inj{eq':ae Int->ae Int->Bool}{j':Nat}(hK:ru n L f)(hs:bQ n s)(h:Goes L s f eq j i)(h':Goes L s f eq' j' i):j=j':=by
 have hl:=h.lt;have hl':=h'.lt;obtain⟨a,b,h1,h2,h3,h4,h5⟩:=h;obtain⟨a',b',k1,k2,k3,k4,k5⟩:=h';rw[h2]at k2;cases k2;cases hb:oD f with
 |true=>
  have hn:=hK.len hb;have:=hs.inj tf tf tf tf ((h5 hb).symm.trans (k5 hb));omega
 |false=>exact hK.dis hb _ _ _ _ h1 k1 (am1 hs (hK.eY _ (aU h1)) (hK.eY _ (aU k1)) (h3.symm.trans k3))
def am4(hK:ru n L f)(hs:bQ n s)(h:∀j,j<L.length->∃i,Goes L s f eq j i){i:Nat}(hi:i<L.length):∃j,Goes L s f eq j i:=by
 have hc:∀j,∃i,j<L.length->Goes L s f eq j i:=λj=>by
  by_cases hj:j<L.length
  .grind
  .exact⟨0,λh=>absurd h hj⟩
 have hf:∀j,j<L.length->Goes L s f eq j (Classical.choose (hc j)):=(by grind)
 obtain⟨j,hj,e⟩:=UA (L:=λi:Nat=>i) (S:=λj=>if j<L.length then Classical.choose (hc j)else j)
  (λi hi=>hi) (λx hx=>by rw[if_pos hx];exact(hf x hx).lt.2) (λ_=>rfl) (λ_ _ e=>e.symm) (by grind)
  (λx y hx hy=>by
    rw[if_pos hx,if_pos hy];constructor
    .intro e;have h2:=hf y hy;rw[<- e]at h2;exact(hf x hx).inj hK hs h2
    .intro e;rw[e])
  (λi hi=>⟨by rw[if_pos hi];exact(hf i hi).lt.2,rfl⟩) hi
 grind
def wZ(n:Nat)(aR:ae (ae Int)):Prop:=aR.length=n/\∀l∈aR,mo n l
def Nb(aR:ae (ae Int))(a b:Int):Prop:=∃l,0<=a/\aR[a.toNat]? =some l/\b∈l
variable{aR:ae (ae Int)}
def GV(hN:wZ n aR)(hs:bQ n s):nZ aR s=true↔∀a b,Nb aR a b->Nb aR (aV s a) (aV s b):=by
 unfold nZ;rw[uE];constructor
 .rintro h a b ⟨l,h0,h1,h2⟩;have hl:=(bJ.1 h1).1;have h3:=h _ _ h1;rw[jN]at h3;have h4:=iN (h3 b h2);rw[BC h0]at h4;have hn:=hN.1;have hr:=hs.at_ h0 tf;have h5:aR[(aV s a).toNat]? =some (aR[(aV s a).toNat]'(tf)):=bY _;rw[iR h5]at h4;exact⟨_,hr.1,h5,h4⟩
 .intro h i l hl;rw[jN];intro b hb;have h1:=h i b ⟨l,tf,by exact hl,hb⟩;obtain⟨l',_,h3,h4⟩:=h1;rw[iR h3];exact dQ h4
def Nb.eY(hN:wZ n aR){a b:Int}(h:Nb aR a b):(0<=a/\a<(n:Int))/\0<=b/\b<(n:Int):=by
 obtain⟨l,h0,h1,h2⟩:=h;have hl:=(bJ.1 h1).1;have:=hN.1;exact⟨⟨h0,tf⟩,hN.2 l (aU h1) b h2⟩
def zH(aR:ae (ae Int)):ae (Int×Int):=aR.zipIdx.flatMap λx=>x.1.map λb=>((x.2:Int),b)
def UE{a b:Int}:(a,b)∈zH aR↔Nb aR a b:=by
 unfold zH;rw[List.mem_flatMap];constructor
 .rintro⟨⟨l,i⟩,hx,h⟩;obtain⟨c,hc,e⟩:=dM.1 h;cases e;have:=BB.1 hx;exact⟨l,tf,by exact this,hc⟩
 .rintro⟨l,h0,h1,h2⟩;refine⟨(l,a.toNat),BB.2 h1,dM.2 ⟨b,h2,?_⟩⟩;rw[BC h0]
def aa9(hN:wZ n aR)(hs:bQ n s)(h:∀a b,Nb aR a b->Nb aR (aV s a) (aV s b)){a b:Int}(hab:Nb aR a b):∃c d,Nb aR c d/\aV s c=a/\aV s d=b:=by
 have hmem:=UE.2 hab;obtain⟨j,hj⟩:=iI hmem;have hjl:=(bJ.1 hj).1;have hnb:∀i,i<(zH aR).length->Nb aR ((zH aR).getD i (0,0)).1 ((zH aR).getD i (0,0)).2:=λi hi=>by
  have hx:=bY hi;rw[iR hx];exact UE.1 (aU hx)
 have hc:∀i,∃i',i<(zH aR).length->(zH aR)[i']? =some (aV s ((zH aR).getD i (0,0)).1,aV s ((zH aR).getD i (0,0)).2):=λi=>by
  by_cases hi:i<(zH aR).length
  .obtain⟨i',hi'⟩:=iI (UE.2 (h _ _ (hnb i hi)));exact⟨i',λ_=>hi'⟩
  .exact⟨0,λh=>absurd h hi⟩
 obtain⟨i,hi,e⟩:=UA (S:=λp:Int×Int=>(aV s p.1,aV s p.2)) (D:=λp=>(0<=p.1/\p.1<n)/\0<=p.2/\p.2<n)
  (λi hi=>(hnb i hi).eY hN) (λp hp=>⟨hs.at_ hp.1.1 hp.1.2,hs.at_ hp.2.1 hp.2.2⟩) (λ_=>rfl) (λ_ _ e=>e.symm) (λ_ _ _ e e'=>e.trans e')
  (λx y hx hy=>by
    constructor
    .intro e;obtain⟨x1,x2⟩:=x;dsimp only at e hx hy;injection e with e1 e2;rw[hs.inj hx.1.1 hx.1.2 hy.1.1 hy.1.2 e1,hs.inj hx.2.1 hx.2.2 hy.2.1 hy.2.2 e2]
    .intro e;rw[e])
  (λi hi=>by
    exact pH) hjl
 rw[iR hj]at e;injection e with e1 e2;exact⟨_,_,hnb i hi,e1.symm,e2.symm⟩
end Kd
namespace Kd
open Go Go.Ideal Canon Gph
def AZ:Nat->ae Bool->ae Int
 |n,[]=>if 0<n then[(n:Int)]else[]
 |n,b::bs=>if b then AZ (n+1) bs else if 0<n then(n:Int)::AZ 0 bs else AZ 0 bs
def am5(n:Nat)(l:ae Bool):AZ n (true::l)=AZ (n+1) l:=rfl
def am6(n:Nat)(l:ae Bool):AZ n (false::l)=if 0<n then(n:Int)::AZ 0 l else AZ 0 l:=rfl
variable{g:ae (ae Int)}
def Nb.rch{bT:ae Bool}{s a b:Int}(h:mM g bT s a)(hab:Nb g a b)(hi:fT bT b=true):mM g bT s b:=by
 obtain⟨l,h0,h1,h2⟩:=hab;exact .step h h1 h2 hi
variable{mk mk':ae Bool}{n:Nat}{s:ae Int}
def am7(hN:wZ n g)(hmk:∀c,0<=c->c<(n:Int)->fT mk' (aV s c)=fT mk c)(hnb:∀a b,Nb g a b->Nb g (aV s a) (aV s b)){a b:Int}(ha:0<=a/\a<(n:Int))(h:mM g mk a b):(0<=b/\b<(n:Int))/\mM g mk' (aV s a) (aV s b):=by
 induction h with
 |refl=>exact⟨ha,.refl⟩
 |step h hl hn hi ih=>
  rename_i i m l;have hab:Nb g i m:=⟨l,ih.1.1,hl,hn⟩
  have hr:=hab.eY hN;exact⟨hr.2,(hnb _ _ hab).rch ih.2 (by grind)⟩
def Joined(g:ae (ae Int))(mk:ae Bool):Prop:=∀a b:Nat,a<g.length->b<g.length->fT mk a=true->fT mk b=true->mM g mk a b
def UF{mk:ae Bool}:∀(n a:Nat),a<n->fT mk a=true->∃f,f<n/\fT mk (f:Nat)=true/\∀j,j<f->fT mk (j:Nat)=false
 |0,a,h,_=>by omega
 |n+1,a,h,hm=>by
  by_cases hex:∃a',a'<n/\fT mk a'=true
  .obtain⟨a',h1,h2⟩:=hex;obtain⟨f,h3,h4⟩:=UF n a' h1 h2;exact⟨f,tf,h4⟩
  grind
def Pt{g:ae (ae Int)}{mk:ae Bool}:∀k,(∀j,j<k->fT mk (j:Nat)=false)->cnt g mk k=0
 |0,_=>rfl
 |k+1,h=>by rw[cnt,Pt k (λj hj=>h j tf),if_neg (by grind)]
def cnt_mono{g:ae (ae Int)}{mk:ae Bool}:∀k d,cnt g mk k<=cnt g mk (k+d)
 |k,0=>bI _
 |k,d+1=>by have:=cnt_mono (g:=g) (mk:=mk) k d;rw[<- oq,cnt];omega
def aba{f:Nat}(hf:f<g.length)(hin:fT mk f=true)(Ce:∀j,j<f->fT mk (j:Nat)=false):1<=cnt g mk g.length:=by
 have h1:cnt g mk (f+1)=1:=by
  rw[cnt,Pt f Ce,if_pos ⟨hin,λ⟨j,h1,h2,_⟩=>by grind⟩]
 have:=cnt_mono (g:=g) (mk:=mk) (f+1) (g.length - (f+1))
 grind
def abb(hS:Gph.oz g):(nX g mk g.length).2=0↔∀a,a<g.length->fT mk (a:Nat)=false:=by
 rw[TT hS.rg _ (bI _)];constructor
 .intro h a ha;cases he:fT mk a with
  |false=>rfl
  |true=>
   obtain⟨f,h1,h2,h3⟩:=UF g.length a ha he;have:=aba h1 h2 h3;omega
 .exact Pt _
def abd(hS:Gph.oz g):(nX g mk g.length).2<=1↔Joined g mk:=by
 rw[TT hS.rg _ (bI _)];by_cases hex:∃a,a<g.length/\fT mk a=true
 .obtain⟨a,ha,hm⟩:=hex;obtain⟨f,h1,h2,h3⟩:=UF g.length a ha hm;have hp:=aba h1 h2 h3;have h4:=amb hS h1 h2 h3;constructor
  .intro h x y hx hy mx my;have h5:=h4.1 tf;exact((h5 x hx mx).symm hS ⟨tf,tf⟩ h2).trans (h5 y hy my)
  .intro h;have:=h4.2 λi hi mi=>h f i h1 hi h2 mi;omega
 .have h0:∀j,j<g.length->fT mk j=false:=(by grind)
  rw[Pt _ h0];exact⟨λ_ x y hx _ mx _=>(by rw[h0 x hx]at mx;cases mx),λ_=>bH _⟩
def abe(hN:wZ n g)(hs:bQ n s)(hmk:∀c,0<=c->c<(n:Int)->fT mk' (aV s c)=fT mk c)(hnb:∀a b,Nb g a b->Nb g (aV s a) (aV s b))(h:Joined g mk):Joined g mk':=by
 intro a b ha hb ma mb;have hn:=hN.1;obtain⟨c,c0,c1,hc⟩:=hs.onto (y:=a) tf tf;obtain⟨d,d0,d1,hd⟩:=hs.onto (y:=b) tf tf;rw[<- hc,hmk c c0 c1]at ma;rw[<- hd,hmk d d0 d1]at mb;obtain⟨cn,rfl⟩:=jK c0;obtain⟨dn,rfl⟩:=jK d0;have:=(am7 hN hmk hnb ⟨c0,c1⟩ (h cn dn tf tf ma mb)).2
 grind
structure yF(n:Nat)(g:List (List Int))(s:List Int)(mk mk':List Bool):Prop where
 yG:Gph.oz g
 aR:wZ n g
 nd:∀l∈g,l.Nodup
 ps:bQ n s
 marks:∀c,0<=c->c<(n:Int)->fT mk' (aV s c)=fT mk c
 keep:∀a b,Nb g a b->Nb g (aV s a) (aV s b)
def yF.back(h:yF n g s mk mk'):yF n g (jl s) mk' mk:=by
 refine⟨h.yG,h.aR,h.nd,h.ps.inv,λc c0 c1=>?_,λa b hab=>?_⟩
 .have:=h.ps.inv.at_ c0 c1;rw[<- h.marks _ this.1 this.2,h.ps.Kq c0 c1]
 .obtain⟨c,d,hcd,rfl,rfl⟩:=aa9 h.aR h.ps h.keep hab;have hr:=hcd.eY h.aR;rw[h.ps.yD hr.1.1 hr.1.2,h.ps.yD hr.2.1 hr.2.2];exact hcd
def yF.few(h:yF n g s mk mk'):(nX g mk g.length).2<=1↔(nX g mk' g.length).2<=1:=by
 rw[abd h.yG,abd h.yG];exact⟨abe h.aR h.ps h.marks h.keep,abe h.back.aR h.back.ps h.back.marks h.back.keep⟩
def yF.abf(h:yF n g s mk mk')(h0:∀a,a<g.length->fT mk' (a:Nat)=false):∀a,a<g.length->fT mk (a:Nat)=false:=by
 intro a ha;have hn:=h.aR.1;have hr:=h.ps.at_ (c:=a) tf tf;rw[<- h.marks a tf tf];have:=h0 (aV s a).toNat tf
 grind
def yF.zero(h:yF n g s mk mk'):(nX g mk g.length).2=0↔(nX g mk' g.length).2=0:=by
 rw[abb h.yG,abb h.yG];exact⟨h.back.abf,h.abf⟩
def am8{a b:ae Int}(ha:a.Nodup)(hb:b.Nodup)(h:∀x,x∈a↔x∈b):a.Perm b:=by
 grind
def UG{n:Nat}{s:ae Int}{p q:Int->Bool}:∀{l:ae Int},mo n l->(∀c,0<=c->c<(n:Int)->q (aV s c)=p c)->((img s l).filter q).length=(l.filter p).length
 |[],_,_=>rfl
 |c::l,hl,h=>by
  have hc:=hl c (fF ..);have ih:=UG (λx hx=>hl x (iw _ hx)) h;unfold img at ih⊢
  grind
def abg(mk:ae Bool)(n:Nat):OU mk n=((upTo' n).filter (fT mk)).length:=by
 unfold OU upTo';rw[List.filter_map,bC];rfl
def yF.size(h:yF n g s mk mk'):OU mk g.length=OU mk' g.length:=by
 have hn:=h.aR.1;rw[hn,abg,abg];have hid:=bQ.ident n;have hin:=λc hc=>hid.eY c hc;have h1:=UG hin h.marks;have h2:=am8 (am2 h.ps hin hid.nd) hid.nd λx=>by
  constructor
  .intro hx;have:=(mo.img h.ps hin) x hx;exact hid.mem this.1 this.2
  .intro hx;have:=hid.eY x hx;obtain⟨c,c0,c1,rfl⟩:=h.ps.onto this.1 this.2;exact dM.2 ⟨c,hid.mem c0 c1,rfl⟩
 rw[<- h1,(h2.filter (fT mk')).length_eq]
end Kd
namespace Kd
open Go Go.Ideal Canon
variable{L:ae (ae Int)}
def abh(hn:L.Nodup)(hs:∀l∈L,l.Pairwise (·<·)):CF L:=by
 intro i j a b ha hb hp;have e:=List.Perm.eq_of_pairwise (λx y _ _ h1 h2=>by omega) (hs a (aU ha)) (hs b (aU hb)) hp;subst e;exact Ko hn ha hb
def am9{α:Type}{K:ae α}{F:α->ae Int}(hn:K.Nodup)(h:∀a∈K,∀b∈K,(F a).Perm (F b)->a=b):CF (K.map F):=by
 intro i j a b ha hb hp;rw[dZ]at ha hb;obtain⟨x,hx,rfl⟩:=lq.1 ha;obtain⟨y,hy,rfl⟩:=lq.1 hb;have:=h x (aU hx) y (aU hy) hp;subst this;exact Ko hn hx hy
variable{g:bA}
def UH(hg:eF g)(kf:Int×Int->Int×Bool):CF (jT g kf):=by
 obtain⟨h1,h2⟩:=aa2 kf _ (bN g) rfl;refine am9 (aaQ h1) λa ha b hb hp=>?_;rw[yB]at ha hb;rw[(h2 a).2,(h2 b).2]at hp;have hne:=(h2 a).1.1 ha;cases hl:rq kf (bN g) a with
 |nil=>exact absurd hl hne
 |cons c l=>
  have hc:c∈rq kf (bN g) a:=by grind
  have hc':=hp.mem_iff.1 hc;obtain⟨p,hp1,hp2⟩:=dM.1 hc;obtain⟨q,hq1,hq2⟩:=dM.1 hc';obtain⟨p3,p4⟩:=tT.1 hp1;obtain⟨q3,q4⟩:=tT.1 hq1;have e:=Kk hg p3 q3 (.inl (hp2.trans hq2.symm))
  grind
def GX(h:L.length<=1):CF L:=by
 intro i j a b ha hb _
 grind
def ana(hg:eF g):CF (mP g):=by
 unfold mP;split
 .exact UH hg _
 split
 .rw[Pj,Pj];generalize hA:dY g.cells.length (λb=>decide ((iZ g b).1=(iZ g b).2))=A;generalize hB:dY g.cells.length (λb=>decide ((iZ g b).1+(iZ g b).2=g.w - 1))=B;have iA:A.Pairwise (·<·):=by rw[<- hA];exact Pg _ _
  have iB:B.Pairwise (·<·):=by rw[<- hB];exact Pg _ _
  by_cases a0:A=[]
  .rw[if_pos a0];by_cases b0:B=[]
   .rw[if_pos b0];exact GX (by simp[lQ])
   .rw[if_neg b0];exact GX (by simp[lQ,wT])
  .rw[if_neg a0];by_cases b0:B=[]
   .rw[if_pos b0];exact GX (by simp[lQ])
   .rw[if_neg b0];by_cases e:A=B
    .refine GX ?_;simp[lQ,wT,e]
    .have:lQ [A] [B]=[A,B]:=by simp[lQ,wT,e]
     rw[this];refine abh (by simp[e]) λl hl=>?_
     grind
 .exact GX tg
def anb(hg:eF g):CF (jk (bR g)):=by
 refine abh ?_ λl hl=>?_
 .unfold jk;unfold List.Nodup;rw[List.pairwise_flatMap];refine⟨λx hx=>?_,?_⟩
  .have hx:=aU (BB.1 (hx));unfold ko;rw[yV];obtain⟨p,_,hp⟩:=dM.1 (hx);have hnd:x.1.Nodup:=by rw[<- hp];exact Us hg p
   exact(List.Pairwise.filter _ hnd).imp λ{a b} hne e=>hne (by injection e with _ e;injection e)
  .have hz:∀(l:ae (ae Int)) (n:Nat),(l.zipIdx n).Pairwise λa b=>a.2<b.2:=by
    intro l;induction l with
    |nil=>intro n;exact List.Pairwise.nil
    |cons a l ih=>
     intro n;rw[List.zipIdx_cons,wo];refine⟨λx hx=>?_,ih (n+1)⟩;have:=List.le_snd_of_mem_zipIdx hx;omega
   refine(hz (bR g) 0).imp λ{a b} h x hx y hy e=>?_;obtain⟨u,_,rfl⟩:=dM.1 hx;obtain⟨v,_,rfl⟩:=dM.1 hy;injection e with e _;omega
 .obtain⟨i,x,j,_,_,h,rfl⟩:=aaR hl;simp[h]
def anc(hg:eF g)(k:Int):ru g.cells.length (dL g k) k:=by
 refine⟨λl hl=>(aaL hg k l hl).2,λhb=>?_,λhb=>?_⟩
 .unfold oD at hb;simp only[Fs,qL]at hb;rcases hb with(rfl|rfl)|rfl
  .exact O3 _
  .exact yA g
  .show(mQ (bR g)).length=_;rw[Ue];exact yA g
 .unfold oD at hb;simp only[Bool.or_eq_false_iff,decide_eq_false_iff_not]at hb;unfold dL;rw[if_neg hb.1.1];split
  .exact UH hg _
  split
  .exact UH hg _
  split
  .exact ana hg
  rw[if_neg hb.1.2,if_neg hb.2];split
  .exact anb hg
  .exact GX tg
def ane(hg:eF g){rs:ae (ae Int)}(hr:wU g rs)(hn:(rs.map cK).Nodup)(k:Int)(hk:oD k=false):ru g.cells.length (eH g rs) k:=by
 refine⟨λl hl=>(aaM hg hr l hl).2,(λhb=>by rw[hk]at hb;cases hb),λ_=>?_⟩;intro i j a b ha hb hp;unfold eH at ha hb;rw[dZ]at ha hb;obtain⟨x,hx,rfl⟩:=lq.1 ha;obtain⟨y,hy,rfl⟩:=lq.1 hb;have back:∀z∈rs,(fH g z).map (λn=>g.cells.getD n.toNat 0)=z:=λz hz=>by
  unfold fH;rw[sj];conv=>rhs;rw[<- Ih z]
  refine yS λc hc=>?_;have hm:=(hr.all z hz).mem c hc;have nY:g.cells.Pairwise (·<·):=x7
  obtain⟨m,hm2⟩:=iI hm;show g.cells.getD ((zD c g.cells):Int).toNat 0=c;rw[O5 nY hm2];exact iR hm2
 have h1:=hp.map (λn=>g.cells.getD n.toNat 0);rw[back x (aU hx),back y (aU hy)]at h1;have h2:=Ps.2 h1;have h3:(rs.map cK)[i]? =some (cK x):=by rw[dZ,hx];rfl
 have h4:(rs.map cK)[j]? =some (cK x):=by rw[dZ,hy,h2];rfl
 exact Ko hn h3 h4
def anf{d:bK}(hg:eF (aT d))(hr:∀r∈d.regions,wU (aT d) r.lists/\(r.lists.map cK).Nodup){f:Nat}{L:ae (ae Int)}(h:(mR d)[f]? =some L):ru (aT d).cells.length L (f:Int):=by
 unfold mR at h;by_cases hf:f<8
 .rw[pX (by exact hf),dZ,yR hf]at h;cases h;exact anc hg _
 .rw[tO yb,dZ]at h;obtain⟨r,hr2,rfl⟩:=lq.1 h;have:=hr r (aU hr2);refine ane hg this.1 this.2 _ ?_;unfold oD;simp only[Bool.or_eq_false_iff,decide_eq_false_iff_not];omega
end Kd
namespace Kd
open Go Go.Ideal Canon
structure ang(m:Nat)(cl:List Int):Prop where
 len:cl.length=m
 CJ:∀i:Nat,i<m->0<=aV cl (i:Int)/\aV cl (i:Int)<=(i:Int)/\aV cl (aV cl (i:Int))=aV cl (i:Int)
structure yH(m:Nat)(cl t:List Int):Prop where
 p:bQ m t
 c:∀v:Int,0<=v->v<(m:Int)->aV cl (aV t v)=aV cl v
def Kt(cl sy:ae Int)(s:Int):ak Nat:=(List.range cl.length).find? λt:Nat=>decide (aV cl (t:Int)=aV cl s)&&!decide ((t:Int)∈sy)
def Ku(cl sy:ae Int)(s:Int):ae Int:=if 0<=aV sy s then sy else match Kt cl sy s with
 |none=>sy
 |some t=>sy.set s.toNat (t:Int)
def grd(cl seq:ae Int):ae Int:=seq.foldl (Ku cl) (List.replicate cl.length (-1))
structure GInv(m:Nat)(cl sy:List Int):Prop where
 len:sy.length=m
 val:∀s:Int,0<=s->s<(m:Int)->aV sy s= -1\/(0<=aV sy s/\aV sy s<(m:Int)/\aV cl (aV sy s)=aV cl s)
 inj:∀s u:Int,0<=s->s<(m:Int)->0<=u->u<(m:Int)->aV sy s=aV sy u->0<=aV sy s->s=u
variable{s:Int}
def UI{l:ae Int}{x u:Int}(s0:0<=s)(s1:s<l.length)(u0:0<=u):aV (l.set s.toNat x) u=if u=s then x else aV l u:=by
 unfold aV
 grind
variable{cl sy:ae Int}{m:Nat}
def GInv.mem(h:GInv m cl sy){t:Int}(t0:0<=t)(ht:t∈sy):∃u:Int,0<=u/\u<(m:Int)/\aV sy u=t/\aV cl t=aV cl u/\t<(m:Int):=by
 obtain⟨i,hi⟩:=iI ht;have hl:=(bJ.1 hi).1;have hlen:=h.len;have e:=mU hi;refine⟨i,tf,tf,e,?_⟩;rcases h.val i tf (tf)with h1|h1
 .omega
 .rw[e]at h1;exact⟨h1.2.2,h1.2.1⟩
def GInv.room(hc:cl.length=m)(h:GInv m cl sy){s:Int}(s0:0<=s)(s1:s<(m:Int))(hs:aV sy s= -1):∃t,Kt cl sy s=some t:=by
 cases hf:Kt cl sy s with
 |some t=>exact⟨t,rfl⟩
 |none=>
  unfold Kt at hf;rw[List.find?_eq_none]at hf;have hall:∀t:Int,0<=t->t<m->aV cl t=aV cl s->t∈sy:=λt t0 t1 hcl=>by
   have:=hf t.toNat (r9.2 tf)
   rw[BC t0]at this;simp[hcl]at this;exact this
  have hC:∀t,t∈(upTo' m).filter (λt=>decide (aV cl t=aV cl s))↔(0<=t/\t<m)/\aV cl t=aV cl s:=λt=>by
   rw[tT,qL];refine and_congr_left λ_=>⟨λq=>(bQ.ident m).eY t q,λq=>(bQ.ident m).mem q.1 q.2⟩
  have hnd:((upTo' m).filter (λt=>decide (aV cl t=aV cl s))).Nodup:=(Kl m).filter _;generalize(upTo' m).filter (λt=>decide (aV cl t=aV cl s))=C at hC hnd;have hidx:∀t∈C,sy.idxOf t<sy.length/\aV sy (sy.idxOf t)=t:=λt ht=>by
   have h1:=(hC t).1 ht;have hl:=List.idxOf_lt_length_iff.2 (hall t h1.1.1 h1.1.2 h1.2);refine⟨hl,mU ?_⟩;rw[bY hl,List.getElem_idxOf]
  have hsC:=(hC s).2 ⟨⟨s0,s1⟩,rfl⟩;have h1:=Pe (l:=C.map λt=>((sy.idxOf t):Int)) (Uz hnd λa ha b hb e=>by
   have e1:=(hidx a ha).2;have e2:=(hidx b hb).2;rw[<- e1,<- e2,e]) (λx hx=>by
   obtain⟨t,ht,rfl⟩:=dM.1 hx;obtain⟨k1,k2⟩:=hidx t ht;have k3:=(hC t).1 ht;have hlen:=h.len;have hne:((sy.idxOf t:Nat))≠s:=λe=>by rw[e]at k2;omega
   refine(List.mem_erase_of_ne hne).2 ((hC _).2 ⟨⟨tf,tf⟩,?_⟩);rcases h.val ((sy.idxOf t:Nat)) tf (tf)with q|q
   .omega
   .rw[<- q.2.2,k2];exact k3.2)
  have h2:=afR hsC;have h3:=WI hsC;rw[bC]at h1;omega
def ani{t:Nat}(h:Kt cl sy s=some t):t<cl.length/\aV cl (t:Int)=aV cl s/\(t:Int)∉sy/\∀u:Nat,u<t->aV cl (u:Int)=aV cl s->(u:Int)∈sy:=by
 have h1:=List.find?_some h;have h2:=WA h;simp at h1;refine⟨r9.1 h2,h1.1,h1.2,λu hu hcl=>?_⟩;obtain⟨h3,a,b,e,h4⟩:=List.find?_eq_some_iff_append.1 h;have hat:a=List.range t:=by
  have l1:a.length=t:=by
   have hg:(List.range cl.length)[a.length]? =some t:=by grind
   grind
  have:a=(List.range cl.length).take t:=by grind
  grind
 grind
def GInv.step(hc:cl.length=m)(h:GInv m cl sy){s:Int}(s0:0<=s)(s1:s<(m:Int)):GInv m cl (Ku cl sy s)/\0<=aV (Ku cl sy s) s/\∀u:Int,0<=u->u≠s->aV (Ku cl sy s) u=aV sy u:=by
 unfold Ku;by_cases h0:0<=aV sy s
 .grind
 rw[if_neg h0];have hs:aV sy s= -1:=by
  rcases h.val s s0 s1 with q|q
  .exact q
  .omega
 obtain⟨t,ht⟩:=h.room hc s0 s1 hs;rw[ht];obtain⟨k1,k2,k3,_⟩:=ani ht;have hlen:=h.len;have hg:∀u:Int,0<=u->aV (sy.set s.toNat (t:Int)) u=if u=s then(t:Int)else aV sy u:=λu u0=>UI s0 tf u0
 have hno:∀u:Int,0<=u->u<(m:Int)->aV sy u≠(t:Int):=λu u0 u1 e=>k3 (e▸Uy u0 tf);refine⟨⟨by grind,λu u0 u1=>?_,λu w u0 u1 w0 w1 e he=>?_⟩,?_,λu u0 hne=>?_⟩
 .rw[hg u u0];split
  .grind
  .exact h.val u u0 u1
 .rw[hg u u0,hg w w0]at e;rw[hg u u0]at he;split at e
  .grind
  .rename_i e1;rw[if_neg e1]at he;split at e
   .exact absurd e (hno u u0 u1)
   .exact h.inj u w u0 u1 w0 w1 e he
 .grind
 .rw[hg u u0,if_neg hne]
end Kd
namespace Kd
open Go Go.Ideal Canon
def UJ(sy:Int->Bool)(t:ae Int)(g:Clue):Clue:=⟨g.aS,g.at_,if sy g.aS then img t g.values else g.values⟩
def ED(sy:Int->Bool)(t:ae Int)(p:ae Clue):ae Clue:=p.map (UJ sy t)
def Pv(sy:Int->Bool)(m:Nat)(p:ae Clue):Prop:=∀g∈p,sy g.aS=true->∃v,g.values=[v]/\0<=v/\v<(m:Int)
def anj(sy:Int->Bool)(p:ae Clue):ae Int:=p.flatMap λg=>if sy g.aS then g.values else[]
def ank(sy:Int->Bool)(cl:ae Int)(p:ae Clue):ae Int:=grd cl (anj sy p++upTo' cl.length)
def Pv.tail{sy:Int->Bool}{m:Nat}{g:Clue}{p:ae Clue}(h:Pv sy m (g::p)):Pv sy m p:=λx hx=>h x (iw _ hx)
section
variable {sy:Int->Bool} {m:Nat} {cl t t2:ae Int} {p:ae Clue}
def yH.comp(h:yH m cl t)(h2:yH m cl t2):yH m cl (dA t2 t):=by
 refine⟨h2.p.comp h.p,λv v0 v1=>?_⟩;have r:=h.p.at_ v0 v1;rw[AY v0 (by rw[h.p.len];exact v1),h2.c _ r.1 r.2,h.c v v0 v1]
def yH.inv(h:yH m cl t):yH m cl (jl t):=by
 refine⟨h.p.inv,λv v0 v1=>?_⟩;have r:=h.p.inv.at_ v0 v1;rw[<- h.c _ r.1 r.2,h.p.Kq v0 v1]
def yH.ident(cl:ae Int)(m:Nat):yH m cl (upTo' m):=⟨bQ.ident m,λv v0 v1=>by rw[wW v0 v1]⟩
def anl{a b:ae Clue}(h1:¬NT a b<0)(h2:¬NT b a<0):a=b:=by
 have h3:=YJ.neg b a;refine(YJ.zero a b).1 ?_
 grind
end
end Kd
namespace Kd
open Go Go.Ideal Canon
structure CK(n:Nat)(G:List (List Int)):Prop where
 perm:∀a∈G,bQ n a
 one:upTo' n∈G
 comp:∀a∈G,∀b∈G,dA a b∈G
 inv:∀a∈G,jl a∈G
section
variable {n:Nat} {a b c:ae Int}
def bQ.inr(h:bQ n a):mo n a:=h.eY
def Kv(hb:bQ n b)(hc:bQ n c):dA (dA a b) c=dA a (dA b c):=by
 exact Po (by rw[hb.len];exact hc.inr)
def abk(h:bQ n a):dA a (upTo' n)=a:=by
 apply jr;intro i;show((upTo' n).map (aV a))[i]? =_;rw[dZ];by_cases hi:i<n
 .have h1:=rO (p:=upTo' n) (c:=i) tf ur;have h2:=rO (c:=i) tf ye;rw[jJ]at h1 h2;rw[h1,h2,wW tf tf];rfl
 .rw[iJ ur,iJ ye];rfl
def Kw(h:bQ n a):dA (upTo' n) a=a:=by
 conv=>rhs;rw[<- Ih a]
 exact yS λx hx=>wW (h.eY x hx).1 (h.eY x hx).2
def abl(h:bQ n a):dA a (jl a)=upTo' n:=by
 apply jr;intro i;show((jl a).map (aV a))[i]? =_;rw[dZ];have hl:=h.inv.len;by_cases hi:i<n
 .have h1:=rO (p:=upTo' n) (c:=i) tf ur;have h2:=rO (p:=jl a) (c:=i) tf tf;rw[jJ]at h1 h2;rw[h1,h2,wW tf tf];show some (aV a (aV (jl a) i))=_;rw[h.Kq tf tf]
 .rw[iJ tf,iJ ur];rfl
def anm(h:bQ n a):dA (jl a) a=upTo' n:=by
 apply jr;intro i;show(a.map (aV (jl a)))[i]? =_;rw[dZ];by_cases hi:i<n
 .have h1:=rO (p:=upTo' n) (c:=i) tf ur;have h2:=rO (c:=i) tf ye;rw[jJ]at h1 h2;rw[h1,h2,wW tf tf];show some (aV (jl a) (aV a i))=_;rw[h.yD tf tf]
 .rw[iJ ye,iJ ur];rfl
def UK(ha:bQ n a)(hb:bQ n b)(hc:bQ n c)(e:dA a b=dA a c):b=c:=by
 have h1:dA (jl a) (dA a b)=dA (jl a) (dA a c):=we
 rwa [<- Kv ha hb,<- Kv ha hc,anm ha,Kw hb,Kw hc]at h1
end
structure oF(n:Nat)(gy l:List (List Int))(k:Nat):Prop where
 gp:∀g∈gy,bQ n g
 nd:l.Nodup
 first:l[0]? =some (upTo' n)
 CL:∀(i:Nat) p,l[i]? =some p->i=0\/∃(j:Nat) (g q:List Int),j<i/\g∈gy/\l[j]? =some q/\p=dA g q
 done:∀(i:Nat) q,i<k->l[i]? =some q->∀g∈gy,dA g q∈l
variable{n k:Nat}{l gy:ae (ae Int)}
def oF.perm(h:oF n gy l k):∀(i:Nat) p,l[i]? =some p->bQ n p:=by
 intro i;induction i using Nat.strongRecOn with
 |_ i ih=>
  intro p hp;rcases h.CL i p hp with e|⟨j,g,q,hj,hg,hq,rfl⟩
  .subst e;rw[h.first]at hp;cases hp;exact bQ.ident n
  .exact(h.gp g hg).comp (ih j hj q hq)
def oF.all(h:oF n gy l k){P:ae Int->Prop}(h1:P (upTo' n))(h2:∀g∈gy,∀q,bQ n q->P q->P (dA g q)):∀p∈l,P p:=by
 have key:∀(i:Nat) p,l[i]? =some p->P p:=by
  intro i;induction i using Nat.strongRecOn with
  |_ i ih=>
   intro p hp;rcases h.CL i p hp with e|⟨j,g,q,hj,hg,hq,rfl⟩
   .subst e;rw[h.first]at hp;cases hp;exact h1
   .exact h2 g hg q (h.perm j q hq) (ih j hj q hq)
 intro p hp;obtain⟨i,hi⟩:=iI hp;exact key i p hi
def oF.mul(h:oF n gy l l.length){b:ae Int}(hb:b∈l):∀(i:Nat) a,l[i]? =some a->dA a b∈l:=by
 obtain⟨jb,hjb⟩:=iI hb;have hbp:=h.perm jb b hjb;intro i;induction i using Nat.strongRecOn with
 |_ i ih=>
  intro a ha;rcases h.CL i a ha with e|⟨j,g,q,hj,hg,hq,rfl⟩
  .subst e;rw[h.first]at ha;cases ha;rw[Kw hbp];exact hb
  .rw[Kv (h.perm j q hq) hbp];obtain⟨m,hm⟩:=iI (ih j hj q hq);exact h.done m _ (by grind) hm g hg
def ann(hp:∀a∈l,bQ n a)(h1:upTo' n∈l)(hm:∀a∈l,∀b∈l,dA a b∈l){a:ae Int}(ha:a∈l):jl a∈l:=by
 have hap:=hp a ha;have hmem:∀i,i<l.length->l.getD i []∈l:=λi hi=>by
  rw[iR (bY hi)];exact rY _
 have hc:∀i,∃i',i<l.length->l[i']? =some (dA a (l.getD i [])):=λi=>by
  by_cases hi:i<l.length
  .obtain⟨i',h⟩:=iI (hm a ha _ (hmem i hi));exact⟨i',λ_=>h⟩
  .exact⟨0,λh=>absurd h hi⟩
 obtain⟨j,hj⟩:=iI h1;obtain⟨i,hi,e⟩:=UA
  (λi hi=>hp _ (hmem i hi)) (λb hb=>hap.comp hb) (λ_=>rfl) (λ_ _ e=>e.symm) (λ_ _ _ e e'=>e.trans e')
  (λx y hx hy=>⟨λe=>UK hap hx hy e,λe=>by rw[e]⟩)
  (λi hi=>by
    exact pH) (bJ.1 hj).1
 rw[iR hj]at e;have hb:=hmem i hi;have:jl a=l.getD i []:=by
  refine UK hap hap.inv (hp _ hb) ?_;rw[abl hap,e]
 rw[this];exact hb
def oF.CO(h:oF n gy l l.length):CK n l:=by
 have hp:∀a∈l,bQ n a:=λa ha=>by
  obtain⟨i,hi⟩:=iI ha;exact h.perm i a hi
 have h1:=aU h.first
 have hm:∀a∈l,∀b∈l,dA a b∈l:=λa ha b hb=>by
  obtain⟨i,hi⟩:=iI ha;exact h.mul hb i a hi
 exact⟨hp,h1,hm,λa ha=>ann hp h1 hm ha⟩
def CK.aaW{G H:ae (ae Int)}(h:CK n G)(e:∀a,a∈H↔a∈G):CK n H:=
 ⟨λa ha=>h.perm a ((e a).1 ha),(e _).2 h.one,λa ha b hb=>(e _).2 (h.comp a ((e a).1 ha) b ((e b).1 hb)),λa ha=>(e _).2 (h.inv a ((e a).1 ha))⟩
def ano{α:Type}{f:α->ae Int}{l:ae α}(h:l.Nodup)(hf:∀a∈l,∀b∈l,f a=f b->a=b):(l.map f).Nodup:=by
 exact pL
def UL:∀{l m:ae (ae Int)},l.Nodup->(∀x∈l,x∈m)->l.length<=m.length
 |[],m,_,_=>bH _
 |a::l,m,hd,hs=>by
  have ha:=hs a (fF ..);have:=UL (m:=m.erase a) (QZ.1 hd).2 (by grind)
  grind
def abm(p:ae Int->Bool):∀l:ae (ae Int),l.length=(l.filter p).length+(l.filter λx=>!p x).length
 |[]=>rfl
 |a::l=>by
  have:=abm p l
  grind
def abn{n:Nat}{A:ae (ae Int)}(hA:CK n A)(hn:A.Nodup):∀(k:Nat) (R:ae (ae Int)),R.length<=k->R.Nodup->(∀b∈R,bQ n b)->(∀b∈R,∀a∈A,dA b a∈R)->R.length%A.length=0
 |0,R,hk,_,_,_=>by rw[show R.length=0 by omega];exact Nat.zero_mod _
 |k+1,R,hk,hR,hP,hc=>by
  cases hRe:R with
  |nil=>exact Nat.zero_mod _
  |cons b R0=>
   rw[<- hRe];have hb:b∈R:=by grind
   have hbp:=hP b hb;have hCn:=ano hn λx hx y hy e=>UK hbp (hA.perm x hx) (hA.perm y hy) e;have hC:∀x,x∈(A.map λa=>dA b a)↔∃a∈A,dA b a=x:=λx=>dM;have hlen:(A.map λa=>dA b a).length=A.length:=bC ..;generalize(A.map λa=>dA b a)=C at hCn hC hlen;have h1:=abm (λx=>decide (x∈C)) R;have h2:(R.filter λx=>decide (x∈C)).length=C.length:=by
    refine Nat.le_antisymm (UL (hR.filter _) (by grind)) (UL hCn (by grind))
   have hpos:=WI hA.one;have h3:=abn hA hn k (R.filter λx=>!decide (x∈C)) tf (hR.filter _) (by grind) (λx hx a ha=>by
    obtain⟨x1,x2⟩:=tT.1 hx;refine tT.2 ⟨hc x x1 a ha,?_⟩;have x2:x∉C:=by simpa using x2
    have:dA x a∉C:=λq=>by
     obtain⟨a',ha',e⟩:=(hC _).1 q;refine x2 ((hC x).2 ⟨dA a' (jl a),hA.comp _ ha' _ (hA.inv a ha),?_⟩);have hap:=hA.perm a ha;have e2:dA (dA b a') (jl a)=dA (dA x a) (jl a):=we
     rw[Kv (hA.perm a' ha') hap.inv,Kv hap hap.inv,abl hap,abk (hP x x1)]at e2;exact e2
    simpa using this)
   rw[h1,h2,hlen,Nat.add_mod_left];exact h3
def anp{A B:ae (ae Int)}(hA:CK n A)(hB:CK n B)(nA:A.Nodup)(nB:B.Nodup)(h:∀a∈A,a∈B):B.length%A.length=0:=
 abn hA nA _ B (bI _) nB hB.perm λb hb a ha=>hB.comp b hb a (h a ha)
