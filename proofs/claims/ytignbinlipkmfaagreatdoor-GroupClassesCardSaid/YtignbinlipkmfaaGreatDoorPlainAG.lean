/- Part. -/
import Derived.Test.YtignbinlipkmfaaGreatDoorIdealNG
set_option linter.all false
namespace Gph
def dU(l:ae Bool)(n:Int):Bool:=l.getD n.toNat false
def inner(bE:ae Bool):ae Int->ae Bool->ae Int->ae Bool×ae Int
 |[],met,q=>(met,q)
 |n::ns,met,q=>if dU bE n&&!dU met n then inner bE ns (met.set n.toNat true) (q++[n])else inner bE ns met q
def xI(g:ae (ae Int))(bE:ae Bool):Nat->ae Bool->ae Int->ae Int
 |0,_,_=>[]
 |_+1,_,[]=>[]
 |f+1,met,q::qs=>q::xI g bE f (inner bE (g.getD q.toNat []) met (q::qs)).1 (inner bE (g.getD q.toNat []) met (q::qs)).2.tail
def CB(m:Nat)(s:Int):ae Bool:=(List.replicate m false).set s.toNat true
def K9(g:ae (ae Int))(bE:ae Bool)(s:Int):ae Int:=xI g bE (g.length+1) (CB g.length s) [s]
def left(met:ae Bool):Nat:=(met.filter (!·)).length
variable{met:ae Bool}
def aix{n:Nat}(h:met[n]? =some false):left (met.set n true)+1=left met:=by
 induction met generalizing n with
 |nil=>cases h
 |cons b met ih=>
  cases n with
  |zero=>cases h;simp[left]
  |succ n=>
   have:=ih (n:=n) qS;simp only[left,List.set_cons_succ,Bz]at this⊢;cases b<;>simp at this⊢<;>omega
variable{a n:Int}
def La(ha:0<=a)(hn:0<=n)(h:a<met.length):dU (met.set a.toNat true) n=(decide (n=a)||dU met n):=by
 unfold dU;obtain⟨a,rfl⟩:=iQ ha;obtain⟨n,rfl⟩:=iQ hn;simp only[ic,BC,ow];by_cases e:a=n
 .subst e;have:a<met.length:=by omega
  simp[this]
 .have e2:¬((n:Int)=(a:Int)):=by omega
  simp[e,e2]
def Rg(g:ae (ae Int))(n:Int):Prop:=0<=n/\n<g.length
def PT{g:ae (ae Int)}{bE:ae Bool}:∀(ns:ae Int) (met:ae Bool) (q:ae Int),met.length=g.length->(∀n∈ns,Rg g n)->
 (inner bE ns met q).1.length=g.length/\(∀n,0<=n->(dU (inner bE ns met q).1 n=true↔dU met n=true\/(n∈ns/\dU bE n=true)))/\
 left (inner bE ns met q).1+(inner bE ns met q).2.length=left met+q.length/\∃t,(inner bE ns met q).2=q++t/\∀n,(n∈t↔n∈ns/\dU bE n=true/\dU met n=false)
 |[],met,q,hm,hr=>by simp[inner,hm]
 |a::ns,met,q,hm,hr=>by
  have ha:=hr a qe;have hr':∀n∈ns,Rg g n:=λn hn=>hr n (by simp[hn]);unfold Rg at ha;rw[inner];by_cases hc:(dU bE a&&!dU met a)=true
  .rw[if_pos hc];simp only[dG,BA]at hc;obtain⟨h1,h2,h4,t,h5,h3⟩:=PT (g:=g) (bE:=bE) ns (met.set a.toNat true) (q++[a]) (by simpa using hm) hr';refine⟨h1,λn hn=>?_,?_,a::t,by rw[h5];simp,λn=>?_⟩
   .rw[h2 n hn,La ha.1 hn p0];simp only[yf,Dl,bN];constructor
    .rintro((rfl|h)|h)
     .exact .inr ⟨.inl rfl,hc.1⟩
     .exact .inl h
     .exact .inr ⟨.inr h.1,h.2⟩
    .rintro(h|⟨rfl|h,h'⟩)
     .exact .inl (.inr h)
     .exact .inl (.inl rfl)
     .exact .inr ⟨h,h'⟩
   .have hs:met[a.toNat]? =some false:=by
     have:dU met a=false:=hc.2;unfold dU at this;rw[BC]at this;have hl:a.toNat<met.length:=p0
     rw[bH hl]at this⊢;simpa using this
    have:=aix hs;rw[h4,dL,qA];omega
   .rw[bN,h3 n];simp only[bN];constructor
    .rintro(rfl|⟨h,h',h''⟩)
     .exact⟨.inl rfl,hc⟩
     .have hn:=(hr' n h).1;rw[La ha.1 hn p0]at h'';simp only[SF]at h'';exact⟨.inr h,h',h''.2⟩
    .rintro⟨rfl|h,h',h''⟩
     .exact .inl rfl
     .by_cases e:n=a
      .exact .inl e
      .refine .inr ⟨h,h',?_⟩;rw[La ha.1 (hr' n h).1 p0];simp[e,h'']
  .rw[if_neg hc];obtain⟨h1,h2,h4,t,h5,h3⟩:=PT (g:=g) (bE:=bE) ns met q hm hr';simp only[dG,BA,not_and,Bool.not_eq_false]at hc;refine⟨h1,λn hn=>?_,h4,t,h5,λn=>?_⟩
   .rw[h2 n hn];simp only[bN];constructor
    .rintro(h|⟨h,h'⟩)
     .exact .inl h
     .exact .inr ⟨.inr h,h'⟩
    .rintro(h|⟨rfl|h,h'⟩)
     .exact .inl h
     .exact .inl (hc h')
     .exact .inr ⟨h,h'⟩
   .rw[h3 n];simp only[bN];constructor
    .rintro⟨h,h'⟩;exact⟨.inr h,h'⟩
    .rintro⟨rfl|h,h',h''⟩
     .rw[hc h']at h'';cases h''
     .exact⟨h,h',h''⟩
inductive lJ(g:List (List Int))(bE:List Bool)(s:Int):Int->Prop
 |refl:lJ g bE s s
 |step {i n:Int} {l:List Int} (h:lJ g bE s i) (hl:g[i.toNat]? =some l) (hn:n∈l) (hi:dU bE n=true):lJ g bE s n
variable{g:ae (ae Int)}{bE:ae Bool}
def lJ.trans{b c:Int}(h:lJ g bE a b)(h2:lJ g bE b c):lJ g bE a c:=by
 induction h2 with
 |refl=>exact h
 |step _ hl hn hi ih=>exact .step ih hl hn hi
def gT(h:Rg g n):g[n.toNat]? =some (g.getD n.toNat []):=by
 have hl:n.toNat<g.length:=by unfold Rg at h;omega
 rw[BC,bH hl];rfl
def Xh{g:ae (ae Int)}{bE:ae Bool}(hg:∀l∈g,∀n∈l,Rg g n):∀(f:Nat) (met:ae Bool) (queue V:ae Int),met.length=g.length->(∀n∈queue,Rg g n)->
 (∀n,0<=n->(dU met n=true↔n∈V\/n∈queue))->(∀v∈V,∀l,g[v.toNat]? =some l->∀n∈l,dU bE n=true->n∈V\/n∈queue)->left met+queue.length<=f->
 (∀v,v∈V\/v∈xI g bE f met queue->∀l,g[v.toNat]? =some l->∀n∈l,dU bE n=true->n∈V\/n∈xI g bE f met queue)/\(∀n∈queue,n∈xI g bE f met queue)/\
 (∀n∈xI g bE f met queue,∃q∈queue,lJ g bE q n)/\∀n∈xI g bE f met queue,Rg g n
 |0,met,queue,V,hm,hq,hM,hcl,hf=>by
  have:queue=[]:=mo.1 p0;subst this;exact gx
 |f+1,met,[],V,hm,hq,hM,hcl,hf=>by
  exact gx
 |f+1,met,q::qs,V,hm,hq,hM,hcl,hf=>by
  have hq0:=hq q qe;have hgd:=gT hq0;have hns:∀n∈g.getD q.toNat [],Rg g n:=hg _ (aV hgd);obtain⟨h1,h2,h4,t,h5,h3⟩:=PT (g:=g) (bE:=bE) (g.getD q.toNat []) met (q::qs) hm hns;rw[xI];generalize hin:inner bE (g.getD q.toNat []) met (q::qs)=r at h1 h2 h4 h5;obtain⟨met',q'⟩:=r;dsimp only at h1 h2 h4 h5⊢;subst h5;rw[fG,List.tail_cons];have hqt:∀n∈qs++t,Rg g n:=λn hn=>by
   rcases fO.1 hn with h|h
   .exact hq n r5
   .exact hns n ((h3 n).1 h).1
  obtain⟨c1,c2,c3,c4⟩:=Xh hg f met' (qs++t) (q::V) h1 hqt (λn hn=>by
   rw[h2 n hn,hM n hn];simp only[bN,fO,h3 n];constructor
   .rintro((h|rfl|h)|⟨h,h'⟩)
    .exact .inl (.inr h)
    .exact .inl (.inl rfl)
    .exact .inr (.inl h)
    .cases hme:dU met n with
     |true=>
      rcases(hM n hn).1 hme with h''|h''
      .exact .inl (.inr h'')
      .rcases bN.1 h'' with rfl|h''
       .exact .inl (.inl rfl)
       .exact .inr (.inl h'')
     |false=>exact .inr (.inr ⟨h,h',rfl⟩)
   .rintro((rfl|h)|h|⟨h,h',_⟩)
    .exact .inl (.inr (.inl rfl))
    .exact .inl (.inl h)
    .exact .inl (.inr (.inr h))
    .exact .inr ⟨h,h'⟩) (λv hv l hl n hn hi=>by
   rcases bN.1 hv with rfl|hv
   .rw[hgd]at hl;cases hl;have hn0:=(hns n hn).1;cases hme:dU met n with
    |true=>
     rcases(hM n hn0).1 hme with h''|h''
     .exact .inl (by simp[h''])
     .rcases bN.1 h'' with rfl|h''
      .exact .inl qe
      .exact .inr (by simp[h''])
    |false=>exact .inr (ou _ ((h3 n).2 ⟨hn,hi,hme⟩))
   .rcases hcl v hv l hl n hn hi with h|h
    .exact .inl r5
    .rcases bN.1 h with rfl|h
     .exact .inl qe
     .exact .inr r5) (by
   simp only[fG,lU,dL]at h4 hf⊢;omega)
  refine⟨λv hv l hl n hn hi=>?_,λn hn=>?_,λn hn=>?_,λn hn=>?_⟩
  .have:=c1 v (by
    rcases hv with h|h
    .exact .inl r5
    .rcases bN.1 h with rfl|h
     .exact .inl qe
     .exact .inr h) l hl n hn hi
   rcases this with h|h
   .rcases bN.1 h with rfl|h
    .exact .inr qe
    .exact .inl h
   .exact .inr r5
  .rcases bN.1 hn with rfl|hn
   .simp
   .exact dO _ (c2 n (by simp[hn]))
  .rcases bN.1 hn with rfl|hn
   .exact⟨n,qe,.refl⟩
   .obtain⟨p,hp,hr⟩:=c3 n hn;rcases fO.1 hp with hp|hp
    .exact⟨p,by simp[hp],hr⟩
    .obtain⟨h,h',_⟩:=(h3 p).1 hp;exact⟨q,qe,(lJ.step .refl hgd h h').trans hr⟩
  .rcases bN.1 hn with rfl|hn
   .exact hq0
   .exact c4 n hn
def Xi(m:Nat)(s:Int):(CB m s).length=m:=by rw[CB,jD,zS]
def PU(hg:∀l∈g,∀n∈l,Rg g n){s:Int}(hs:Rg g s)(n:Int):n∈K9 g bE s↔lJ g bE s n:=by
 have hs':=hs;unfold Rg at hs';obtain⟨c1,c2,c3,_⟩:=Xh (g:=g) (bE:=bE) hg (g.length+1) (CB g.length s) [s] [] (Xi _ _) (λn hn=>by rw[bF.1 hn];exact hs) (λn hn=>by
  rw[CB,La hs'.1 hn (by rw[zS];omega)];have:dU (List.replicate g.length false) n=false:=by
   unfold dU;rw[BC,Na];split<;>rfl
  simp[this]) qe (by
  have:left (CB g.length s)<=(CB g.length s).length:=FB _ _;rw[Xi]at this;simp;omega)
 constructor
 .intro h;obtain⟨q,hq,hr⟩:=c3 n h;rw[bF.1 hq]at hr;exact hr
 .intro h;induction h with
  |refl=>exact c2 s qe
  |step _ hl hn hi ih=>exact(c1 _ (.inr ih) _ hl _ hn hi).resolve_left qe
def aiz(hg:∀l∈g,∀n∈l,Rg g n){s:Int}(hs:Rg g s):∀n∈K9 g bE s,Rg g n:=λn hn=>by
 have h:=(PU hg hs n).1 hn;cases h with
 |refl=>exact hs
 |step _ hl hn _=>exact hg _ (aV hl) n hn
def AY(part:ae Int)(ns:ae Int)(m:Int):ae Int:=ns.foldl (λp n=>p.set n.toNat m) part
def Xj:∀(ns part:ae Int) (m:Int),(AY part ns m).length=part.length
 |[],part,m=>rfl
 |n::ns,part,m=>by
  show(AY (part.set n.toNat m) ns m).length=_;rw[Xj ns,jD]
def Hq(g:ae (ae Int))(bE:ae Bool)(x:ae Int×Nat)(i:Nat):ae Int×Nat:=
 if dU bE i=true/\x.1.getD i 0<=0 then(AY x.1 (K9 g bE i) (x.2+1:Nat),x.2+1)else x
def l9(g:ae (ae Int))(bE:ae Bool)(k:Nat):ae Int×Nat:=(List.range k).foldl (Hq g bE) (List.replicate g.length 0,0)
def PV(g:ae (ae Int))(bE:ae Bool)(k:Nat):l9 g bE (k+1)=Hq g bE (l9 g bE k) k:=by
 rw[l9,BF,wX];rfl
def Xk(g:ae (ae Int))(bE:ae Bool):∀k,(l9 g bE k).1.length=g.length/\(l9 g bE k).2<=k/\∀p∈(l9 g bE k).1,0<=p/\p<=(l9 g bE k).2
 |0=>by
  refine⟨by simp[l9],by simp[l9],λp hp=>?_⟩;simp[l9]at hp⊢;omega
 |k+1=>by
  obtain⟨h1,h2,h3⟩:=Xk g bE k;rw[PV,Hq];split
  .refine⟨by rw[Xj];exact h1,by show _+1<=_;omega,?_⟩;have:∀(ns part:ae Int) (m:Nat),(∀p∈part,0<=p/\p<=(m:Int))->∀p∈AY part ns (m:Nat),0<=p/\p<=(m:Int):=by
    intro ns;induction ns with
    |nil=>intro part m h;exact h
    |cons n ns ih=>
     intro part m h;refine ih _ m λp hp=>?_;rcases List.mem_or_eq_of_mem_set hp with hp|rfl
     .exact h p hp
     .omega
   exact this _ _ _ λp hp=>by have:=h3 p hp;omega
  .exact⟨h1,p0,h3⟩
end Gph
namespace Gph
def Lb(bE:ae Bool)(k:Nat):Nat:=((List.range k).filter λi=>dU bE (i:Nat)).length
end Gph
namespace Gph
variable {g:ae (ae Int)} {bE:ae Bool}
def Xl:∀(ns part:ae Int) (m:Int) (n:Nat),(∀x∈ns,0<=x/\x<part.length)->(AY part ns m).getD n 0=if(n:Int)∈ns then m else part.getD n 0
 |[],part,m,n,_=>by simp[AY]
 |a::ns,part,m,n,h=>by
  have ha:=h a qe;have h2:=Xl ns (part.set a.toNat m) m n (λx hx=>by rw[jD];exact h x (by simp[hx]));show(AY (part.set a.toNat m) ns m).getD n 0=_;rw[h2];obtain⟨a,rfl⟩:=iQ ha.1;by_cases e1:(n:Int)∈ns
  .rw[if_pos e1,if_pos (dO _ e1)]
  .rw[if_neg e1];by_cases e2:n=a
   .subst e2;rw[if_pos qe,ic,BC,ow];have:n<part.length:=by omega
    simp[this]
   .rw[if_neg (by simp only[bN,not_or];exact⟨p0,e1⟩),ic,BC,ow,if_neg (λe=>e2 e.symm),BC]
def PW(g:ae (ae Int))(bE:ae Bool)(k n:Nat):Prop:=∃j,j<k/\dU bE j=true/\lJ g bE j n
def Xm(hg:∀l∈g,∀n∈l,Rg g n):∀k,k<=g.length->∀n:Nat,n<g.length->(0<(l9 g bE k).1.getD n 0↔PW g bE k n)
 |0,_,n,hn=>by
  constructor
  .intro h;simp[l9,BC,Na,hn]at h
  .rintro⟨j,hj,_⟩;omega
 |k+1,hk,n,hn=>by
  have ih:=Xm hg k p0;have hlen:=(Xk g bE k).1;have hkr:Rg g (k:Int):=⟨p0,p0⟩
  rw[PV,Hq];by_cases hc:dU bE k=true/\(l9 g bE k).1.getD k 0<=0
  .rw[if_pos hc];show 0<(AY _ _ _).getD n 0↔_;rw[Xl _ _ _ _ (λx hx=>by rw[hlen];exact aiz hg hkr x hx)];by_cases hr:(n:Int)∈K9 g bE k
   .rw[if_pos hr];have:=(PU hg hkr n).1 hr;exact⟨λ_=>⟨k,p0,hc.1,this⟩,λ_=>by omega⟩
   .rw[if_neg hr,ih n hn];rw[PU hg hkr]at hr;constructor
    .rintro⟨j,h1,h2,h3⟩;exact nB
    .rintro⟨j,h1,h2,h3⟩;by_cases e:j=k
     .subst e;exact absurd h3 hr
     .exact nB
  .rw[if_neg hc,ih n hn];constructor
   .rintro⟨j,h1,h2,h3⟩;exact nB
   .rintro⟨j,h1,h2,h3⟩;by_cases e:j=k
    .subst e;have:0<(l9 g bE j).1.getD j 0:=by
      apply Classical.byContradiction;intro hno;exact hc ⟨h2,p0⟩
     obtain⟨i,q1,q2,q3⟩:=(ih j p0).1 this;exact⟨i,q1,q2,q3.trans h3⟩
    .exact nB
open Classical in
noncomputable def cnt(g:ae (ae Int))(bE:ae Bool):Nat->Nat
 |0=>0
 |k+1=>cnt g bE k+if dU bE k=true/\¬PW g bE k k then 1 else 0
def PX(hg:∀l∈g,∀n∈l,Rg g n):∀k,k<=g.length->(l9 g bE k).2=cnt g bE k
 |0,_=>by simp[l9,cnt]
 |k+1,hk=>by
  have ih:=PX hg k p0;have hs:=Xm (bE:=bE) hg k p0 k p0;rw[PV,Hq,cnt];by_cases hc:dU bE k=true/\(l9 g bE k).1.getD k 0<=0
  .rw[if_pos hc,if_pos ⟨hc.1,λh=>by have:=hs.2 h;omega⟩,<- ih]
  .rw[if_neg hc,if_neg (λh=>hc ⟨h.1,by
    apply Classical.byContradiction;intro hno;exact h.2 (hs.1 p0)⟩),wS,ih]
def mP(g:ae (ae Int)):Prop:=∀(i:Nat) l,g[i]? =some l->∀n∈l,Rg g n/\∀l',g[n.toNat]? =some l'->(i:Int)∈l'
def mP.rg(h:mP g):∀l∈g,∀n∈l,Rg g n:=λl hl n hn=>by
 obtain⟨i,hi⟩:=ik hl;exact(h i l hi n hn).1
def lJ.rg(h:mP g){a b:Int}(ha:Rg g a)(r:lJ g bE a b):Rg g b:=by
 cases r with
 |refl=>exact ha
 |step _ hl hn _=>exact h.rg _ (aV hl) _ hn
def lJ.symm(h:mP g){a b:Int}(ha:Rg g a)(hi:dU bE a=true)(r:lJ g bE a b):lJ g bE b a:=by
 induction r with
 |refl=>exact .refl
 |step r0 hl hn hin ih=>
  rename_i i n l;have hri:=lJ.rg h ha r0;have aiB:dU bE i=true:=by
   cases r0 with
   |refl=>exact hi
   |step _ _ _ q=>exact q
  obtain⟨q1,q2⟩:=h i.toNat l hl n hn;have:=q2 _ (gT q1);have hc:((i.toNat:Nat):Int)=i:=by unfold Rg at hri;omega
  rw[hc]at this;exact(lJ.step .refl (gT q1) this aiB).trans ih
def aiC(h:mP g){f:Nat}(hf:f<g.length)(hin:dU bE f=true)(yQ:∀j,j<f->dU bE (j:Nat)=false):
 cnt g bE g.length=1↔∀i:Nat,i<g.length->dU bE i=true->lJ g bE f i:=by
 have base:∀k,k<=f->cnt g bE k=0:=by
  intro k;induction k with
  |zero=>intro _;rfl
  |succ k ih=>
   intro hk;rw[cnt,ih p0,if_neg (λq=>by rw[yQ k p0]at q;cases q.1)]
 have qK:cnt g bE (f+1)=1:=by
  rw[cnt,base f (bz _),if_pos ⟨hin,λ⟨j,h1,h2,_⟩=>by rw[yQ j h1]at h2;cases h2⟩]
 have mono:∀k d,cnt g bE k<=cnt g bE (k+d):=by
  intro k d;induction d with
  |zero=>exact bz _
  |succ d ih=>rw[<- kE,cnt];omega
 constructor
 .intro h1 i;induction i using Nat.strongRecOn with
  |_ i ih=>
   intro hi hii;by_cases e:i=f
   .subst e;exact .refl
   have hfi:f<i:=by
    apply Classical.byContradiction;intro hno;rw[yQ i p0]at hii;cases hii
   have ho:PW g bE i i:=by
    apply Classical.byContradiction;intro hno;have e1:cnt g bE (i+1)=cnt g bE i+1:=by rw[cnt,if_pos ⟨hii,hno⟩]
    have e2:=mono (f+1) (i - (f+1));have e3:=mono (i+1) (g.length - (i+1));rw[show f+1+(i - (f+1))=i by omega]at e2;rw[show i+1+(g.length - (i+1))=g.length by omega]at e3;omega
   obtain⟨j,q1,q2,q3⟩:=ho;exact(ih j q1 p0 q2).trans q3
 .intro hall;have:∀d,f+1+d<=g.length->cnt g bE (f+1+d)=1:=by
   intro d;induction d with
   |zero=>intro _;exact qK
   |succ d ih=>
    intro hd;rw[<- kE,cnt,ih p0,if_neg (λq=>q.2 ⟨f,p0,hin,hall _ p0 q.1⟩)]
  have:=this (g.length - (f+1)) p0
  rwa [show f+1+(g.length - (f+1))=g.length by omega]at this
end Gph
namespace Gph
structure Lc where
 kind:Int
 cells:List Int
 set:Int
 other:Int
 lo:Int
 hi:Int
 runs:List Int
 rule:Int
 at_:Int
structure Xn where
 cells:Int
 symbols:Int
 values:List Int
 aN:List (List Int)
 cons:List Lc
structure PY(cells symbols:Int)(c:Lc):Prop where
 cell:∀(i:Nat) x,c.cells[i]? =some x->0<=x/\x<cells/\(8<=c.kind->x=i)
 nd:c.cells.Nodup
 kind:1<=c.kind/\c.kind<=9
 two:c.kind=6\/c.kind=7->c.cells.length=2
 all:8<=c.kind->(c.cells.length:Int)=cells
 set:0<=c.set/\c.set<(2^symbols.toNat:Nat)
 other:0<=c.other/\c.other<(2^symbols.toNat:Nat)
 lo:0<=c.lo/\c.lo<=65536
 hi:0<=c.hi/\c.hi<=65536
 art:c.runs.length<=8
 runs:∀x∈c.runs,1<=x/\x<=256
def PY.len{cells symbols:Int}{c:Lc}(h:PY cells symbols c):(c.cells.length:Int)<=cells\/c.cells=[]:=by
 by_cases hn:c.cells=[]
 .exact .inr hn
 left;have hb:∀x∈c.cells,0<=x/\x<cells:=λx hx=>by
  obtain⟨i,hi⟩:=ik hx;have:=h.cell i x hi;exact⟨this.1,this.2.1⟩
 have:∀(m:Nat) (l:ae Int),l.Nodup->(∀x∈l,0<=x/\x<(m:Int))->l.length<=m:=by
  intro m;induction m with
  |zero=>
   intro l _ hl;cases l with
   |nil=>simp
   |cons a l=>have:=hl a qe;omega
  |succ m ih=>
   intro l hd hl;by_cases hm:(m:Int)∈l
   .have h1:=Nj hm;have h2:=ih (l.erase (m:Int)) (hd.erase _) (λx hx=>by
     have hne:x≠(m:Int):=λe=>by
      subst e;exact(List.Nodup.mem_erase_iff hd).1 hx|>.1 rfl
     have:=hl x (List.mem_of_mem_erase hx);omega)
    omega
   .have:=ih l hd (λx hx=>by
     have hne:x≠(m:Int):=λe=>hm (e▸hx);have:=hl x hx;omega)
    omega
 have h0:0<=cells:=by
  obtain⟨a,ha⟩:=List.exists_mem_of_ne_nil _ hn;have:=hb a ha;omega
 have:=this cells.toNat c.cells h.nd (λx hx=>by have:=hb x hx;omega);omega
end Gph
namespace Kd
open Go Go.Ideal
structure mP where
 name:ByteArray
 value:Int
 deriving DecidableEq
structure pQ where
 name:ByteArray
 lists:List (List Int)
 deriving DecidableEq
structure iR where
 name:ByteArray
 on:ByteArray
 family:Int
 type:Int
 lo:Int
 hi:Int
 deriving DecidableEq
structure dz where
 name:ByteArray
 on:ByteArray
 kind:Int
 family:Int
 names:List ByteArray
 others:List ByteArray
 set:Int
 other:Int
 op:Int
 n:Int
 ig:ByteArray
 bD:Int
 deriving DecidableEq
structure dA where
 name:ByteArray
 version:Int
 shape:Int
 w:Int
 h:Int
 holes:List Int
 symbols:List mP
 regions:List pQ
 bY:List iR
 rules:List dz
 deriving DecidableEq
structure bM where
 shape:Int
 w:Int
 h:Int
 holes:List Int
 cells:List Int
 deriving DecidableEq
structure aZ where
 decl:dA
 grid:bM
 aN:List (List Int)
 lists:List (List (List Int))
 deriving DecidableEq
def jH:Enc mP:=⟨2,Unit,λx _=>[.string x.name,.int .i64 x.value],λ_ _=>[],λ_ _=>rfl⟩
def kz:Enc pQ:=⟨2,ah,λx v=>[.string x.name,v],λx v=>[aA (az ai) v x.lists],λ_ _=>rfl⟩
def eX:Enc iR:=⟨6,Unit,λx _=>[.string x.name,.string x.on,.int .i64 x.family,.int .i64 x.type,.int .i64 x.lo,.int .i64 x.hi],λ_ _=>[],λ_ _=>rfl⟩
abbrev tJ(x:dz)(v1 v2:ah):ae ah:=[.string x.name,.string x.on,.int .i64 x.kind,.int .i64 x.family,v1,v2,.int .i64 x.set,.int .i64 x.other,.int .i64 x.op,.int .i64 x.n,.string x.ig,.int .i64 x.bD]
def bQ:Enc dz:=⟨12,ah×ah,λx v=>tJ x v.1 v.2,λx v=>[aA dF v.1 x.names,aA dF v.2 x.others],λ_ _=>rfl⟩
abbrev mQ(d:dA)(vh vs vr vc vu:ah):ae ah:=[.string d.name,.int .i64 d.version,.int .i64 d.shape,.int .i64 d.w,.int .i64 d.h,vh,vs,vr,vc,vu]
abbrev rY(d:dA)(vh vs vr vc vu:ah):ae aH:=[aA ai vh d.holes,aA jH vs d.symbols,aA kz vr d.regions,aA eX vc d.bY,aA bQ vu d.rules]
def jy(s:ByteArray):ae ByteArray->Nat
 |[]=>0
 |a::l=>if s=a then 0 else jy s l+1
def CE{s:ByteArray}:∀{l:ae ByteArray},s∈l->jy s l<l.length
 |[],h=>by cases h
 |a::l,h=>by
  unfold jy;split
  .simp
  .rename_i hne;have:=CE ((bN.1 h).resolve_left hne);simp;omega
def eY(names:ae ByteArray)(start:Nat):ae (ByteArray×ah):=names.zipIdx.map λp=>(p.1,.int .i64 ((start+p.2:Nat):Int))
def PZ(a b:ae ByteArray)(start:Nat):eY (a++b) start=eY a start++eY b (start+a.length):=by
 unfold eY;rw[SG,dQ];congr 1;rw[show b.zipIdx (0+a.length)=(b.zipIdx 0).map (λp=>(p.1,p.2+a.length))by
  rw[eB];conv=>lhs;rw[show a.length=0+a.length by omega]
  rw[List.zipIdx_eq_map_add];apply vF;rintro⟨s,i⟩ _;simp only;rw[show 0+a.length+i=i+a.length by omega]]
 rw[qB];apply vF;rintro⟨s,i⟩ _;simp only[Function.comp];rw[show start+(i+a.length)=start+a.length+i by omega]
def uS(names:ae ByteArray)(start:Nat):(eY names start).map (·.1)=names:=by
 unfold eY;rw[qB];have:((λp:ByteArray×ah=>p.1)∘λp:ByteArray×Nat=>(p.1,Value.int .i64 ((start+p.2:Nat):Int)))=Prod.fst:=rfl;rw[this,List.zipIdx_map_fst]
variable{α:Type}
def y5{β:Type}[DecidableEq α](a b:α)(v:β)(l:ae (α×β)):bZ a ((b,v)::l)=if a=b then some v else bZ a l:=rfl
def tK{α β:Type}[DecidableEq α]{a:α}:∀{l:ae (α×β)},a∉l.map (·.1)->bZ a l=none
 |[],_=>rfl
 |(b,v)::l,h=>by
  unfold bZ;rw[if_neg (λe=>h tE),tK (λh2=>h yW)]
def Hr{α β:Type}[DecidableEq α]{a:α}:∀{l:ae (α×β)},a∈l.map (·.1)->∃v,bZ a l=some v
 |[],h=>by cases h
 |(b,v)::l,h=>by
  unfold bZ;by_cases e:a=b
  .exact⟨v,by rw[if_pos e]⟩
  .obtain⟨u,hu⟩:=Hr (l:=l) ((bN.1 h).resolve_left e);exact⟨u,by rw[if_neg e,hu]⟩
def y7{s:ByteArray}:∀{names:ae ByteArray} {start:Nat},s∈names->bZ s (eY names start)=some (.int .i64 ((start+jy s names:Nat):Int))
 |[],start,h=>by cases h
 |a::l,start,h=>by
  have e:eY (a::l) start=(a,.int .i64 ((start:Nat):Int))::eY l (start+1):=by
   have:=PZ [a] l start;simpa[eY]using this
  rw[e];unfold bZ jy;by_cases hs:s=a
  .rw[if_pos hs,if_pos hs];rfl
  .rw[if_neg hs,if_neg hs,y7 ((bN.1 h).resolve_left hs),show start+1+jy s l=start+(jy s l+1)by omega]
def EC{α β:Type}[DecidableEq α]{a:α}{v:β}:∀{l:ae (α×β)},a∉l.map (·.1)->upd a v l=l++[(a,v)]
 |[],_=>rfl
 |(b,u)::l,h=>by
  unfold upd;rw[if_neg (λe=>h tE),EC (λh2=>h yW)];rfl
def CF:ae ByteArray:=[⟨⟨[99,101,108,108,115]⟩⟩,⟨⟨[114,111,119,115]⟩⟩,⟨⟨[99,111,108,117,109,110,115]⟩⟩,⟨⟨[100,105,97,103,111,110,97,108,115]⟩⟩,⟨⟨[97,114,111,117,110,100]⟩⟩,⟨⟨[110,101,97,114]⟩⟩,⟨⟨[112,97,105,114,115]⟩⟩,⟨⟨[97,108,108]⟩⟩]
def iO(d:dA):ae ByteArray:=d.symbols.map (·.name)
def gI(d:dA):ae ByteArray:=CF++d.regions.map (·.name)
def lK(d:dA):ae ByteArray:=d.bY.map (·.name)
def Ld(d:dA):ae ByteArray:=d.rules.map (·.name)
def kW(dZ l:ae ByteArray):Nat:=l.foldl (λm s=>m|||1<<<jy s dZ) 0
def ED(jl:ae ByteArray)(c:iR):iR:={c with family:=(jy c.on jl:Int)}
def wC(dZ jl mR:ae ByteArray)(r:dz):dz:=
 {r with family:=if r.on=⟨⟨[]⟩⟩then 0 else(jy r.on jl:Int),bD:=if r.ig=⟨⟨[]⟩⟩then -1 else(jy r.ig mR:Int),set:=(kW dZ r.names:Int),other:=(kW dZ r.others:Int)}
def dJ(d:dA):dA:={d with bY:=d.bY.map (ED (gI d)),rules:=d.rules.map (wC (iO d) (gI d) (lK d))}
structure P5(dZ jl mR:List ByteArray)(r:dz):Prop where
 on:r.on=⟨⟨[]⟩⟩\/r.on∈jl
 names:∀s∈r.names,s∈dZ
 others:∀s∈r.others,s∈dZ
 ig:r.ig=⟨⟨[]⟩⟩\/r.ig∈mR
structure EE(d:dA):Prop where
 dZ:d.symbols.length<=16
 aiD:(iO d).Nodup
 aiE:(gI d).Nodup
 aiF:(lK d).Nodup
 Xo:∀c∈d.bY,c.on∈gI d
 aiG:(Ld d).Nodup
 qP:∀r∈d.rules,P5 (iO d) (gI d) (lK d) r
def jI{α:Type}(f:α->α)(k:Nat)(xs:ae α):ae α:=(xs.take k).map f++xs.drop k
def Xp(f:α->α)(xs:ae α):jI f xs.length xs=xs.map f:=by simp[jI]
def AZ(f:α->α)(k:Nat)(xs:ae α):(jI f k xs).length=xs.length:=by simp[jI];omega
def Xq(f:α->α){k:Nat}{xs:ae α}(hk:k<xs.length):(jI f k xs)[k]? =xs[k]?:=by
 unfold jI;rw[jm qu,aS,gq,BD p0,mM,jR,wS]
def Xr(f:α->α){k:Nat}{xs:ae α}{x:α}(hx:xs[k]? =some x):(jI f k xs).set k (f x)=jI f (k+1) xs:=by
 have hk:=(aT.1 hx).1;unfold jI;rw[zQ _ _ qu,aS,gq,BD p0,mM];have hd:xs.drop k=x::xs.drop (k+1):=by
  rw[pg hk];congr 1;rw[bH hk]at hx;exact Option.some.inj hx
 rw[hd,qC,hx,dQ];simp
end Kd
namespace Kd
open Go Go.Ideal
structure tL(s w h:Int)(holes:List Int):Prop where
 sh:s=1\/s=2
 wi:1<=w/\w<=16
 he:1<=h/\h<=16
 len:(holes.length:Int)<w*h
 inc:holes.Pairwise (·<·)
 mem:∀x∈holes,0<=x/\x<w*h
def jJ(n:Nat)(holes:ae Int):ae Int:=((List.range n).map λi:Nat=>(i:Int)).filter λi=>!decide (i∈holes)
def Xt(n:Nat)(holes:ae Int):jJ (n+1) holes=jJ n holes++if(n:Int)∈holes then[]else[(n:Int)]:=by
 unfold jJ;rw[BF,dQ,Dp];congr 1;by_cases h:(n:Int)∈holes
 .simp[h]
 .simp[h]
def Lf(n:Nat)(holes:ae Int):(jJ n holes).length<=n:=by
 unfold jJ;refine mh (FB _ _) ?_;simp
variable{n:Nat}{x:Int}
def aiH{holes:ae Int}(h:x∈jJ n holes):0<=x/\x<n/\x∉holes:=by
 unfold jJ at h;obtain⟨h1,h2⟩:=ry.1 h;obtain⟨i,hi,rfl⟩:=cZ.1 h1;have:=nD.1 hi;exact⟨p0,p0,sq⟩
def P6(n:Nat)(holes:ae Int):(jJ n holes).Pairwise (·<·):=by
 unfold jJ;refine List.Pairwise.filter _ ?_;exact fR
def rZ(w h:Int)(holes:ae Int):ae Int:=jJ (w*h).toNat holes
def CG{w h:Int}(hw:1<=w/\w<=16)(hh:1<=h/\h<=16):1<=w*h/\w*h<=256:=by
 have h1:1*1<=w*h:=Int.mul_le_mul hw.1 hh.1 p0 p0;have h2:w*h<=16*16:=Int.mul_le_mul hw.2 hh.2 p0 p0;omega
structure fT(g:bM):Prop where
 make:tL g.shape g.w g.h g.holes
 cells:g.cells=rZ g.w g.h g.holes
variable{g:bM}
def fT.cell(h:fT g):∀x∈g.cells,0<=x/\x<256:=by
 intro x hx;rw[h.cells]at hx;have h1:=aiH hx;have h2:=CG h.make.wi h.make.he;omega
def fT.len(h:fT g):g.cells.length<=256:=by
 rw[h.cells];have h1:=Lf (g.w*g.h).toNat g.holes;have h2:=CG h.make.wi h.make.he;unfold rZ;omega
def jK(g:bM)(pos:Int):Int×Int:=(if g.shape=2 then pos.tmod g.w - (pos.tdiv g.w).tdiv 2 else pos.tmod g.w,pos.tdiv g.w)
def bB(g:bM):ae (Int×(Int×Int)):=g.cells.zipIdx.map λp=>((p.2:Int),jK g p.1)
variable{k:Nat}
def A7(h:g.cells[k]? =some x):(bB g)[k]? =some ((k:Int),jK g x):=by
 unfold bB;rw[bU,SH,h];simp
def qQ(g:bM):(bB g).length=g.cells.length:=by simp[bB]
def aiI{a b:ae Int}(h:a.Perm b):bP a=bP b:=by
 have h1:(bP a).Perm (bP b):=(zT a _).trans (h.trans (zT b _).symm);have s1:(bP a).Pairwise (λx y=>x<=y):=by
  have:=SI (le:=λx y:Int=>decide (x<=y)) (λa b c h1 h2=>by simp at h1 h2⊢;omega) (λa b=>by simp;omega) a;exact nc
 have s2:(bP b).Pairwise (λx y=>x<=y):=by
  have:=SI (le:=λx y:Int=>decide (x<=y)) (λa b c h1 h2=>by simp at h1 h2⊢;omega) (λa b=>by simp;omega) b;exact nc
 generalize bP a=u at h1 s1;generalize bP b=v at h1 s2;clear h;induction u generalizing v with
 |nil=>exact(List.nil_perm.1 h1).symm▸rfl
 |cons x u ih=>
  cases v with
  |nil=>exact absurd h1.length_eq qe
  |cons y v=>
   have hxy:x=y:=by
    have hx:x∈y::v:=h1.mem_iff.1 (dP ..);have hy:y∈x::u:=h1.mem_iff.2 (dP ..);rcases bN.1 hx with e|hx
    .exact e
    rcases bN.1 hy with e|hy
    .exact e.symm
    have:=(rz.1 s1).1 y hy;have:=(rz.1 s2).1 x hx;omega
   subst hxy;rw[ih (rz.1 s1).2 v ((List.perm_cons x).1 h1) (rz.1 s2).2]
def dX:ae (Int×Int):=[(1,0),(-1,0),(0,1),(0, -1),(1, -1),(-1,1)]
def dM(g:bM):Nat:=if g.shape=1 then 4 else 6
def eO(xs:ae (Int×(Int×Int))):ae ((Int×Int)×ah):=xs.foldl (λm p=>upd p.2 (.int .i64 p.1) m) []
def P7(xs:ae (Int×(Int×Int)))(p:Int×(Int×Int)):eO (xs++[p])=upd p.2 (.int .i64 p.1) (eO xs):=by
 unfold eO;rw[wX];rfl
def Xu{xs:ae (Int×(Int×Int))}:∀a v,bZ a (eO xs)=some v->∃c,v=.int .i64 c/\∃p∈xs,p.1=c:=by
 have hup:∀(m:ae ((Int×Int)×ah)) (b:Int×Int) (u:ah) (a:Int×Int) (v:ah),bZ a (upd b u m)=some v->(a=b/\v=u)\/bZ a m=some v:=by
  intro m;induction m with
  |nil=>
   intro b u a v h;have h:(if a=b then some u else none)=some v:=h;by_cases e:a=b
   .rw[if_pos e]at h;exact .inl ⟨e,(Option.some.inj h).symm⟩
   .rw[if_neg e]at h;cases h
  |cons q m ih=>
   intro b u a v h;obtain⟨k,w⟩:=q;unfold upd at h;by_cases e:b=k
   .rw[if_pos e,y5]at h;by_cases e2:a=b
    .rw[if_pos e2]at h;exact .inl ⟨e2,(Option.some.inj h).symm⟩
    .rw[if_neg e2]at h;right;rw[y5,if_neg (λe3=>e2 (e3.trans e.symm))];exact h
   .rw[if_neg e,y5]at h;by_cases e2:a=k
    .rw[if_pos e2]at h;right;rw[y5,if_pos e2];exact h
    .rw[if_neg e2]at h;rcases ih b u a v h with h|h
     .exact .inl h
     .right;rw[y5,if_neg e2];exact h
 unfold eO;have:∀(xs:ae (Int×(Int×Int))) (m:ae ((Int×Int)×ah)) a v,bZ a (xs.foldl (λm p=>upd p.2 (.int .i64 p.1) m) m)=some v->(∃c,v=.int .i64 c/\∃p∈xs,p.1=c)\/bZ a m=some v:=by
  intro xs;induction xs with
  |nil=>intro m a v h;exact .inr h
  |cons p xs ih=>
   intro m a v h;rw[p9]at h;rcases ih _ a v h with⟨c,h1,q,hq,h2⟩|h
   .exact .inl ⟨c,h1,q,dO _ hq,h2⟩
   .rcases hup m p.2 _ a v h with⟨_,h1⟩|h
    .exact .inl ⟨p.1,h1,p,dP ..,rfl⟩
    .exact .inr h
 intro a v h;rcases this xs [] a v h with h|h
 .exact h
 .cases h
def numOf:aj ah->aj Int
 |some (.int .i64 n)=>some n
 |_=>none
def fU(m:ae ((Int×Int)×ah))(s:Int×Int)(ds:ae (Int×Int)):ae Int:=ds.filterMap λd=>numOf (bZ (s.1+d.1,s.2+d.2) m)
def aiJ(m:ae ((Int×Int)×ah))(s:Int×Int)(ds:ae (Int×Int))(d:Int×Int):fU m s (ds++[d])=fU m s ds++(numOf (bZ (s.1+d.1,s.2+d.2) m)).toList:=by
 unfold fU;rw[IV];congr 1
def Lg(m:ae ((Int×Int)×ah))(s:Int×Int)(ds:ae (Int×Int)):(fU m s ds).length<=ds.length:=SK _ _
def mU(g:bM)(p:Int×(Int×Int)):ae Int:=bP (fU (eO (bB g)) p.2 (dX.take (dM g)))
def eZ(g:bM):ae (ae Int):=(bB g).map (mU g)
def Lh(h:fT g):∀p∈bB g,(0<=p.1/\p.1<256)/\(-256<=p.2.1/\p.2.1<256)/\(0<=p.2.2/\p.2.2<256):=by
 intro p hp;obtain⟨k,hk⟩:=ym.1 hp;have hkl:=(aT.1 hk).1;rw[qQ]at hkl;have hx:g.cells[k]? =some g.cells[k]:=bH hkl;rw[A7 hx]at hk;cases hk;have hb:=h.cell _ (aV hx);have hl:=h.len;generalize g.cells[k]=x at hb;have hw:=h.make.wi;have hq:0<=x.tdiv g.w/\x.tdiv g.w<=x:=by
  rw[wY hb.1];exact⟨Dq hb.1 p0,Int.ediv_le_self _ hb.1⟩
 have hr:0<=x.tmod g.w/\x.tmod g.w<=x:=by
  rw[FC hb.1];refine⟨Int.emod_nonneg _ p0,?_⟩;have:=IW x g.w;have h3:0<=g.w*(x/g.w):=Int.mul_nonneg p0 (Dq hb.1 p0);omega
 have hq2:0<=(x.tdiv g.w).tdiv 2/\(x.tdiv g.w).tdiv 2<=x.tdiv g.w:=by
  rw[wY hq.1];omega
 unfold jK;dsimp only;refine⟨p0,?_,p0⟩;split<;>omega
def r9:Enc (Int×Int):=⟨2,Unit,λx _=>[.int .i64 x.1,.int .i64 x.2],λ_ _=>[],λ_ _=>rfl⟩
abbrev EF:ae ah:=[.int .i64 1,.int .i64 0,.int .i64 (-1),.int .i64 0,.int .i64 0,.int .i64 1,.int .i64 0,.int .i64 (-1),.int .i64 1,.int .i64 (-1),.int .i64 (-1),.int .i64 1]
variable{b m:Nat}
def aiK{w:Wd}(h:(dx b 0 EF).p w)(hm:m<=6):(aA r9 (.slice (some ⟨b,0,some 0⟩) m 6) (dX.take m)).p w:=by
 obtain⟨cells,h1,h2⟩:=h;have hl:(dX.take m).length=m:=by rw[gq];show min m 6=m;omega
 refine .inr ⟨b,0,0,6,cells,⟨by rw[hl],by rw[hl];exact hm,.inl rfl⟩,h1,λk x hk=>⟨(),λj u hj=>?_,λf hf=>by cases hf⟩⟩;have hk':dX[k]? =some x:=by
  rw[qy]at hk;split at hk
  .exact hk
  .cases hk
 have:=h2 (k*2+j) u (AQ (E:=r9) (aJ:=dX.map λd=>(d,())) (k:=k) (p:=(x,())) (by rw[bU,hk'];rfl) hj);show cells[0+k*2+j]? =_;rw[show 0+k*2+j=0+(k*2+j)by omega];exact this
def aiL:∀d∈dX,(-1<=d.1/\d.1<=1)/\(-1<=d.2/\d.2<=1):=qv
def aiM{j:Nat}{d:Int×Int}(h:dX[j]? =some d):jh (jU EF (j*2)) 2=some [.int .i64 d.1,.int .i64 d.2]:=by
 have hj:j<6:=(aT.1 h).1;match j,hj with
 |0,_=>cases h;rfl
 |1,_=>cases h;rfl
 |2,_=>cases h;rfl
 |3,_=>cases h;rfl
 |4,_=>cases h;rfl
 |5,_=>cases h;rfl
variable{α:Type}
def gz{xs:ae α}{x:α}(h:xs[k]? =some x):xs.take (k+1)=xs.take k++[x]:=by
 rw[qC,h];rfl
def CJ(g:bM):dM g<=6:=by unfold dM;split<;>omega
def aiN{P:Program}{ρ:ak->ah}{x hi:ak}{size:Nat}(hx:ρ x=.pointer (some ⟨b,0,none⟩))(hh:ρ hi=.int .i64 (m:Int))(hm:m<=n):Pu P ρ (.Nl n size x none (some hi) none) (.slice (some ⟨b,0,some 0⟩) m n):=λh=>by
 have hb:bounds? n n none (some (.int .i64 (m:Int))) none=some (0,m,n):=by
  show(match upTo n (.int .i64 (m:Int))with|none=>none|some hh=>_)=_;have:upTo n (.int .i64 (m:Int))=some m:=by
   show cond (Nat.ble m n) (some m) none=_;have:Nat.ble m n=true:=by rw[sO];exact hm
   rw[this];rfl
  rw[this]
 simp only[aF.run,hx,ja,hh,hb];show some (Value.slice (BJ b (Nat.add 0 (Nat.mul 0 size))) (Nat.sub m 0) (Nat.sub n 0),h)=_;rw[show Nat.mul 0 size=0 from Fw _];rfl
def y8{p:Int×(Int×Int)}(h:(bB g)[k]? =some p):p.1=(k:Int):=by
 have hk:=(aT.1 h).1;rw[qQ]at hk;rw[A7 (bH hk)]at h;cases h;rfl
def Li{vs rest:ae (Int×(Int×Int))}{x:Int×(Int×Int)}(h:vs++x::rest=bB g):x.1=(vs.length:Int)/\vs.length<g.cells.length/\x∈bB g:=by
 have h1:(bB g)[vs.length]? =some x:=by rw[<- h];simp
 refine⟨y8 h1,?_,aV h1⟩;have:=(aT.1 h1).1
 rwa [qQ]at this
def Xv{A:ae (ae Int)}(h:A.length<n)(y:ae Int):(A++List.replicate (n - A.length) []).set A.length y=(A++[y])++List.replicate (n - (A.length+1)) []:=by
 rw[zQ _ _ (bz _),mM,show n - A.length=(n - (A.length+1))+1 by omega,wV,List.set_cons_zero];simp
def aiO{ws:ae α}{v:α}(h:ws[k]? =some v):ws.set k v=ws:=by
 apply iK;intro i;rw[ow];by_cases e:k=i
 .subst e;rw[if_pos rfl,if_pos (aT.1 h).1,h]
 .rw[if_neg e]
def A8(g:bM):(eZ g).length=g.cells.length:=by
 unfold eZ;rw[aS,qQ]
def aiP(g:bM):(bB g).foldl (λ(xss:ae (ae Int)) (x:Int×(Int×Int))=>xss.set x.1.toNat (mU g x)) (List.replicate g.cells.length [])=eZ g:=by
 have key:∀(rest vs:ae (Int×(Int×Int))),vs++rest=bB g->rest.foldl (λ(xss:ae (ae Int)) (x:Int×(Int×Int))=>xss.set x.1.toNat (mU g x)) (vs.map (mU g)++List.replicate (g.cells.length - vs.length) [])=eZ g:=by
  intro rest;induction rest with
  |nil=>
   intro vs h;rw[iH]at h;rw[List.foldl_nil,h,qQ,mM,List.replicate_zero,iH];rfl
  |cons x rest ih=>
   intro vs h;have h1:=Li h;rw[p9,h1.1,ic];have h2:=Xv (A:=vs.map (mU g)) (n:=g.cells.length) (by rw[aS];exact h1.2.1) (mU g x);rw[aS]at h2;rw[h2];have h3:=ih (vs++[x]) (by rw[fq];exact h);rw[dQ,dL]at h3;exact h3
 have:=key (bB g) [] rfl;rw[List.map_nil,dW,wU,yg]at this;exact this
end Kd
namespace Kd
open Go Go.Ideal
def y9{α β:Type}[DecidableEq α](a b:α)(v:β):∀m:ae (α×β),bZ a (upd b v m)=if a=b then some v else bZ a m
 |[]=>rfl
 |(k,w)::m=>by
  unfold upd;by_cases e:b=k
  .rw[if_pos e,y5,y5];by_cases e2:a=b
   .rw[if_pos e2,if_pos e2]
   .rw[if_neg e2,if_neg e2,if_neg (λe3=>e2 (e3.trans e.symm))]
  .rw[if_neg e,y5,y5,y9 a b v m];by_cases e2:a=k
   .rw[if_pos e2,if_pos e2,if_neg (λe3=>e (e3.symm.trans e2))]
   .rw[if_neg e2,if_neg e2]
def Xw{α β:Type}[DecidableEq α](b:α)(v:β):∀m:ae (α×β),(upd b v m).length<=m.length+1
 |[]=>bz _
 |(k,w)::m=>by
  unfold upd;by_cases e:b=k
  .rw[if_pos e,lU,lU];omega
  .rw[if_neg e,lU,lU];have:=Xw b v m;omega
def xJ(kf:Int×Int->Int×Bool)(m:ae (Int×ae Int))(p:Int×(Int×Int)):ae (Int×ae Int):=
 cond (kf p.2).2 (upd (kf p.2).1 ((bZ (kf p.2).1 m).getD []++[p.1]) m) m
def jA(kf:Int×Int->Int×Bool)(ps:ae (Int×(Int×Int))):ae (Int×ae Int):=ps.foldl (xJ kf) []
def Ht(kf:Int×Int->Int×Bool)(ps:ae (Int×(Int×Int)))(p:Int×(Int×Int)):jA kf (ps++[p])=xJ kf (jA kf ps) p:=by
 unfold jA;rw[wX];rfl
def P8(kf:Int×Int->Int×Bool)(n:Nat):∀ps:ae (Int×(Int×Int)),ps.length=n->(jA kf ps).length<=ps.length/\∀a,((bZ a (jA kf ps)).getD []).length<=ps.length:=by
 induction n with
 |zero=>
  intro ps h;rw[mo.1 h];exact⟨bz _,λa=>bz _⟩
 |succ n ih=>
  intro ps h;obtain⟨qs,p,rfl⟩:∃qs p,ps=qs++[p]:=⟨ps.dropLast,ps.getLast rK,(Dr _).symm⟩
  have hq:qs.length=n:=qS
  obtain⟨h1,h2⟩:=ih qs hq;rw[Ht,dL,qA];unfold xJ;cases (kf p.2).2 with
  |false=>exact⟨by show(jA kf qs).length<=_;omega,λa=>by have:=h2 a;show((bZ a (jA kf qs)).getD []).length<=_;omega⟩
  |true=>
   refine⟨?_,λa=>?_⟩
   .have:=Xw (kf p.2).1 ((bZ (kf p.2).1 (jA kf qs)).getD []++[p.1]) (jA kf qs);show(upd _ _ _).length<=_;omega
   .show((bZ a (upd _ _ _)).getD []).length<=_;rw[y9];by_cases e:a=(kf p.2).1
    .rw[if_pos e,wT,dL,qA];have:=h2 (kf p.2).1;omega
    .rw[if_neg e];have:=h2 a;omega
def j6(g:bM)(kf:Int×Int->Int×Bool):ae (ae Int):=(bP ((jA kf (bB g)).map (·.1))).map λn=>(bZ n (jA kf (bB g))).getD []
variable{g:bM}
def Lj(hg:fT g)(kf:Int×Int->Int×Bool):(j6 g kf).length<=256/\∀l∈j6 g kf,l.length<=256:=by
 have h:=P8 kf _ (bB g) rfl;have hl:=hg.len;rw[qQ]at h;unfold j6;refine⟨?_,λl hl2=>?_⟩
 .rw[aS];have:(bP ((jA kf (bB g)).map (·.1))).length=((jA kf (bB g)).map (·.1)).length:=(zT _ _).length_eq;rw[this,aS];omega
 .obtain⟨n,_,rfl⟩:=cZ.1 hl2;have:=h.2 n;omega
def za(acc:ae (ae Int))(l:ae Int):ae (ae Int):=if acc.head? =some l then acc else acc++[l]
def mV(a b:ae (ae Int)):ae (ae Int):=b.foldl za a
variable{l:ae Int}{k:Nat}
def Xx{a b:ae (ae Int)}(h:b[k]? =some l):mV a (b.take (k+1))=za (mV a (b.take k)) l:=by
 unfold mV;rw[gz h,wX];rfl
def P9{a b:ae (ae Int)}{n:Nat}(ha:∀l∈a,l.length<=n)(hb:∀l∈b,l.length<=n):∀k,(mV a (b.take k)).length<=a.length+k/\∀l∈mV a (b.take k),l.length<=n
 |0=>⟨bz _,ha⟩
 |k+1=>by
  obtain⟨h1,h2⟩:=P9 ha hb k;cases h:b[k]? with
  |none=>
   have:b.take (k+1)=b.take k:=by rw[qC,h];simp
   rw[this];exact⟨p0,h2⟩
  |some l=>
   rw[Xx h];unfold za;split
   .exact⟨p0,h2⟩
   .rw[dL,qA];refine⟨p0,λx hx=>?_⟩;rcases fO.1 hx with hx|hx
    .exact h2 x hx
    .rw[bF.1 hx];exact hb l (aV h)
def tN(g:bM):ae (ae Int):=
 if g.shape=2 then j6 g (λs=>(s.1+s.2,true))
 else if g.w=g.h then mV (j6 g (λs=>(0,decide (s.1=s.2)))) (j6 g (λs=>(0,decide (s.1+s.2=g.w - 1))))
 else[]
variable{x:Int}
def EG:x∈bP l↔x∈l:=(zT l _).mem_iff
def aiQ:∀a c:Int,Value.int .i64 a=Value.int .i64 c->a=c:=λa c h=>by injection h
def nM(n:Nat):ae (ae Int):=(List.range n).map λi:Nat=>[(i:Int)]
def aiR(k:Nat):nM (k+1)=nM k++[[(k:Int)]]:=by
 unfold nM;rw[BF,dQ];rfl
def Qa(k:Nat):(nM k).length=k:=by unfold nM;simp
def upTo'(n:Nat):ae Int:=(List.range n).map λi:Nat=>(i:Int)
def EH(k:Nat):upTo' (k+1)=upTo' k++[(k:Int)]:=by
 unfold upTo';rw[BF,dQ];rfl
def jL(k:Nat):(upTo' k).length=k:=by unfold upTo';simp
def pR(aN:ae (ae Int)):ae (ae Int):=aN.zipIdx.map λp=>bP (p.1++[(p.2:Int)])
variable{aN:ae (ae Int)}
def aiS(h:aN[k]? =some l):pR (aN.take (k+1))=pR (aN.take k)++[bP (l++[(k:Int)])]:=by
 have hk:=(aT.1 h).1;unfold pR;rw[gz h,SG,dQ,gq,BD p0];simp
def Xy(aN:ae (ae Int)):(pR aN).length=aN.length:=by unfold pR;simp
def mW(i:Nat)(l:ae Int):ae (ae Int):=(l.filter λj=>decide ((i:Int)<j)).map λj=>[(i:Int),j]
def aiT{i j:Nat}(h:l[j]? =some x):mW i (l.take (j+1))=mW i (l.take j)++if(i:Int)<x then[[(i:Int),x]]else[]:=by
 unfold mW;rw[gz h,Dp,dQ];by_cases e:(i:Int)<x<;>simp[e]
def Xz(i:Nat)(l:ae Int):(mW i l).length<=l.length:=by
 unfold mW;rw[aS];exact FB _ _
def kX(aN:ae (ae Int)):ae (ae Int):=aN.zipIdx.flatMap λp=>mW p.2 p.1
def XA(h:aN[k]? =some l):kX (aN.take (k+1))=kX (aN.take k)++mW k l:=by
 have hk:=(aT.1 h).1;unfold kX;rw[gz h,SG,SE,gq,BD p0];simp
def Qb{aN:ae (ae Int)}(hn:∀l∈aN,l.length<=6):∀k,k<=aN.length->(kX (aN.take k)).length<=6*k
 |0,_=>by simp[kX]
 |k+1,hk=>by
  have h:aN[k]? =some aN[k]:=bH p0;have:=Qb hn k p0;have h2:=Xz k aN[k];have h3:=hn aN[k] (wR _);rw[XA h,dL];omega
def Ll:∀l∈eZ g,l.length<=6:=by
 intro l hl;obtain⟨p,_,rfl⟩:=cZ.1 hl;unfold mU;exact dr
def gU(g:bM)(k:Int):ae (ae Int):=
 if k=0 then nM g.cells.length
 else if k=1 then j6 g (λs=>(s.2,true))
 else if k=2 then j6 g (λs=>(s.1,true))
 else if k=3 then tN g
 else if k=4 then eZ g
 else if k=5 then pR (eZ g)
 else if k=6 then kX (eZ g)
 else[upTo' g.cells.length]
end Kd
namespace Kd
open Go Go.Ideal
def zb(p:Int):ae Int->Nat
 |[]=>0
 |a::l=>if p=a then 0 else zb p l+1
def Qc{p:Int}:∀{l:ae Int} {n:Nat},l.Pairwise (·<·)->l[n]? =some p->zb p l=n
 |[],n,_,h=>by simp at h
 |a::l,0,_,h=>by
  have h:a=p:=qS
  unfold zb;rw[if_pos h.symm]
 |a::l,n+1,hp,h=>by
  have h:l[n]? =some p:=qS
  have h1:=(rz.1 hp).1 p (aV h);unfold zb;rw[if_neg p0,Qc (rz.1 hp).2 h]
def Qd{p:Int}:∀{l:ae Int},p∈l->zb p l<l.length
 |[],h=>by cases h
 |a::l,h=>by
  unfold zb;by_cases e:p=a
  .rw[if_pos e,lU];omega
  .rw[if_neg e,lU];have:=Qd (p:=p) (l:=l) ((bN.1 h).resolve_left e);omega
def A9(xs:ae Int):ae (Int×ah):=xs.foldl (λm c=>upd c (.bool true) m) []
def XB(xs:ae Int)(c:Int):A9 (xs++[c])=upd c (.bool true) (A9 xs):=by
 unfold A9;rw[wX];rfl
def aiU(c:Int)(n:Nat):∀xs:ae Int,xs.length=n->bZ c (A9 xs)=if c∈xs then some (.bool true)else none:=by
 induction n with
 |zero=>
  intro xs h;rw[mo.1 h];rfl
 |succ n ih=>
  intro xs h;obtain⟨ys,p,rfl⟩:∃ys p,xs=ys++[p]:=⟨xs.dropLast,xs.getLast rK,(Dr _).symm⟩
  rw[XB,y9,ih ys qS];by_cases e:c=p
  .subst e;simp
  .simp[e]
def aiV(c:Int)(xs:ae Int):jd false (.bool false) c (A9 xs)=.bool (decide (c∈xs)):=by
 unfold jd;rw[aiU c _ xs rfl];by_cases e:c∈xs
 .rw[if_pos e,fo e];rfl
 .rw[if_neg e,di e];rfl
def Qe:∀(m:Nat) (l:ae Int),l.Nodup->(∀x∈l,0<=x/\x<(m:Int))->l.length<=m:=by
 intro m;induction m with
 |zero=>
  intro l _ h;cases l with
  |nil=>exact bz _
  |cons x l=>have:=h x (dP ..);omega
 |succ m ih=>
  intro l hn h;have h1:=ih (l.erase (m:Int)) (hn.erase _) (λx hx=>by
   have:=h x (List.mem_of_mem_erase hx);have hne:x≠(m:Int):=λe=>by subst e;exact(List.Nodup.mem_erase_iff hn).1 hx|>.1 rfl
   omega)
  rw[List.length_erase]at h1;split at h1<;>omega
structure Lm(g:bM)(ps:List Int):Prop where
 ne:ps≠[]
 mem:∀p∈ps,p∈g.cells
 nd:(ps.map λp=>(zb p g.cells:Int)).Nodup
structure wD(g:bM)(rs:List (List Int)):Prop where
 len:rs.length<=64
 all:∀ps∈rs,Lm g ps
def iW(g:bM)(ps:ae Int):ae Int:=ps.map λp=>(zb p g.cells:Int)
def iJ(g:bM)(rs:ae (ae Int)):ae (ae Int):=rs.map (iW g)
def Qf{g:bM}{ps:ae Int}(hm:∀p∈ps,p∈g.cells)(hn:(iW g ps).Nodup):ps.length<=g.cells.length:=by
 have:=Qe g.cells.length (iW g ps) hn (λx hx=>by
  obtain⟨p,hp,rfl⟩:=cZ.1 hx;have:=Qd (hm p hp);omega)
 unfold iW at this
 rwa [aS]at this
end Kd
namespace Kd
open Go Go.Ideal
def wE(xs:ae Int):ae (Int×ah):=(xs.foldl (λs c=>(upd c (.int .i64 ((s.2.count c:Nat)+1)) s.1,s.2++[c])) (([]:ae (Int×ah)),([]:ae Int))).1
def aiW(xs:ae Int):∀(m:ae (Int×ah)) (ys:ae Int),(xs.foldl (λs c=>(upd c (.int .i64 ((s.2.count c:Nat)+1)) s.1,s.2++[c])) (m,ys)).2=ys++xs:=by
 induction xs with
 |nil=>intro m ys;simp
 |cons x xs ih=>intro m ys;rw[p9,ih];simp
def XC(xs:ae Int)(c:Int):wE (xs++[c])=upd c (.int .i64 ((xs.count c:Nat)+1)) (wE xs):=by
 unfold wE;rw[wX,p9,List.foldl_nil];show upd c _ _=_;rw[aiW,dW]
def aiX(c:Int)(n:Nat):∀xs:ae Int,xs.length=n->bZ c (wE xs)=if c∈xs then some (.int .i64 (xs.count c:Nat))else none:=by
 induction n with
 |zero=>
  intro xs h;rw[mo.1 h];rfl
 |succ n ih=>
  intro xs h;obtain⟨ys,p,rfl⟩:∃ys p,xs=ys++[p]:=⟨xs.dropLast,xs.getLast rK,(Dr _).symm⟩
  rw[XC,y9,ih ys qS];by_cases e:c=p
  .subst e;simp
  .have e2:¬p=c:=λh=>e h.symm;simp[e,e2,List.count_cons,List.count_append]
def XD(c:Int)(xs:ae Int):jd false (.int .i64 0) c (wE xs)=.int .i64 (xs.count c:Nat):=by
 unfold jd;rw[aiX c _ xs rfl];by_cases e:c∈xs
 .rw[if_pos e];rfl
 .rw[if_neg e,List.count_eq_zero_of_not_mem e];rfl
def aiY(c:Int)(xs:ae Int):xs.count c<=xs.length:=List.count_le_length ..
def bI(d:dA):bM:=⟨d.shape,d.w,d.h,d.holes,rZ d.w d.h d.holes⟩
def mG(d:dA):ae (ae (ae Int)):=((List.range 8).map λf:Nat=>gU (bI d) (f:Int))++d.regions.map λr=>iJ (bI d) r.lists
def qR(d:dA):aZ:=⟨d,bI d,eZ (bI d),mG d⟩
end Kd
namespace Kd
open Go Go.Ideal Canon
def EI:ae Int->Int
 |[]=>0
 |a::l=>if a≠0 then a else EI l
def gV(a b:Clue):Int:=EI [fZ a.bD b.bD,fZ a.at_ b.at_]
def aiZ(a b:Clue):gV a b=fQ fZ [a.bD,a.at_] [b.bD,b.at_]:=by
 unfold gV;simp only[EI,fQ]
variable{a b:Clue}
def xK:gV a b<0↔a.bD<b.bD\/(a.bD=b.bD/\a.at_<b.at_):=by
 exact dj
def Qg{c:Clue}(h1:gV a b<0)(h2:gV b c<0):gV a c<0:=by
 rw[xK]at *;omega
def uT(k:aZ)(g:Clue):Prop:=∃(c:iR) (l:ae (ae Int)),0<=g.bD/\k.decl.bY[g.bD.toNat]? =some c/\k.lists[c.family.toNat]? =some l/\0<=g.at_/\g.at_<l.length/\
 ((c.type=1/\g.values.length=1/\∀x∈g.values,0<=x/\x<=(k.decl.symbols.length:Int) - 1)\/(c.type=2/\g.values.length=1/\∀x∈g.values,c.lo<=x/\x<=c.hi)\/
   (c.type≠1/\c.type≠2/\g.values.length<=8/\∀x∈g.values,1<=x/\x<=256))
structure uU(k:aZ)(p:List Clue):Prop where
 len:p.length<=512
 right:∀g∈p,uT k g
 sorted:∀(i:Nat) a b,p[i]? =some a->p[i+1]? =some b->gV a b<0
def XE(k:aZ):Prop:=∀c∈k.decl.bY,0<=c.family/\c.family<k.lists.length
end Kd
namespace Kd
open Go Go.Ideal Canon
def Qh(k:aZ)(i:Int):Int:=match k.decl.bY[i.toNat]? with|some c=>c.family|none=>0
def nR(k:aZ)(g:Clue):ae Int:=(k.lists.getD (Qh k g.bD).toNat []).getD g.at_.toNat []
def Lp(k:aZ)(p:ae Clue)(r:dz):ae (ae Int×ae Int):=
 if r.bD<0 then(k.lists.getD r.family.toNat []).map λl=>(l,[r.n])else(p.filter λg=>decide (g.bD=r.bD)).map λg=>(nR k g,g.values)
def gT{α:Type}{l:ae α}{n:Nat}{x d:α}(h:l[n]? =some x):l.getD n d=x:=by simp[List.getD,h]
def uT.cells{k:aZ}{g:Clue}(h:uT k g):∃(c:iR) (l:ae (ae Int)) (ps:ae Int),k.decl.bY[g.bD.toNat]? =some c/\k.lists[c.family.toNat]? =some l/\l[g.at_.toNat]? =some ps/\0<=g.bD/\0<=g.at_/\g.at_<l.length/\nR k g=ps:=by
 obtain⟨c,l,h1,h2,h3,h4,h5,_⟩:=h;have h6:l[g.at_.toNat]? =some (l[g.at_.toNat]'(p0)):=bH _;refine⟨c,l,_,h2,h3,h6,h1,h4,h5,?_⟩;unfold nR Qh;rw[h2];dsimp only;rw[gT h3,gT h6]
end Kd
namespace Kd
open Go Go.Ideal Canon
def aO(grid:ae Int)(c:Int):Int:=grid.getD c.toNat 0
def jB{grid:ae Int}{n:Nat}{x:Int}(h:grid[n]? =some x):aO grid (n:Int)=x:=by unfold aO;exact gT h
end Kd
namespace Kd
open Go Go.Ideal
def EJ(n:Nat)(l:ae Int):Prop:=l.length<=4096/\∀c∈l,0<=c/\c<(n:Int)
variable{g:bM}
def Lr:∀p∈bB g,0<=p.1/\p.1<(g.cells.length:Int):=by
 intro p hp;obtain⟨k,hk⟩:=ym.1 hp;have hkl:=(aT.1 hk).1;rw[qQ]at hkl;have:=y8 hk;omega
def ai0(kf:Int×Int->Int×Bool)(n:Nat):∀ps:ae (Int×(Int×Int)),ps.length=n->∀a,∀c∈(bZ a (jA kf ps)).getD [],∃p∈ps,p.1=c:=by
 induction n with
 |zero=>
  intro ps h a c hc;rw[mo.1 h]at hc;have hc:c∈([]:ae Int):=hc;cases hc
 |succ n ih=>
  intro ps h a c hc;obtain⟨qs,p,rfl⟩:∃qs p,ps=qs++[p]:=⟨ps.dropLast,ps.getLast rK,(Dr _).symm⟩
  have hq:qs.length=n:=qS
  have hih:∀a,∀c∈(bZ a (jA kf qs)).getD [],∃p'∈qs++[p],p'.1=c:=λa c hc=>by
   obtain⟨q,h1,h2⟩:=ih qs hq a c hc;exact⟨q,jS _ h1,h2⟩
  rw[Ht]at hc;unfold xJ at hc;cases hb:(kf p.2).2 with
  |false=>
   rw[hb]at hc;exact hih a c hc
  |true=>
   rw[hb]at hc;have hc:c∈(bZ a (upd (kf p.2).1 ((bZ (kf p.2).1 (jA kf qs)).getD []++[p.1]) (jA kf qs))).getD []:=hc;rw[y9]at hc;by_cases e:a=(kf p.2).1
   .rw[if_pos e,wT]at hc;rcases fO.1 hc with hc|hc
    .exact hih _ c hc
    .exact⟨p,qe,(bF.1 hc).symm⟩
   .rw[if_neg e]at hc;exact hih a c hc
def Hu(hg:fT g)(kf:Int×Int->Int×Bool):∀l∈j6 g kf,EJ g.cells.length l:=by
 intro l hl;have hlen:=(Lj hg kf).2 l hl;refine⟨p0,λc hc=>?_⟩;unfold j6 at hl;obtain⟨n,_,rfl⟩:=cZ.1 hl;obtain⟨p,hp,rfl⟩:=ai0 kf _ (bB g) rfl n c hc;exact Lr p hp
variable{l:ae Int}
def XF{a b:ae (ae Int)}(h:l∈mV a b):l∈a\/l∈b:=by
 unfold mV at h;induction b generalizing a with
 |nil=>exact .inl h
 |cons x b ih=>
  rw[p9]at h;rcases ih h with h|h
  .unfold za at h;split at h
   .exact .inl h
   .rcases fO.1 h with h|h
    .exact .inl h
    .exact .inr (by rw[bF.1 h];simp)
  .exact .inr (dO _ h)
def XG{o:aj ah}{n:Int}(h:numOf o=some n):o=some (.int .i64 n):=by
 unfold numOf at h;split at h
 .cases h;rfl
 .cases h
def ai1{p:Int×(Int×Int)}:EJ g.cells.length (mU g p):=by
 unfold mU;refine⟨?_,λc hc=>?_⟩
 .exact dr
 .rw[EG]at hc;unfold fU at hc;obtain⟨d,_,hd⟩:=IM.1 hc;obtain⟨c',h1,q,hq,h2⟩:=Xu _ _ (XG hd);injection h1 with _ h1;rw[h1,<- h2];exact Lr q hq
def Ls:∀l∈eZ g,EJ g.cells.length l:=by
 intro l hl;obtain⟨p,_,rfl⟩:=cZ.1 hl;exact ai1
def ai2(l:ae Int):(bP l).length=l.length:=(zT l _).length_eq
def XH(hg:fT g)(k:Int):∀l∈gU g k,EJ g.cells.length l:=by
 have hlen:=hg.len;have hnl:=A8 g;have hnm:=Ll (g:=g);intro l hl;unfold gU at hl;split at hl
 .unfold nM at hl;obtain⟨i,hi,rfl⟩:=cZ.1 hl;have:=nD.1 hi;exact⟨qe,λc hc=>by rw[bF.1 hc];omega⟩
 split at hl
 .exact Hu hg _ l hl
 split at hl
 .exact Hu hg _ l hl
 split at hl
 .unfold tN at hl;split at hl
  .exact Hu hg _ l hl
  split at hl
  .rcases XF hl with hl|hl
   .exact Hu hg _ l hl
   .exact Hu hg _ l hl
  .cases hl
 split at hl
 .exact Ls l hl
 split at hl
 .unfold pR at hl;obtain⟨⟨x,i⟩,hx,rfl⟩:=cZ.1 hl;have hx:=zU.1 hx;have hxm:=aV hx;have hi:=(aT.1 hx).1;have h6:=hnm x hxm;refine⟨by rw[ai2];simp;omega,λc hc=>?_⟩;rw[EG]at hc;rcases fO.1 hc with hc|hc
  .exact(Ls x hxm).2 c hc
  .rw[bF.1 hc];dsimp only;omega
 split at hl
 .unfold kX at hl;obtain⟨⟨x,i⟩,hx,hl⟩:=List.mem_flatMap.1 hl;have hx:=zU.1 hx;have hxm:=aV hx;have hi:=(aT.1 hx).1;unfold mW at hl;obtain⟨j,hj,rfl⟩:=cZ.1 hl;have hj:=(ry.1 hj).1;refine⟨qe,λc hc=>?_⟩;simp only[bN,Fs,or_false]at hc;rcases hc with rfl|rfl
  .omega
  .exact(Ls x hxm).2 _ hj
 .rw[bF.1 hl];refine⟨by rw[jL];omega,λc hc=>?_⟩;unfold upTo' at hc;obtain⟨i,hi,rfl⟩:=cZ.1 hc;have:=nD.1 hi;omega
def XI(hg:fT g){rs:ae (ae Int)}(hr:wD g rs):∀l∈iJ g rs,EJ g.cells.length l:=by
 intro l hl;obtain⟨ps,hps,rfl⟩:=cZ.1 hl;have hP:=hr.all ps hps;have h1:=Qf hP.mem hP.nd;have h2:=hg.len;refine⟨by unfold iW;rw[aS];omega,λc hc=>?_⟩;obtain⟨p,hp,rfl⟩:=cZ.1 hc;have:=Qd (hP.mem p hp);omega
def ai3{d:dA}(hg:fT (bI d))(hr:∀r∈d.regions,wD (bI d) r.lists):∀l∈mG d,∀ps∈l,EJ (bI d).cells.length ps:=by
 intro l hl ps hps;unfold mG at hl;rcases fO.1 hl with hl|hl
 .obtain⟨f,_,rfl⟩:=cZ.1 hl;exact XH hg _ ps hps
 .obtain⟨r,hrm,rfl⟩:=cZ.1 hl;exact XI hg (hr r hrm) ps hps
def ai4(hw:1<=g.w){x y:Int}(hx:0<=x)(hy:0<=y)(h:jK g x=jK g y):x=y:=by
 unfold jK at h;have h1:=congrArg Prod.fst h;have h2:=congrArg Prod.snd h;dsimp only at h1 h2;rw[wY hx,wY hy]at h2;rw[wY hx,wY hy,FC hx,FC hy,h2]at h1;have h3:x%g.w=y%g.w:=by
  split at h1<;>omega
 have e1:=IW x g.w;have e2:=IW y g.w;rw[h2,h3]at e1;omega
def Hw(hg:fT g){p q:Int×(Int×Int)}(hp:p∈bB g)(hq:q∈bB g)(h:p.1=q.1\/p.2=q.2):p=q:=by
 obtain⟨k,hk⟩:=ym.1 hp;obtain⟨j,hj⟩:=ym.1 hq;have hkl:=(aT.1 hk).1;have hjl:=(aT.1 hj).1;rw[qQ]at hkl hjl;rcases h with h|h
 .have h1:=y8 hk;have h2:=y8 hj;have:k=j:=by omega
  subst this;rw[hk]at hj;exact Option.some.inj hj
 .have hx:g.cells[k]? =some g.cells[k]:=bH hkl;have hy:g.cells[j]? =some g.cells[j]:=bH hjl;have hkk:=hk;have hjj:=hj;rw[A7 hx]at hk;rw[A7 hy]at hj;have hk:=Option.some.inj hk;have hj:=Option.some.inj hj;have hs:jK g g.cells[k]=jK g g.cells[j]:=by rw[<- hk,<- hj]at h;exact h
  have he:=ai4 (by have:=hg.make.wi;omega) (hg.cell _ (wR _)).1 (hg.cell _ (wR _)).1 hs;have si:g.cells.Pairwise (·<·):=wc
  have hkj:k=j:=by
   apply Classical.byContradiction;intro hne;have:=zR.1 si;rcases Nat.lt_or_gt_of_ne hne with hl|hl
   .have:=this k j hkl hjl hl;omega
   .have:=this j k hjl hkl hl;omega
  subst hkj;rw[hkk]at hjj;exact Option.some.inj hjj
def ai5(n:Nat):∀xs:ae (Int×(Int×Int)),xs.length=n->(∀p∈xs,∀q∈xs,p.2=q.2->p=q)->∀p∈xs,bZ p.2 (eO xs)=some (.int .i64 p.1):=by
 induction n with
 |zero=>intro xs h _ p hp;rw[mo.1 h]at hp;cases hp
 |succ n ih=>
  intro xs h hi p hp;obtain⟨ys,q,rfl⟩:∃ys q,xs=ys++[q]:=⟨xs.dropLast,xs.getLast rK,(Dr _).symm⟩
  rw[P7,y9];by_cases e:p.2=q.2
  .have:=hi p hp q qe e;subst this;rw[if_pos rfl]
  .rw[if_neg e];refine ih ys qS (λa ha b hb=>hi a (jS _ ha) b (jS _ hb)) p ?_;rcases fO.1 hp with hp|hp
   .exact hp
   .rw[bF.1 hp]at e;exact absurd rfl e
def ai6(n:Nat):∀xs:ae (Int×(Int×Int)),xs.length=n->∀a v,bZ a (eO xs)=some v->∃p∈xs,p.2=a/\v=.int .i64 p.1:=by
 induction n with
 |zero=>
  intro xs h a v hv;rw[mo.1 h]at hv;cases hv
 |succ n ih=>
  intro xs h a v hv;obtain⟨ys,q,rfl⟩:∃ys q,xs=ys++[q]:=⟨xs.dropLast,xs.getLast rK,(Dr _).symm⟩
  rw[P7,y9]at hv;by_cases e:a=q.2
  .rw[if_pos e]at hv;exact⟨q,qe,e.symm,(Option.some.inj hv).symm⟩
  .rw[if_neg e]at hv;obtain⟨p,h1,h2⟩:=ih ys qS a v hv;exact⟨p,jS _ h1,h2⟩
def Lt(hg:fT g){s:Int×Int}{d:Int×Int}{n:Int}:numOf (bZ (s.1+d.1,s.2+d.2) (eO (bB g)))=some n↔∃q∈bB g,q.2=(s.1+d.1,s.2+d.2)/\q.1=n:=by
 constructor
 .intro h;obtain⟨q,hq,h1,h2⟩:=ai6 _ (bB g) rfl _ _ (XG h);injection h2 with _ h2;exact⟨q,hq,h1,h2.symm⟩
 .rintro⟨q,hq,h1,h2⟩;rw[<- h1,ai5 _ (bB g) rfl (λa ha b hb e=>Hw hg ha hb (.inr e)) q hq,<- h2];rfl
def XJ(hg:fT g){p:Int×(Int×Int)}{n:Int}:n∈mU g p↔∃d∈dX.take (dM g),∃q∈bB g,q.2=(p.2.1+d.1,p.2.2+d.2)/\q.1=n:=by
 unfold mU;rw[EG];unfold fU;rw[IM];constructor
 .rintro⟨d,hd,h⟩;exact⟨d,hd,(Lt hg).1 h⟩
 .rintro⟨d,hd,h⟩;exact⟨d,hd,(Lt hg).2 h⟩
def XK(g:bM):dM g=4\/dM g=6:=by unfold dM;split<;>simp
variable{m:Nat}
def ai7(hm:m=4\/m=6):∀d∈dX.take m,(-d.1, -d.2)∈dX.take m:=by
 rcases hm with rfl|rfl<;>decide
def ai8:∀d∈dX.take m,¬(d.1=0/\d.2=0):=by
 intro d hd;have:=Bt hd;revert d;have:∀d∈dX,¬(d.1=0/\d.2=0):=qv
 intro d _ hd;exact this d hd
def ai9(hm:m=4\/m=6):(dX.take m).Nodup:=by
 rcases hm with rfl|rfl<;>decide
def Qi(l:ae Int):(bP l).Pairwise (λx y=>x<=y):=by
 have:=SI (le:=λx y:Int=>decide (x<=y)) (λa b c h1 h2=>by simp at h1 h2⊢;omega) (λa b=>by simp;omega) l;exact nc
def Qj(h:l.Nodup):(bP l).Pairwise (·<·):=by
 have h1:=Qi l;have h2:(bP l).Nodup:=(zT l _).symm.nodup h;have h3:(bP l).Pairwise (λx y=>x<=y/\x≠y):=List.Pairwise.and h1 h2;exact h3.imp (λh=>by omega)
def XL(hg:fT g)(p:Int×(Int×Int)):(mU g p).Pairwise (·<·):=by
 unfold mU;refine Qj ?_;unfold fU;refine List.Pairwise.filterMap _ ?_ (ai9 (XK g));intro d1 d2 hne b hb b' hb' e;subst e;obtain⟨q1,h1,h2,h3⟩:=(Lt hg).1 hb;obtain⟨q2,k1,k2,k3⟩:=(Lt hg).1 hb';have:=Hw hg h1 k1 (.inl (by rw[h3,k3]));subst this;rw[h2]at k2;apply hne;have e1:=congrArg Prod.fst k2;have e2:=congrArg Prod.snd k2;dsimp only at e1 e2;exact Prod.ext p0 p0
def aja(hg:fT g)(i:Nat)(l:ae Int)(hl:(eZ g)[i]? =some l)(k:Nat)(n:Int)(hn:l[k]? =some n):
 0<=n/\n<(eZ g).length/\n≠i/\(∀m,0<k->l[k - 1]? =some m->m<n)/\∀l',(eZ g)[n.toNat]? =some l'->(i:Int)∈l':=by
 have hnm:=A8 g;unfold eZ at hl;rw[bU]at hl;obtain⟨p,hp,rfl⟩:=jC.1 hl;have hp1:=y8 hp;have hpm:=aV hp;obtain⟨d,hd,q,hq,hq2,hq1⟩:=(XJ hg).1 (aV hn);have hqi:=Lr q hq;refine⟨p0,p0,λe=>?_,λm hk hm=>?_,λl' hl'=>?_⟩
 .have:q=p:=Hw hg hq hpm (.inl p0);subst this;have e1:=congrArg Prod.fst hq2;have e2:=congrArg Prod.snd hq2;dsimp only at e1 e2;exact ai8 d hd ⟨p0,p0⟩
 .have hlt:=XL hg p;obtain⟨a1,a2⟩:=aT.1 hm;obtain⟨b1,b2⟩:=aT.1 hn;have:=zR.1 hlt (k - 1) k a1 b1 p0;rw[a2,b2]at this;exact this
 .unfold eZ at hl';rw[bU]at hl';obtain⟨q',hq',rfl⟩:=jC.1 hl';have h1:=y8 hq';have:q'=q:=Hw hg (aV hq') hq (.inl p0);subst this;rw[XJ hg];refine⟨(-d.1, -d.2),ai7 (XK g) d hd,p,hpm,?_,hp1⟩;rw[hq2];dsimp only;exact Prod.ext tG tG
end Kd
namespace Kd
open Go Go.Ideal Canon Gph
end Kd
namespace Kd
open Go Go.Ideal Canon Gph
end Kd
namespace Kd
open Go Go.Ideal Canon Gph
def ajb(kf:Int×Int->Int×Bool)(n:Nat):∀ps:ae (Int×(Int×Int)),ps.length=n->∀a,((bZ a (jA kf ps)).getD []).Sublist (ps.map (·.1)):=by
 induction n with
 |zero=>
  intro ps h a;rw[mo.1 h];exact List.Sublist.refl _
 |succ n ih=>
  intro ps h a;obtain⟨qs,p,rfl⟩:∃qs p,ps=qs++[p]:=⟨ps.dropLast,ps.getLast rK,(Dr _).symm⟩
  have hq:qs.length=n:=qS
  have ih:=ih qs hq;rw[dQ,Ht];unfold xJ;cases hb:(kf p.2).2 with
  |false=>exact(ih a).trans (List.sublist_append_left _ _)
  |true=>
   show((bZ a (upd (kf p.2).1 ((bZ (kf p.2).1 (jA kf qs)).getD []++[p.1]) (jA kf qs))).getD []).Sublist _;rw[y9];by_cases e:a=(kf p.2).1
   .rw[if_pos e,wT];exact(ih _).append (List.Sublist.refl _)
   .rw[if_neg e];exact(ih a).trans (List.sublist_append_left _ _)
variable{g:bM}
def ajc:(bB g).map (·.1)=upTo' g.cells.length:=by
 apply iK;intro i;unfold upTo';rw[bU,bU];by_cases h:i<g.cells.length
 .rw[A7 (bH h),qw h];rfl
 .rw[dY tI,dY (by rw[nP];omega)];rfl
def Hy(n:Nat):(upTo' n).Nodup:=by
 unfold upTo';refine List.Pairwise.map _ (λa b h=>?_) List.nodup_range;intro e;apply h;omega
def XM{n i:Nat}{x:Int}(h:(upTo' n)[i]? =some x):x=i:=by
 unfold upTo' at h;rw[bU]at h;obtain⟨j,hj,rfl⟩:=jC.1 h;have:=aT.1 hj;obtain⟨h1,h2⟩:=this;rw[List.getElem_range]at h2;omega
def Hz(kf:Int×Int->Int×Bool):∀l∈j6 g kf,l.Nodup:=by
 intro l hl;unfold j6 at hl;obtain⟨n,_,rfl⟩:=cZ.1 hl;have:=ajb kf _ (bB g) rfl n;rw[ajc]at this;exact this.nodup (Hy _)
def Qk(hg:fT g)(p:Int×(Int×Int)):(mU g p).Nodup:=(XL hg p).imp (λh=>by omega)
variable{l:ae Int}
def XN(h:l.Nodup):(bP l).Nodup:=(Qj h).imp (λh=>by omega)
def XO{aN:ae (ae Int)}(h:l∈kX aN):∃(i:Nat) (x:ae Int) (j:Int),aN[i]? =some x/\j∈x/\(i:Int)<j/\l=[(i:Int),j]:=by
 unfold kX at h;obtain⟨⟨x,i⟩,hx,hl⟩:=List.mem_flatMap.1 h;unfold mW at hl;obtain⟨j,hj,rfl⟩:=cZ.1 hl;obtain⟨h1,h2⟩:=ry.1 hj;exact⟨i,x,j,zU.1 hx,h1,jT h2,rfl⟩
def ajd(hg:fT g)(k:Int):∀l∈gU g k,l.Nodup:=by
 intro l hl;unfold gU at hl;split at hl
 .unfold nM at hl;obtain⟨i,hi,rfl⟩:=cZ.1 hl;simp
 split at hl
 .exact Hz _ l hl
 split at hl
 .exact Hz _ l hl
 split at hl
 .unfold tN at hl;split at hl
  .exact Hz _ l hl
  split at hl
  .rcases XF hl with hl|hl
   .exact Hz _ l hl
   .exact Hz _ l hl
  .cases hl
 split at hl
 .unfold eZ at hl;obtain⟨p,_,rfl⟩:=cZ.1 hl;exact Qk hg p
 split at hl
 .unfold pR at hl;obtain⟨⟨x,i⟩,hx,rfl⟩:=cZ.1 hl;have hx:=zU.1 hx;have hxm:=aV hx;refine XN ?_;rw[iT];refine⟨?_,qe,λa ha b hb e=>?_⟩
  .unfold eZ at hxm;obtain⟨p,_,rfl⟩:=cZ.1 hxm;exact Qk hg p
  .rw[bF.1 hb]at e;obtain⟨j,hj⟩:=ik ha;exact(aja hg i x hx j a hj).2.2.1 e
 split at hl
 .obtain⟨i,x,j,h1,h2,h3,rfl⟩:=XO hl;simp only[yj,bF,Fs,not_false_iff,wW,zO];omega
 .rw[bF.1 hl];exact Hy _
def aje{d:dA}(hg:fT (bI d))(hr:∀r∈d.regions,wD (bI d) r.lists):∀l∈mG d,∀ps∈l,ps.Nodup:=by
 intro l hl ps hps;unfold mG at hl;rcases fO.1 hl with hl|hl
 .obtain⟨f,_,rfl⟩:=cZ.1 hl;exact ajd hg _ ps hps
 .obtain⟨r,hrm,rfl⟩:=cZ.1 hl;obtain⟨q,hq,rfl⟩:=cZ.1 hps;exact((hr r hrm).all q hq).nd
end Kd
namespace Kd
open Go Go.Ideal Canon Gph
def Ql{k:aZ}{p:ae Clue}(h:uU k p):∀(d i:Nat) a b,p[i]? =some a->p[i+1+d]? =some b->gV a b<0
 |0,i,a,b,ha,hb=>h.sorted i a b ha hb
 |d+1,i,a,b,ha,hb=>by
  have hlt:=(aT.1 hb).1;have hc:p[i+1+d]? =some (p[i+1+d]'(p0)):=bH _;exact Qg (Ql h d i a _ ha hc) (h.sorted (i+1+d) _ b hc hb)
def ajf{k:aZ}{p:ae Clue}(h:uU k p){a b:Clue}(ha:a∈p)(hb:b∈p)(h1:a.bD=b.bD)(h2:a.at_=b.at_):a=b:=by
 obtain⟨i,hi⟩:=ik ha;obtain⟨j,hj⟩:=ik hb;rcases SL i j with hl|hl|hl
 .have:=xK.1 (Ql h (j - (i+1)) i a b hi (by rw[show i+1+(j - (i+1))=j by omega];exact hj));omega
 .subst hl;rw[hi]at hj;exact Option.some.inj hj
 .have:=xK.1 (Ql h (i - (j+1)) j b a hj (by rw[show j+1+(i - (j+1))=i by omega];exact hi));omega
end Kd
namespace Kd
open Go Go.Ideal
def Lu:∀{l m:ae Int},l.Nodup->(∀x∈l,x∈m)->l.length<=m.length
 |[],m,_,_=>bS _
 |a::l,m,hd,hs=>by
  have ha:=hs a (dP ..);have h1:=Nj ha;have hp:0<m.length:=Nk ha;have:=Lu (l:=l) (m:=m.erase a) (yj.1 hd).2 (λx hx=>by
   have hne:x≠a:=λe=>(yj.1 hd).1 (e▸hx);exact(SN hne).2 (hs x (dO _ hx)))
  rw[lU];omega
def XP{g:bM}(hg:fT g):0<g.cells.length:=by
 apply Classical.byContradiction;intro h0;have he:g.cells=[]:=mo.1 p0;rw[hg.cells]at he;unfold rZ jJ at he;have hw:=CG hg.make.wi hg.make.he;have hlen:=hg.make.len;have:=Lu (l:=upTo' (g.w*g.h).toNat) (m:=g.holes) (Hy _) (λx hx=>by
  have hx:x∈(List.range (g.w*g.h).toNat).map λi:Nat=>(i:Int):=hx;have:=List.filter_eq_nil_iff.1 he x hx;simpa using this)
 rw[jL]at this;omega
end Kd
namespace Kd
open Go Go.Ideal Canon Gph
def ajg{g:bM}(hg:fT g)(k:Int):(gU g k).length<=2048:=by
 have hl:=hg.len;have hn:=A8 g;have hL:=λkf=>Lj hg kf;unfold gU;split
 .unfold nM;rw[aS,nP];omega
 split
 .have:=(hL (λs=>(s.2,true))).1;omega
 split
 .have:=(hL (λs=>(s.1,true))).1;omega
 split
 .unfold tN;split
  .have:=(hL (λs=>(s.1+s.2,true))).1;omega
  split
  .have h1:=hL (λs=>(0,decide (s.1=s.2)));have h2:=hL (λs=>(0,decide (s.1+s.2=g.w - 1)));have:=(P9 h1.2 h2.2 (j6 g (λs=>(0,decide (s.1+s.2=g.w - 1)))).length).1;rw[eH]at this;omega
  .simp
 split
 .omega
 split
 .unfold pR;rw[aS,List.length_zipIdx];omega
 split
 .have:=Qb (aN:=eZ g) Ll (eZ g).length (bz _);rw[eH]at this;omega
 .simp
def Qm{d:dA}(hg:fT (bI d))(hr:∀r∈d.regions,wD (bI d) r.lists):∀l∈mG d,l.length<=2048:=by
 intro l hl;unfold mG at hl;rcases fO.1 hl with hl|hl
 .obtain⟨f,_,rfl⟩:=cZ.1 hl;exact ajg hg _
 .obtain⟨r,hrm,rfl⟩:=cZ.1 hl;have:=(hr r hrm).len;unfold iJ;rw[aS];omega
end Kd
namespace Kd
open Canon
variable{b a:Clue}
def Ba:gV a b=0↔a.bD=b.bD/\a.at_=b.at_:=by
 exact dj
def ajh(a b:Clue):yR a b=if gV a b≠0 then gV a b else fQ fZ a.values b.values:=by
 rw[afS,<- aiZ]
def aji:yR a b<0↔gV a b<0\/(gV a b=0/\fQ fZ a.values b.values<0):=by
 rw[ajh];split<;>omega
structure lM(xs rs:List Clue):Prop where
 inc:rs.Pairwise λa b=>gV a b<0
 sub:∀r∈rs,r∈xs
 all:∀x∈xs,∃r∈rs,gV x r=0/\¬fQ fZ x.values r.values<0
variable{rs:ae Clue}
def ajj(h:rs.Pairwise λa b=>gV a b<0){a b:Clue}(ha:a∈rs)(hb:b∈rs)(he:gV a b=0):a=b:=by
 induction h with
 |nil=>cases ha
 |cons h1 _ ih=>
  rcases bN.1 ha with e1|ha'<;>rcases bN.1 hb with e2|hb'
  .rw[e1,e2]
  .have:=h1 b hb';rw[<- e1]at this;omega
  .have:=h1 a ha';rw[<- e2]at this;rw[Ba]at he;rw[xK]at this;omega
  .exact ih ha' hb'
variable{xs rs':ae Clue}
def lM.mem(h:lM xs rs)(h':lM xs rs'){r:Clue}(hr:r∈rs):r∈rs':=by
 obtain⟨r2,m2,p2,v2⟩:=h'.all r (h.sub r hr);obtain⟨r1,m1,p1,v1⟩:=h.all r2 (h'.sub r2 m2);have h3:gV r r1=0:=by rw[Ba]at *;omega
 have:=ajj h.inc hr m1 h3;subst this;have hO:=Au Ch;have h4:fQ fZ r.values r2.values=0:=by
  have:=hO.neg r2.values r.values;have:=hO.neg r.values r2.values;omega
 have h5:=(hO.zero _ _).1 h4;rw[Ba]at p2;have:r=r2:=by cases r;cases r2;simp_all
 rw[this];exact m2
def XQ:∀{a b:ae Clue},(a.Pairwise λx y=>gV x y<0)->(b.Pairwise λx y=>gV x y<0)->(∀x,x∈a↔x∈b)->a=b
 |[],[],_,_,_=>rfl
 |[],y::b,_,_,h=>absurd ((h y).2 (dP ..)) qe
 |x::a,[],_,_,h=>absurd ((h x).1 (dP ..)) qe
 |x::a,y::b,ha,hb,h=>by
  obtain⟨a1,a2⟩:=rz.1 ha;obtain⟨b1,b2⟩:=rz.1 hb;have hxy:x=y:=by
   rcases bN.1 ((h x).1 (dP ..))with e|e
   .exact e
   .rcases bN.1 ((h y).2 (dP ..))with e'|e'
    .exact e'.symm
    .have q1:=b1 x e;have q2:=a1 y e';rw[xK]at q1 q2;omega
  subst hxy;have XR:∀z:Clue,¬gV z z<0:=λz h=>by rw[xK]at h;omega
  rw[XQ a2 b2 λz=>⟨λhz=>?_,λhz=>?_⟩]
  .rcases bN.1 ((h z).1 (dO _ hz))with e|e
   .subst e;exact absurd (a1 z hz) (XR z)
   .exact e
  .rcases bN.1 ((h z).2 (dO _ hz))with e|e
   .subst e;exact absurd (b1 z hz) (XR z)
   .exact e
def lM.uniq(h:lM xs rs)(h':lM xs rs'):rs=rs':=XQ h.inc h'.inc λr=>⟨h.mem h',h'.mem h⟩
def lM.XT{xs':ae Clue}(h:lM xs rs)(h1:∀x,x∈xs'↔x∈xs):lM xs' rs:=⟨h.inc,λr hr=>(h1 r).2 (h.sub r hr),λx hx=>h.all x ((h1 x).1 hx)⟩
def lM.self(h:lM xs rs):lM rs rs:=⟨h.inc,λ_ h=>h,λx hx=>⟨x,hx,by rw[Ba];exact⟨rfl,rfl⟩,y3⟩⟩
def opn(p:ae Clue)(x:Clue):Bool:=match p.getLast? with
 |none=>true
 |some y=>decide (0<gV x y)
variable{p:ae Clue}
def Qn{x:Clue}:opn (p++[b]) x=decide (0<gV x b):=by
 unfold opn;rw[List.getLast?_append];rfl
def Lv:0<gV a b↔gV b a<0:=by
 rw[xK];exact dj
structure CK(l p:List Clue)(n:Nat):Prop where
 inc:p.Pairwise λa b=>gV a b<0
 sub:∀r∈p,r∈l
 done:∀x∈l,opn p x=false->∃r∈p,gV x r=0/\¬fQ fZ x.values r.values<0
 cnt:l.countP (opn p)+n<=l.length
def XU{α:Type}{p q:α->Bool}:∀{l:ae α} {b:α},b∈l->p b=true->q b=false->(∀x,q x=true->p x=true)->l.countP q+1<=l.countP p
 |x::l,b,hb,h1,h2,h3=>by
  rw[List.countP_cons,List.countP_cons];rcases bN.1 hb with rfl|hb
  .have:=List.countP_mono_left (l:=l) (p:=q) (q:=p) λx _=>h3 x;rw[h1,h2];simp only[if_true];simp;omega
  .have:=XU hb h1 h2 h3;by_cases e:q x=true
   .rw[if_pos e,if_pos (h3 x e)];omega
   .rw[if_neg e];omega
def XV:∀{p:ae Clue} {y:Clue},(p.Pairwise λa b=>gV a b<0)->p.getLast? =some y->∀a∈p,a=y\/gV a y<0
 |[],y,_,h,a,ha=>by cases ha
 |[x],y,_,h,a,ha=>by
  cases h;exact .inl (bF.1 ha)
 |x::z::p,y,hp,h,a,ha=>by
  obtain⟨h1,h2⟩:=rz.1 hp;have h':(z::p).getLast? =some y:=by rw[List.getLast?_cons_cons]at h;exact h
  rcases bN.1 ha with rfl|ha
  .exact .inr (h1 y (List.mem_of_getLast? h'))
  .exact XV h2 h' a ha
variable{l:ae Clue}{n:Nat}
def CK.step(h:CK l p n)(hb:b∈l)(ho:opn p b=true)(hl:∀x∈l,opn p x=true->¬yR x b<0):CK l (p++[b]) (n+1):=by
 have hab:∀y,p.getLast? =some y->gV y b<0:=λy hy=>by
  unfold opn at ho;rw[hy]at ho;exact Lv.1 (jT ho)
 refine⟨SQ.2 ⟨h.inc,List.pairwise_singleton ..,λa ha b' hb'=>?_⟩,λr hr=>?_,λx hx hc=>?_,?_⟩
 .rw[bF.1 hb'];cases e:p.getLast? with
  |none=>rw[List.getLast?_eq_none_iff.1 e]at ha;cases ha
  |some y=>
   have h2:=hab y e;rcases XV h.inc e a ha with rfl|h1
   .exact h2
   .exact Qg h1 h2
 .rcases fO.1 hr with hr|hr
  .exact h.sub r hr
  .rw[bF.1 hr];exact hb
 .rw[Qn]at hc;have hc:=vH hc;cases e:opn p x with
  |true=>
   have h1:=hl x hx e;rw[aji]at h1;refine⟨b,qe,?_,?_⟩
   .by_cases h2:gV x b<0
    .exact absurd (.inl h2) h1
    .omega
   .intro h2;by_cases h3:gV x b<0
    .exact h1 (.inl h3)
    .exact h1 (.inr ⟨p0,h2⟩)
  |false=>
   obtain⟨r,m,q⟩:=h.done x hx e;exact⟨r,jS _ m,q⟩
 .have:=XU (p:=opn p) (q:=opn (p++[b])) hb ho (by rw[Qn];exact di (by rw[Lv,xK];omega)) (λx hx=>by
   rw[Qn]at hx;have hx:=jT hx;unfold opn;cases e:p.getLast? with
   |none=>rfl
   |some y=>exact fo (Lv.2 (Qg (hab y e) (Lv.1 hx))))
  have:=h.cnt;omega
def CK.stop(h:CK l p n)(hn:∀x∈l,opn p x=false):lM l p:=⟨h.inc,h.sub,λx hx=>h.done x hx (hn x hx)⟩
def CK.full(h:CK l p l.length):lM l p:=h.stop λx hx=>by
 have h1:=h.cnt;have h2:l.countP (opn p)=0:=p0
 rw[List.countP_eq_zero]at h2;simpa using h2 x hx
end Kd
namespace Kd
open Canon
variable{rs:ae Clue}
def ajk(h:rs.Pairwise λa b=>gV a b<0):rs.Nodup:=h.imp λ{a b} hab he=>by rw[he,xK]at hab;omega
def XW{α:Type}[DecidableEq α]:∀{a b:ae α},a.Nodup->(∀x∈a,x∈b)->a.length<=b.length
 |[],_,_,_=>bS _
 |x::a,b,hn,h=>by
  obtain⟨h1,h2⟩:=yj.1 hn;have hx:=h x (dP ..);have:=XW (b:=b.erase x) h2 λy hy=>(SN (by rintro rfl;exact h1 hy)).2 (h y (dO _ hy));rw[Nj hx]at this;have:=Nk hx;rw[lU];omega
def ajl{xs:ae Clue}(h:lM xs rs):rs.length<=xs.length:=XW (ajk h.inc) h.sub
end Kd
namespace Kd
open Go Go.Ideal
def Qo:∀{a b:ae Int},a.Pairwise (·<·)->b.Pairwise (·<·)->(∀x,x∈a↔x∈b)->a=b
 |[],[],_,_,_=>rfl
 |[],y::b,_,_,h=>by have:=(h y).2 (dP ..);cases this
 |x::a,[],_,_,h=>by have:=(h x).1 (dP ..);cases this
 |x::a,y::b,ha,hb,h=>by
  have hxy:x=y:=by
   rcases bN.1 ((h x).1 (dP ..))with e|hx
   .exact e
   rcases bN.1 ((h y).2 (dP ..))with e|hy
   .exact e.symm
   have:=(rz.1 ha).1 y hy;have:=(rz.1 hb).1 x hx;omega
  subst hxy;rw[Qo (rz.1 ha).2 (rz.1 hb).2 λz=>?_];constructor
  .intro hz;have:=(rz.1 ha).1 z hz;exact(bN.1 ((h z).1 (dO _ hz))).resolve_left p0
  .intro hz;have:=(rz.1 hb).1 z hz;exact(bN.1 ((h z).2 (dO _ hz))).resolve_left p0
variable{x:Int}{n:Nat}
def ajm:x∈upTo' n↔0<=x/\x<(n:Int):=by
 unfold upTo';rw[cZ];constructor
 .rintro⟨i,hi,rfl⟩;have:=nD.1 hi;omega
 .intro h;exact⟨x.toNat,nD.2 p0,p0⟩
def ajn(n:Nat):(upTo' n).Pairwise (·<·):=by
 unfold upTo';exact fR
def xL(n:Nat)(p:Int->Bool):ae Int:=(upTo' n).filter p
def ajo{p:Int->Bool}:x∈xL n p↔(0<=x/\x<(n:Int))/\p x=true:=by
 unfold xL;rw[ry,ajm]
def Qp(n:Nat)(p:Int->Bool):(xL n p).Pairwise (·<·):=List.Pairwise.filter _ (ajn n)
def ajp{l:ae Int}(hi:l.Pairwise (·<·)){n:Nat}{p:Int->Bool}(h:∀x,x∈l↔(0<=x/\x<(n:Int))/\p x=true):l=xL n p:=
 Qo hi (Qp n p) λx=>(h x).trans ajo.symm
structure aru(s w h:Int)(holes:List Int):Prop where
 sh:s=1\/s=2
 wi:1<=w/\w<=16
 he:1<=h/\h<=16
 inc:holes.Pairwise (·<·)
 mem:∀x∈holes,0<=x/\x<w*h
 ne:rZ w h holes≠[]
def sj(g:bM)(c:Int):Int×Int:=((g.cells[c.toNat]?).map (jK g)).getD (0,0)
variable{g:bM}{k:Nat}
def XX(h:g.cells[k]? =some x):sj g (k:Int)=jK g x:=by
 unfold sj;rw[ic,h];rfl
def XY{q:Int×(Int×Int)}:q∈bB g↔(0<=q.1/\q.1<(g.cells.length:Int))/\q.2=sj g q.1:=by
 constructor
 .intro h;refine⟨Lr q h,?_⟩;obtain⟨k,hk⟩:=ym.1 h;have h1:=y8 hk;have hkl:=(aT.1 hk).1;rw[qQ]at hkl;have hx:g.cells[k]? =some g.cells[k]:=bH hkl;rw[A7 hx]at hk;have hk:=Option.some.inj hk;rw[h1,XX hx,<- hk]
 .rintro⟨⟨h1,h2⟩,h3⟩;have hkl:q.1.toNat<g.cells.length:=by omega
  have hx:g.cells[q.1.toNat]? =some g.cells[q.1.toNat]:=bH hkl;have h4:=A7 hx;rw[show((q.1.toNat:Nat):Int)=q.1 by omega]at h4;have h5:sj g q.1=jK g g.cells[q.1.toNat]:=by
   have:=XX hx
   rwa [show((q.1.toNat:Nat):Int)=q.1 by omega]at this
  rw[<- h5,<- h3]at h4;exact aV h4
def Hg{α β:Type}[DecidableEq α](b:α)(v:β):∀m:ae (α×β),(upd b v m).map (·.1)=if b∈m.map (·.1)then m.map (·.1)else m.map (·.1)++[b]
 |[]=>by
  rw[if_neg qe];rfl
 |(a,u)::m=>by
  unfold upd;by_cases e:b=a
  .rw[if_pos e,if_pos tE,e];rfl
  .rw[if_neg e,fK,fK,Hg b v m];by_cases h:b∈m.map (·.1)
   .rw[if_pos h,if_pos (dO _ h)]
   .rw[if_neg h,if_neg (by rw[bN,not_or];exact⟨e,h⟩)];rfl
def og(kf:Int×Int->Int×Bool)(ps:ae (Int×(Int×Int)))(n:Int):ae Int:=(ps.filter λp=>(kf p.2).2&&decide ((kf p.2).1=n)).map (·.1)
def Qq(kf:Int×Int->Int×Bool)(ps:ae (Int×(Int×Int)))(p:Int×(Int×Int))(n:Int):og kf (ps++[p]) n=og kf ps n++if((kf p.2).2&&decide ((kf p.2).1=n))=true then[p.1]else[]:=by
 unfold og;rw[Dp,dQ];congr 1;rw[Bz];split<;>simp
def XZ(kf:Int×Int->Int×Bool)(m:Nat):∀ps:ae (Int×(Int×Int)),ps.length=m->((jA kf ps).map (·.1)).Nodup/\∀n,(n∈(jA kf ps).map (·.1)↔og kf ps n≠[])/\(bZ n (jA kf ps)).getD []=og kf ps n:=by
 induction m with
 |zero=>
  intro ps h;rw[mo.1 h];exact⟨wW,λn=>⟨by simp[jA,og],rfl⟩⟩
 |succ m ih=>
  intro ps h;obtain⟨qs,p,rfl⟩:∃qs p,ps=qs++[p]:=⟨ps.dropLast,ps.getLast rK,(Dr _).symm⟩
  obtain⟨h1,h2⟩:=ih qs qS;rw[Ht];unfold xJ;cases hb:(kf p.2).2 with
  |false=>
   refine⟨h1,λn=>?_⟩;rw[Qq,hb,if_neg qe,iH];exact h2 n
  |true=>
   dsimp only[cond];rw[Hg];refine⟨?_,λn=>⟨?_,?_⟩⟩
   .split
    .exact h1
    .rename_i hn;rw[iT];exact⟨h1,qe,λa ha b hb'=>by rw[bF.1 hb'];exact λe=>hn (e▸ha)⟩
   .rw[Qq,hb];by_cases e:(kf p.2).1=n
    .have hc:(true&&decide ((kf p.2).1=n))=true:=by simp[e]
     rw[if_pos hc];split
     .rename_i hn;rw[e]at hn;exact⟨λ_=>by simp,λ_=>hn⟩
     .rw[e];exact⟨λ_=>by simp,λ_=>ou _ (bF.2 rfl)⟩
    .have hc:¬(true&&decide ((kf p.2).1=n))=true:=by simp[e]
     rw[if_neg hc,iH];split
     .exact(h2 n).1
     .rw[fO,(h2 n).1];simp only[bF];exact⟨λh=>h.resolve_right (λx=>e x.symm),.inl⟩
   .rw[y9,Qq,hb];by_cases e:(kf p.2).1=n
    .rw[if_pos e.symm,if_pos s7,wT,(h2 _).2,e]
    .rw[if_neg (λx=>e x.symm),if_neg s7,iH];exact(h2 n).2
def ajq(kf:Int×Int->Int×Bool)(n:Int):og kf (bB g) n=xL g.cells.length λc=>(kf (sj g c)).2&&decide ((kf (sj g c)).1=n):=by
 refine ajp ?_ λc=>?_
 .unfold og;rw[BG];refine List.Pairwise.filter _ ?_;rw[zR];intro i j hi hj hij;have h1:=y8 (bH hi);have h2:=y8 (bH hj);rw[h1,h2];omega
 .unfold og;rw[cZ];constructor
  .rintro⟨p,hp,rfl⟩;obtain⟨h1,h2⟩:=ry.1 hp;obtain⟨h3,h4⟩:=XY.1 h1;rw[<- h4];exact⟨h3,h2⟩
  .rintro⟨h1,h2⟩;exact⟨(c,sj g c),ry.2 ⟨XY.2 ⟨h1,rfl⟩,h2⟩,rfl⟩
def dN(lo:Int)(k:Nat):ae Int:=(List.range k).map λi:Nat=>lo+(i:Int)
def ajr(lo:Int)(k:Nat):dN lo (k+1)=dN lo k++[lo+(k:Int)]:=by
 unfold dN;rw[BF,dQ];rfl
def ajs{lo:Int}:x∈dN lo k↔lo<=x/\x<lo+(k:Int):=by
 unfold dN;rw[cZ];constructor
 .rintro⟨i,hi,rfl⟩;have:=nD.1 hi;omega
 .intro h;exact⟨(x - lo).toNat,nD.2 p0,p0⟩
def ajt(lo:Int)(k:Nat):(dN lo k).Pairwise (·<·):=by
 unfold dN;exact fR
def HV(L:Int->ae Int)(lo:Int)(k:Nat):ae (ae Int):=((dN lo k).map L).filter λl=>!l.isEmpty
def aju(L:Int->ae Int)(lo:Int)(k:Nat):HV L lo (k+1)=HV L lo k++if L (lo+(k:Int))=[]then[]else[L (lo+(k:Int))]:=by
 unfold HV;rw[ajr,dQ,Dp];congr 1;rw[yo,Bz];cases h:L (lo+(k:Int))with
 |nil=>rfl
 |cons x l=>simp
def ajv(kf:Int×Int->Int×Bool){lo:Int}{k:Nat}(hk:∀p∈bB g,(kf p.2).2=true->lo<=(kf p.2).1/\(kf p.2).1<lo+(k:Int)):j6 g kf=HV (og kf (bB g)) lo k:=by
 obtain⟨h1,h2⟩:=XZ kf _ (bB g) rfl;have h3:bP ((jA kf (bB g)).map (·.1))=(dN lo k).filter λn=>!(og kf (bB g) n).isEmpty:=by
  refine Qo (Qj h1) (List.Pairwise.filter _ (ajt lo k)) λn=>?_;rw[EG,(h2 n).1,ry,ajs];have hne:((!(og kf (bB g) n).isEmpty)=true)↔og kf (bB g) n≠[]:=by
   cases og kf (bB g) n<;>simp
  rw[hne];refine⟨λh=>⟨?_,h⟩,λh=>h.2⟩;obtain⟨c,hc⟩:=List.exists_mem_of_ne_nil _ h;unfold og at hc;obtain⟨p,hp,_⟩:=cZ.1 hc;obtain⟨hp1,hp2⟩:=ry.1 hp;simp only[dG,Dl]at hp2;rw[<- hp2.2];exact hk p hp1 hp2.1
 unfold j6 HV;rw[h3,List.filter_map];refine vF λn _=>?_;exact(h2 n).2
def X0(c:Int×Int->Bool):j6 g (λs=>(0,c s))=if xL g.cells.length (λb=>c (sj g b))=[]then[]else[xL g.cells.length λb=>c (sj g b)]:=by
 rw[ajv (lo:=0) (k:=1) (λs=>(0,c s)) (λp _ _=>⟨Int.le_refl 0,p0⟩)];rw[show(1:Nat)=0+1 from rfl,aju];have e:og (λs=>(0,c s)) (bB g) (0+((0:Nat):Int))=xL g.cells.length λb=>c (sj g b):=by
  rw[ajq];congr 1;funext b
  simp
 rw[e];rfl
end Kd
namespace Kd
open Go Go.Ideal Canon
structure bC(n:Nat)(p:List Int):Prop where
 len:p.length=n
 dN:∀x∈p,0<=x/\x<(n:Int)
 nd:p.Nodup
variable{p:ae Int}{c:Int}
def qg(h0:0<=c)(h1:c<p.length):p[c.toNat]? =some (aO p c):=by
 unfold aO;rw[List.getD,bH p0];rfl
def Qr(h0:0<=c)(h1:c<p.length):aO p c∈p:=aV (qg h0 h1)
variable{n:Nat}
def bC.at_(h:bC n p){c:Int}(h0:0<=c)(h1:c<(n:Int)):0<=aO p c/\aO p c<(n:Int):=h.dN _ (Qr h0 (by rw[h.len];exact h1))
variable{α:Type}
def HY{p:ae α}(h:p.Nodup){i j:Nat}{x:α}(hi:p[i]? =some x)(hj:p[j]? =some x):i=j:=by
 obtain⟨h1,h2⟩:=aT.1 hi;obtain⟨h3,h4⟩:=aT.1 hj;rcases SL i j with hl|hl|hl
 .exact absurd (h2.trans h4.symm) (zR.1 h i j h1 h3 hl)
 .exact hl
 .exact absurd (h4.trans h2.symm) (zR.1 h j i h3 h1 hl)
def bC.inj(h:bC n p){a b:Int}(a0:0<=a)(a1:a<(n:Int))(b0:0<=b)(b1:b<(n:Int))(e:aO p a=aO p b):a=b:=by
 have h1:=qg (p:=p) a0 (by rw[h.len];exact a1);have h2:=qg (p:=p) b0 (by rw[h.len];exact b1);rw[e]at h1;have:=HY h.nd h1 h2;omega
def bC.mem(h:bC n p){y:Int}(y0:0<=y)(y1:y<(n:Int)):y∈p:=by
 apply Classical.byContradiction;intro hn;have h1:=Lu (l:=p) (m:=(upTo' n).erase y) h.nd (λx hx=>by
  have hne:x≠y:=λe=>hn (e▸hx);refine(SN hne).2 ?_;have:=h.dN x hx;unfold upTo';exact cZ.2 ⟨x.toNat,nD.2 p0,p0⟩)
 have hy:y∈upTo' n:=by
  unfold upTo';exact cZ.2 ⟨y.toNat,nD.2 p0,p0⟩
 have h2:=Nj hy;have h3:0<(upTo' n).length:=Nk hy;rw[jL]at h2 h3;have h4:=h.len;omega
def bC.onto(h:bC n p){y:Int}(y0:0<=y)(y1:y<(n:Int)):∃c,0<=c/\c<(n:Int)/\aO p c=y:=by
 obtain⟨i,hi⟩:=ik (h.mem y0 y1);have:=(aT.1 hi).1;have h4:=h.len;refine⟨(i:Int),p0,p0,jB hi⟩
def cz(a b:ae Int):ae Int:=b.map (aO a)
def iP(p:ae Int):ae Int:=(List.range p.length).map λy:Nat=>((p.idxOf (y:Int):Nat):Int)
variable{a b:ae Int}
def ze(h0:0<=c)(h1:c<b.length):aO (cz a b) c=aO a (aO b c):=by
 unfold cz;have h:=qg h0 h1;have h2:(b.map (aO a))[c.toNat]? =some (aO a (aO b c)):=by rw[bU,h];rfl
 show(b.map (aO a)).getD c.toNat 0=_;exact gT h2
variable{l:ae Int}
def Qs{f:Int->Int}(h:l.Nodup)(hf:∀a∈l,∀b∈l,f a=f b->a=b):(l.map f).Nodup:=by
 unfold List.Nodup;rw[BG];exact List.Pairwise.imp_of_mem (λha hb hne e=>hne (hf _ ha _ hb e)) h
def bC.comp(ha:bC n a)(hb:bC n b):bC n (cz a b):=by
 refine⟨by unfold cz;rw[aS];exact hb.len,λx hx=>?_,?_⟩
 .unfold cz at hx;obtain⟨y,hy,rfl⟩:=cZ.1 hx;have:=hb.dN y hy;exact ha.at_ this.1 this.2
 .unfold cz;exact Qs hb.nd λx hx y hy e=>ha.inj (hb.dN x hx).1 (hb.dN x hx).2 (hb.dN y hy).1 (hb.dN y hy).2 e
def X3(p:ae Int):(iP p).length=p.length:=by unfold iP;rw[aS,nP]
def ajw{y:Int}(h0:0<=y)(h1:y<p.length):aO (iP p) y=((p.idxOf y:Nat):Int):=by
 obtain⟨m,rfl⟩:=iQ h0;apply jB;unfold iP;rw[bU,qw p0];rfl
def bC.idx(h:bC n p){c:Int}(h0:0<=c)(h1:c<(n:Int)):((p.idxOf (aO p c):Nat):Int)=c:=by
 have hg:=qg (p:=p) h0 (by rw[h.len];exact h1);have hm:=aV hg;have hl:=List.idxOf_lt_length_iff.2 hm;have h2:p[p.idxOf (aO p c)]? =some (aO p c):=by
  rw[bH hl,List.getElem_idxOf]
 have:=HY h.nd hg h2;omega
def bC.wF(h:bC n p){c:Int}(h0:0<=c)(h1:c<(n:Int)):aO (iP p) (aO p c)=c:=by
 have:=h.at_ h0 h1;rw[ajw this.1 (by rw[h.len];exact this.2),h.idx h0 h1]
def bC.HZ(h:bC n p){y:Int}(h0:0<=y)(h1:y<(n:Int)):aO p (aO (iP p) y)=y:=by
 obtain⟨c,c0,c1,rfl⟩:=h.onto h0 h1;rw[h.wF c0 c1]
def bC.inv(h:bC n p):bC n (iP p):=by
 refine⟨by rw[X3];exact h.len,λx hx=>?_,?_⟩
 .obtain⟨i,hi⟩:=ik hx;have hl:=(aT.1 hi).1;rw[X3,h.len]at hl;obtain⟨c,c0,c1,hc⟩:=h.onto (y:=(i:Int)) p0 p0;have:=h.wF c0 c1;rw[hc,jB hi]at this;omega
 .unfold iP;unfold List.Nodup;rw[BG];refine List.Pairwise.imp_of_mem (λ{a b} ha hb hne e=>hne ?_) List.nodup_range;have ha:=nD.1 ha;have hb:=nD.1 hb;rw[h.len]at ha hb;obtain⟨c,c0,c1,hc⟩:=h.onto (y:=(a:Int)) p0 p0;obtain⟨d,d0,d1,hd⟩:=h.onto (y:=(b:Int)) p0 p0;rw[<- hc,<- hd,h.idx c0 c1,h.idx d0 d1]at e;rw[e,hd]at hc;omega
def bC.ident(n:Nat):bC n (upTo' n):=by
 refine⟨jL n,λx hx=>?_,Hy n⟩;obtain⟨i,hi⟩:=ik hx;have hl:=(aT.1 hi).1;rw[jL]at hl;rw[XM hi];omega
def tO(h0:0<=c)(h1:c<(n:Int)):aO (upTo' n) c=c:=by
 have h:=qg (p:=upTo' n) h0 (by rw[jL];exact h1);have:=XM h;omega
def wG{α:Type}(f:α->α):Nat->α->α
 |0,x=>x
 |t+1,x=>f (wG f t x)
def Lx{m:Nat}{f:Nat->Nat}(hf:∀i,i<m->f i<m):∀t x,x<m->wG f t x<m
 |0,_,h=>h
 |t+1,x,h=>hf _ (Lx hf t x h)
variable{m:Nat}{f:Nat->Nat}
def ajx(hf:∀i,i<m->f i<m){j:Nat}(hj:j<m):∃a b,a<b/\wG f a j=wG f b j:=by
 apply Classical.byContradiction;intro hno;have h:=Qe m ((List.range (m+1)).map λt=>((wG f t j:Nat):Int)) (by
  unfold List.Nodup;rw[BG];exact List.pairwise_lt_range.imp (λ{a b} hab e=>hno ⟨a,b,hab,Int.ofNat.inj e⟩)) (λx hx=>by
  obtain⟨t,_,rfl⟩:=cZ.1 hx;have:=Lx hf t j hj;omega)
 rw[aS,nP]at h;omega
def Qt{L:Nat->α}{S:α->α}{R:α->α->Prop}{D:α->Prop}(hD:∀i,i<m->D (L i))(hDS:∀x,D x->D (S x))(hr:∀x,R x x)(hs:∀x y,R x y->R y x)(ht:∀x y z,R x y->R y z->R x z)
 (hS:∀x y,D x->D y->(R (S x) (S y)↔R x y)) (hf:∀i,i<m->f i<m/\R (L (f i)) (S (L i))) {j:Nat} (hj:j<m):∃i,i<m/\R (L j) (S (L i)):=by
 have hf1:∀i,i<m->f i<m:=λi hi=>(hf i hi).1;have LA:∀t,D (wG S t (L j)):=λt=>by
  induction t with
  |zero=>exact hD j hj
  |succ t ih=>exact hDS _ ih
 have key:∀t,R (L (wG f t j)) (wG S t (L j)):=λt=>by
  induction t with
  |zero=>exact hr _
  |succ t ih=>
   have hl:=Lx hf1 t j hj;exact ht _ _ _ (hf _ hl).2 ((hS _ _ (hD _ hl) (LA t)).2 ih)
 have cancel:∀a d,R (wG S a (L j)) (wG S (a+d) (L j))->R (L j) (wG S d (L j)):=λa d=>by
  induction a with
  |zero=>intro h;rw[eB]at h;exact h
  |succ a ih=>
   intro h;rw[Nat.succ_add]at h;exact ih ((hS _ _ (LA _) (LA _)).1 h)
 obtain⟨a,b,hab,e⟩:=ajx hf1 hj;have h1:=key a;have h2:=key b;rw[e]at h1;obtain⟨d,rfl⟩:∃d,b=a+(d+1):=⟨b - a - 1,p0⟩
 have h3:=cancel a (d+1) (ht _ _ _ (hs _ _ h1) h2);have hl:=Lx hf1 d j hj;exact⟨_,hl,ht _ _ _ h3 (hs _ _ ((hS _ _ (hD _ hl) (LA d)).2 (key d)))⟩
def img(s:ae Int)(l:ae Int):ae Int:=l.map (aO s)
def kP(n:Nat)(l:ae Int):Prop:=∀c∈l,0<=c/\c<(n:Int)
def Qu(s l:ae Int):(img s l).length=l.length:=by unfold img;rw[aS]
variable{s:ae Int}
def kP.img(h:bC n s){l:ae Int}(hl:kP n l):kP n (img s l):=by
 intro c hc;unfold Kd.img at hc;obtain⟨x,hx,rfl⟩:=cZ.1 hc;exact h.at_ (hl x hx).1 (hl x hx).2
def X4{n:Nat}{s:ae Int}(h:bC n s):∀{a b:ae Int},kP n a->kP n b->img s a=img s b->a=b
 |[],[],_,_,_=>rfl
 |[],_::_,_,_,e=>by cases e
 |_::_,[],_,_,e=>by cases e
 |x::a,y::b,ha,hb,e=>by
  unfold img at e;rw[fK,fK]at e;injection e with e1 e2;have hx:=ha x (dP ..);have hy:=hb y (dP ..);rw[h.inj hx.1 hx.2 hy.1 hy.2 e1,X4 h (λc hc=>ha c (dO _ hc)) (λc hc=>hb c (dO _ hc)) e2]
def LB(h:bC n s){l:ae Int}(hl:kP n l):img (iP s) (img s l)=l:=by
 unfold img;rw[qB];conv=>rhs;rw[<- Fy l]
 exact vF λc hc=>h.wF (hl c hc).1 (hl c hc).2
def LC(hl:kP b.length l):img (cz a b) l=img a (img b l):=by
 unfold img;rw[qB];exact vF λc hc=>ze (hl c hc).1 (hl c hc).2
def LD(s:ae Int){a b:ae Int}(h:a.Perm b):(img s a).Perm (img s b):=h.map _
def ajz(h:bC n s){a b:ae Int}(ha:kP n a)(hb:kP n b)(e:(img s a).Perm (img s b)):a.Perm b:=by
 have:=LD (iP s) e
 rwa [LB h ha,LB h hb]at this
def Qv(s l:ae Int):img s l.reverse=(img s l).reverse:=by unfold img;rw[List.map_reverse]
def ajA(h:bC n s){l:ae Int}(hl:kP n l)(hn:l.Nodup):(img s l).Nodup:=by
 unfold img;exact Qs hn λa ha b hb e=>h.inj (hl a ha).1 (hl a ha).2 (hl b hb).1 (hl b hb).2 e
def LF(l:ae Int):(bP l).Perm l:=zT l _
def LG:bP a=bP b↔a.Perm b:=by
 constructor
 .intro e;exact(LF a).symm.trans (e▸LF b)
 .intro h;exact List.Perm.eq_of_pairwise (λx y _ _ h1 h2=>Int.le_antisymm h1 h2) (Qi a) (Qi b) ((LF a).trans (h.trans (LF b).symm))
end Kd
namespace Kd
open Go Go.Ideal Canon
def mX(f:Int):Bool:=decide (f=0)||decide (f=4)||decide (f=5)
def uV(L:ae (ae Int))(w:ae Int):Int:=match L.findIdx? (λx=>decide (bP x=bP w))with
 |some i=>(i:Int)
 |none=> -1
def je(L:ae (ae Int))(s:ae Int)(f at_:Int):Int:=if mX f then aO s at_ else uV L (img s (L.getD at_.toNat []))
def kQ(a b:ae Int):Bool:=decide (bP a=bP b)
def xM(a b:ae Int):Bool:=decide (a=b)
def uW(a b:ae Int):Bool:=decide (a=b)||decide (a=b.reverse)
def oU(L:ae (ae Int))(s:ae Int)(f:Int)(eq:ae Int->ae Int->Bool)(l:ae Int)(j:Nat):Bool:=
 decide (0<=je L s f (j:Int))&&(kQ (L.getD (je L s f (j:Int)).toNat []) (img s l)&&eq (L.getD (je L s f (j:Int)).toNat []) (img s l))
def jM(L:ae (ae Int))(s:ae Int)(f:Int)(eq:ae Int->ae Int->Bool):Bool:=L.zipIdx.all λx=>oU L s f eq x.1 x.2
def mH(aN:ae (ae Int))(s:ae Int):Bool:=aN.zipIdx.all λx=>x.1.all λb=>decide (aO s b∈aN.getD (aO s (x.2:Int)).toNat [])
def nN(vals t:ae Int):Bool:=t.zipIdx.all λx=>decide (aO vals (x.2:Int)=aO vals x.1)
def qh(set other:Nat)(t:ae Int):Bool:=t.zipIdx.all λx=>decide (set.testBit x.2=set.testBit x.1.toNat)&&decide (other.testBit x.2=other.testBit x.1.toNat)
def Bb(L:ae (ae Int)):Prop:=∀(i j:Nat) (a b:ae Int),L[i]? =some a->L[j]? =some b->a.Perm b->i=j
def su{α:Type}{l:ae α}{p:α×Nat->Bool}:l.zipIdx.all p=true↔∀(i:Nat) x,l[i]? =some x->p (x,i)=true:=by
 rw[iE];constructor
 .intro h i x hx;exact h (x,i) (zU.2 hx)
 .rintro h ⟨x,i⟩ hx;exact h i x (zU.1 hx)
variable{a b:ae Int}
def CL:kQ a b=true↔a.Perm b:=by unfold kQ;rw[nE];exact LG
def EK:uW a b=true↔a=b\/a=b.reverse:=by
 unfold uW;rw[yf,nE,nE]
variable{L:ae (ae Int)}{w:ae Int}
def Qw(h:0<=uV L w):∃l,L[(uV L w).toNat]? =some l/\l.Perm w:=by
 unfold uV at h⊢;cases hf:L.findIdx? (λx=>decide (bP x=bP w))with
 |none=>rw[hf]at h;exact absurd h qv
 |some i=>
  obtain⟨h1,h2,_⟩:=acm.1 hf;refine⟨L[i],?_,LG.1 (jT h2)⟩;show L[((i:Nat):Int).toNat]? =_;rw[ic];exact bH h1
variable{i:Nat}
def ajB{l:ae Int}(hD:Bb L)(h:L[i]? =some l)(hp:l.Perm w):uV L w=(i:Int):=by
 have h0:0<=uV L w:=by
  unfold uV;cases hf:L.findIdx? (λx=>decide (bP x=bP w))with
  |none=>
   have:=SS.1 hf l (aV h);rw[decide_eq_false_iff_not]at this;exact absurd (LG.2 hp) this
  |some j=>show(0:Int)<=(j:Int);omega
 obtain⟨l',h1,h2⟩:=Qw h0;have:=hD _ _ _ _ h h1 (hp.trans h2.symm);omega
structure pU(n:Nat)(L:List (List Int))(f:Int):Prop where
 dN:∀l∈L,kP n l
 len:mX f=true->L.length=n
 X5:mX f=false->Bb L
def Goes(L:ae (ae Int))(s:ae Int)(f:Int)(eq:ae Int->ae Int->Bool)(j i:Nat):Prop:=
 ∃l l',L[j]? =some l/\L[i]? =some l'/\l'.Perm (img s l)/\eq l' (img s l)=true/\(mX f=true->(i:Int)=aO s (j:Int))
variable{n j:Nat}{s:ae Int}{f:Int}{eq:ae Int->ae Int->Bool}
def Goes.je(hK:pU n L f)(h:Goes L s f eq j i):je L s f (j:Int)=(i:Int):=by
 obtain⟨l,l',h1,h2,h3,h4,h5⟩:=h;unfold Kd.je;cases hb:mX f with
 |true=>rw[if_pos rfl];exact(h5 hb).symm
 |false=>
  rw[if_neg qe,ic,gT h1];exact ajB (hK.X5 hb) h2 h3
def Bc(hK:pU n L f)(hs:bC n s):jM L s f eq=true↔∀j,j<L.length->∃i,Goes L s f eq j i:=by
 unfold jM;rw[su];constructor
 .intro h j hj;have hl:L[j]? =some L[j]:=bH hj;have h1:=h j _ hl;dsimp only at h1;unfold oU at h1;rw[dG,dG,nE,CL]at h1;obtain⟨a1,a2,a3⟩:=h1;have hlt:(je L s f (j:Int)).toNat<L.length:=by
   cases hb:mX f with
   |true=>
    have hn:=hK.len hb;have:Kd.je L s f (j:Int)=aO s (j:Int):=by unfold Kd.je;rw[if_pos hb]
    rw[this];have:=hs.at_ (c:=(j:Int)) p0 p0;omega
   |false=>
    have e:Kd.je L s f (j:Int)=uV L (img s (L.getD (j:Int).toNat [])):=by unfold Kd.je;rw[if_neg (by rw[hb];simp)]
    rw[e]at a1⊢;obtain⟨l,h2,_⟩:=Qw a1;exact(aT.1 h2).1
  have hl':L[(je L s f (j:Int)).toNat]? =some L[(je L s f (j:Int)).toNat]:=bH hlt;rw[gT hl']at a2 a3;refine⟨_,_,_,hl,hl',a2,a3,λhb=>?_⟩;have:Kd.je L s f (j:Int)=aO s (j:Int):=by unfold Kd.je;rw[if_pos hb]
  omega
 .intro h j l hl;obtain⟨i,hg⟩:=h j (aT.1 hl).1;have hw:=hg.je hK;obtain⟨l0,l',h1,h2,h3,h4,h5⟩:=hg;rw[hl]at h1;cases h1;unfold oU;dsimp only;rw[hw,ic,gT h2,h4,CL.2 h3];simp
def Goes.lt(h:Goes L s f eq j i):j<L.length/\i<L.length:=by
 obtain⟨l,l',h1,h2,_⟩:=h;exact⟨(aT.1 h1).1,(aT.1 h2).1⟩
def Goes.inj{eq':ae Int->ae Int->Bool}{j':Nat}(hK:pU n L f)(hs:bC n s)(h:Goes L s f eq j i)(h':Goes L s f eq' j' i):j=j':=by
 have hl:=h.lt;have hl':=h'.lt;obtain⟨a,b,h1,h2,h3,h4,h5⟩:=h;obtain⟨a',b',k1,k2,k3,k4,k5⟩:=h';rw[h2]at k2;cases k2;cases hb:mX f with
 |true=>
  have hn:=hK.len hb;have:=hs.inj (a:=(j:Int)) (b:=(j':Int)) p0 p0 p0 p0 ((h5 hb).symm.trans (k5 hb));omega
 |false=>exact hK.X5 hb _ _ _ _ h1 k1 (ajz hs (hK.dN _ (aV h1)) (hK.dN _ (aV k1)) (h3.symm.trans k3))
def ajC(hK:pU n L f)(hs:bC n s)(h:∀j,j<L.length->∃i,Goes L s f eq j i){i:Nat}(hi:i<L.length):∃j,Goes L s f eq j i:=by
 have hc:∀j,∃i,j<L.length->Goes L s f eq j i:=λj=>by
  by_cases hj:j<L.length
  .obtain⟨i,hg⟩:=h j hj;exact⟨i,λ_=>hg⟩
  .exact⟨0,λh=>absurd h hj⟩
 have hf:∀j,j<L.length->Goes L s f eq j (Classical.choose (hc j)):=λj=>SC (hc j);obtain⟨j,hj,e⟩:=Qt (m:=L.length) (L:=λi:Nat=>i) (S:=λj=>if j<L.length then Classical.choose (hc j)else j) (R:=λa b:Nat=>a=b) (D:=λj=>j<L.length) (f:=λj=>if j<L.length then Classical.choose (hc j)else j)
  (λi hi=>hi) (λx hx=>by rw[if_pos hx];exact(hf x hx).lt.2) (λ_=>rfl) (λ_ _ e=>e.symm) (λ_ _ _ e e'=>e.trans e')
  (λx y hx hy=>by
    rw[if_pos hx,if_pos hy];constructor
    .intro e;have h2:=hf y hy;rw[<- e]at h2;exact(hf x hx).inj hK hs h2
    .intro e;rw[e])
  (λi hi=>⟨by rw[if_pos hi];exact(hf i hi).lt.2,rfl⟩) hi
 rw[if_pos hj]at e;refine⟨j,?_⟩;rw[e];exact hf j hj
def uX(n:Nat)(aN:ae (ae Int)):Prop:=aN.length=n/\∀l∈aN,kP n l
def Nb(aN:ae (ae Int))(a b:Int):Prop:=∃l,0<=a/\aN[a.toNat]? =some l/\b∈l
variable{aN:ae (ae Int)}
def EL(hN:uX n aN)(hs:bC n s):mH aN s=true↔∀a b,Nb aN a b->Nb aN (aO s a) (aO s b):=by
 unfold mH;rw[su];constructor
 .rintro h a b ⟨l,h0,h1,h2⟩;have hl:=(aT.1 h1).1;have h3:=h _ _ h1;rw[iE]at h3;have h4:=jT (h3 b h2);rw[yu h0]at h4;have hn:=hN.1;have hr:=hs.at_ h0 (by omega:a<(n:Int));have h5:aN[(aO s a).toNat]? =some (aN[(aO s a).toNat]'(p0)):=bH _;rw[gT h5]at h4;exact⟨_,hr.1,h5,h4⟩
 .intro h i l hl;rw[iE];intro b hb;have h1:=h (i:Int) b ⟨l,p0,by rw[ic];exact hl,hb⟩;obtain⟨l',_,h3,h4⟩:=h1;rw[gT h3];exact fo h4
def Nb.dN(hN:uX n aN){a b:Int}(h:Nb aN a b):(0<=a/\a<(n:Int))/\0<=b/\b<(n:Int):=by
 obtain⟨l,h0,h1,h2⟩:=h;have hl:=(aT.1 h1).1;have:=hN.1;exact⟨⟨h0,p0⟩,hN.2 l (aV h1) b h2⟩
def sw(aN:ae (ae Int)):ae (Int×Int):=aN.zipIdx.flatMap λx=>x.1.map λb=>((x.2:Int),b)
def Qx{a b:Int}:(a,b)∈sw aN↔Nb aN a b:=by
 unfold sw;rw[List.mem_flatMap];constructor
 .rintro⟨⟨l,i⟩,hx,h⟩;obtain⟨c,hc,e⟩:=cZ.1 h;cases e;have:=zU.1 hx;exact⟨l,p0,by rw[ic];exact this,hc⟩
 .rintro⟨l,h0,h1,h2⟩;refine⟨(l,a.toNat),zU.2 h1,cZ.2 ⟨b,h2,?_⟩⟩;rw[yu h0]
def X6(hN:uX n aN)(hs:bC n s)(h:∀a b,Nb aN a b->Nb aN (aO s a) (aO s b)){a b:Int}(hab:Nb aN a b):∃c d,Nb aN c d/\aO s c=a/\aO s d=b:=by
 have hmem:=Qx.2 hab;obtain⟨j,hj⟩:=ik hmem;have hjl:=(aT.1 hj).1;have hnb:∀i,i<(sw aN).length->Nb aN ((sw aN).getD i (0,0)).1 ((sw aN).getD i (0,0)).2:=λi hi=>by
  have hx:(sw aN)[i]? =some (sw aN)[i]:=bH hi;rw[gT hx];exact Qx.1 (aV hx)
 have hc:∀i,∃i',i<(sw aN).length->(sw aN)[i']? =some (aO s ((sw aN).getD i (0,0)).1,aO s ((sw aN).getD i (0,0)).2):=λi=>by
  by_cases hi:i<(sw aN).length
  .obtain⟨i',hi'⟩:=ik (Qx.2 (h _ _ (hnb i hi)));exact⟨i',λ_=>hi'⟩
  .exact⟨0,λh=>absurd h hi⟩
 obtain⟨i,hi,e⟩:=Qt (m:=(sw aN).length) (L:=λi:Nat=>(sw aN).getD i (0,0)) (S:=λp:Int×Int=>(aO s p.1,aO s p.2)) (R:=λa b=>a=b) (D:=λp=>(0<=p.1/\p.1<(n:Int))/\0<=p.2/\p.2<(n:Int)) (f:=λi=>Classical.choose (hc i))
  (λi hi=>(hnb i hi).dN hN) (λp hp=>⟨hs.at_ hp.1.1 hp.1.2,hs.at_ hp.2.1 hp.2.2⟩) (λ_=>rfl) (λ_ _ e=>e.symm) (λ_ _ _ e e'=>e.trans e')
  (λx y hx hy=>by
    constructor
    .intro e;obtain⟨x1,x2⟩:=x;obtain⟨y1,y2⟩:=y;dsimp only at e hx hy;injection e with e1 e2;rw[hs.inj hx.1.1 hx.1.2 hy.1.1 hy.1.2 e1,hs.inj hx.2.1 hx.2.2 hy.2.1 hy.2.2 e2]
    .intro e;rw[e])
  (λi hi=>by
    exact po) hjl
 rw[gT hj]at e;injection e with e1 e2;exact⟨_,_,hnb i hi,e1.symm,e2.symm⟩
end Kd
namespace Kd
open Go Go.Ideal Canon Gph
def zf:Nat->ae Bool->ae Int
 |n,[]=>if 0<n then[(n:Int)]else[]
 |n,b::bs=>if b then zf (n+1) bs else if 0<n then(n:Int)::zf 0 bs else zf 0 bs
def ajD(n:Nat)(l:ae Bool):zf n (true::l)=zf (n+1) l:=rfl
def ajE(n:Nat)(l:ae Bool):zf n (false::l)=if 0<n then(n:Int)::zf 0 l else zf 0 l:=rfl
variable{g:ae (ae Int)}
def Nb.rch{bE:ae Bool}{s a b:Int}(h:lJ g bE s a)(hab:Nb g a b)(hi:dU bE b=true):lJ g bE s b:=by
 obtain⟨l,h0,h1,h2⟩:=hab;exact .step h h1 h2 hi
variable{mk mk':ae Bool}{n:Nat}{s:ae Int}
def ajF(hN:uX n g)(hmk:∀c,0<=c->c<(n:Int)->dU mk' (aO s c)=dU mk c)(hnb:∀a b,Nb g a b->Nb g (aO s a) (aO s b)){a b:Int}(ha:0<=a/\a<(n:Int))(h:lJ g mk a b):(0<=b/\b<(n:Int))/\lJ g mk' (aO s a) (aO s b):=by
 induction h with
 |refl=>exact⟨ha,.refl⟩
 |step h hl hn hi ih=>
  rename_i i m l;have hab:Nb g i m:=⟨l,ih.1.1,hl,hn⟩
  have hr:=hab.dN hN;exact⟨hr.2,(hnb _ _ hab).rch ih.2 (by rw[hmk _ hr.2.1 hr.2.2];exact hi)⟩
def Joined(g:ae (ae Int))(mk:ae Bool):Prop:=∀a b:Nat,a<g.length->b<g.length->dU mk a=true->dU mk b=true->lJ g mk a b
def Qy{mk:ae Bool}:∀(n a:Nat),a<n->dU mk a=true->∃f,f<n/\dU mk (f:Nat)=true/\∀j,j<f->dU mk (j:Nat)=false
 |0,a,h,_=>by omega
 |n+1,a,h,hm=>by
  by_cases hex:∃a',a'<n/\dU mk (a':Nat)=true
  .obtain⟨a',h1,h2⟩:=hex;obtain⟨f,h3,h4⟩:=Qy n a' h1 h2;exact⟨f,p0,h4⟩
  .have hno:∀j,j<n->dU mk (j:Nat)=false:=λj hj=>by
    exact mw
   have:a=n:=by
    apply Classical.byContradiction;intro hne;rw[hno a p0]at hm;cases hm
   subst this;exact⟨a,p0,hm,hno⟩
def LH{g:ae (ae Int)}{mk:ae Bool}:∀k,(∀j,j<k->dU mk (j:Nat)=false)->cnt g mk k=0
 |0,_=>rfl
 |k+1,h=>by rw[cnt,LH k (λj hj=>h j p0),if_neg (λq=>by rw[h k p0]at q;cases q.1)]
def cnt_mono{g:ae (ae Int)}{mk:ae Bool}:∀k d,cnt g mk k<=cnt g mk (k+d)
 |k,0=>bz _
 |k,d+1=>by have:=cnt_mono (g:=g) (mk:=mk) k d;rw[<- kE,cnt];omega
def X7{f:Nat}(hf:f<g.length)(hin:dU mk f=true)(yQ:∀j,j<f->dU mk (j:Nat)=false):1<=cnt g mk g.length:=by
 have h1:cnt g mk (f+1)=1:=by
  rw[cnt,LH f yQ,if_pos ⟨hin,λ⟨j,h1,h2,_⟩=>by rw[yQ j h1]at h2;cases h2⟩]
 have:=cnt_mono (g:=g) (mk:=mk) (f+1) (g.length - (f+1));rw[show f+1+(g.length - (f+1))=g.length by omega]at this;omega
def X8(hS:Gph.mP g):(l9 g mk g.length).2=0↔∀a,a<g.length->dU mk (a:Nat)=false:=by
 rw[PX hS.rg _ (bz _)];constructor
 .intro h a ha;cases he:dU mk (a:Nat)with
  |false=>rfl
  |true=>
   obtain⟨f,h1,h2,h3⟩:=Qy g.length a ha he;have:=X7 h1 h2 h3;omega
 .exact LH _
def X9(hS:Gph.mP g):(l9 g mk g.length).2<=1↔Joined g mk:=by
 rw[PX hS.rg _ (bz _)];by_cases hex:∃a,a<g.length/\dU mk (a:Nat)=true
 .obtain⟨a,ha,hm⟩:=hex;obtain⟨f,h1,h2,h3⟩:=Qy g.length a ha hm;have hp:=X7 h1 h2 h3;have h4:=aiC hS h1 h2 h3;constructor
  .intro h x y hx hy mx my;have h5:=h4.1 p0;exact((h5 x hx mx).symm hS ⟨p0,p0⟩ h2).trans (h5 y hy my)
  .intro h;have:=h4.2 λi hi mi=>h f i h1 hi h2 mi;omega
 .have h0:∀j,j<g.length->dU mk (j:Nat)=false:=λj hj=>by
   exact mw
  rw[LH _ h0];exact⟨λ_ x y hx _ mx _=>(by rw[h0 x hx]at mx;cases mx),λ_=>bS _⟩
def Ya(hN:uX n g)(hs:bC n s)(hmk:∀c,0<=c->c<(n:Int)->dU mk' (aO s c)=dU mk c)(hnb:∀a b,Nb g a b->Nb g (aO s a) (aO s b))(h:Joined g mk):Joined g mk':=by
 intro a b ha hb ma mb;have hn:=hN.1;obtain⟨c,c0,c1,hc⟩:=hs.onto (y:=(a:Int)) p0 p0;obtain⟨d,d0,d1,hd⟩:=hs.onto (y:=(b:Int)) p0 p0;rw[<- hc,hmk c c0 c1]at ma;rw[<- hd,hmk d d0 d1]at mb;obtain⟨cn,rfl⟩:=iQ c0;obtain⟨dn,rfl⟩:=iQ d0;have:=(ajF hN hmk hnb ⟨c0,c1⟩ (h cn dn p0 p0 ma mb)).2;rw[hc,hd]at this;exact this
structure wH(n:Nat)(g:List (List Int))(s:List Int)(mk mk':List Bool):Prop where
 wI:Gph.mP g
 aN:uX n g
 nd:∀l∈g,l.Nodup
 ps:bC n s
 marks:∀c,0<=c->c<(n:Int)->dU mk' (aO s c)=dU mk c
 keep:∀a b,Nb g a b->Nb g (aO s a) (aO s b)
def wH.back(h:wH n g s mk mk'):wH n g (iP s) mk' mk:=by
 refine⟨h.wI,h.aN,h.nd,h.ps.inv,λc c0 c1=>?_,λa b hab=>?_⟩
 .have:=h.ps.inv.at_ c0 c1;rw[<- h.marks _ this.1 this.2,h.ps.HZ c0 c1]
 .obtain⟨c,d,hcd,rfl,rfl⟩:=X6 h.aN h.ps h.keep hab;have hr:=hcd.dN h.aN;rw[h.ps.wF hr.1.1 hr.1.2,h.ps.wF hr.2.1 hr.2.2];exact hcd
def wH.few(h:wH n g s mk mk'):(l9 g mk g.length).2<=1↔(l9 g mk' g.length).2<=1:=by
 rw[X9 h.wI,X9 h.wI];exact⟨Ya h.aN h.ps h.marks h.keep,Ya h.back.aN h.back.ps h.back.marks h.back.keep⟩
def wH.Yb(h:wH n g s mk mk')(h0:∀a,a<g.length->dU mk' (a:Nat)=false):∀a,a<g.length->dU mk (a:Nat)=false:=by
 intro a ha;have hn:=h.aN.1;have hr:=h.ps.at_ (c:=(a:Int)) p0 p0;rw[<- h.marks (a:Int) p0 p0];have:=h0 (aO s a).toNat p0
 rwa [yu hr.1]at this
def wH.zero(h:wH n g s mk mk'):(l9 g mk g.length).2=0↔(l9 g mk' g.length).2=0:=by
 rw[X8 h.wI,X8 h.wI];exact⟨h.back.Yb,h.Yb⟩
def ajG{a b:ae Int}(ha:a.Nodup)(hb:b.Nodup)(h:∀x,x∈a↔x∈b):a.Perm b:=by
 refine List.perm_iff_count.2 λx=>?_;have h1:=List.nodup_iff_count.1 ha x;have h2:=List.nodup_iff_count.1 hb x;have h3:=List.count_pos_iff (a:=x) (l:=a);have h4:=List.count_pos_iff (a:=x) (l:=b);have h5:=h x;by_cases hx:x∈a
 .have:=h3.2 hx;have:=h4.2 (h5.1 hx);omega
 .have k1:¬0<List.count x a:=λq=>hx (h3.1 q);have k2:¬0<List.count x b:=λq=>hx (h5.2 (h4.1 q));omega
def Qz{n:Nat}{s:ae Int}{p q:Int->Bool}:∀{l:ae Int},kP n l->(∀c,0<=c->c<(n:Int)->q (aO s c)=p c)->((img s l).filter q).length=(l.filter p).length
 |[],_,_=>rfl
 |c::l,hl,h=>by
  have hc:=hl c (dP ..);have ih:=Qz (l:=l) (λx hx=>hl x (dO _ hx)) h;unfold img at ih⊢;rw[fK,Bz,Bz,h c hc.1 hc.2];split
  .rw[lU,lU,ih]
  .exact ih
def Yc(mk:ae Bool)(n:Nat):Lb mk n=((upTo' n).filter (dU mk)).length:=by
 unfold Lb upTo';rw[List.filter_map,aS];rfl
def wH.size(h:wH n g s mk mk'):Lb mk g.length=Lb mk' g.length:=by
 have hn:=h.aN.1;rw[hn,Yc,Yc];have hid:=bC.ident n;have hin:kP n (upTo' n):=λc hc=>hid.dN c hc;have h1:=Qz (n:=n) (s:=s) (p:=dU mk) (q:=dU mk') hin h.marks;have h2:(img s (upTo' n)).Perm (upTo' n):=ajG (ajA h.ps hin hid.nd) hid.nd λx=>by
  constructor
  .intro hx;have:=(kP.img h.ps hin) x hx;exact hid.mem this.1 this.2
  .intro hx;have:=hid.dN x hx;obtain⟨c,c0,c1,rfl⟩:=h.ps.onto this.1 this.2;exact cZ.2 ⟨c,hid.mem c0 c1,rfl⟩
 rw[<- h1,(h2.filter (dU mk')).length_eq]
end Kd
namespace Kd
open Go Go.Ideal Canon
variable{L:ae (ae Int)}
def Yd(hn:L.Nodup)(hs:∀l∈L,l.Pairwise (·<·)):Bb L:=by
 intro i j a b ha hb hp;have e:a=b:=List.Perm.eq_of_pairwise (λx y _ _ h1 h2=>by omega) (hs a (aV ha)) (hs b (aV hb)) hp;subst e;exact HY hn ha hb
def ajH{α:Type}{K:ae α}{F:α->ae Int}(hn:K.Nodup)(h:∀a∈K,∀b∈K,(F a).Perm (F b)->a=b):Bb (K.map F):=by
 intro i j a b ha hb hp;rw[bU]at ha hb;obtain⟨x,hx,rfl⟩:=jC.1 ha;obtain⟨y,hy,rfl⟩:=jC.1 hb;have:=h x (aV hx) y (aV hy) hp;subst this;exact HY hn hx hy
variable{g:bM}
def QA(hg:fT g)(kf:Int×Int->Int×Bool):Bb (j6 g kf):=by
 obtain⟨h1,h2⟩:=XZ kf _ (bB g) rfl;unfold j6;refine ajH (XN h1) λa ha b hb hp=>?_;rw[EG]at ha hb;rw[(h2 a).2,(h2 b).2]at hp;have hne:=(h2 a).1.1 ha;cases hl:og kf (bB g) a with
 |nil=>exact absurd hl hne
 |cons c l=>
  have hc:c∈og kf (bB g) a:=by rw[hl];exact dP ..
  have hc':=hp.mem_iff.1 hc;unfold og at hc hc';obtain⟨p,hp1,hp2⟩:=cZ.1 hc;obtain⟨q,hq1,hq2⟩:=cZ.1 hc';obtain⟨p3,p4⟩:=ry.1 hp1;obtain⟨q3,q4⟩:=ry.1 hq1;have e:=Hw hg p3 q3 (.inl (hp2.trans hq2.symm));subst e;rw[dG,nE]at p4 q4;exact p4.2.symm.trans q4.2
def EM(h:L.length<=1):Bb L:=by
 intro i j a b ha hb _;have h1:=(aT.1 ha).1;have h2:=(aT.1 hb).1;omega
def ajI(hg:fT g):Bb (tN g):=by
 unfold tN;split
 .exact QA hg _
 split
 .rw[X0,X0];generalize hA:xL g.cells.length (λb=>decide ((sj g b).1=(sj g b).2))=A;generalize hB:xL g.cells.length (λb=>decide ((sj g b).1+(sj g b).2=g.w - 1))=B;have iA:A.Pairwise (·<·):=by rw[<- hA];exact Qp _ _
  have iB:B.Pairwise (·<·):=by rw[<- hB];exact Qp _ _
  by_cases a0:A=[]
  .rw[if_pos a0];by_cases b0:B=[]
   .rw[if_pos b0];exact EM (by simp[mV])
   .rw[if_neg b0];exact EM (by simp[mV,za])
  .rw[if_neg a0];by_cases b0:B=[]
   .rw[if_pos b0];exact EM (by simp[mV])
   .rw[if_neg b0];by_cases e:A=B
    .refine EM ?_;simp[mV,za,e]
    .have:mV [A] [B]=[A,B]:=by simp[mV,za,e]
     rw[this];refine Yd s7 λl hl=>?_;simp only[bN,Fs,or_false]at hl;rcases hl with rfl|rfl
     .exact iA
     .exact iB
 .exact EM qe
def ajJ(hg:fT g):Bb (kX (eZ g)):=by
 refine Yd ?_ λl hl=>?_
 .unfold kX;unfold List.Nodup;rw[List.pairwise_flatMap];refine⟨λx hx=>?_,?_⟩
  .have hx:=aV (zU.1 (show(x.1,x.2)∈_ from hx));unfold mW;rw[BG];obtain⟨p,_,hp⟩:=cZ.1 (show x.1∈eZ g from hx);have hnd:x.1.Nodup:=by rw[<- hp];exact Qk hg p
   exact(List.Pairwise.filter _ hnd).imp λ{a b} hne e=>hne (by injection e with _ e;injection e)
  .have hz:∀(l:ae (ae Int)) (n:Nat),(l.zipIdx n).Pairwise λa b=>a.2<b.2:=by
    intro l;induction l with
    |nil=>intro n;exact List.Pairwise.nil
    |cons a l ih=>
     intro n;rw[List.zipIdx_cons,rz];refine⟨λx hx=>?_,ih (n+1)⟩;have:=List.le_snd_of_mem_zipIdx hx;show n<x.2;omega
   refine(hz (eZ g) 0).imp λ{a b} h x hx y hy e=>?_;unfold mW at hx hy;obtain⟨u,_,rfl⟩:=cZ.1 hx;obtain⟨v,_,rfl⟩:=cZ.1 hy;injection e with e _;omega
 .obtain⟨i,x,j,_,_,h,rfl⟩:=XO hl;simp[h]
def ajK(hg:fT g)(k:Int):pU g.cells.length (gU g k) k:=by
 refine⟨λl hl=>(XH hg k l hl).2,λhb=>?_,λhb=>?_⟩
 .unfold mX at hb;simp only[yf,nE]at hb;rcases hb with(rfl|rfl)|rfl
  .show(nM g.cells.length).length=_;exact Qa _
  .show(eZ g).length=_;exact A8 g
  .show(pR (eZ g)).length=_;rw[Xy];exact A8 g
 .unfold mX at hb;simp only[SF,decide_eq_false_iff_not]at hb;unfold gU;rw[if_neg hb.1.1];split
  .exact QA hg _
  split
  .exact QA hg _
  split
  .exact ajI hg
  rw[if_neg hb.1.2,if_neg hb.2];split
  .exact ajJ hg
  .exact EM qe
def ajL(hg:fT g){rs:ae (ae Int)}(hr:wD g rs)(hn:(rs.map bP).Nodup)(k:Int)(hk:mX k=false):pU g.cells.length (iJ g rs) k:=by
 refine⟨λl hl=>(XI hg hr l hl).2,(λhb=>by rw[hk]at hb;cases hb),λ_=>?_⟩;intro i j a b ha hb hp;unfold iJ at ha hb;rw[bU]at ha hb;obtain⟨x,hx,rfl⟩:=jC.1 ha;obtain⟨y,hy,rfl⟩:=jC.1 hb;have back:∀z∈rs,(iW g z).map (λn=>g.cells.getD n.toNat 0)=z:=λz hz=>by
  unfold iW;rw[qB];conv=>rhs;rw[<- Fy z]
  refine vF λc hc=>?_;have hm:=(hr.all z hz).mem c hc;have si:g.cells.Pairwise (·<·):=wc
  obtain⟨m,hm2⟩:=ik hm;show g.cells.getD ((zb c g.cells:Nat):Int).toNat 0=c;rw[ic,Qc si hm2];exact gT hm2
 have h1:=hp.map (λn=>g.cells.getD n.toNat 0);rw[back x (aV hx),back y (aV hy)]at h1;have h2:=LG.2 h1;have h3:(rs.map bP)[i]? =some (bP x):=by rw[bU,hx];rfl
 have h4:(rs.map bP)[j]? =some (bP x):=by rw[bU,hy,h2];rfl
 exact HY hn h3 h4
def ajM{d:dA}(hg:fT (bI d))(hr:∀r∈d.regions,wD (bI d) r.lists/\(r.lists.map bP).Nodup){f:Nat}{L:ae (ae Int)}(h:(mG d)[f]? =some L):pU (bI d).cells.length L (f:Int):=by
 unfold mG at h;by_cases hf:f<8
 .rw[iY (by rw[aS,nP];exact hf),bU,qw hf]at h;cases h;exact ajK hg _
 .rw[jm tM,bU]at h;obtain⟨r,hr2,rfl⟩:=jC.1 h;have:=hr r (aV hr2);refine ajL hg this.1 this.2 _ ?_;unfold mX;simp only[SF,decide_eq_false_iff_not];omega
end Kd
namespace Kd
open Go Go.Ideal Canon
structure ajN(m:Nat)(cl:List Int):Prop where
 len:cl.length=m
 xN:∀i:Nat,i<m->0<=aO cl (i:Int)/\aO cl (i:Int)<=(i:Int)/\aO cl (aO cl (i:Int))=aO cl (i:Int)
structure oV(m:Nat)(cl t:List Int):Prop where
 p:bC m t
 c:∀v:Int,0<=v->v<(m:Int)->aO cl (aO t v)=aO cl v
def EN(cl sy:ae Int)(s:Int):aj Nat:=(List.range cl.length).find? λt:Nat=>decide (aO cl (t:Int)=aO cl s)&&!decide ((t:Int)∈sy)
def H6(cl sy:ae Int)(s:Int):ae Int:=if 0<=aO sy s then sy else match EN cl sy s with
 |none=>sy
 |some t=>sy.set s.toNat (t:Int)
def grd(cl seq:ae Int):ae Int:=seq.foldl (H6 cl) (List.replicate cl.length (-1))
structure GInv(m:Nat)(cl sy:List Int):Prop where
 len:sy.length=m
 val:∀s:Int,0<=s->s<(m:Int)->aO sy s= -1\/(0<=aO sy s/\aO sy s<(m:Int)/\aO cl (aO sy s)=aO cl s)
 inj:∀s u:Int,0<=s->s<(m:Int)->0<=u->u<(m:Int)->aO sy s=aO sy u->0<=aO sy s->s=u
variable{s:Int}
def H7{l:ae Int}{x u:Int}(s0:0<=s)(s1:s<l.length)(u0:0<=u):aO (l.set s.toNat x) u=if u=s then x else aO l u:=by
 unfold aO;by_cases e:u=s
 .subst e;rw[if_pos rfl];have hl:u.toNat<l.length:=by omega
  simp[List.getD,ow,hl]
 .rw[if_neg e];simp only[List.getD,ow];rw[if_neg p0]
variable{cl sy:ae Int}{m:Nat}
def GInv.mem(h:GInv m cl sy){t:Int}(t0:0<=t)(ht:t∈sy):∃u:Int,0<=u/\u<(m:Int)/\aO sy u=t/\aO cl t=aO cl u/\t<(m:Int):=by
 obtain⟨i,hi⟩:=ik ht;have hl:=(aT.1 hi).1;have hlen:=h.len;have e:=jB hi;refine⟨(i:Int),p0,p0,e,?_⟩;rcases h.val (i:Int) p0 (p0)with h1|h1
 .omega
 .rw[e]at h1;exact⟨h1.2.2,h1.2.1⟩
def GInv.room(hc:cl.length=m)(h:GInv m cl sy){s:Int}(s0:0<=s)(s1:s<(m:Int))(hs:aO sy s= -1):∃t,EN cl sy s=some t:=by
 cases hf:EN cl sy s with
 |some t=>exact⟨t,rfl⟩
 |none=>
  exfalso
  unfold EN at hf;rw[List.find?_eq_none]at hf;have hall:∀t:Int,0<=t->t<(m:Int)->aO cl t=aO cl s->t∈sy:=λt t0 t1 hcl=>by
   have:=hf t.toNat (nD.2 p0)
   rw[yu t0]at this;simp[hcl]at this;exact this
  have hC:∀t,t∈(upTo' m).filter (λt=>decide (aO cl t=aO cl s))↔(0<=t/\t<(m:Int))/\aO cl t=aO cl s:=λt=>by
   rw[ry,nE];refine and_congr_left λ_=>⟨λq=>(bC.ident m).dN t q,λq=>(bC.ident m).mem q.1 q.2⟩
  have hnd:((upTo' m).filter (λt=>decide (aO cl t=aO cl s))).Nodup:=(Hy m).filter _;generalize(upTo' m).filter (λt=>decide (aO cl t=aO cl s))=C at hC hnd;have hidx:∀t∈C,sy.idxOf t<sy.length/\aO sy (sy.idxOf t:Nat)=t:=λt ht=>by
   have h1:=(hC t).1 ht;have hl:=List.idxOf_lt_length_iff.2 (hall t h1.1.1 h1.1.2 h1.2);refine⟨hl,jB ?_⟩;rw[bH hl,List.getElem_idxOf]
  have Ye:s∈C:=(hC s).2 ⟨⟨s0,s1⟩,rfl⟩;have h1:=Lu (l:=C.map λt=>((sy.idxOf t:Nat):Int)) (m:=C.erase s) (Qs hnd λa ha b hb e=>by
   have e1:=(hidx a ha).2;have e2:=(hidx b hb).2;rw[<- e1,<- e2,e]) (λx hx=>by
   obtain⟨t,ht,rfl⟩:=cZ.1 hx;obtain⟨k1,k2⟩:=hidx t ht;have k3:=(hC t).1 ht;have hlen:=h.len;have hne:((sy.idxOf t:Nat):Int)≠s:=λe=>by rw[e,hs]at k2;omega
   refine(SN hne).2 ((hC _).2 ⟨⟨p0,p0⟩,?_⟩);rcases h.val ((sy.idxOf t:Nat):Int) p0 (p0)with q|q
   .omega
   .rw[<- q.2.2,k2];exact k3.2)
  have h2:=Nj Ye;have h3:0<C.length:=Nk Ye;rw[aS]at h1;omega
def ajP{t:Nat}(h:EN cl sy s=some t):t<cl.length/\aO cl (t:Int)=aO cl s/\(t:Int)∉sy/\∀u:Nat,u<t->aO cl (u:Int)=aO cl s->(u:Int)∈sy:=by
 unfold EN at h;have h1:=List.find?_some h;have h2:=List.mem_of_find?_eq_some h;simp at h1;refine⟨nD.1 h2,h1.1,h1.2,λu hu hcl=>?_⟩;obtain⟨h3,a,b,e,h4⟩:=List.find?_eq_some_iff_append.1 h;have hat:a=List.range t:=by
  have hlt:=nD.1 h2;have e1:List.range cl.length=List.range t++t::(List.range' (t+1) (cl.length - t - 1)):=by
   rw[List.range_eq_range',List.range_eq_range',show cl.length=t+(1+(cl.length - t - 1))by omega,<- List.range'_append_1,<- List.range'_append_1];simp
  have l1:a.length=t:=by
   have hg:(List.range cl.length)[a.length]? =some t:=by rw[e,jm (bz _),mM];rfl
   have:=(aT.1 hg).2;rw[List.getElem_range]at this;exact this
  have:a=(List.range cl.length).take t:=by rw[e,<- l1,List.take_left'];rfl
  rw[this,List.take_range,BD p0]
 have:=h4 u (by rw[hat];exact nD.2 hu);simp[hcl]at this;exact this
def GInv.step(hc:cl.length=m)(h:GInv m cl sy){s:Int}(s0:0<=s)(s1:s<(m:Int)):GInv m cl (H6 cl sy s)/\0<=aO (H6 cl sy s) s/\∀u:Int,0<=u->u≠s->aO (H6 cl sy s) u=aO sy u:=by
 unfold H6;by_cases h0:0<=aO sy s
 .rw[if_pos h0];exact⟨h,h0,λ_ _ _=>rfl⟩
 rw[if_neg h0];have hs:aO sy s= -1:=by
  rcases h.val s s0 s1 with q|q
  .exact q
  .omega
 obtain⟨t,ht⟩:=h.room hc s0 s1 hs;rw[ht];dsimp only;obtain⟨k1,k2,k3,_⟩:=ajP ht;have hlen:=h.len;have hg:∀u:Int,0<=u->aO (sy.set s.toNat (t:Int)) u=if u=s then(t:Int)else aO sy u:=λu u0=>H7 s0 p0 u0
 have hno:∀u:Int,0<=u->u<(m:Int)->aO sy u≠(t:Int):=λu u0 u1 e=>k3 (e▸Qr u0 p0);refine⟨⟨by rw[jD];exact hlen,λu u0 u1=>?_,λu w u0 u1 w0 w1 e he=>?_⟩,?_,λu u0 hne=>?_⟩
 .rw[hg u u0];split
  .rename_i e;refine .inr ⟨p0,p0,by rw[e];exact k2⟩
  .exact h.val u u0 u1
 .rw[hg u u0,hg w w0]at e;rw[hg u u0]at he;split at e
  .rename_i e1;split at e
   .rename_i e2;omega
   .exact absurd e.symm (hno w w0 w1)
  .rename_i e1;rw[if_neg e1]at he;split at e
   .exact absurd e (hno u u0 u1)
   .exact h.inj u w u0 u1 w0 w1 e he
 .rw[hg s s0,if_pos rfl];omega
 .rw[hg u u0,if_neg hne]
end Kd
namespace Kd
open Go Go.Ideal Canon
def QB(sy:Int->Bool)(t:ae Int)(g:Clue):Clue:=⟨g.bD,g.at_,if sy g.bD then img t g.values else g.values⟩
def CO(sy:Int->Bool)(t:ae Int)(p:ae Clue):ae Clue:=p.map (QB sy t)
def LJ(sy:Int->Bool)(m:Nat)(p:ae Clue):Prop:=∀g∈p,sy g.bD=true->∃v,g.values=[v]/\0<=v/\v<(m:Int)
def ajQ(sy:Int->Bool)(p:ae Clue):ae Int:=p.flatMap λg=>if sy g.bD then g.values else[]
def ajR(sy:Int->Bool)(cl:ae Int)(p:ae Clue):ae Int:=grd cl (ajQ sy p++upTo' cl.length)
def LJ.tail{sy:Int->Bool}{m:Nat}{g:Clue}{p:ae Clue}(h:LJ sy m (g::p)):LJ sy m p:=λx hx=>h x (dO _ hx)
section
variable {sy:Int->Bool} {m:Nat} {cl t t2:ae Int} {p:ae Clue}
def oV.comp(h:oV m cl t)(h2:oV m cl t2):oV m cl (cz t2 t):=by
 refine⟨h2.p.comp h.p,λv v0 v1=>?_⟩;have r:=h.p.at_ v0 v1;rw[ze v0 (by rw[h.p.len];exact v1),h2.c _ r.1 r.2,h.c v v0 v1]
def oV.inv(h:oV m cl t):oV m cl (iP t):=by
 refine⟨h.p.inv,λv v0 v1=>?_⟩;have r:=h.p.inv.at_ v0 v1;rw[<- h.c _ r.1 r.2,h.p.HZ v0 v1]
def oV.ident(cl:ae Int)(m:Nat):oV m cl (upTo' m):=⟨bC.ident m,λv v0 v1=>by rw[tO v0 v1]⟩
def ajS{a b:ae Clue}(h1:¬GA a b<0)(h2:¬GA b a<0):a=b:=by
 have h3:=Vk.neg b a;refine(Vk.zero a b).1 ?_;have h4:¬0<GA a b:=λq=>h2 (h3.2 q);omega
end
end Kd
namespace Kd
open Go Go.Ideal Canon
structure H8(n:Nat)(G:List (List Int)):Prop where
 perm:∀a∈G,bC n a
 one:upTo' n∈G
 comp:∀a∈G,∀b∈G,cz a b∈G
 inv:∀a∈G,iP a∈G
section
variable {n:Nat} {a b c:ae Int}
def bC.inr(h:bC n a):kP n a:=h.dN
def QC(hb:bC n b)(hc:bC n c):cz (cz a b) c=cz a (cz b c):=by
 show img (cz a b) c=img a (img b c);exact LC (by rw[hb.len];exact hc.inr)
def Yf(h:bC n a):cz a (upTo' n)=a:=by
 apply iK;intro i;show((upTo' n).map (aO a))[i]? =_;rw[bU];by_cases hi:i<n
 .have h1:=qg (p:=upTo' n) (c:=(i:Int)) p0 sA;have h2:=qg (p:=a) (c:=(i:Int)) p0 tP;rw[ic]at h1 h2;rw[h1,h2,tO p0 p0];rfl
 .rw[dY sA,dY tP];rfl
def EO(h:bC n a):cz (upTo' n) a=a:=by
 show a.map (aO (upTo' n))=a;conv=>rhs;rw[<- Fy a]
 exact vF λx hx=>tO (h.dN x hx).1 (h.dN x hx).2
def ajT(h:bC n a):cz a (iP a)=upTo' n:=by
 apply iK;intro i;show((iP a).map (aO a))[i]? =_;rw[bU];have hl:(iP a).length=n:=h.inv.len;by_cases hi:i<n
 .have h1:=qg (p:=upTo' n) (c:=(i:Int)) p0 sA;have h2:=qg (p:=iP a) (c:=(i:Int)) p0 p0;rw[ic]at h1 h2;rw[h1,h2,tO p0 p0];show some (aO a (aO (iP a) (i:Int)))=_;rw[h.HZ p0 p0]
 .rw[dY (by rw[hl];omega),dY sA];rfl
def ajU(h:bC n a):cz (iP a) a=upTo' n:=by
 apply iK;intro i;show(a.map (aO (iP a)))[i]? =_;rw[bU];by_cases hi:i<n
 .have h1:=qg (p:=upTo' n) (c:=(i:Int)) p0 sA;have h2:=qg (p:=a) (c:=(i:Int)) p0 tP;rw[ic]at h1 h2;rw[h1,h2,tO p0 p0];show some (aO (iP a) (aO a (i:Int)))=_;rw[h.wF p0 p0]
 .rw[dY tP,dY sA];rfl
def Yg(ha:bC n a)(hb:bC n b)(hc:bC n c)(e:cz a b=cz a c):b=c:=by
 have h1:cz (iP a) (cz a b)=cz (iP a) (cz a c):=by rw[e]
 rwa [<- QC ha hb,<- QC ha hc,ajU ha,EO hb,EO hc]at h1
end
structure oh(n:Nat)(fB l:List (List Int))(k:Nat):Prop where
 gp:∀g∈fB,bC n g
 nd:l.Nodup
 first:l[0]? =some (upTo' n)
 Bd:∀(i:Nat) p,l[i]? =some p->i=0\/∃(j:Nat) (g q:List Int),j<i/\g∈fB/\l[j]? =some q/\p=cz g q
 done:∀(i:Nat) q,i<k->l[i]? =some q->∀g∈fB,cz g q∈l
variable{n k:Nat}{l fB:ae (ae Int)}
def oh.perm(h:oh n fB l k):∀(i:Nat) p,l[i]? =some p->bC n p:=by
 intro i;induction i using Nat.strongRecOn with
 |_ i ih=>
  intro p hp;rcases h.Bd i p hp with e|⟨j,g,q,hj,hg,hq,rfl⟩
  .subst e;rw[h.first]at hp;cases hp;exact bC.ident n
  .exact(h.gp g hg).comp (ih j hj q hq)
def oh.all(h:oh n fB l k){P:ae Int->Prop}(h1:P (upTo' n))(h2:∀g∈fB,∀q,bC n q->P q->P (cz g q)):∀p∈l,P p:=by
 have key:∀(i:Nat) p,l[i]? =some p->P p:=by
  intro i;induction i using Nat.strongRecOn with
  |_ i ih=>
   intro p hp;rcases h.Bd i p hp with e|⟨j,g,q,hj,hg,hq,rfl⟩
   .subst e;rw[h.first]at hp;cases hp;exact h1
   .exact h2 g hg q (h.perm j q hq) (ih j hj q hq)
 intro p hp;obtain⟨i,hi⟩:=ik hp;exact key i p hi
def oh.mul(h:oh n fB l l.length){b:ae Int}(hb:b∈l):∀(i:Nat) a,l[i]? =some a->cz a b∈l:=by
 obtain⟨jb,hjb⟩:=ik hb;have hbp:=h.perm jb b hjb;intro i;induction i using Nat.strongRecOn with
 |_ i ih=>
  intro a ha;rcases h.Bd i a ha with e|⟨j,g,q,hj,hg,hq,rfl⟩
  .subst e;rw[h.first]at ha;cases ha;rw[EO hbp];exact hb
  .rw[QC (h.perm j q hq) hbp];obtain⟨m,hm⟩:=ik (ih j hj q hq);exact h.done m _ (aT.1 hm).1 hm g hg
def ajV(hp:∀a∈l,bC n a)(h1:upTo' n∈l)(hm:∀a∈l,∀b∈l,cz a b∈l){a:ae Int}(ha:a∈l):iP a∈l:=by
 have hap:=hp a ha;have hmem:∀i,i<l.length->l.getD i []∈l:=λi hi=>by
  rw[gT (bH hi)];exact wR _
 have hc:∀i,∃i',i<l.length->l[i']? =some (cz a (l.getD i [])):=λi=>by
  by_cases hi:i<l.length
  .obtain⟨i',h⟩:=ik (hm a ha _ (hmem i hi));exact⟨i',λ_=>h⟩
  .exact⟨0,λh=>absurd h hi⟩
 obtain⟨j,hj⟩:=ik h1;obtain⟨i,hi,e⟩:=Qt (m:=l.length) (L:=λi:Nat=>l.getD i []) (S:=λb=>cz a b) (R:=λx y=>x=y) (D:=λb=>bC n b) (f:=λi=>Classical.choose (hc i))
  (λi hi=>hp _ (hmem i hi)) (λb hb=>hap.comp hb) (λ_=>rfl) (λ_ _ e=>e.symm) (λ_ _ _ e e'=>e.trans e')
  (λx y hx hy=>⟨λe=>Yg hap hx hy e,λe=>by rw[e]⟩)
  (λi hi=>by
    exact po) (aT.1 hj).1
 rw[gT hj]at e;have hb:=hmem i hi;have:iP a=l.getD i []:=by
  refine Yg hap hap.inv (hp _ hb) ?_;rw[ajT hap,e]
 rw[this];exact hb
def oh.EP(h:oh n fB l l.length):H8 n l:=by
 have hp:∀a∈l,bC n a:=λa ha=>by
  obtain⟨i,hi⟩:=ik ha;exact h.perm i a hi
 have h1:upTo' n∈l:=aV h.first
 have hm:∀a∈l,∀b∈l,cz a b∈l:=λa ha b hb=>by
  obtain⟨i,hi⟩:=ik ha;exact h.mul hb i a hi
 exact⟨hp,h1,hm,λa ha=>ajV hp h1 hm ha⟩
def H8.XT{G H:ae (ae Int)}(h:H8 n G)(e:∀a,a∈H↔a∈G):H8 n H:=
 ⟨λa ha=>h.perm a ((e a).1 ha),(e _).2 h.one,λa ha b hb=>(e _).2 (h.comp a ((e a).1 ha) b ((e b).1 hb)),λa ha=>(e _).2 (h.inv a ((e a).1 ha))⟩
