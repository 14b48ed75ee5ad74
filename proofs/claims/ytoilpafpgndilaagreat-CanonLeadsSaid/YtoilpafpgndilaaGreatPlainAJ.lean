/- Part. -/
import Derived.Test.YtoilpafpgndilaaGreatIdealNJ
set_option linter.all false
namespace Gph
def eY(l:ae Bool)(n:Int):Bool:=l.getD n.toNat false
def inner(bJ:ae Bool):ae Int->ae Bool->ae Int->ae Bool×ae Int
 |[],met,q=>(met,q)
 |n::ns,met,q=>if eY bJ n&&!eY met n then inner bJ ns (met.set n.toNat true) (q++[n])else inner bJ ns met q
def zB(g:ae (ae Int))(bJ:ae Bool):Nat->ae Bool->ae Int->ae Int
 |0,_,_=>[]
 |_+1,_,[]=>[]
 |f+1,met,q::qs=>q::zB g bJ f (inner bJ (g.getD q.toNat []) met (q::qs)).1 (inner bJ (g.getD q.toNat []) met (q::qs)).2.tail
def EA(m:Nat)(s:Int):ae Bool:=(List.replicate m false).set s.toNat true
def Nl(g:ae (ae Int))(bJ:ae Bool)(s:Int):ae Int:=zB g bJ (g.length+1) (EA g.length s) [s]
def left(met:ae Bool):Nat:=(met.filter (!·)).length
variable{met:ae Bool}
def ajI{n:Nat}(h:met[n]? =some false):left (met.set n true)+1=left met:=by
 induction met generalizing n with
 |nil=>cases h
 |cons b met ih=>
  cases n with
  |zero=>cases h;simp[left]
  |succ n=>
   have:=ih (n:=n) tf;simp only[left,List.set_cons_succ,Dz]at this⊢;cases b<;>simp at this⊢<;>omega
variable{a n:Int}
def Nn(ha:0<=a)(hn:0<=n)(h:a<met.length):eY (met.set a.toNat true) n=(decide (n=a)||eY met n):=by
 unfold eY;obtain⟨a,rfl⟩:=gV ha;obtain⟨n,rfl⟩:=gV hn;simp only[fM,DD,nY];by_cases e:a=n
 .subst e;have:a<met.length:=by omega
  simp[this]
 .have e2:¬((n:Int)=(a:Int)):=by omega
  simp[e,e2]
def Rg(g:ae (ae Int))(n:Int):Prop:=0<=n/\n<g.length
def R3{g:ae (ae Int)}{bJ:ae Bool}:∀(ns:ae Int) (met:ae Bool) (q:ae Int),met.length=g.length->(∀n∈ns,Rg g n)->
 (inner bJ ns met q).1.length=g.length/\(∀n,0<=n->(eY (inner bJ ns met q).1 n=true↔eY met n=true\/(n∈ns/\eY bJ n=true)))/\
 left (inner bJ ns met q).1+(inner bJ ns met q).2.length=left met+q.length/\∃t,(inner bJ ns met q).2=q++t/\∀n,(n∈t↔n∈ns/\eY bJ n=true/\eY met n=false)
 |[],met,q,hm,hr=>by simp[inner,hm]
 |a::ns,met,q,hm,hr=>by
  have ha:=hr a s7;have hr':∀n∈ns,Rg g n:=λn hn=>hr n (by simp[hn]);unfold Rg at ha;rw[inner];by_cases hc:(eY bJ a&&!eY met a)=true
  .rw[if_pos hc];simp only[eP,DC]at hc;obtain⟨h1,h2,h4,t,h5,h3⟩:=R3 (g:=g) (bJ:=bJ) ns (met.set a.toNat true) (q++[a]) (by simpa using hm) hr';refine⟨h1,λn hn=>?_,?_,a::t,by rw[h5];simp,λn=>?_⟩
   .rw[h2 n hn,Nn ha.1 hn s6];simp only[xM,z8,bH];constructor
    .rintro((rfl|h)|h)
     .exact .inr ⟨.inl rfl,hc.1⟩
     .exact .inl h
     .exact .inr ⟨.inr h.1,h.2⟩
    .rintro(h|⟨rfl|h,h'⟩)
     .exact .inl (.inr h)
     .exact .inl (.inl rfl)
     .exact .inr ⟨h,h'⟩
   .have hs:met[a.toNat]? =some false:=by
     have:eY met a=false:=hc.2;unfold eY at this;rw[DD]at this;have hl:a.toNat<met.length:=s6
     rw[bG hl]at this⊢;simpa using this
    have:=ajI hs;rw[h4,eF,u7];omega
   .rw[bH,h3 n];simp only[bH];constructor
    .rintro(rfl|⟨h,h',h''⟩)
     .exact⟨.inl rfl,hc⟩
     .have hn:=(hr' n h).1;rw[Nn ha.1 hn s6]at h'';simp only[VP]at h'';exact⟨.inr h,h',h''.2⟩
    .rintro⟨rfl|h,h',h''⟩
     .exact .inl rfl
     .by_cases e:n=a
      .exact .inl e
      .refine .inr ⟨h,h',?_⟩;rw[Nn ha.1 (hr' n h).1 s6];simp[e,h'']
  .rw[if_neg hc];obtain⟨h1,h2,h4,t,h5,h3⟩:=R3 (g:=g) (bJ:=bJ) ns met q hm hr';simp only[eP,DC,not_and,Bool.not_eq_false]at hc;refine⟨h1,λn hn=>?_,h4,t,h5,λn=>?_⟩
   .rw[h2 n hn];simp only[bH];constructor
    .rintro(h|⟨h,h'⟩)
     .exact .inl h
     .exact .inr ⟨.inr h,h'⟩
    .rintro(h|⟨rfl|h,h'⟩)
     .exact .inl h
     .exact .inl (hc h')
     .exact .inr ⟨h,h'⟩
   .rw[h3 n];simp only[bH];constructor
    .rintro⟨h,h'⟩;exact⟨.inr h,h'⟩
    .rintro⟨rfl|h,h',h''⟩
     .rw[hc h']at h'';cases h''
     .exact⟨h,h',h''⟩
inductive mX(g:List (List Int))(bJ:List Bool)(s:Int):Int->Prop
 |refl:mX g bJ s s
 |step {i n:Int} {l:List Int} (h:mX g bJ s i) (hl:g[i.toNat]? =some l) (hn:n∈l) (hi:eY bJ n=true):mX g bJ s n
variable{g:ae (ae Int)}{bJ:ae Bool}
def mX.trans{b c:Int}(h:mX g bJ a b)(h2:mX g bJ b c):mX g bJ a c:=by
 induction h2 with
 |refl=>exact h
 |step _ hl hn hi ih=>exact .step ih hl hn hi
def gJ(h:Rg g n):g[n.toNat]? =some (g.getD n.toNat []):=by
 have hl:n.toNat<g.length:=by unfold Rg at h;omega
 rw[DD,bG hl];rfl
def ZG{g:ae (ae Int)}{bJ:ae Bool}(hg:∀l∈g,∀n∈l,Rg g n):∀(f:Nat) (met:ae Bool) (queue V:ae Int),met.length=g.length->(∀n∈queue,Rg g n)->
 (∀n,0<=n->(eY met n=true↔n∈V\/n∈queue))->(∀v∈V,∀l,g[v.toNat]? =some l->∀n∈l,eY bJ n=true->n∈V\/n∈queue)->left met+queue.length<=f->
 (∀v,v∈V\/v∈zB g bJ f met queue->∀l,g[v.toNat]? =some l->∀n∈l,eY bJ n=true->n∈V\/n∈zB g bJ f met queue)/\(∀n∈queue,n∈zB g bJ f met queue)/\
 (∀n∈zB g bJ f met queue,∃q∈queue,mX g bJ q n)/\∀n∈zB g bJ f met queue,Rg g n
 |0,met,queue,V,hm,hq,hM,hcl,hf=>by
  have:queue=[]:=j6.1 s6;subst this;exact jx
 |f+1,met,[],V,hm,hq,hM,hcl,hf=>by
  exact jx
 |f+1,met,q::qs,V,hm,hq,hM,hcl,hf=>by
  have hq0:=hq q s7;have hgd:=gJ hq0;have hns:∀n∈g.getD q.toNat [],Rg g n:=hg _ (aT hgd);obtain⟨h1,h2,h4,t,h5,h3⟩:=R3 (g:=g) (bJ:=bJ) (g.getD q.toNat []) met (q::qs) hm hns;rw[zB];generalize hin:inner bJ (g.getD q.toNat []) met (q::qs)=r at h1 h2 h4 h5;obtain⟨met',q'⟩:=r;dsimp only at h1 h2 h4 h5⊢;subst h5;rw[dm,List.tail_cons];have hqt:∀n∈qs++t,Rg g n:=λn hn=>by
   rcases fq.1 hn with h|h
   .exact hq n tG
   .exact hns n ((h3 n).1 h).1
  obtain⟨c1,c2,c3,c4⟩:=ZG hg f met' (qs++t) (q::V) h1 hqt (λn hn=>by
   rw[h2 n hn,hM n hn];simp only[bH,fq,h3 n];constructor
   .rintro((h|rfl|h)|⟨h,h'⟩)
    .exact .inl (.inr h)
    .exact .inl (.inl rfl)
    .exact .inr (.inl h)
    .cases hme:eY met n with
     |true=>
      rcases(hM n hn).1 hme with h''|h''
      .exact .inl (.inr h'')
      .rcases bH.1 h'' with rfl|h''
       .exact .inl (.inl rfl)
       .exact .inr (.inl h'')
     |false=>exact .inr (.inr ⟨h,h',rfl⟩)
   .rintro((rfl|h)|h|⟨h,h',_⟩)
    .exact .inl (.inr (.inl rfl))
    .exact .inl (.inl h)
    .exact .inl (.inr (.inr h))
    .exact .inr ⟨h,h'⟩) (λv hv l hl n hn hi=>by
   rcases bH.1 hv with rfl|hv
   .rw[hgd]at hl;cases hl;have hn0:=(hns n hn).1;cases hme:eY met n with
    |true=>
     rcases(hM n hn0).1 hme with h''|h''
     .exact .inl (by simp[h''])
     .rcases bH.1 h'' with rfl|h''
      .exact .inl s7
      .exact .inr (by simp[h''])
    |false=>exact .inr (nD _ ((h3 n).2 ⟨hn,hi,hme⟩))
   .rcases hcl v hv l hl n hn hi with h|h
    .exact .inl tG
    .rcases bH.1 h with rfl|h
     .exact .inl s7
     .exact .inr tG) (by
   simp only[dm,nW,eF]at h4 hf⊢;omega)
  refine⟨λv hv l hl n hn hi=>?_,λn hn=>?_,λn hn=>?_,λn hn=>?_⟩
  .have:=c1 v (by
    rcases hv with h|h
    .exact .inl tG
    .rcases bH.1 h with rfl|h
     .exact .inl s7
     .exact .inr h) l hl n hn hi
   rcases this with h|h
   .rcases bH.1 h with rfl|h
    .exact .inr s7
    .exact .inl h
   .exact .inr tG
  .rcases bH.1 hn with rfl|hn
   .simp
   .exact dB _ (c2 n (by simp[hn]))
  .rcases bH.1 hn with rfl|hn
   .exact⟨n,s7,.refl⟩
   .obtain⟨p,hp,hr⟩:=c3 n hn;rcases fq.1 hp with hp|hp
    .exact⟨p,by simp[hp],hr⟩
    .obtain⟨h,h',_⟩:=(h3 p).1 hp;exact⟨q,s7,(mX.step .refl hgd h h').trans hr⟩
  .rcases bH.1 hn with rfl|hn
   .exact hq0
   .exact c4 n hn
def ZH(m:Nat)(s:Int):(EA m s).length=m:=by rw[EA,ku,wC]
def R4(hg:∀l∈g,∀n∈l,Rg g n){s:Int}(hs:Rg g s)(n:Int):n∈Nl g bJ s↔mX g bJ s n:=by
 have hs':=hs;unfold Rg at hs';obtain⟨c1,c2,c3,_⟩:=ZG (g:=g) (bJ:=bJ) hg (g.length+1) (EA g.length s) [s] [] (ZH _ _) (λn hn=>by rw[bA.1 hn];exact hs) (λn hn=>by
  rw[EA,Nn hs'.1 hn (by rw[wC];omega)];have:eY (List.replicate g.length false) n=false:=by
   unfold eY;rw[DD,HY];split<;>rfl
  simp[this]) s7 (by
  have:left (EA g.length s)<=(EA g.length s).length:=HZ _ _;rw[ZH]at this;simp;omega)
 constructor
 .intro h;obtain⟨q,hq,hr⟩:=c3 n h;rw[bA.1 hq]at hr;exact hr
 .intro h;induction h with
  |refl=>exact c2 s s7
  |step _ hl hn hi ih=>exact(c1 _ (.inr ih) _ hl _ hn hi).resolve_left s7
def ajK(hg:∀l∈g,∀n∈l,Rg g n){s:Int}(hs:Rg g s):∀n∈Nl g bJ s,Rg g n:=λn hn=>by
 have h:=(R4 hg hs n).1 hn;cases h with
 |refl=>exact hs
 |step _ hl hn _=>exact hg _ (aT hl) n hn
def CO(part:ae Int)(ns:ae Int)(m:Int):ae Int:=ns.foldl (λp n=>p.set n.toNat m) part
def ZI:∀(ns part:ae Int) (m:Int),(CO part ns m).length=part.length
 |[],part,m=>rfl
 |n::ns,part,m=>by
  show(CO (part.set n.toNat m) ns m).length=_;rw[ZI ns,ku]
def JK(g:ae (ae Int))(bJ:ae Bool)(x:ae Int×Nat)(i:Nat):ae Int×Nat:=
 if eY bJ i=true/\x.1.getD i 0<=0 then(CO x.1 (Nl g bJ i) (x.2+1:Nat),x.2+1)else x
def nP(g:ae (ae Int))(bJ:ae Bool)(k:Nat):ae Int×Nat:=(List.range k).foldl (JK g bJ) (List.replicate g.length 0,0)
def R5(g:ae (ae Int))(bJ:ae Bool)(k:Nat):nP g bJ (k+1)=JK g bJ (nP g bJ k) k:=by
 rw[nP,Ag,wD];rfl
def ZJ(g:ae (ae Int))(bJ:ae Bool):∀k,(nP g bJ k).1.length=g.length/\(nP g bJ k).2<=k/\∀p∈(nP g bJ k).1,0<=p/\p<=(nP g bJ k).2
 |0=>by
  refine⟨by simp[nP],by simp[nP],λp hp=>?_⟩;simp[nP]at hp⊢;omega
 |k+1=>by
  obtain⟨h1,h2,h3⟩:=ZJ g bJ k;rw[R5,JK];split
  .refine⟨by rw[ZI];exact h1,by show _+1<=_;omega,?_⟩;have:∀(ns part:ae Int) (m:Nat),(∀p∈part,0<=p/\p<=(m:Int))->∀p∈CO part ns (m:Nat),0<=p/\p<=(m:Int):=by
    intro ns;induction ns with
    |nil=>intro part m h;exact h
    |cons n ns ih=>
     intro part m h;refine ih _ m λp hp=>?_;rcases VQ hp with hp|rfl
     .exact h p hp
     .omega
   exact this _ _ _ λp hp=>by have:=h3 p hp;omega
  .exact⟨h1,s6,h3⟩
end Gph
namespace Gph
def Np(bJ:ae Bool)(k:Nat):Nat:=((List.range k).filter λi=>eY bJ (i:Nat)).length
end Gph
namespace Gph
variable {g:ae (ae Int)} {bJ:ae Bool}
def ZK:∀(ns part:ae Int) (m:Int) (n:Nat),(∀x∈ns,0<=x/\x<part.length)->(CO part ns m).getD n 0=if(n:Int)∈ns then m else part.getD n 0
 |[],part,m,n,_=>by simp[CO]
 |a::ns,part,m,n,h=>by
  have ha:=h a s7;have h2:=ZK ns (part.set a.toNat m) m n (λx hx=>by rw[ku];exact h x (by simp[hx]));show(CO (part.set a.toNat m) ns m).getD n 0=_;rw[h2];obtain⟨a,rfl⟩:=gV ha.1;by_cases e1:(n:Int)∈ns
  .rw[if_pos e1,if_pos (dB _ e1)]
  .rw[if_neg e1];by_cases e2:n=a
   .subst e2;rw[if_pos s7,fM,DD,nY];have:n<part.length:=by omega
    simp[this]
   .rw[if_neg (by simp only[bH,not_or];exact⟨s6,e1⟩),fM,DD,nY,if_neg (λe=>e2 e.symm),DD]
def R6(g:ae (ae Int))(bJ:ae Bool)(k n:Nat):Prop:=∃j,j<k/\eY bJ j=true/\mX g bJ j n
def ZL(hg:∀l∈g,∀n∈l,Rg g n):∀k,k<=g.length->∀n:Nat,n<g.length->(0<(nP g bJ k).1.getD n 0↔R6 g bJ k n)
 |0,_,n,hn=>by
  constructor
  .intro h;simp[nP,DD,HY,hn]at h
  .rintro⟨j,hj,_⟩;omega
 |k+1,hk,n,hn=>by
  have ih:=ZL hg k s6;have hlen:=(ZJ g bJ k).1;have hkr:Rg g (k:Int):=⟨s6,s6⟩
  rw[R5,JK];by_cases hc:eY bJ k=true/\(nP g bJ k).1.getD k 0<=0
  .rw[if_pos hc];show 0<(CO _ _ _).getD n 0↔_;rw[ZK _ _ _ _ (λx hx=>by rw[hlen];exact ajK hg hkr x hx)];by_cases hr:(n:Int)∈Nl g bJ k
   .rw[if_pos hr];have:=(R4 hg hkr n).1 hr;exact⟨λ_=>⟨k,s6,hc.1,this⟩,λ_=>by omega⟩
   .rw[if_neg hr,ih n hn];rw[R4 hg hkr]at hr;constructor
    .rintro⟨j,h1,h2,h3⟩;exact pN
    .rintro⟨j,h1,h2,h3⟩;by_cases e:j=k
     .subst e;exact absurd h3 hr
     .exact pN
  .rw[if_neg hc,ih n hn];constructor
   .rintro⟨j,h1,h2,h3⟩;exact pN
   .rintro⟨j,h1,h2,h3⟩;by_cases e:j=k
    .subst e;have:0<(nP g bJ j).1.getD j 0:=by
      apply Classical.byContradiction;intro hno;exact hc ⟨h2,s6⟩
     obtain⟨i,q1,q2,q3⟩:=(ih j s6).1 this;exact⟨i,q1,q2,q3.trans h3⟩
    .exact pN
open Classical in
noncomputable def cnt(g:ae (ae Int))(bJ:ae Bool):Nat->Nat
 |0=>0
 |k+1=>cnt g bJ k+if eY bJ k=true/\¬R6 g bJ k k then 1 else 0
def R7(hg:∀l∈g,∀n∈l,Rg g n):∀k,k<=g.length->(nP g bJ k).2=cnt g bJ k
 |0,_=>by simp[nP,cnt]
 |k+1,hk=>by
  have ih:=R7 hg k s6;have hs:=ZL (bJ:=bJ) hg k s6 k s6;rw[R5,JK,cnt];by_cases hc:eY bJ k=true/\(nP g bJ k).1.getD k 0<=0
  .rw[if_pos hc,if_pos ⟨hc.1,λh=>by have:=hs.2 h;omega⟩,<- ih]
  .rw[if_neg hc,if_neg (λh=>hc ⟨h.1,by
    apply Classical.byContradiction;intro hno;exact h.2 (hs.1 s6)⟩),xL,ih]
def oL(g:ae (ae Int)):Prop:=∀(i:Nat) l,g[i]? =some l->∀n∈l,Rg g n/\∀l',g[n.toNat]? =some l'->(i:Int)∈l'
def oL.rg(h:oL g):∀l∈g,∀n∈l,Rg g n:=λl hl n hn=>by
 obtain⟨i,hi⟩:=iM hl;exact(h i l hi n hn).1
def mX.rg(h:oL g){a b:Int}(ha:Rg g a)(r:mX g bJ a b):Rg g b:=by
 cases r with
 |refl=>exact ha
 |step _ hl hn _=>exact h.rg _ (aT hl) _ hn
def mX.symm(h:oL g){a b:Int}(ha:Rg g a)(hi:eY bJ a=true)(r:mX g bJ a b):mX g bJ b a:=by
 induction r with
 |refl=>exact .refl
 |step r0 hl hn hin ih=>
  rename_i i n l;have hri:=mX.rg h ha r0;have ajM:eY bJ i=true:=by
   cases r0 with
   |refl=>exact hi
   |step _ _ _ q=>exact q
  obtain⟨q1,q2⟩:=h i.toNat l hl n hn;have:=q2 _ (gJ q1);have hc:((i.toNat:Nat):Int)=i:=by unfold Rg at hri;omega
  rw[hc]at this;exact(mX.step .refl (gJ q1) this ajM).trans ih
def ajN(h:oL g){f:Nat}(hf:f<g.length)(hin:eY bJ f=true)(AQ:∀j,j<f->eY bJ (j:Nat)=false):
 cnt g bJ g.length=1↔∀i:Nat,i<g.length->eY bJ i=true->mX g bJ f i:=by
 have base:∀k,k<=f->cnt g bJ k=0:=by
  intro k;induction k with
  |zero=>intro _;rfl
  |succ k ih=>
   intro hk;rw[cnt,ih s6,if_neg (λq=>by rw[AQ k s6]at q;cases q.1)]
 have rP:cnt g bJ (f+1)=1:=by
  rw[cnt,base f (aZ _),if_pos ⟨hin,λ⟨j,h1,h2,_⟩=>by rw[AQ j h1]at h2;cases h2⟩]
 have mono:∀k d,cnt g bJ k<=cnt g bJ (k+d):=by
  intro k d;induction d with
  |zero=>exact aZ _
  |succ d ih=>rw[<- l5,cnt];omega
 constructor
 .intro h1 i;induction i using Nat.strongRecOn with
  |_ i ih=>
   intro hi hii;by_cases e:i=f
   .subst e;exact .refl
   have hfi:f<i:=by
    apply Classical.byContradiction;intro hno;rw[AQ i s6]at hii;cases hii
   have ho:R6 g bJ i i:=by
    apply Classical.byContradiction;intro hno;have e1:cnt g bJ (i+1)=cnt g bJ i+1:=by rw[cnt,if_pos ⟨hii,hno⟩]
    have e2:=mono (f+1) (i - (f+1));have e3:=mono (i+1) (g.length - (i+1));rw[show f+1+(i - (f+1))=i by omega]at e2;rw[show i+1+(g.length - (i+1))=g.length by omega]at e3;omega
   obtain⟨j,q1,q2,q3⟩:=ho;exact(ih j q1 s6 q2).trans q3
 .intro hall;have:∀d,f+1+d<=g.length->cnt g bJ (f+1+d)=1:=by
   intro d;induction d with
   |zero=>intro _;exact rP
   |succ d ih=>
    intro hd;rw[<- l5,cnt,ih s6,if_neg (λq=>q.2 ⟨f,s6,hin,hall _ s6 q.1⟩)]
  have:=this (g.length - (f+1)) s6
  rwa [show f+1+(g.length - (f+1))=g.length by omega]at this
end Gph
namespace Gph
structure Nq where
 kind:Int
 cells:List Int
 set:Int
 other:Int
 lo:Int
 hi:Int
 runs:List Int
 rule:Int
 at_:Int
structure ZM where
 cells:Int
 symbols:Int
 values:List Int
 aP:List (List Int)
 cons:List Nq
structure R8(cells symbols:Int)(c:Nq):Prop where
 cell:∀(i:Nat) x,c.cells[i]? =some x->0<=x/\x<cells/\(8<=c.kind->x=i)
 nd:c.cells.Nodup
 kind:1<=c.kind/\c.kind<=9
 two:c.kind=6\/c.kind=7->c.cells.length=2
 all:8<=c.kind->(c.cells.length:Int)=cells
 set:0<=c.set/\c.set<(2^symbols.toNat:Nat)
 other:0<=c.other/\c.other<(2^symbols.toNat:Nat)
 lo:0<=c.lo/\c.lo<=65536
 hi:0<=c.hi/\c.hi<=65536
 ath:c.runs.length<=8
 runs:∀x∈c.runs,1<=x/\x<=256
def R8.len{cells symbols:Int}{c:Nq}(h:R8 cells symbols c):(c.cells.length:Int)<=cells\/c.cells=[]:=by
 by_cases hn:c.cells=[]
 .exact .inr hn
 left;have hb:∀x∈c.cells,0<=x/\x<cells:=λx hx=>by
  obtain⟨i,hi⟩:=iM hx;have:=h.cell i x hi;exact⟨this.1,this.2.1⟩
 have:∀(m:Nat) (l:ae Int),l.Nodup->(∀x∈l,0<=x/\x<(m:Int))->l.length<=m:=by
  intro m;induction m with
  |zero=>
   intro l _ hl;cases l with
   |nil=>simp
   |cons a l=>have:=hl a s7;omega
  |succ m ih=>
   intro l hd hl;by_cases hm:(m:Int)∈l
   .have h1:=Pw hm;have h2:=ih (l.erase (m:Int)) (hd.erase _) (λx hx=>by
     have hne:x≠(m:Int):=λe=>by
      subst e;exact(List.Nodup.mem_erase_iff hd).1 hx|>.1 rfl
     have:=hl x (List.mem_of_mem_erase hx);omega)
    omega
   .have:=ih l hd (λx hx=>by
     have hne:x≠(m:Int):=λe=>hm (e▸hx);have:=hl x hx;omega)
    omega
 have h0:0<=cells:=by
  obtain⟨a,ha⟩:=List.exists_mem_of_ne_nil _ hn;have:=hb a ha;omega
 have:=this cells.toNat c.cells h.nd (λx hx=>by have:=hb x hx;omega);omega
end Gph
namespace Kd
open Go Go.Ideal
structure oL where
 name:ByteArray
 value:Int
 deriving DecidableEq
structure qV where
 name:ByteArray
 lists:List (List Int)
 deriving DecidableEq
structure ji where
 name:ByteArray
 on:ByteArray
 family:Int
 type:Int
 lo:Int
 hi:Int
 deriving DecidableEq
structure dP where
 name:ByteArray
 on:ByteArray
 kind:Int
 family:Int
 names:List ByteArray
 others:List ByteArray
 set:Int
 other:Int
 op:Int
 n:Int
 iX:ByteArray
 aS:Int
 deriving DecidableEq
structure dQ where
 name:ByteArray
 version:Int
 shape:Int
 w:Int
 h:Int
 holes:List Int
 symbols:List oL
 regions:List qV
 bV:List ji
 rules:List dP
 deriving DecidableEq
structure bQ where
 shape:Int
 w:Int
 h:Int
 holes:List Int
 cells:List Int
 deriving DecidableEq
structure aQ where
 decl:dQ
 grid:bQ
 aP:List (List Int)
 lists:List (List (List Int))
 deriving DecidableEq
def kF:Enc oL:=⟨2,Unit,λx _=>[.string x.name,.int .i64 x.value],λ_ _=>[],λ_ _=>rfl⟩
def lG:Enc qV:=⟨2,ah,λx v=>[.string x.name,v],λx v=>[aj (az ai) v x.lists],λ_ _=>rfl⟩
def eZ:Enc ji:=⟨6,Unit,λx _=>[.string x.name,.string x.on,.int .i64 x.family,.int .i64 x.type,.int .i64 x.lo,.int .i64 x.hi],λ_ _=>[],λ_ _=>rfl⟩
abbrev vM(x:dP)(v1 v2:ah):ae ah:=[.string x.name,.string x.on,.int .i64 x.kind,.int .i64 x.family,v1,v2,.int .i64 x.set,.int .i64 x.other,.int .i64 x.op,.int .i64 x.n,.string x.iX,.int .i64 x.aS]
def bZ:Enc dP:=⟨12,ah×ah,λx v=>vM x v.1 v.2,λx v=>[aj jR v.1 x.names,aj jR v.2 x.others],λ_ _=>rfl⟩
abbrev oM(d:dQ)(vh vs vr vc vu:ah):ae ah:=[.string d.name,.int .i64 d.version,.int .i64 d.shape,.int .i64 d.w,.int .i64 d.h,vh,vs,vr,vc,vu]
abbrev uF(d:dQ)(vh vs vr vc vu:ah):ae aI:=[aj ai vh d.holes,aj kF vs d.symbols,aj lG vr d.regions,aj eZ vc d.bV,aj bZ vu d.rules]
def jZ(s:ByteArray):ae ByteArray->Nat
 |[]=>0
 |a::l=>if s=a then 0 else jZ s l+1
def EB{s:ByteArray}:∀{l:ae ByteArray},s∈l->jZ s l<l.length
 |[],h=>by cases h
 |a::l,h=>by
  unfold jZ;split
  .simp
  .rename_i hne;have:=EB ((bH.1 h).resolve_left hne);simp;omega
def fQ(names:ae ByteArray)(start:Nat):ae (ByteArray×ah):=names.zipIdx.map λp=>(p.1,.int .i64 ((start+p.2:Nat):Int))
def R9(a b:ae ByteArray)(start:Nat):fQ (a++b) start=fQ a start++fQ b (start+a.length):=by
 unfold fQ;rw[VS,cB];congr 1;rw[show b.zipIdx (0+a.length)=(b.zipIdx 0).map (λp=>(p.1,p.2+a.length))by
  rw[eB];conv=>lhs;rw[show a.length=0+a.length by omega]
  rw[List.zipIdx_eq_map_add];apply sD;rintro⟨s,i⟩ _;simp only;rw[show 0+a.length+i=i+a.length by omega]]
 rw[rG];apply sD;rintro⟨s,i⟩ _;simp only[Function.comp];rw[show start+(i+a.length)=start+a.length+i by omega]
def w9(names:ae ByteArray)(start:Nat):(fQ names start).map (·.1)=names:=by
 unfold fQ;rw[rG];have:((λp:ByteArray×ah=>p.1)∘λp:ByteArray×Nat=>(p.1,Value.int .i64 ((start+p.2:Nat):Int)))=Prod.fst:=rfl;rw[this,List.zipIdx_map_fst]
variable{α:Type}
def Bc{β:Type}[DecidableEq α](a b:α)(v:β)(l:ae (α×β)):dF a ((b,v)::l)=if a=b then some v else dF a l:=rfl
def vN{α β:Type}[DecidableEq α]{a:α}:∀{l:ae (α×β)},a∉l.map (·.1)->dF a l=none
 |[],_=>rfl
 |(b,v)::l,h=>by
  unfold dF;rw[if_neg (λe=>h w7),vN (λh2=>h DG)]
def JL{α β:Type}[DecidableEq α]{a:α}:∀{l:ae (α×β)},a∈l.map (·.1)->∃v,dF a l=some v
 |[],h=>by cases h
 |(b,v)::l,h=>by
  unfold dF;by_cases e:a=b
  .exact⟨v,by rw[if_pos e]⟩
  .obtain⟨u,hu⟩:=JL (l:=l) ((bH.1 h).resolve_left e);exact⟨u,by rw[if_neg e,hu]⟩
def Bd{s:ByteArray}:∀{names:ae ByteArray} {start:Nat},s∈names->dF s (fQ names start)=some (.int .i64 ((start+jZ s names:Nat):Int))
 |[],start,h=>by cases h
 |a::l,start,h=>by
  have e:fQ (a::l) start=(a,.int .i64 ((start:Nat):Int))::fQ l (start+1):=by
   have:=R9 [a] l start;simpa[fQ]using this
  rw[e];unfold dF jZ;by_cases hs:s=a
  .rw[if_pos hs,if_pos hs];rfl
  .rw[if_neg hs,if_neg hs,Bd ((bH.1 h).resolve_left hs),show start+1+jZ s l=start+(jZ s l+1)by omega]
def Gw{α β:Type}[DecidableEq α]{a:α}{v:β}:∀{l:ae (α×β)},a∉l.map (·.1)->upd a v l=l++[(a,v)]
 |[],_=>rfl
 |(b,u)::l,h=>by
  unfold upd;rw[if_neg (λe=>h w7),Gw (λh2=>h DG)];rfl
def EC:ae ByteArray:=[⟨⟨[99,101,108,108,115]⟩⟩,⟨⟨[114,111,119,115]⟩⟩,⟨⟨[99,111,108,117,109,110,115]⟩⟩,⟨⟨[100,105,97,103,111,110,97,108,115]⟩⟩,⟨⟨[97,114,111,117,110,100]⟩⟩,⟨⟨[110,101,97,114]⟩⟩,⟨⟨[112,97,105,114,115]⟩⟩,⟨⟨[97,108,108]⟩⟩]
def jv(d:dQ):ae ByteArray:=d.symbols.map (·.name)
def iJ(d:dQ):ae ByteArray:=EC++d.regions.map (·.name)
def mY(d:dQ):ae ByteArray:=d.bV.map (·.name)
def Nr(d:dQ):ae ByteArray:=d.rules.map (·.name)
def mG(fB l:ae ByteArray):Nat:=l.foldl (λm s=>m|||1<<<jZ s fB) 0
def Gx(iK:ae ByteArray)(c:ji):ji:={c with family:=(jZ c.on iK:Int)}
def yG(fB iK om:ae ByteArray)(r:dP):dP:=
 {r with family:=if r.on=⟨⟨[]⟩⟩then 0 else(jZ r.on iK:Int),aS:=if r.iX=⟨⟨[]⟩⟩then -1 else(jZ r.iX om:Int),set:=(mG fB r.names:Int),other:=(mG fB r.others:Int)}
def ed(d:dQ):dQ:={d with bV:=d.bV.map (Gx (iJ d)),rules:=d.rules.map (yG (jv d) (iJ d) (mY d))}
structure Sa(fB iK om:List ByteArray)(r:dP):Prop where
 on:r.on=⟨⟨[]⟩⟩\/r.on∈iK
 names:∀s∈r.names,s∈fB
 others:∀s∈r.others,s∈fB
 iX:r.iX=⟨⟨[]⟩⟩\/r.iX∈om
structure Gy(d:dQ):Prop where
 fB:d.symbols.length<=16
 ajO:(jv d).Nodup
 ajP:(iJ d).Nodup
 ajQ:(mY d).Nodup
 ZN:∀c∈d.bV,c.on∈iJ d
 ajR:(Nr d).Nodup
 tu:∀r∈d.rules,Sa (jv d) (iJ d) (mY d) r
def kG{α:Type}(f:α->α)(k:Nat)(xs:ae α):ae α:=(xs.take k).map f++xs.drop k
def ZO(f:α->α)(xs:ae α):kG f xs.length xs=xs.map f:=by simp[kG]
def CP(f:α->α)(k:Nat)(xs:ae α):(kG f k xs).length=xs.length:=by simp[kG];omega
def ZP(f:α->α){k:Nat}{xs:ae α}(hk:k<xs.length):(kG f k xs)[k]? =xs[k]?:=by
 unfold kG;rw[jP tc,aR,fU,DF s6,nX,jU,xL]
def ZQ(f:α->α){k:Nat}{xs:ae α}{x:α}(hx:xs[k]? =some x):(kG f k xs).set k (f x)=kG f (k+1) xs:=by
 have hk:=(aV.1 hx).1;unfold kG;rw[Af _ _ tc,aR,fU,DF s6,nX];have hd:xs.drop k=x::xs.drop (k+1):=by
  rw[nH hk];congr 1;rw[bG hk]at hx;exact Option.some.inj hx
 rw[hd,rH,hx,cB];simp
end Kd
namespace Kd
open Go Go.Ideal
structure vO(s w h:Int)(holes:List Int):Prop where
 sh:s=1\/s=2
 wi:1<=w/\w<=16
 he:1<=h/\h<=16
 len:(holes.length:Int)<w*h
 inc:holes.Pairwise (·<·)
 mem:∀x∈holes,0<=x/\x<w*h
def kI(n:Nat)(holes:ae Int):ae Int:=((List.range n).map λi:Nat=>(i:Int)).filter λi=>!decide (i∈holes)
def ZR(n:Nat)(holes:ae Int):kI (n+1) holes=kI n holes++if(n:Int)∈holes then[]else[(n:Int)]:=by
 unfold kI;rw[Ag,cB,Fh];congr 1;by_cases h:(n:Int)∈holes
 .simp[h]
 .simp[h]
def Ns(n:Nat)(holes:ae Int):(kI n holes).length<=n:=by
 unfold kI;refine oH (HZ _ _) ?_;simp
variable{n:Nat}{x:Int}
def ajS{holes:ae Int}(h:x∈kI n holes):0<=x/\x<n/\x∉holes:=by
 unfold kI at h;obtain⟨h1,h2⟩:=ug.1 h;obtain⟨i,hi,rfl⟩:=bS.1 h1;have:=sF.1 hi;exact⟨s6,s6,ua⟩
def Sb(n:Nat)(holes:ae Int):(kI n holes).Pairwise (·<·):=by
 unfold kI;refine List.Pairwise.filter _ ?_;exact iu
def uG(w h:Int)(holes:ae Int):ae Int:=kI (w*h).toNat holes
def ED{w h:Int}(hw:1<=w/\w<=16)(hh:1<=h/\h<=16):1<=w*h/\w*h<=256:=by
 have h1:1*1<=w*h:=Int.mul_le_mul hw.1 hh.1 s6 s6;have h2:w*h<=16*16:=Int.mul_le_mul hw.2 hh.2 s6 s6;omega
structure ic(g:bQ):Prop where
 make:vO g.shape g.w g.h g.holes
 cells:g.cells=uG g.w g.h g.holes
variable{g:bQ}
def ic.cell(h:ic g):∀x∈g.cells,0<=x/\x<256:=by
 intro x hx;rw[h.cells]at hx;have h1:=ajS hx;have h2:=ED h.make.wi h.make.he;omega
def ic.len(h:ic g):g.cells.length<=256:=by
 rw[h.cells];have h1:=Ns (g.w*g.h).toNat g.holes;have h2:=ED h.make.wi h.make.he;unfold uG;omega
def kJ(g:bQ)(pos:Int):Int×Int:=(if g.shape=2 then pos.tmod g.w - (pos.tdiv g.w).tdiv 2 else pos.tmod g.w,pos.tdiv g.w)
def bI(g:bQ):ae (Int×(Int×Int)):=g.cells.zipIdx.map λp=>((p.2:Int),kJ g p.1)
variable{k:Nat}
def CQ(h:g.cells[k]? =some x):(bI g)[k]? =some ((k:Int),kJ g x):=by
 unfold bI;rw[bU,VT,h];simp
def tH(g:bQ):(bI g).length=g.cells.length:=by simp[bI]
def ajT{a b:ae Int}(h:a.Perm b):bK a=bK b:=by
 have h1:(bK a).Perm (bK b):=(Ah a _).trans (h.trans (Ah b _).symm);have s1:(bK a).Pairwise (λx y=>x<=y):=by
  have:=Px (le:=λx y:Int=>decide (x<=y)) (λa b c h1 h2=>by simp at h1 h2⊢;omega) (λa b=>by simp;omega) a;exact pw
 have s2:(bK b).Pairwise (λx y=>x<=y):=by
  have:=Px (le:=λx y:Int=>decide (x<=y)) (λa b c h1 h2=>by simp at h1 h2⊢;omega) (λa b=>by simp;omega) b;exact pw
 generalize bK a=u at h1 s1;generalize bK b=v at h1 s2;clear h;induction u generalizing v with
 |nil=>exact(List.nil_perm.1 h1).symm▸rfl
 |cons x u ih=>
  cases v with
  |nil=>exact absurd h1.length_eq s7
  |cons y v=>
   have hxy:x=y:=by
    have hx:x∈y::v:=h1.mem_iff.1 (dD ..);have hy:y∈x::u:=h1.mem_iff.2 (dD ..);rcases bH.1 hx with e|hx
    .exact e
    rcases bH.1 hy with e|hy
    .exact e.symm
    have:=(qi.1 s1).1 y hy;have:=(qi.1 s2).1 x hx;omega
   subst hxy;rw[ih (qi.1 s1).2 v ((List.perm_cons x).1 h1) (qi.1 s2).2]
def fD:ae (Int×Int):=[(1,0),(-1,0),(0,1),(0, -1),(1, -1),(-1,1)]
def eO(g:bQ):Nat:=if g.shape=1 then 4 else 6
def fJ(xs:ae (Int×(Int×Int))):ae ((Int×Int)×ah):=xs.foldl (λm p=>upd p.2 (.int .i64 p.1) m) []
def Sc(xs:ae (Int×(Int×Int)))(p:Int×(Int×Int)):fJ (xs++[p])=upd p.2 (.int .i64 p.1) (fJ xs):=by
 unfold fJ;rw[wD];rfl
def ZT{xs:ae (Int×(Int×Int))}:∀a v,dF a (fJ xs)=some v->∃c,v=.int .i64 c/\∃p∈xs,p.1=c:=by
 have hup:∀(m:ae ((Int×Int)×ah)) (b:Int×Int) (u:ah) (a:Int×Int) (v:ah),dF a (upd b u m)=some v->(a=b/\v=u)\/dF a m=some v:=by
  intro m;induction m with
  |nil=>
   intro b u a v h;have h:(if a=b then some u else none)=some v:=h;by_cases e:a=b
   .rw[if_pos e]at h;exact .inl ⟨e,(Option.some.inj h).symm⟩
   .rw[if_neg e]at h;cases h
  |cons q m ih=>
   intro b u a v h;obtain⟨k,w⟩:=q;unfold upd at h;by_cases e:b=k
   .rw[if_pos e,Bc]at h;by_cases e2:a=b
    .rw[if_pos e2]at h;exact .inl ⟨e2,(Option.some.inj h).symm⟩
    .rw[if_neg e2]at h;right;rw[Bc,if_neg (λe3=>e2 (e3.trans e.symm))];exact h
   .rw[if_neg e,Bc]at h;by_cases e2:a=k
    .rw[if_pos e2]at h;right;rw[Bc,if_pos e2];exact h
    .rw[if_neg e2]at h;rcases ih b u a v h with h|h
     .exact .inl h
     .right;rw[Bc,if_neg e2];exact h
 unfold fJ;have:∀(xs:ae (Int×(Int×Int))) (m:ae ((Int×Int)×ah)) a v,dF a (xs.foldl (λm p=>upd p.2 (.int .i64 p.1) m) m)=some v->(∃c,v=.int .i64 c/\∃p∈xs,p.1=c)\/dF a m=some v:=by
  intro xs;induction xs with
  |nil=>intro m a v h;exact .inr h
  |cons p xs ih=>
   intro m a v h;rw[nC]at h;rcases ih _ a v h with⟨c,h1,q,hq,h2⟩|h
   .exact .inl ⟨c,h1,q,dB _ hq,h2⟩
   .rcases hup m p.2 _ a v h with⟨_,h1⟩|h
    .exact .inl ⟨p.1,h1,p,dD ..,rfl⟩
    .exact .inr h
 intro a v h;rcases this xs [] a v h with h|h
 .exact h
 .cases h
def numOf:ak ah->ak Int
 |some (.int .i64 n)=>some n
 |_=>none
def ig(m:ae ((Int×Int)×ah))(s:Int×Int)(ds:ae (Int×Int)):ae Int:=ds.filterMap λd=>numOf (dF (s.1+d.1,s.2+d.2) m)
def ajU(m:ae ((Int×Int)×ah))(s:Int×Int)(ds:ae (Int×Int))(d:Int×Int):ig m s (ds++[d])=ig m s ds++(numOf (dF (s.1+d.1,s.2+d.2) m)).toList:=by
 unfold ig;rw[KS];congr 1
def Nt(m:ae ((Int×Int)×ah))(s:Int×Int)(ds:ae (Int×Int)):(ig m s ds).length<=ds.length:=VU _ _
def oN(g:bQ)(p:Int×(Int×Int)):ae Int:=bK (ig (fJ (bI g)) p.2 (fD.take (eO g)))
def fT(g:bQ):ae (ae Int):=(bI g).map (oN g)
def Nu(h:ic g):∀p∈bI g,(0<=p.1/\p.1<256)/\(-256<=p.2.1/\p.2.1<256)/\(0<=p.2.2/\p.2.2<256):=by
 intro p hp;obtain⟨k,hk⟩:=yY.1 hp;have hkl:=(aV.1 hk).1;rw[tH]at hkl;have hx:g.cells[k]? =some g.cells[k]:=bG hkl;rw[CQ hx]at hk;cases hk;have hb:=h.cell _ (aT hx);have hl:=h.len;generalize g.cells[k]=x at hb;have hw:=h.make.wi;have hq:0<=x.tdiv g.w/\x.tdiv g.w<=x:=by
  rw[y9 hb.1];exact⟨Fj hb.1 s6,Int.ediv_le_self _ hb.1⟩
 have hr:0<=x.tmod g.w/\x.tmod g.w<=x:=by
  rw[H6 hb.1];refine⟨Int.emod_nonneg _ s6,?_⟩;have:=KT x g.w;have h3:0<=g.w*(x/g.w):=Int.mul_nonneg s6 (Fj hb.1 s6);omega
 have hq2:0<=(x.tdiv g.w).tdiv 2/\(x.tdiv g.w).tdiv 2<=x.tdiv g.w:=by
  rw[y9 hq.1];omega
 unfold kJ;dsimp only;refine⟨s6,?_,s6⟩;split<;>omega
def uH:Enc (Int×Int):=⟨2,Unit,λx _=>[.int .i64 x.1,.int .i64 x.2],λ_ _=>[],λ_ _=>rfl⟩
abbrev Gz:ae ah:=[.int .i64 1,.int .i64 0,.int .i64 (-1),.int .i64 0,.int .i64 0,.int .i64 1,.int .i64 0,.int .i64 (-1),.int .i64 1,.int .i64 (-1),.int .i64 (-1),.int .i64 1]
variable{b m:Nat}
def ajV{w:Wd}(h:(bW b 0 Gz).p w)(hm:m<=6):(aj uH (.slice (some ⟨b,0,some 0⟩) m 6) (fD.take m)).p w:=by
 obtain⟨cells,h1,h2⟩:=h;have hl:(fD.take m).length=m:=by rw[fU];show min m 6=m;omega
 refine .inr ⟨b,0,0,6,cells,⟨by rw[hl],by rw[hl];exact hm,.inl rfl⟩,h1,λk x hk=>⟨(),λj u hj=>?_,λf hf=>by cases hf⟩⟩;have hk':fD[k]? =some x:=by
  rw[rE]at hk;split at hk
  .exact hk
  .cases hk
 have:=h2 (k*2+j) u (yF (E:=uH) (aC:=fD.map λd=>(d,())) (k:=k) (p:=(x,())) (by rw[bU,hk'];rfl) hj);show cells[0+k*2+j]? =_;rw[show 0+k*2+j=0+(k*2+j)by omega];exact this
def ajW:∀d∈fD,(-1<=d.1/\d.1<=1)/\(-1<=d.2/\d.2<=1):=td
def ajX{j:Nat}{d:Int×Int}(h:fD[j]? =some d):jM (kw Gz (j*2)) 2=some [.int .i64 d.1,.int .i64 d.2]:=by
 have hj:j<6:=(aV.1 h).1;match j,hj with
 |0,_=>cases h;rfl
 |1,_=>cases h;rfl
 |2,_=>cases h;rfl
 |3,_=>cases h;rfl
 |4,_=>cases h;rfl
 |5,_=>cases h;rfl
variable{α:Type}
def fF{xs:ae α}{x:α}(h:xs[k]? =some x):xs.take (k+1)=xs.take k++[x]:=by
 rw[rH,h];rfl
def EE(g:bQ):eO g<=6:=by unfold eO;split<;>omega
def ajY{P:Program}{ρ:ay->ah}{x hi:ay}{size:Nat}(hx:ρ x=.pointer (some ⟨b,0,none⟩))(hh:ρ hi=.int .i64 (m:Int))(hm:m<=n):Pu P ρ (.PD n size x none (some hi) none) (.slice (some ⟨b,0,some 0⟩) m n):=λh=>by
 have hb:bounds? n n none (some (.int .i64 (m:Int))) none=some (0,m,n):=by
  show(match upTo n (.int .i64 (m:Int))with|none=>none|some hh=>_)=_;have:upTo n (.int .i64 (m:Int))=some m:=by
   show cond (Nat.ble m n) (some m) none=_;have:Nat.ble m n=true:=by rw[uY];exact hm
   rw[this];rfl
  rw[this]
 simp only[aK.run,hx,jI,hh,hb];show some (Value.slice (DN b (Nat.add 0 (Nat.mul 0 size))) (Nat.sub m 0) (Nat.sub n 0),h)=_;rw[show Nat.mul 0 size=0 from Ff _];rfl
def Be{p:Int×(Int×Int)}(h:(bI g)[k]? =some p):p.1=(k:Int):=by
 have hk:=(aV.1 h).1;rw[tH]at hk;rw[CQ (bG hk)]at h;cases h;rfl
def Nv{vs rest:ae (Int×(Int×Int))}{x:Int×(Int×Int)}(h:vs++x::rest=bI g):x.1=(vs.length:Int)/\vs.length<g.cells.length/\x∈bI g:=by
 have h1:(bI g)[vs.length]? =some x:=by rw[<- h];simp
 refine⟨Be h1,?_,aT h1⟩;have:=(aV.1 h1).1
 rwa [tH]at this
def ZU{A:ae (ae Int)}(h:A.length<n)(y:ae Int):(A++List.replicate (n - A.length) []).set A.length y=(A++[y])++List.replicate (n - (A.length+1)) []:=by
 rw[Af _ _ (aZ _),nX,show n - A.length=(n - (A.length+1))+1 by omega,xO,VV];simp
def ajZ{ws:ae α}{v:α}(h:ws[k]? =some v):ws.set k v=ws:=by
 apply iH;intro i;rw[nY];by_cases e:k=i
 .subst e;rw[if_pos rfl,if_pos (aV.1 h).1,h]
 .rw[if_neg e]
def CR(g:bQ):(fT g).length=g.cells.length:=by
 unfold fT;rw[aR,tH]
def aj0(g:bQ):(bI g).foldl (λ(xss:ae (ae Int)) (x:Int×(Int×Int))=>xss.set x.1.toNat (oN g x)) (List.replicate g.cells.length [])=fT g:=by
 have key:∀(rest vs:ae (Int×(Int×Int))),vs++rest=bI g->rest.foldl (λ(xss:ae (ae Int)) (x:Int×(Int×Int))=>xss.set x.1.toNat (oN g x)) (vs.map (oN g)++List.replicate (g.cells.length - vs.length) [])=fT g:=by
  intro rest;induction rest with
  |nil=>
   intro vs h;rw[gW]at h;rw[List.foldl_nil,h,tH,nX,List.replicate_zero,gW];rfl
  |cons x rest ih=>
   intro vs h;have h1:=Nv h;rw[nC,h1.1,fM];have h2:=ZU (A:=vs.map (oN g)) (n:=g.cells.length) (by rw[aR];exact h1.2.1) (oN g x);rw[aR]at h2;rw[h2];have h3:=ih (vs++[x]) (by rw[List.append_assoc];exact h);rw[cB,eF]at h3;exact h3
 have:=key (bI g) [] rfl;rw[List.map_nil,cK,wB,xN]at this;exact this
end Kd
namespace Kd
open Go Go.Ideal
def Bf{α β:Type}[DecidableEq α](a b:α)(v:β):∀m:ae (α×β),dF a (upd b v m)=if a=b then some v else dF a m
 |[]=>rfl
 |(k,w)::m=>by
  unfold upd;by_cases e:b=k
  .rw[if_pos e,Bc,Bc];by_cases e2:a=b
   .rw[if_pos e2,if_pos e2]
   .rw[if_neg e2,if_neg e2,if_neg (λe3=>e2 (e3.trans e.symm))]
  .rw[if_neg e,Bc,Bc,Bf a b v m];by_cases e2:a=k
   .rw[if_pos e2,if_pos e2,if_neg (λe3=>e (e3.symm.trans e2))]
   .rw[if_neg e2,if_neg e2]
def ZV{α β:Type}[DecidableEq α](b:α)(v:β):∀m:ae (α×β),(upd b v m).length<=m.length+1
 |[]=>aZ _
 |(k,w)::m=>by
  unfold upd;by_cases e:b=k
  .rw[if_pos e,nW,nW];omega
  .rw[if_neg e,nW,nW];have:=ZV b v m;omega
def zC(kf:Int×Int->Int×Bool)(m:ae (Int×ae Int))(p:Int×(Int×Int)):ae (Int×ae Int):=
 cond (kf p.2).2 (upd (kf p.2).1 ((dF (kf p.2).1 m).getD []++[p.1]) m) m
def j5(kf:Int×Int->Int×Bool)(ps:ae (Int×(Int×Int))):ae (Int×ae Int):=ps.foldl (zC kf) []
def JM(kf:Int×Int->Int×Bool)(ps:ae (Int×(Int×Int)))(p:Int×(Int×Int)):j5 kf (ps++[p])=zC kf (j5 kf ps) p:=by
 unfold j5;rw[wD];rfl
def Sd(kf:Int×Int->Int×Bool)(n:Nat):∀ps:ae (Int×(Int×Int)),ps.length=n->(j5 kf ps).length<=ps.length/\∀a,((dF a (j5 kf ps)).getD []).length<=ps.length:=by
 induction n with
 |zero=>
  intro ps h;rw[j6.1 h];exact⟨aZ _,λa=>aZ _⟩
 |succ n ih=>
  intro ps h;obtain⟨qs,p,rfl⟩:∃qs p,ps=qs++[p]:=⟨ps.dropLast,ps.getLast tx,(Ai _).symm⟩
  have hq:qs.length=n:=tf
  obtain⟨h1,h2⟩:=ih qs hq;rw[JM,eF,u7];unfold zC;cases (kf p.2).2 with
  |false=>exact⟨by show(j5 kf qs).length<=_;omega,λa=>by have:=h2 a;show((dF a (j5 kf qs)).getD []).length<=_;omega⟩
  |true=>
   refine⟨?_,λa=>?_⟩
   .have:=ZV (kf p.2).1 ((dF (kf p.2).1 (j5 kf qs)).getD []++[p.1]) (j5 kf qs);show(upd _ _ _).length<=_;omega
   .show((dF a (upd _ _ _)).getD []).length<=_;rw[Bf];by_cases e:a=(kf p.2).1
    .rw[if_pos e,yV,eF,u7];have:=h2 (kf p.2).1;omega
    .rw[if_neg e];have:=h2 a;omega
def lc(g:bQ)(kf:Int×Int->Int×Bool):ae (ae Int):=(bK ((j5 kf (bI g)).map (·.1))).map λn=>(dF n (j5 kf (bI g))).getD []
variable{g:bQ}
def Nw(hg:ic g)(kf:Int×Int->Int×Bool):(lc g kf).length<=256/\∀l∈lc g kf,l.length<=256:=by
 have h:=Sd kf _ (bI g) rfl;have hl:=hg.len;rw[tH]at h;unfold lc;refine⟨?_,λl hl2=>?_⟩
 .rw[aR];have:(bK ((j5 kf (bI g)).map (·.1))).length=((j5 kf (bI g)).map (·.1)).length:=(Ah _ _).length_eq;rw[this,aR];omega
 .obtain⟨n,_,rfl⟩:=bS.1 hl2;have:=h.2 n;omega
def Bg(acc:ae (ae Int))(l:ae Int):ae (ae Int):=if acc.head? =some l then acc else acc++[l]
def oO(a b:ae (ae Int)):ae (ae Int):=b.foldl Bg a
variable{l:ae Int}{k:Nat}
def ZW{a b:ae (ae Int)}(h:b[k]? =some l):oO a (b.take (k+1))=Bg (oO a (b.take k)) l:=by
 unfold oO;rw[fF h,wD];rfl
def Sg{a b:ae (ae Int)}{n:Nat}(ha:∀l∈a,l.length<=n)(hb:∀l∈b,l.length<=n):∀k,(oO a (b.take k)).length<=a.length+k/\∀l∈oO a (b.take k),l.length<=n
 |0=>⟨aZ _,ha⟩
 |k+1=>by
  obtain⟨h1,h2⟩:=Sg ha hb k;cases h:b[k]? with
  |none=>
   have:b.take (k+1)=b.take k:=by rw[rH,h];simp
   rw[this];exact⟨s6,h2⟩
  |some l=>
   rw[ZW h];unfold Bg;split
   .exact⟨s6,h2⟩
   .rw[eF,u7];refine⟨s6,λx hx=>?_⟩;rcases fq.1 hx with hx|hx
    .exact h2 x hx
    .rw[bA.1 hx];exact hb l (aT h)
def vP(g:bQ):ae (ae Int):=
 if g.shape=2 then lc g (λs=>(s.1+s.2,true))
 else if g.w=g.h then oO (lc g (λs=>(0,decide (s.1=s.2)))) (lc g (λs=>(0,decide (s.1+s.2=g.w - 1))))
 else[]
variable{x:Int}
def GA:x∈bK l↔x∈l:=(Ah l _).mem_iff
def aj1:∀a c:Int,Value.int .i64 a=Value.int .i64 c->a=c:=λa c h=>by injection h
def pI(n:Nat):ae (ae Int):=(List.range n).map λi:Nat=>[(i:Int)]
def aj2(k:Nat):pI (k+1)=pI k++[[(k:Int)]]:=by
 unfold pI;rw[Ag,cB];rfl
def Si(k:Nat):(pI k).length=k:=by unfold pI;simp
def upTo'(n:Nat):ae Int:=(List.range n).map λi:Nat=>(i:Int)
def Ny(k:Nat):upTo' (k+1)=upTo' k++[(k:Int)]:=by
 unfold upTo';rw[Ag,cB];rfl
def kK(k:Nat):(upTo' k).length=k:=by unfold upTo';simp
def qW(aP:ae (ae Int)):ae (ae Int):=aP.zipIdx.map λp=>bK (p.1++[(p.2:Int)])
variable{aP:ae (ae Int)}
def aj3(h:aP[k]? =some l):qW (aP.take (k+1))=qW (aP.take k)++[bK (l++[(k:Int)])]:=by
 have hk:=(aV.1 h).1;unfold qW;rw[fF h,VS,cB,fU,DF s6];simp
def ZX(aP:ae (ae Int)):(qW aP).length=aP.length:=by unfold qW;simp
def oP(i:Nat)(l:ae Int):ae (ae Int):=(l.filter λj=>decide ((i:Int)<j)).map λj=>[(i:Int),j]
def aj4{i j:Nat}(h:l[j]? =some x):oP i (l.take (j+1))=oP i (l.take j)++if(i:Int)<x then[[(i:Int),x]]else[]:=by
 unfold oP;rw[fF h,Fh,cB];by_cases e:(i:Int)<x<;>simp[e]
def ZY(i:Nat)(l:ae Int):(oP i l).length<=l.length:=by
 unfold oP;rw[aR];exact HZ _ _
def mH(aP:ae (ae Int)):ae (ae Int):=aP.zipIdx.flatMap λp=>oP p.2 p.1
def ZZ(h:aP[k]? =some l):mH (aP.take (k+1))=mH (aP.take k)++oP k l:=by
 have hk:=(aV.1 h).1;unfold mH;rw[fF h,VS,KQ,fU,DF s6];simp
def Sj{aP:ae (ae Int)}(hn:∀l∈aP,l.length<=6):∀k,k<=aP.length->(mH (aP.take k)).length<=6*k
 |0,_=>by simp[mH]
 |k+1,hk=>by
  have h:aP[k]? =some aP[k]:=bG s6;have:=Sj hn k s6;have h2:=ZY k aP[k];have h3:=hn aP[k] (wo _);rw[ZZ h,eF];omega
def Nz:∀l∈fT g,l.length<=6:=by
 intro l hl;obtain⟨p,_,rfl⟩:=bS.1 hl;unfold oN;exact eV
def iP(g:bQ)(k:Int):ae (ae Int):=
 if k=0 then pI g.cells.length
 else if k=1 then lc g (λs=>(s.2,true))
 else if k=2 then lc g (λs=>(s.1,true))
 else if k=3 then vP g
 else if k=4 then fT g
 else if k=5 then qW (fT g)
 else if k=6 then mH (fT g)
 else[upTo' g.cells.length]
end Kd
namespace Kd
open Go Go.Ideal
def Bh(p:Int):ae Int->Nat
 |[]=>0
 |a::l=>if p=a then 0 else Bh p l+1
def Sk{p:Int}:∀{l:ae Int} {n:Nat},l.Pairwise (·<·)->l[n]? =some p->Bh p l=n
 |[],n,_,h=>by simp at h
 |a::l,0,_,h=>by
  have h:a=p:=tf
  unfold Bh;rw[if_pos h.symm]
 |a::l,n+1,hp,h=>by
  have h:l[n]? =some p:=tf
  have h1:=(qi.1 hp).1 p (aT h);unfold Bh;rw[if_neg s6,Sk (qi.1 hp).2 h]
def Sl{p:Int}:∀{l:ae Int},p∈l->Bh p l<l.length
 |[],h=>by cases h
 |a::l,h=>by
  unfold Bh;by_cases e:p=a
  .rw[if_pos e,nW];omega
  .rw[if_neg e,nW];have:=Sl (p:=p) (l:=l) ((bH.1 h).resolve_left e);omega
def CU(xs:ae Int):ae (Int×ah):=xs.foldl (λm c=>upd c (.bool true) m) []
def Z0(xs:ae Int)(c:Int):CU (xs++[c])=upd c (.bool true) (CU xs):=by
 unfold CU;rw[wD];rfl
def aj5(c:Int)(n:Nat):∀xs:ae Int,xs.length=n->dF c (CU xs)=if c∈xs then some (.bool true)else none:=by
 induction n with
 |zero=>
  intro xs h;rw[j6.1 h];rfl
 |succ n ih=>
  intro xs h;obtain⟨ys,p,rfl⟩:∃ys p,xs=ys++[p]:=⟨xs.dropLast,xs.getLast tx,(Ai _).symm⟩
  rw[Z0,Bf,ih ys tf];by_cases e:c=p
  .subst e;simp
  .simp[e]
def aj6(c:Int)(xs:ae Int):jJ false (.bool false) c (CU xs)=.bool (decide (c∈xs)):=by
 unfold jJ;rw[aj5 c _ xs rfl];by_cases e:c∈xs
 .rw[if_pos e,eT e];rfl
 .rw[if_neg e,bY e];rfl
def Sm:∀(m:Nat) (l:ae Int),l.Nodup->(∀x∈l,0<=x/\x<(m:Int))->l.length<=m:=by
 intro m;induction m with
 |zero=>
  intro l _ h;cases l with
  |nil=>exact aZ _
  |cons x l=>have:=h x (dD ..);omega
 |succ m ih=>
  intro l hn h;have h1:=ih (l.erase (m:Int)) (hn.erase _) (λx hx=>by
   have:=h x (List.mem_of_mem_erase hx);have hne:x≠(m:Int):=λe=>by subst e;exact(List.Nodup.mem_erase_iff hn).1 hx|>.1 rfl
   omega)
  rw[List.length_erase]at h1;split at h1<;>omega
structure NA(g:bQ)(ps:List Int):Prop where
 ne:ps≠[]
 mem:∀p∈ps,p∈g.cells
 nd:(ps.map λp=>(Bh p g.cells:Int)).Nodup
structure xe(g:bQ)(rs:List (List Int)):Prop where
 len:rs.length<=64
 all:∀ps∈rs,NA g ps
def jF(g:bQ)(ps:ae Int):ae Int:=ps.map λp=>(Bh p g.cells:Int)
def jk(g:bQ)(rs:ae (ae Int)):ae (ae Int):=rs.map (jF g)
def Sn{g:bQ}{ps:ae Int}(hm:∀p∈ps,p∈g.cells)(hn:(jF g ps).Nodup):ps.length<=g.cells.length:=by
 have:=Sm g.cells.length (jF g ps) hn (λx hx=>by
  obtain⟨p,hp,rfl⟩:=bS.1 hx;have:=Sl (hm p hp);omega)
 unfold jF at this
 rwa [aR]at this
end Kd
namespace Kd
open Go Go.Ideal
def yH(xs:ae Int):ae (Int×ah):=(xs.foldl (λs c=>(upd c (.int .i64 ((s.2.count c:Nat)+1)) s.1,s.2++[c])) (([]:ae (Int×ah)),([]:ae Int))).1
def aj7(xs:ae Int):∀(m:ae (Int×ah)) (ys:ae Int),(xs.foldl (λs c=>(upd c (.int .i64 ((s.2.count c:Nat)+1)) s.1,s.2++[c])) (m,ys)).2=ys++xs:=by
 induction xs with
 |nil=>intro m ys;simp
 |cons x xs ih=>intro m ys;rw[nC,ih];simp
def Z4(xs:ae Int)(c:Int):yH (xs++[c])=upd c (.int .i64 ((xs.count c:Nat)+1)) (yH xs):=by
 unfold yH;rw[wD,nC,List.foldl_nil];show upd c _ _=_;rw[aj7,cK]
def aj8(c:Int)(n:Nat):∀xs:ae Int,xs.length=n->dF c (yH xs)=if c∈xs then some (.int .i64 (xs.count c:Nat))else none:=by
 induction n with
 |zero=>
  intro xs h;rw[j6.1 h];rfl
 |succ n ih=>
  intro xs h;obtain⟨ys,p,rfl⟩:∃ys p,xs=ys++[p]:=⟨xs.dropLast,xs.getLast tx,(Ai _).symm⟩
  rw[Z4,Bf,ih ys tf];by_cases e:c=p
  .subst e;simp
  .have e2:¬p=c:=λh=>e h.symm;simp[e,e2,List.count_cons,List.count_append]
def Z5(c:Int)(xs:ae Int):jJ false (.int .i64 0) c (yH xs)=.int .i64 (xs.count c:Nat):=by
 unfold jJ;rw[aj8 c _ xs rfl];by_cases e:c∈xs
 .rw[if_pos e];rfl
 .rw[if_neg e,List.count_eq_zero_of_not_mem e];rfl
def aj9(c:Int)(xs:ae Int):xs.count c<=xs.length:=List.count_le_length ..
def bP(d:dQ):bQ:=⟨d.shape,d.w,d.h,d.holes,uG d.w d.h d.holes⟩
def oq(d:dQ):ae (ae (ae Int)):=((List.range 8).map λf:Nat=>iP (bP d) (f:Int))++d.regions.map λr=>jk (bP d) r.lists
def tJ(d:dQ):aQ:=⟨d,bP d,fT (bP d),oq d⟩
end Kd
namespace Kd
open Go Go.Ideal Canon
def aY:Enc Clue:=⟨3,ah,λg v=>[.int .i64 g.aS,.int .i64 g.at_,v],λg v=>[aj ai v g.values],λ_ _=>rfl⟩
abbrev qC(g:Clue)(v:ah):ah:=.agg ⟨[.int .i64 g.aS,.int .i64 g.at_,v]⟩
def xg:ae Int->Int
 |[]=>0
 |a::l=>if a≠0 then a else xg l
def fo(a b:Clue):Int:=xg [dx a.aS b.aS,dx a.at_ b.at_]
def Z6(a b:Clue):fo a b=dN dx [a.aS,a.at_] [b.aS,b.at_]:=by
 unfold fo;simp only[xg,dN]
variable{a b:Clue}
def yI:fo a b<0↔a.aS<b.aS\/(a.aS=b.aS/\a.at_<b.at_):=by
 exact eM
def NB{c:Clue}(h1:fo a b<0)(h2:fo b c<0):fo a c<0:=by
 rw[yI]at *;omega
def ou(k:aQ)(g:Clue):Prop:=∃(c:ji) (l:ae (ae Int)),0<=g.aS/\k.decl.bV[g.aS.toNat]? =some c/\k.lists[c.family.toNat]? =some l/\0<=g.at_/\g.at_<l.length/\
 ((c.type=1/\g.values.length=1/\∀x∈g.values,0<=x/\x<=(k.decl.symbols.length:Int) - 1)\/(c.type=2/\g.values.length=1/\∀x∈g.values,c.lo<=x/\x<=c.hi)\/
   (c.type≠1/\c.type≠2/\g.values.length<=8/\∀x∈g.values,1<=x/\x<=256))
structure fK(k:aQ)(p:List Clue):Prop where
 len:p.length<=512
 right:∀g∈p,ou k g
 sorted:∀(i:Nat) a b,p[i]? =some a->p[i+1]? =some b->fo a b<0
def Sq(k:aQ):Prop:=∀c∈k.decl.bV,0<=c.family/\c.family<k.lists.length
end Kd
namespace Kd
open Go Go.Ideal Canon
def Sr(k:aQ)(i:Int):Int:=match k.decl.bV[i.toNat]? with|some c=>c.family|none=>0
def qj(k:aQ)(g:Clue):ae Int:=(k.lists.getD (Sr k g.aS).toNat []).getD g.at_.toNat []
def NC(k:aQ)(p:ae Clue)(r:dP):ae (ae Int×ae Int):=
 if r.aS<0 then(k.lists.getD r.family.toNat []).map λl=>(l,[r.n])else(p.filter λg=>decide (g.aS=r.aS)).map λg=>(qj k g,g.values)
def gJ{α:Type}{l:ae α}{n:Nat}{x d:α}(h:l[n]? =some x):l.getD n d=x:=by simp[List.getD,h]
def ou.cells{k:aQ}{g:Clue}(h:ou k g):∃(c:ji) (l:ae (ae Int)) (ps:ae Int),k.decl.bV[g.aS.toNat]? =some c/\k.lists[c.family.toNat]? =some l/\l[g.at_.toNat]? =some ps/\0<=g.aS/\0<=g.at_/\g.at_<l.length/\qj k g=ps:=by
 obtain⟨c,l,h1,h2,h3,h4,h5,_⟩:=h;have h6:l[g.at_.toNat]? =some (l[g.at_.toNat]'(s6)):=bG _;refine⟨c,l,_,h2,h3,h6,h1,h4,h5,?_⟩;unfold qj Sr;rw[h2];dsimp only;rw[gJ h3,gJ h6]
end Kd
namespace Kd
open Go Go.Ideal Canon
def aH(grid:ae Int)(c:Int):Int:=grid.getD c.toNat 0
def iW{grid:ae Int}{n:Nat}{x:Int}(h:grid[n]? =some x):aH grid (n:Int)=x:=by unfold aH;exact gJ h
end Kd
namespace Kd
open Go Go.Ideal
def GD(n:Nat)(l:ae Int):Prop:=l.length<=4096/\∀c∈l,0<=c/\c<(n:Int)
variable{g:bQ}
def ND:∀p∈bI g,0<=p.1/\p.1<(g.cells.length:Int):=by
 intro p hp;obtain⟨k,hk⟩:=yY.1 hp;have hkl:=(aV.1 hk).1;rw[tH]at hkl;have:=Be hk;omega
def aka(kf:Int×Int->Int×Bool)(n:Nat):∀ps:ae (Int×(Int×Int)),ps.length=n->∀a,∀c∈(dF a (j5 kf ps)).getD [],∃p∈ps,p.1=c:=by
 induction n with
 |zero=>
  intro ps h a c hc;rw[j6.1 h]at hc;have hc:c∈([]:ae Int):=hc;cases hc
 |succ n ih=>
  intro ps h a c hc;obtain⟨qs,p,rfl⟩:∃qs p,ps=qs++[p]:=⟨ps.dropLast,ps.getLast tx,(Ai _).symm⟩
  have hq:qs.length=n:=tf
  have hih:∀a,∀c∈(dF a (j5 kf qs)).getD [],∃p'∈qs++[p],p'.1=c:=λa c hc=>by
   obtain⟨q,h1,h2⟩:=ih qs hq a c hc;exact⟨q,jl _ h1,h2⟩
  rw[JM]at hc;unfold zC at hc;cases hb:(kf p.2).2 with
  |false=>
   rw[hb]at hc;exact hih a c hc
  |true=>
   rw[hb]at hc;have hc:c∈(dF a (upd (kf p.2).1 ((dF (kf p.2).1 (j5 kf qs)).getD []++[p.1]) (j5 kf qs))).getD []:=hc;rw[Bf]at hc;by_cases e:a=(kf p.2).1
   .rw[if_pos e,yV]at hc;rcases fq.1 hc with hc|hc
    .exact hih _ c hc
    .exact⟨p,s7,(bA.1 hc).symm⟩
   .rw[if_neg e]at hc;exact hih a c hc
def JN(hg:ic g)(kf:Int×Int->Int×Bool):∀l∈lc g kf,GD g.cells.length l:=by
 intro l hl;have hlen:=(Nw hg kf).2 l hl;refine⟨s6,λc hc=>?_⟩;unfold lc at hl;obtain⟨n,_,rfl⟩:=bS.1 hl;obtain⟨p,hp,rfl⟩:=aka kf _ (bI g) rfl n c hc;exact ND p hp
variable{l:ae Int}
def Z7{a b:ae (ae Int)}(h:l∈oO a b):l∈a\/l∈b:=by
 unfold oO at h;induction b generalizing a with
 |nil=>exact .inl h
 |cons x b ih=>
  rw[nC]at h;rcases ih h with h|h
  .unfold Bg at h;split at h
   .exact .inl h
   .rcases fq.1 h with h|h
    .exact .inl h
    .exact .inr (by rw[bA.1 h];simp)
  .exact .inr (dB _ h)
def Z8{o:ak ah}{n:Int}(h:numOf o=some n):o=some (.int .i64 n):=by
 unfold numOf at h;split at h
 .cases h;rfl
 .cases h
def akb{p:Int×(Int×Int)}:GD g.cells.length (oN g p):=by
 unfold oN;refine⟨?_,λc hc=>?_⟩
 .exact eV
 .rw[GA]at hc;unfold ig at hc;obtain⟨d,_,hd⟩:=KM.1 hc;obtain⟨c',h1,q,hq,h2⟩:=ZT _ _ (Z8 hd);injection h1 with _ h1;rw[h1,<- h2];exact ND q hq
def NE:∀l∈fT g,GD g.cells.length l:=by
 intro l hl;obtain⟨p,_,rfl⟩:=bS.1 hl;exact akb
def akc(l:ae Int):(bK l).length=l.length:=(Ah l _).length_eq
def Z9(hg:ic g)(k:Int):∀l∈iP g k,GD g.cells.length l:=by
 have hlen:=hg.len;have hnl:=CR g;have hnm:=Nz (g:=g);intro l hl;unfold iP at hl;split at hl
 .unfold pI at hl;obtain⟨i,hi,rfl⟩:=bS.1 hl;have:=sF.1 hi;exact⟨s7,λc hc=>by rw[bA.1 hc];omega⟩
 split at hl
 .exact JN hg _ l hl
 split at hl
 .exact JN hg _ l hl
 split at hl
 .unfold vP at hl;split at hl
  .exact JN hg _ l hl
  split at hl
  .rcases Z7 hl with hl|hl
   .exact JN hg _ l hl
   .exact JN hg _ l hl
  .cases hl
 split at hl
 .exact NE l hl
 split at hl
 .unfold qW at hl;obtain⟨⟨x,i⟩,hx,rfl⟩:=bS.1 hl;have hx:=BZ.1 hx;have hxm:=aT hx;have hi:=(aV.1 hx).1;have h6:=hnm x hxm;refine⟨by rw[akc];simp;omega,λc hc=>?_⟩;rw[GA]at hc;rcases fq.1 hc with hc|hc
  .exact(NE x hxm).2 c hc
  .rw[bA.1 hc];dsimp only;omega
 split at hl
 .unfold mH at hl;obtain⟨⟨x,i⟩,hx,hl⟩:=Py.1 hl;have hx:=BZ.1 hx;have hxm:=aT hx;have hi:=(aV.1 hx).1;unfold oP at hl;obtain⟨j,hj,rfl⟩:=bS.1 hl;have hj:=(ug.1 hj).1;refine⟨s7,λc hc=>?_⟩;simp only[bH,Ab,or_false]at hc;rcases hc with rfl|rfl
  .omega
  .exact(NE x hxm).2 _ hj
 .rw[bA.1 hl];refine⟨by rw[kK];omega,λc hc=>?_⟩;unfold upTo' at hc;obtain⟨i,hi,rfl⟩:=bS.1 hc;have:=sF.1 hi;omega
def aaa(hg:ic g){rs:ae (ae Int)}(hr:xe g rs):∀l∈jk g rs,GD g.cells.length l:=by
 intro l hl;obtain⟨ps,hps,rfl⟩:=bS.1 hl;have hP:=hr.all ps hps;have h1:=Sn hP.mem hP.nd;have h2:=hg.len;refine⟨by unfold jF;rw[aR];omega,λc hc=>?_⟩;obtain⟨p,hp,rfl⟩:=bS.1 hc;have:=Sl (hP.mem p hp);omega
def aab{d:dQ}(hg:ic (bP d))(hr:∀r∈d.regions,xe (bP d) r.lists):∀l∈oq d,∀ps∈l,GD (bP d).cells.length ps:=by
 intro l hl ps hps;unfold oq at hl;rcases fq.1 hl with hl|hl
 .obtain⟨f,_,rfl⟩:=bS.1 hl;exact Z9 hg _ ps hps
 .obtain⟨r,hrm,rfl⟩:=bS.1 hl;exact aaa hg (hr r hrm) ps hps
def akd(hw:1<=g.w){x y:Int}(hx:0<=x)(hy:0<=y)(h:kJ g x=kJ g y):x=y:=by
 unfold kJ at h;have h1:=congrArg Prod.fst h;have h2:=congrArg Prod.snd h;dsimp only at h1 h2;rw[y9 hx,y9 hy]at h2;rw[y9 hx,y9 hy,H6 hx,H6 hy,h2]at h1;have h3:x%g.w=y%g.w:=by
  split at h1<;>omega
 have e1:=KT x g.w;have e2:=KT y g.w;rw[h2,h3]at e1;omega
def JO(hg:ic g){p q:Int×(Int×Int)}(hp:p∈bI g)(hq:q∈bI g)(h:p.1=q.1\/p.2=q.2):p=q:=by
 obtain⟨k,hk⟩:=yY.1 hp;obtain⟨j,hj⟩:=yY.1 hq;have hkl:=(aV.1 hk).1;have hjl:=(aV.1 hj).1;rw[tH]at hkl hjl;rcases h with h|h
 .have h1:=Be hk;have h2:=Be hj;have:k=j:=by omega
  subst this;rw[hk]at hj;exact Option.some.inj hj
 .have hx:g.cells[k]? =some g.cells[k]:=bG hkl;have hy:g.cells[j]? =some g.cells[j]:=bG hjl;have hkk:=hk;have hjj:=hj;rw[CQ hx]at hk;rw[CQ hy]at hj;have hk:=Option.some.inj hk;have hj:=Option.some.inj hj;have hs:kJ g g.cells[k]=kJ g g.cells[j]:=by rw[<- hk,<- hj]at h;exact h
  have he:=akd (by have:=hg.make.wi;omega) (hg.cell _ (wo _)).1 (hg.cell _ (wo _)).1 hs;have uI:g.cells.Pairwise (·<·):=A0
  have hkj:k=j:=by
   apply Classical.byContradiction;intro hne;have:=yZ.1 uI;rcases Nat.lt_or_gt_of_ne hne with hl|hl
   .have:=this k j hkl hjl hl;omega
   .have:=this j k hjl hkl hl;omega
  subst hkj;rw[hkk]at hjj;exact Option.some.inj hjj
def ake(n:Nat):∀xs:ae (Int×(Int×Int)),xs.length=n->(∀p∈xs,∀q∈xs,p.2=q.2->p=q)->∀p∈xs,dF p.2 (fJ xs)=some (.int .i64 p.1):=by
 induction n with
 |zero=>intro xs h _ p hp;rw[j6.1 h]at hp;cases hp
 |succ n ih=>
  intro xs h hi p hp;obtain⟨ys,q,rfl⟩:∃ys q,xs=ys++[q]:=⟨xs.dropLast,xs.getLast tx,(Ai _).symm⟩
  rw[Sc,Bf];by_cases e:p.2=q.2
  .have:=hi p hp q s7 e;subst this;rw[if_pos rfl]
  .rw[if_neg e];refine ih ys tf (λa ha b hb=>hi a (jl _ ha) b (jl _ hb)) p ?_;rcases fq.1 hp with hp|hp
   .exact hp
   .rw[bA.1 hp]at e;exact absurd rfl e
def akf(n:Nat):∀xs:ae (Int×(Int×Int)),xs.length=n->∀a v,dF a (fJ xs)=some v->∃p∈xs,p.2=a/\v=.int .i64 p.1:=by
 induction n with
 |zero=>
  intro xs h a v hv;rw[j6.1 h]at hv;cases hv
 |succ n ih=>
  intro xs h a v hv;obtain⟨ys,q,rfl⟩:∃ys q,xs=ys++[q]:=⟨xs.dropLast,xs.getLast tx,(Ai _).symm⟩
  rw[Sc,Bf]at hv;by_cases e:a=q.2
  .rw[if_pos e]at hv;exact⟨q,s7,e.symm,(Option.some.inj hv).symm⟩
  .rw[if_neg e]at hv;obtain⟨p,h1,h2⟩:=ih ys tf a v hv;exact⟨p,jl _ h1,h2⟩
def NF(hg:ic g){s:Int×Int}{d:Int×Int}{n:Int}:numOf (dF (s.1+d.1,s.2+d.2) (fJ (bI g)))=some n↔∃q∈bI g,q.2=(s.1+d.1,s.2+d.2)/\q.1=n:=by
 constructor
 .intro h;obtain⟨q,hq,h1,h2⟩:=akf _ (bI g) rfl _ _ (Z8 h);injection h2 with _ h2;exact⟨q,hq,h1,h2.symm⟩
 .rintro⟨q,hq,h1,h2⟩;rw[<- h1,ake _ (bI g) rfl (λa ha b hb e=>JO hg ha hb (.inr e)) q hq,<- h2];rfl
def aac(hg:ic g){p:Int×(Int×Int)}{n:Int}:n∈oN g p↔∃d∈fD.take (eO g),∃q∈bI g,q.2=(p.2.1+d.1,p.2.2+d.2)/\q.1=n:=by
 unfold oN;rw[GA];unfold ig;rw[KM];constructor
 .rintro⟨d,hd,h⟩;exact⟨d,hd,(NF hg).1 h⟩
 .rintro⟨d,hd,h⟩;exact⟨d,hd,(NF hg).2 h⟩
def aad(g:bQ):eO g=4\/eO g=6:=by unfold eO;split<;>simp
variable{m:Nat}
def akg(hm:m=4\/m=6):∀d∈fD.take m,(-d.1, -d.2)∈fD.take m:=by
 rcases hm with rfl|rfl<;>decide
def akh:∀d∈fD.take m,¬(d.1=0/\d.2=0):=by
 intro d hd;have:=xK hd;revert d;have:∀d∈fD,¬(d.1=0/\d.2=0):=td
 intro d _ hd;exact this d hd
def aki(hm:m=4\/m=6):(fD.take m).Nodup:=by
 rcases hm with rfl|rfl<;>decide
def Su(l:ae Int):(bK l).Pairwise (λx y=>x<=y):=by
 have:=Px (le:=λx y:Int=>decide (x<=y)) (λa b c h1 h2=>by simp at h1 h2⊢;omega) (λa b=>by simp;omega) l;exact pw
def Sv(h:l.Nodup):(bK l).Pairwise (·<·):=by
 have h1:=Su l;have h2:(bK l).Nodup:=(Ah l _).symm.nodup h;have h3:(bK l).Pairwise (λx y=>x<=y/\x≠y):=List.Pairwise.and h1 h2;exact h3.imp (λh=>by omega)
def aae(hg:ic g)(p:Int×(Int×Int)):(oN g p).Pairwise (·<·):=by
 unfold oN;refine Sv ?_;unfold ig;refine List.Pairwise.filterMap _ ?_ (aki (aad g));intro d1 d2 hne b hb b' hb' e;subst e;obtain⟨q1,h1,h2,h3⟩:=(NF hg).1 hb;obtain⟨q2,k1,k2,k3⟩:=(NF hg).1 hb';have:=JO hg h1 k1 (.inl (by rw[h3,k3]));subst this;rw[h2]at k2;apply hne;have e1:=congrArg Prod.fst k2;have e2:=congrArg Prod.snd k2;dsimp only at e1 e2;exact Prod.ext s6 s6
def akj(hg:ic g)(i:Nat)(l:ae Int)(hl:(fT g)[i]? =some l)(k:Nat)(n:Int)(hn:l[k]? =some n):
 0<=n/\n<(fT g).length/\n≠i/\(∀m,0<k->l[k - 1]? =some m->m<n)/\∀l',(fT g)[n.toNat]? =some l'->(i:Int)∈l':=by
 have hnm:=CR g;unfold fT at hl;rw[bU]at hl;obtain⟨p,hp,rfl⟩:=kg.1 hl;have hp1:=Be hp;have hpm:=aT hp;obtain⟨d,hd,q,hq,hq2,hq1⟩:=(aac hg).1 (aT hn);have hqi:=ND q hq;refine⟨s6,s6,λe=>?_,λm hk hm=>?_,λl' hl'=>?_⟩
 .have:q=p:=JO hg hq hpm (.inl s6);subst this;have e1:=congrArg Prod.fst hq2;have e2:=congrArg Prod.snd hq2;dsimp only at e1 e2;exact akh d hd ⟨s6,s6⟩
 .have hlt:=aae hg p;obtain⟨a1,a2⟩:=aV.1 hm;obtain⟨b1,b2⟩:=aV.1 hn;have:=yZ.1 hlt (k - 1) k a1 b1 s6;rw[a2,b2]at this;exact this
 .unfold fT at hl';rw[bU]at hl';obtain⟨q',hq',rfl⟩:=kg.1 hl';have h1:=Be hq';have:q'=q:=JO hg (aT hq') hq (.inl s6);subst this;rw[aac hg];refine⟨(-d.1, -d.2),akg (aad g) d hd,p,hpm,?_,hp1⟩;rw[hq2];dsimp only;exact Prod.ext ye ye
end Kd
namespace Kd
open Go Go.Ideal Canon Gph
end Kd
namespace Kd
open Go Go.Ideal Canon Gph
end Kd
namespace Kd
open Go Go.Ideal Canon Gph
def akk(kf:Int×Int->Int×Bool)(n:Nat):∀ps:ae (Int×(Int×Int)),ps.length=n->∀a,((dF a (j5 kf ps)).getD []).Sublist (ps.map (·.1)):=by
 induction n with
 |zero=>
  intro ps h a;rw[j6.1 h];exact List.Sublist.refl _
 |succ n ih=>
  intro ps h a;obtain⟨qs,p,rfl⟩:∃qs p,ps=qs++[p]:=⟨ps.dropLast,ps.getLast tx,(Ai _).symm⟩
  have hq:qs.length=n:=tf
  have ih:=ih qs hq;rw[cB,JM];unfold zC;cases hb:(kf p.2).2 with
  |false=>exact(ih a).trans (List.sublist_append_left _ _)
  |true=>
   show((dF a (upd (kf p.2).1 ((dF (kf p.2).1 (j5 kf qs)).getD []++[p.1]) (j5 kf qs))).getD []).Sublist _;rw[Bf];by_cases e:a=(kf p.2).1
   .rw[if_pos e,yV];exact(ih _).append (List.Sublist.refl _)
   .rw[if_neg e];exact(ih a).trans (List.sublist_append_left _ _)
variable{g:bQ}
def akl:(bI g).map (·.1)=upTo' g.cells.length:=by
 apply iH;intro i;unfold upTo';rw[bU,bU];by_cases h:i<g.cells.length
 .rw[CQ (bG h),oI h];rfl
 .rw[dW yp,dW (by rw[nG];omega)];rfl
def JP(n:Nat):(upTo' n).Nodup:=by
 unfold upTo';refine List.Pairwise.map _ (λa b h=>?_) List.nodup_range;intro e;apply h;omega
def aaf{n i:Nat}{x:Int}(h:(upTo' n)[i]? =some x):x=i:=by
 unfold upTo' at h;rw[bU]at h;obtain⟨j,hj,rfl⟩:=kg.1 h;have:=aV.1 hj;obtain⟨h1,h2⟩:=this;rw[List.getElem_range]at h2;omega
def JQ(kf:Int×Int->Int×Bool):∀l∈lc g kf,l.Nodup:=by
 intro l hl;unfold lc at hl;obtain⟨n,_,rfl⟩:=bS.1 hl;have:=akk kf _ (bI g) rfl n;rw[akl]at this;exact this.nodup (JP _)
def Sw(hg:ic g)(p:Int×(Int×Int)):(oN g p).Nodup:=(aae hg p).imp (λh=>by omega)
variable{l:ae Int}
def aag(h:l.Nodup):(bK l).Nodup:=(Sv h).imp (λh=>by omega)
def aah{aP:ae (ae Int)}(h:l∈mH aP):∃(i:Nat) (x:ae Int) (j:Int),aP[i]? =some x/\j∈x/\(i:Int)<j/\l=[(i:Int),j]:=by
 unfold mH at h;obtain⟨⟨x,i⟩,hx,hl⟩:=Py.1 h;unfold oP at hl;obtain⟨j,hj,rfl⟩:=bS.1 hl;obtain⟨h1,h2⟩:=ug.1 hj;exact⟨i,x,j,BZ.1 hx,h1,ko h2,rfl⟩
def akm(hg:ic g)(k:Int):∀l∈iP g k,l.Nodup:=by
 intro l hl;unfold iP at hl;split at hl
 .unfold pI at hl;obtain⟨i,hi,rfl⟩:=bS.1 hl;simp
 split at hl
 .exact JQ _ l hl
 split at hl
 .exact JQ _ l hl
 split at hl
 .unfold vP at hl;split at hl
  .exact JQ _ l hl
  split at hl
  .rcases Z7 hl with hl|hl
   .exact JQ _ l hl
   .exact JQ _ l hl
  .cases hl
 split at hl
 .unfold fT at hl;obtain⟨p,_,rfl⟩:=bS.1 hl;exact Sw hg p
 split at hl
 .unfold qW at hl;obtain⟨⟨x,i⟩,hx,rfl⟩:=bS.1 hl;have hx:=BZ.1 hx;have hxm:=aT hx;refine aag ?_;rw[jA];refine⟨?_,s7,λa ha b hb e=>?_⟩
  .unfold fT at hxm;obtain⟨p,_,rfl⟩:=bS.1 hxm;exact Sw hg p
  .rw[bA.1 hb]at e;obtain⟨j,hj⟩:=iM ha;exact(akj hg i x hx j a hj).2.2.1 e
 split at hl
 .obtain⟨i,x,j,h1,h2,h3,rfl⟩:=aah hl;simp only[Ac,bA,Ab,not_false_iff,Ae,Aa];omega
 .rw[bA.1 hl];exact JP _
def akn{d:dQ}(hg:ic (bP d))(hr:∀r∈d.regions,xe (bP d) r.lists):∀l∈oq d,∀ps∈l,ps.Nodup:=by
 intro l hl ps hps;unfold oq at hl;rcases fq.1 hl with hl|hl
 .obtain⟨f,_,rfl⟩:=bS.1 hl;exact akm hg _ ps hps
 .obtain⟨r,hrm,rfl⟩:=bS.1 hl;obtain⟨q,hq,rfl⟩:=bS.1 hps;exact((hr r hrm).all q hq).nd
end Kd
namespace Kd
open Go Go.Ideal Canon Gph
def NG{k:aQ}{p:ae Clue}(h:fK k p):∀(d i:Nat) a b,p[i]? =some a->p[i+1+d]? =some b->fo a b<0
 |0,i,a,b,ha,hb=>h.sorted i a b ha hb
 |d+1,i,a,b,ha,hb=>by
  have hlt:=(aV.1 hb).1;have hc:p[i+1+d]? =some (p[i+1+d]'(s6)):=bG _;exact NB (NG h d i a _ ha hc) (h.sorted (i+1+d) _ b hc hb)
def ako{k:aQ}{p:ae Clue}(h:fK k p){a b:Clue}(ha:a∈p)(hb:b∈p)(h1:a.aS=b.aS)(h2:a.at_=b.at_):a=b:=by
 obtain⟨i,hi⟩:=iM ha;obtain⟨j,hj⟩:=iM hb;rcases VW i j with hl|hl|hl
 .have:=yI.1 (NG h (j - (i+1)) i a b hi (by rw[show i+1+(j - (i+1))=j by omega];exact hj));omega
 .subst hl;rw[hi]at hj;exact Option.some.inj hj
 .have:=yI.1 (NG h (i - (j+1)) j b a hj (by rw[show j+1+(i - (j+1))=i by omega];exact hi));omega
end Kd
namespace Kd
open Go Go.Ideal
def NH:∀{l m:ae Int},l.Nodup->(∀x∈l,x∈m)->l.length<=m.length
 |[],m,_,_=>bM _
 |a::l,m,hd,hs=>by
  have ha:=hs a (dD ..);have h1:=Pw ha;have hp:0<m.length:=Pz ha;have:=NH (l:=l) (m:=m.erase a) (Ac.1 hd).2 (λx hx=>by
   have hne:x≠a:=λe=>(Ac.1 hd).1 (e▸hx);exact(VX hne).2 (hs x (dB _ hx)))
  rw[nW];omega
def aai{g:bQ}(hg:ic g):0<g.cells.length:=by
 apply Classical.byContradiction;intro h0;have he:g.cells=[]:=j6.1 s6;rw[hg.cells]at he;unfold uG kI at he;have hw:=ED hg.make.wi hg.make.he;have hlen:=hg.make.len;have:=NH (l:=upTo' (g.w*g.h).toNat) (m:=g.holes) (JP _) (λx hx=>by
  have hx:x∈(List.range (g.w*g.h).toNat).map λi:Nat=>(i:Int):=hx;have:=List.filter_eq_nil_iff.1 he x hx;simpa using this)
 rw[kK]at this;omega
end Kd
namespace Kd
open Go Go.Ideal Canon Gph
def akp{g:bQ}(hg:ic g)(k:Int):(iP g k).length<=2048:=by
 have hl:=hg.len;have hn:=CR g;have hL:=λkf=>Nw hg kf;unfold iP;split
 .unfold pI;rw[aR,nG];omega
 split
 .have:=(hL (λs=>(s.2,true))).1;omega
 split
 .have:=(hL (λs=>(s.1,true))).1;omega
 split
 .unfold vP;split
  .have:=(hL (λs=>(s.1+s.2,true))).1;omega
  split
  .have h1:=hL (λs=>(0,decide (s.1=s.2)));have h2:=hL (λs=>(0,decide (s.1+s.2=g.w - 1)));have:=(Sg h1.2 h2.2 (lc g (λs=>(0,decide (s.1+s.2=g.w - 1)))).length).1;rw[fu]at this;omega
  .simp
 split
 .omega
 split
 .unfold qW;rw[aR,List.length_zipIdx];omega
 split
 .have:=Sj (aP:=fT g) Nz (fT g).length (aZ _);rw[fu]at this;omega
 .simp
def NI{d:dQ}(hg:ic (bP d))(hr:∀r∈d.regions,xe (bP d) r.lists):∀l∈oq d,l.length<=2048:=by
 intro l hl;unfold oq at hl;rcases fq.1 hl with hl|hl
 .obtain⟨f,_,rfl⟩:=bS.1 hl;exact akp hg _
 .obtain⟨r,hrm,rfl⟩:=bS.1 hl;have:=(hr r hrm).len;unfold jk;rw[aR];omega
end Kd
namespace Kd
open Canon
variable{b a:Clue}
def tK:fo a b=0↔a.aS=b.aS/\a.at_=b.at_:=by
 exact eM
def akq(a b:Clue):jD a b=if fo a b≠0 then fo a b else dN dx a.values b.values:=by
 rw[Yf,<- Z6]
def Sy:jD a b<0↔fo a b<0\/(fo a b=0/\dN dx a.values b.values<0):=by
 rw[akq];split<;>omega
structure ik(xs rs:List Clue):Prop where
 inc:rs.Pairwise λa b=>fo a b<0
 sub:∀r∈rs,r∈xs
 all:∀x∈xs,∃r∈rs,fo x r=0/\¬dN dx x.values r.values<0
variable{rs:ae Clue}
def akr(h:rs.Pairwise λa b=>fo a b<0){a b:Clue}(ha:a∈rs)(hb:b∈rs)(he:fo a b=0):a=b:=by
 induction h with
 |nil=>cases ha
 |cons h1 _ ih=>
  rcases bH.1 ha with e1|ha'<;>rcases bH.1 hb with e2|hb'
  .rw[e1,e2]
  .have:=h1 b hb';rw[<- e1]at this;omega
  .have:=h1 a ha';rw[<- e2]at this;rw[tK]at he;rw[yI]at this;omega
  .exact ih ha' hb'
variable{xs rs':ae Clue}
def ik.mem(h:ik xs rs)(h':ik xs rs'){r:Clue}(hr:r∈rs):r∈rs':=by
 obtain⟨r2,m2,p2,v2⟩:=h'.all r (h.sub r hr);obtain⟨r1,m1,p1,v1⟩:=h.all r2 (h'.sub r2 m2);have h3:fo r r1=0:=by rw[tK]at *;omega
 have:=akr h.inc hr m1 h3;subst this;have hO:=vI vH;have h4:dN dx r.values r2.values=0:=by
  have:=hO.neg r2.values r.values;have:=hO.neg r.values r2.values;omega
 have h5:=(hO.zero _ _).1 h4;rw[tK]at p2;have:r=r2:=by cases r;cases r2;simp_all
 rw[this];exact m2
def aaj:∀{a b:ae Clue},(a.Pairwise λx y=>fo x y<0)->(b.Pairwise λx y=>fo x y<0)->(∀x,x∈a↔x∈b)->a=b
 |[],[],_,_,_=>rfl
 |[],y::b,_,_,h=>absurd ((h y).2 (dD ..)) s7
 |x::a,[],_,_,h=>absurd ((h x).1 (dD ..)) s7
 |x::a,y::b,ha,hb,h=>by
  obtain⟨a1,a2⟩:=qi.1 ha;obtain⟨b1,b2⟩:=qi.1 hb;have hxy:x=y:=by
   rcases bH.1 ((h x).1 (dD ..))with e|e
   .exact e
   .rcases bH.1 ((h y).2 (dD ..))with e'|e'
    .exact e'.symm
    .have q1:=b1 x e;have q2:=a1 y e';rw[yI]at q1 q2;omega
  subst hxy;have irr:∀z:Clue,¬fo z z<0:=λz h=>by rw[yI]at h;omega
  rw[aaj a2 b2 λz=>⟨λhz=>?_,λhz=>?_⟩]
  .rcases bH.1 ((h z).1 (dB _ hz))with e|e
   .subst e;exact absurd (a1 z hz) (irr z)
   .exact e
  .rcases bH.1 ((h z).2 (dB _ hz))with e|e
   .subst e;exact absurd (b1 z hz) (irr z)
   .exact e
def ik.uniq(h:ik xs rs)(h':ik xs rs'):rs=rs':=aaj h.inc h'.inc λr=>⟨h.mem h',h'.mem h⟩
def ik.GG{xs':ae Clue}(h:ik xs rs)(h1:∀x,x∈xs'↔x∈xs):ik xs' rs:=⟨h.inc,λr hr=>(h1 r).2 (h.sub r hr),λx hx=>h.all x ((h1 x).1 hx)⟩
def ik.self(h:ik xs rs):ik rs rs:=⟨h.inc,λ_ h=>h,λx hx=>⟨x,hx,by rw[tK];exact⟨rfl,rfl⟩,yq⟩⟩
def cgo{β:Type}(eq:β->β->Bool)(p:β):ae β->ae β
 |[]=>[]
 |y::l=>cond (eq y p) (cgo eq y l) (y::cgo eq y l)
def vQ{β:Type}(eq:β->β->Bool):ae β->ae β
 |[]=>[]
 |x::l=>x::cgo eq x l
def Sz{β:Type}{eq:β->β->Bool}:∀{l:ae β} {p r:β},r∈cgo eq p l->r∈l
 |y::l,p,r,h=>by
  unfold cgo at h;cases e:eq y p with
  |true=>rw[e]at h;exact dB _ (Sz h)
  |false=>
   rw[e]at h;exact qS
variable{β:Type}
def aks{eq:β->β->Bool}:∀{l:ae β} {r:β},r∈vQ eq l->r∈l
 |x::l,r,h=>by
  exact qS
def SA{β γ:Type}{eq:β->β->Bool}{eq':γ->γ->Bool}(f:β->γ)(h:∀a b,eq a b=eq' (f a) (f b)):∀(l:ae β) (p:β),(cgo eq p l).map f=cgo eq' (f p) (l.map f)
 |[],_=>rfl
 |y::l,p=>by
  rw[fA,cgo,cgo,<- h];cases eq y p with
  |true=>exact SA f h l y
  |false=>
   show f y::(cgo eq y l).map f=f y::_;rw[SA f h l y]
def akt{γ:Type}{eq:β->β->Bool}{eq':γ->γ->Bool}(f:β->γ)(h:∀a b,eq a b=eq' (f a) (f b)):∀(l:ae β),(vQ eq l).map f=vQ eq' (l.map f)
 |[]=>rfl
 |x::l=>by
  show f x::(cgo eq x l).map f=f x::_;rw[SA f h l x]
abbrev tL(a b:Clue):Bool:=decide (fo a b=0)
def aal:∀(l:ae Clue) (p:Clue),((p::l).Pairwise λx y=>¬jD y x<0)->(p::cgo tL p l).Pairwise (λa b=>fo a b<0)/\∀x∈l,(∃r∈p::cgo tL p l,fo x r=0/\¬dN dx x.values r.values<0)
 |[],p,_=>⟨List.pairwise_singleton ..,λx hx=>by cases hx⟩
 |y::l,p,h=>by
  obtain⟨h1,h2⟩:=qi.1 h;have hyp:=h1 y (dD ..);obtain⟨i1,i2⟩:=aal l y h2;obtain⟨i3,i4⟩:=qi.1 i1;have hO:=vI vH;unfold cgo;by_cases e:fo y p=0
  .rw[show tL y p=true from eT e,cond_true];have ep:∀z,fo p z=fo y z:=λz=>by
    rw[tK]at e;unfold fo;rw[e.1,e.2]
   refine⟨qi.2 ⟨λz hz=>by rw[ep];exact i3 z hz,i4⟩,λx hx=>?_⟩;have hp:∀x:Clue,fo x y=0->¬dN dx x.values y.values<0->∃r∈p::cgo tL y l,fo x r=0/\¬dN dx x.values r.values<0:=λx q1 q2=>by
    refine⟨p,dD ..,by rw[tK]at *;omega,λq=>?_⟩;have hpy:¬dN dx y.values p.values<0:=λq=>hyp (Sy.2 (.inr ⟨e,q⟩));by_cases e1:dN dx x.values y.values=0
    .rw[(hO.zero _ _).1 e1]at q;exact hpy q
    by_cases e2:dN dx y.values p.values=0
    .rw[<- (hO.zero _ _).1 e2]at q;exact q2 q
    have:=hO.neg p.values y.values;have:=hO.neg y.values p.values;have:=hO.neg y.values x.values;have:=hO.neg x.values y.values;have:=hO.trans p.values y.values x.values s6 s6;have:=hO.neg p.values x.values;omega
   rcases bH.1 hx with rfl|hx
   .exact hp x (by rw[tK];exact⟨rfl,rfl⟩) DH
   .obtain⟨r,m,q1,q2⟩:=i2 x hx;rcases bH.1 m with rfl|m
    .exact hp x q1 q2
    .exact⟨r,dB _ m,q1,q2⟩
  .rw[show tL y p=false from bY e,cond_false];have hpy:fo p y<0:=by
    have:¬fo y p<0:=λq=>hyp (Sy.2 (.inl q));rw[yI]at *;rw[tK]at e;omega
   refine⟨qi.2 ⟨λz hz=>?_,i1⟩,λx hx=>?_⟩
   .rcases bH.1 hz with rfl|hz
    .exact hpy
    .exact NB hpy (i3 z hz)
   .rcases bH.1 hx with rfl|hx
    .exact⟨x,dB _ (dD ..),by rw[tK];exact⟨rfl,rfl⟩,DH⟩
    .obtain⟨r,m,q⟩:=i2 x hx;exact⟨r,dB _ m,q⟩
def SB{ys:ae Clue}(hp:ys.Perm xs)(hs:ys.Pairwise λx y=>¬jD y x<0):ik xs (vQ tL ys):=by
 cases ys with
 |nil=>exact⟨List.Pairwise.nil,(λr hr=>by cases hr),(λx hx=>by have:=hp.mem_iff.2 hx;cases this)⟩
 |cons p l=>
  obtain⟨h1,h2⟩:=aal l p hs;refine⟨h1,λr hr=>hp.mem_iff.1 (aks hr),λx hx=>?_⟩;rcases bH.1 (hp.mem_iff.2 hx)with rfl|hx
  .exact⟨x,dD ..,by rw[tK];exact⟨rfl,rfl⟩,yq⟩
  .exact h2 x hx
def opn(p:ae Clue)(x:Clue):Bool:=match p.getLast? with
 |none=>true
 |some y=>decide (0<fo x y)
variable{p:ae Clue}
def SC{x:Clue}:opn (p++[b]) x=decide (0<fo x b):=by
 unfold opn;rw[List.getLast?_append];rfl
def NJ:0<fo a b↔fo b a<0:=by
 rw[yI];exact eM
structure SE(l p:List Clue)(n:Nat):Prop where
 inc:p.Pairwise λa b=>fo a b<0
 sub:∀r∈p,r∈l
 done:∀x∈l,opn p x=false->∃r∈p,fo x r=0/\¬dN dx x.values r.values<0
 cnt:l.countP (opn p)+n<=l.length
def aam{α:Type}{p q:α->Bool}:∀{l:ae α} {b:α},b∈l->p b=true->q b=false->(∀x,q x=true->p x=true)->l.countP q+1<=l.countP p
 |x::l,b,hb,h1,h2,h3=>by
  rw[List.countP_cons,List.countP_cons];rcases bH.1 hb with rfl|hb
  .have:=List.countP_mono_left (l:=l) (p:=q) (q:=p) λx _=>h3 x;rw[h1,h2];simp only[if_true];simp;omega
  .have:=aam hb h1 h2 h3;by_cases e:q x=true
   .rw[if_pos e,if_pos (h3 x e)];omega
   .rw[if_neg e];omega
def aan:∀{p:ae Clue} {y:Clue},(p.Pairwise λa b=>fo a b<0)->p.getLast? =some y->∀a∈p,a=y\/fo a y<0
 |[],y,_,h,a,ha=>by cases ha
 |[x],y,_,h,a,ha=>by
  cases h;exact .inl (bA.1 ha)
 |x::z::p,y,hp,h,a,ha=>by
  obtain⟨h1,h2⟩:=qi.1 hp;have h':(z::p).getLast? =some y:=by rw[List.getLast?_cons_cons]at h;exact h
  rcases bH.1 ha with rfl|ha
  .exact .inr (h1 y (List.mem_of_getLast? h'))
  .exact aan h2 h' a ha
def SE.step{l:ae Clue}{n:Nat}(h:SE l p n)(hb:b∈l)(ho:opn p b=true)(hl:∀x∈l,opn p x=true->¬jD x b<0):SE l (p++[b]) (n+1):=by
 have hab:∀y,p.getLast? =some y->fo y b<0:=λy hy=>by
  unfold opn at ho;rw[hy]at ho;exact NJ.1 (ko ho)
 refine⟨VY.2 ⟨h.inc,List.pairwise_singleton ..,λa ha b' hb'=>?_⟩,λr hr=>?_,λx hx hc=>?_,?_⟩
 .rw[bA.1 hb'];cases e:p.getLast? with
  |none=>rw[List.getLast?_eq_none_iff.1 e]at ha;cases ha
  |some y=>
   have h2:=hab y e;rcases aan h.inc e a ha with rfl|h1
   .exact h2
   .exact NB h1 h2
 .rcases fq.1 hr with hr|hr
  .exact h.sub r hr
  .rw[bA.1 hr];exact hb
 .rw[SC]at hc;have hc:=uZ hc;cases e:opn p x with
  |true=>
   have h1:=hl x hx e;rw[Sy]at h1;refine⟨b,s7,?_,?_⟩
   .by_cases h2:fo x b<0
    .exact absurd (.inl h2) h1
    .omega
   .intro h2;by_cases h3:fo x b<0
    .exact h1 (.inl h3)
    .exact h1 (.inr ⟨s6,h2⟩)
  |false=>
   obtain⟨r,m,q⟩:=h.done x hx e;exact⟨r,jl _ m,q⟩
 .have:=aam (p:=opn p) (q:=opn (p++[b])) hb ho (by rw[SC];exact bY (by rw[NJ,yI];omega)) (λx hx=>by
   rw[SC]at hx;have hx:=ko hx;unfold opn;cases e:p.getLast? with
   |none=>rfl
   |some y=>exact eT (NJ.2 (NB (hab y e) (NJ.1 hx))))
  have:=h.cnt;omega
end Kd
namespace Kd
open Canon
variable{rs:ae Clue}
def aku(h:rs.Pairwise λa b=>fo a b<0):rs.Nodup:=h.imp λ{a b} hab he=>by rw[he,yI]at hab;omega
def aao{α:Type}[DecidableEq α]:∀{a b:ae α},a.Nodup->(∀x∈a,x∈b)->a.length<=b.length
 |[],_,_,_=>bM _
 |x::a,b,hn,h=>by
  obtain⟨h1,h2⟩:=Ac.1 hn;have hx:=h x (dD ..);have:=aao (b:=b.erase x) h2 λy hy=>(VX (by rintro rfl;exact h1 hy)).2 (h y (dB _ hy));rw[Pw hx]at this;have:=Pz hx;rw[nW];omega
def akv{xs:ae Clue}(h:ik xs rs):rs.length<=xs.length:=aao (aku h.inc) h.sub
end Kd
namespace Kd
open Go Go.Ideal
def SF:∀{a b:ae Int},a.Pairwise (·<·)->b.Pairwise (·<·)->(∀x,x∈a↔x∈b)->a=b
 |[],[],_,_,_=>rfl
 |[],y::b,_,_,h=>by have:=(h y).2 (dD ..);cases this
 |x::a,[],_,_,h=>by have:=(h x).1 (dD ..);cases this
 |x::a,y::b,ha,hb,h=>by
  have hxy:x=y:=by
   rcases bH.1 ((h x).1 (dD ..))with e|hx
   .exact e
   rcases bH.1 ((h y).2 (dD ..))with e|hy
   .exact e.symm
   have:=(qi.1 ha).1 y hy;have:=(qi.1 hb).1 x hx;omega
  subst hxy;rw[SF (qi.1 ha).2 (qi.1 hb).2 λz=>?_];constructor
  .intro hz;have:=(qi.1 ha).1 z hz;exact(bH.1 ((h z).1 (dB _ hz))).resolve_left s6
  .intro hz;have:=(qi.1 hb).1 z hz;exact(bH.1 ((h z).2 (dB _ hz))).resolve_left s6
variable{x:Int}{n:Nat}
def akw:x∈upTo' n↔0<=x/\x<(n:Int):=by
 unfold upTo';rw[bS];constructor
 .rintro⟨i,hi,rfl⟩;have:=sF.1 hi;omega
 .intro h;exact⟨x.toNat,sF.2 s6,s6⟩
def akx(n:Nat):(upTo' n).Pairwise (·<·):=by
 unfold upTo';exact iu
def zD(n:Nat)(p:Int->Bool):ae Int:=(upTo' n).filter p
def aky{p:Int->Bool}:x∈zD n p↔(0<=x/\x<(n:Int))/\p x=true:=by
 unfold zD;rw[ug,akw]
def SG(n:Nat)(p:Int->Bool):(zD n p).Pairwise (·<·):=List.Pairwise.filter _ (akx n)
def akz{l:ae Int}(hi:l.Pairwise (·<·)){n:Nat}{p:Int->Bool}(h:∀x,x∈l↔(0<=x/\x<(n:Int))/\p x=true):l=zD n p:=
 SF hi (SG n p) λx=>(h x).trans aky.symm
structure ati(s w h:Int)(holes:List Int):Prop where
 sh:s=1\/s=2
 wi:1<=w/\w<=16
 he:1<=h/\h<=16
 inc:holes.Pairwise (·<·)
 mem:∀x∈holes,0<=x/\x<w*h
 ne:uG w h holes≠[]
def uJ(g:bQ)(c:Int):Int×Int:=((g.cells[c.toNat]?).map (kJ g)).getD (0,0)
variable{g:bQ}{k:Nat}
def aap(h:g.cells[k]? =some x):uJ g (k:Int)=kJ g x:=by
 unfold uJ;rw[fM,h];rfl
def aaq{q:Int×(Int×Int)}:q∈bI g↔(0<=q.1/\q.1<(g.cells.length:Int))/\q.2=uJ g q.1:=by
 constructor
 .intro h;refine⟨ND q h,?_⟩;obtain⟨k,hk⟩:=yY.1 h;have h1:=Be hk;have hkl:=(aV.1 hk).1;rw[tH]at hkl;have hx:g.cells[k]? =some g.cells[k]:=bG hkl;rw[CQ hx]at hk;have hk:=Option.some.inj hk;rw[h1,aap hx,<- hk]
 .rintro⟨⟨h1,h2⟩,h3⟩;have hkl:q.1.toNat<g.cells.length:=by omega
  have hx:g.cells[q.1.toNat]? =some g.cells[q.1.toNat]:=bG hkl;have h4:=CQ hx;rw[show((q.1.toNat:Nat):Int)=q.1 by omega]at h4;have h5:uJ g q.1=kJ g g.cells[q.1.toNat]:=by
   have:=aap hx
   rwa [show((q.1.toNat:Nat):Int)=q.1 by omega]at this
  rw[<- h5,<- h3]at h4;exact aT h4
def JE{α β:Type}[DecidableEq α](b:α)(v:β):∀m:ae (α×β),(upd b v m).map (·.1)=if b∈m.map (·.1)then m.map (·.1)else m.map (·.1)++[b]
 |[]=>by
  rw[if_neg s7];rfl
 |(a,u)::m=>by
  unfold upd;by_cases e:b=a
  .rw[if_pos e,if_pos w7,e];rfl
  .rw[if_neg e,fA,fA,JE b v m];by_cases h:b∈m.map (·.1)
   .rw[if_pos h,if_pos (dB _ h)]
   .rw[if_neg h,if_neg (by rw[bH,not_or];exact⟨e,h⟩)];rfl
def qb(kf:Int×Int->Int×Bool)(ps:ae (Int×(Int×Int)))(n:Int):ae Int:=(ps.filter λp=>(kf p.2).2&&decide ((kf p.2).1=n)).map (·.1)
def SH(kf:Int×Int->Int×Bool)(ps:ae (Int×(Int×Int)))(p:Int×(Int×Int))(n:Int):qb kf (ps++[p]) n=qb kf ps n++if((kf p.2).2&&decide ((kf p.2).1=n))=true then[p.1]else[]:=by
 unfold qb;rw[Fh,cB];congr 1;rw[Dz];split<;>simp
def aar(kf:Int×Int->Int×Bool)(m:Nat):∀ps:ae (Int×(Int×Int)),ps.length=m->((j5 kf ps).map (·.1)).Nodup/\∀n,(n∈(j5 kf ps).map (·.1)↔qb kf ps n≠[])/\(dF n (j5 kf ps)).getD []=qb kf ps n:=by
 induction m with
 |zero=>
  intro ps h;rw[j6.1 h];exact⟨Ae,λn=>⟨by simp[j5,qb],rfl⟩⟩
 |succ m ih=>
  intro ps h;obtain⟨qs,p,rfl⟩:∃qs p,ps=qs++[p]:=⟨ps.dropLast,ps.getLast tx,(Ai _).symm⟩
  obtain⟨h1,h2⟩:=ih qs tf;rw[JM];unfold zC;cases hb:(kf p.2).2 with
  |false=>
   refine⟨h1,λn=>?_⟩;rw[SH,hb,if_neg s7,gW];exact h2 n
  |true=>
   dsimp only[cond];rw[JE];refine⟨?_,λn=>⟨?_,?_⟩⟩
   .split
    .exact h1
    .rename_i hn;rw[jA];exact⟨h1,s7,λa ha b hb'=>by rw[bA.1 hb'];exact λe=>hn (e▸ha)⟩
   .rw[SH,hb];by_cases e:(kf p.2).1=n
    .have hc:(true&&decide ((kf p.2).1=n))=true:=by simp[e]
     rw[if_pos hc];split
     .rename_i hn;rw[e]at hn;exact⟨λ_=>by simp,λ_=>hn⟩
     .rw[e];exact⟨λ_=>by simp,λ_=>nD _ (bA.2 rfl)⟩
    .have hc:¬(true&&decide ((kf p.2).1=n))=true:=by simp[e]
     rw[if_neg hc,gW];split
     .exact(h2 n).1
     .rw[fq,(h2 n).1];simp only[bA];exact⟨λh=>h.resolve_right (λx=>e x.symm),.inl⟩
   .rw[Bf,SH,hb];by_cases e:(kf p.2).1=n
    .rw[if_pos e.symm,if_pos wk,yV,(h2 _).2,e]
    .rw[if_neg (λx=>e x.symm),if_neg wk,gW];exact(h2 n).2
def akA(kf:Int×Int->Int×Bool)(n:Int):qb kf (bI g) n=zD g.cells.length λc=>(kf (uJ g c)).2&&decide ((kf (uJ g c)).1=n):=by
 refine akz ?_ λc=>?_
 .unfold qb;rw[DI];refine List.Pairwise.filter _ ?_;rw[yZ];intro i j hi hj hij;have h1:=Be (bG hi);have h2:=Be (bG hj);rw[h1,h2];omega
 .unfold qb;rw[bS];constructor
  .rintro⟨p,hp,rfl⟩;obtain⟨h1,h2⟩:=ug.1 hp;obtain⟨h3,h4⟩:=aaq.1 h1;rw[<- h4];exact⟨h3,h2⟩
  .rintro⟨h1,h2⟩;exact⟨(c,uJ g c),ug.2 ⟨aaq.2 ⟨h1,rfl⟩,h2⟩,rfl⟩
def dJ(lo:Int)(k:Nat):ae Int:=(List.range k).map λi:Nat=>lo+(i:Int)
def akB(lo:Int)(k:Nat):dJ lo (k+1)=dJ lo k++[lo+(k:Int)]:=by
 unfold dJ;rw[Ag,cB];rfl
def akC{lo:Int}:x∈dJ lo k↔lo<=x/\x<lo+(k:Int):=by
 unfold dJ;rw[bS];constructor
 .rintro⟨i,hi,rfl⟩;have:=sF.1 hi;omega
 .intro h;exact⟨(x - lo).toNat,sF.2 s6,s6⟩
def akD(lo:Int)(k:Nat):(dJ lo k).Pairwise (·<·):=by
 unfold dJ;exact iu
def JR(L:Int->ae Int)(lo:Int)(k:Nat):ae (ae Int):=((dJ lo k).map L).filter λl=>!l.isEmpty
def akE(L:Int->ae Int)(lo:Int)(k:Nat):JR L lo (k+1)=JR L lo k++if L (lo+(k:Int))=[]then[]else[L (lo+(k:Int))]:=by
 unfold JR;rw[akB,cB,Fh];congr 1;rw[l6,Dz];cases h:L (lo+(k:Int))with
 |nil=>rfl
 |cons x l=>simp
def akF(kf:Int×Int->Int×Bool){lo:Int}{k:Nat}(hk:∀p∈bI g,(kf p.2).2=true->lo<=(kf p.2).1/\(kf p.2).1<lo+(k:Int)):lc g kf=JR (qb kf (bI g)) lo k:=by
 obtain⟨h1,h2⟩:=aar kf _ (bI g) rfl;have h3:bK ((j5 kf (bI g)).map (·.1))=(dJ lo k).filter λn=>!(qb kf (bI g) n).isEmpty:=by
  refine SF (Sv h1) (List.Pairwise.filter _ (akD lo k)) λn=>?_;rw[GA,(h2 n).1,ug,akC];have hne:((!(qb kf (bI g) n).isEmpty)=true)↔qb kf (bI g) n≠[]:=by
   cases qb kf (bI g) n<;>simp
  rw[hne];refine⟨λh=>⟨?_,h⟩,λh=>h.2⟩;obtain⟨c,hc⟩:=List.exists_mem_of_ne_nil _ h;unfold qb at hc;obtain⟨p,hp,_⟩:=bS.1 hc;obtain⟨hp1,hp2⟩:=ug.1 hp;simp only[eP,z8]at hp2;rw[<- hp2.2];exact hk p hp1 hp2.1
 unfold lc JR;rw[h3,List.filter_map];refine sD λn _=>?_;exact(h2 n).2
def aas(c:Int×Int->Bool):lc g (λs=>(0,c s))=if zD g.cells.length (λb=>c (uJ g b))=[]then[]else[zD g.cells.length λb=>c (uJ g b)]:=by
 rw[akF (lo:=0) (k:=1) (λs=>(0,c s)) (λp _ _=>⟨Int.le_refl 0,s6⟩)];rw[show(1:Nat)=0+1 from rfl,akE];have e:qb (λs=>(0,c s)) (bI g) (0+((0:Nat):Int))=zD g.cells.length λb=>c (uJ g b):=by
  rw[akA];congr 1;funext b
  simp
 rw[e];rfl
end Kd
namespace Kd
open Go Go.Ideal Canon
structure bD(n:Nat)(p:List Int):Prop where
 len:p.length=n
 dJ:∀x∈p,0<=x/\x<(n:Int)
 nd:p.Nodup
variable{p:ae Int}{c:Int}
def oQ(h0:0<=c)(h1:c<p.length):p[c.toNat]? =some (aH p c):=by
 unfold aH;rw[List.getD,bG s6];rfl
def SI(h0:0<=c)(h1:c<p.length):aH p c∈p:=aT (oQ h0 h1)
variable{n:Nat}
def bD.at_(h:bD n p){c:Int}(h0:0<=c)(h1:c<(n:Int)):0<=aH p c/\aH p c<(n:Int):=h.dJ _ (SI h0 (by rw[h.len];exact h1))
variable{α:Type}
def GH{p:ae α}(h:p.Nodup){i j:Nat}{x:α}(hi:p[i]? =some x)(hj:p[j]? =some x):i=j:=by
 obtain⟨h1,h2⟩:=aV.1 hi;obtain⟨h3,h4⟩:=aV.1 hj;rcases VW i j with hl|hl|hl
 .exact absurd (h2.trans h4.symm) (yZ.1 h i j h1 h3 hl)
 .exact hl
 .exact absurd (h4.trans h2.symm) (yZ.1 h j i h3 h1 hl)
def bD.inj(h:bD n p){a b:Int}(a0:0<=a)(a1:a<(n:Int))(b0:0<=b)(b1:b<(n:Int))(e:aH p a=aH p b):a=b:=by
 have h1:=oQ (p:=p) a0 (by rw[h.len];exact a1);have h2:=oQ (p:=p) b0 (by rw[h.len];exact b1);rw[e]at h1;have:=GH h.nd h1 h2;omega
def bD.mem(h:bD n p){y:Int}(y0:0<=y)(y1:y<(n:Int)):y∈p:=by
 apply Classical.byContradiction;intro hn;have h1:=NH (l:=p) (m:=(upTo' n).erase y) h.nd (λx hx=>by
  have hne:x≠y:=λe=>hn (e▸hx);refine(VX hne).2 ?_;have:=h.dJ x hx;unfold upTo';exact bS.2 ⟨x.toNat,sF.2 s6,s6⟩)
 have hy:y∈upTo' n:=by
  unfold upTo';exact bS.2 ⟨y.toNat,sF.2 s6,s6⟩
 have h2:=Pw hy;have h3:0<(upTo' n).length:=Pz hy;rw[kK]at h2 h3;have h4:=h.len;omega
def bD.onto(h:bD n p){y:Int}(y0:0<=y)(y1:y<(n:Int)):∃c,0<=c/\c<(n:Int)/\aH p c=y:=by
 obtain⟨i,hi⟩:=iM (h.mem y0 y1);have:=(aV.1 hi).1;have h4:=h.len;refine⟨(i:Int),s6,s6,iW hi⟩
def bC(a b:ae Int):ae Int:=b.map (aH a)
def cz(p:ae Int):ae Int:=(List.range p.length).map λy:Nat=>((p.idxOf (y:Int):Nat):Int)
variable{a b:ae Int}
def xk(h0:0<=c)(h1:c<b.length):aH (bC a b) c=aH a (aH b c):=by
 unfold bC;have h:=oQ h0 h1;have h2:(b.map (aH a))[c.toNat]? =some (aH a (aH b c)):=by rw[bU,h];rfl
 show(b.map (aH a)).getD c.toNat 0=_;exact gJ h2
variable{l:ae Int}
def SK{f:Int->Int}(h:l.Nodup)(hf:∀a∈l,∀b∈l,f a=f b->a=b):(l.map f).Nodup:=by
 unfold List.Nodup;rw[DI];exact List.Pairwise.imp_of_mem (λha hb hne e=>hne (hf _ ha _ hb e)) h
def bD.comp(ha:bD n a)(hb:bD n b):bD n (bC a b):=by
 refine⟨by unfold bC;rw[aR];exact hb.len,λx hx=>?_,?_⟩
 .unfold bC at hx;obtain⟨y,hy,rfl⟩:=bS.1 hx;have:=hb.dJ y hy;exact ha.at_ this.1 this.2
 .unfold bC;exact SK hb.nd λx hx y hy e=>ha.inj (hb.dJ x hx).1 (hb.dJ x hx).2 (hb.dJ y hy).1 (hb.dJ y hy).2 e
def CW(p:ae Int):(cz p).length=p.length:=by unfold cz;rw[aR,nG]
def akG{y:Int}(h0:0<=y)(h1:y<p.length):aH (cz p) y=((p.idxOf y:Nat):Int):=by
 obtain⟨m,rfl⟩:=gV h0;apply iW;unfold cz;rw[bU,oI s6];rfl
def bD.idx(h:bD n p){c:Int}(h0:0<=c)(h1:c<(n:Int)):((p.idxOf (aH p c):Nat):Int)=c:=by
 have hg:=oQ (p:=p) h0 (by rw[h.len];exact h1);have hm:=aT hg;have hl:=List.idxOf_lt_length_iff.2 hm;have h2:p[p.idxOf (aH p c)]? =some (aH p c):=by
  rw[bG hl,List.getElem_idxOf]
 have:=GH h.nd hg h2;omega
def bD.uK(h:bD n p){c:Int}(h0:0<=c)(h1:c<(n:Int)):aH (cz p) (aH p c)=c:=by
 have:=h.at_ h0 h1;rw[akG this.1 (by rw[h.len];exact this.2),h.idx h0 h1]
def bD.GI(h:bD n p){y:Int}(h0:0<=y)(h1:y<(n:Int)):aH p (aH (cz p) y)=y:=by
 obtain⟨c,c0,c1,rfl⟩:=h.onto h0 h1;rw[h.uK c0 c1]
def bD.inv(h:bD n p):bD n (cz p):=by
 refine⟨by rw[CW];exact h.len,λx hx=>?_,?_⟩
 .obtain⟨i,hi⟩:=iM hx;have hl:=(aV.1 hi).1;rw[CW,h.len]at hl;obtain⟨c,c0,c1,hc⟩:=h.onto (y:=(i:Int)) s6 s6;have:=h.uK c0 c1;rw[hc,iW hi]at this;omega
 .unfold cz;unfold List.Nodup;rw[DI];refine List.Pairwise.imp_of_mem (λ{a b} ha hb hne e=>hne ?_) List.nodup_range;have ha:=sF.1 ha;have hb:=sF.1 hb;rw[h.len]at ha hb;obtain⟨c,c0,c1,hc⟩:=h.onto (y:=(a:Int)) s6 s6;obtain⟨d,d0,d1,hd⟩:=h.onto (y:=(b:Int)) s6 s6;rw[<- hc,<- hd,h.idx c0 c1,h.idx d0 d1]at e;rw[e,hd]at hc;omega
def bD.ident(n:Nat):bD n (upTo' n):=by
 refine⟨kK n,λx hx=>?_,JP n⟩;obtain⟨i,hi⟩:=iM hx;have hl:=(aV.1 hi).1;rw[kK]at hl;rw[aaf hi];omega
def uL(h0:0<=c)(h1:c<(n:Int)):aH (upTo' n) c=c:=by
 have h:=oQ (p:=upTo' n) h0 (by rw[kK];exact h1);have:=aaf h;omega
def yJ{α:Type}(f:α->α):Nat->α->α
 |0,x=>x
 |t+1,x=>f (yJ f t x)
def NK{m:Nat}{f:Nat->Nat}(hf:∀i,i<m->f i<m):∀t x,x<m->yJ f t x<m
 |0,_,h=>h
 |t+1,x,h=>hf _ (NK hf t x h)
variable{m:Nat}{f:Nat->Nat}
def akH(hf:∀i,i<m->f i<m){j:Nat}(hj:j<m):∃a b,a<b/\yJ f a j=yJ f b j:=by
 apply Classical.byContradiction;intro hno;have h:=Sm m ((List.range (m+1)).map λt=>((yJ f t j:Nat):Int)) (by
  unfold List.Nodup;rw[DI];exact List.pairwise_lt_range.imp (λ{a b} hab e=>hno ⟨a,b,hab,Int.ofNat.inj e⟩)) (λx hx=>by
  obtain⟨t,_,rfl⟩:=bS.1 hx;have:=NK hf t j hj;omega)
 rw[aR,nG]at h;omega
def SL{L:Nat->α}{S:α->α}{R:α->α->Prop}{D:α->Prop}(hD:∀i,i<m->D (L i))(hDS:∀x,D x->D (S x))(hr:∀x,R x x)(hs:∀x y,R x y->R y x)(ht:∀x y z,R x y->R y z->R x z)
 (hS:∀x y,D x->D y->(R (S x) (S y)↔R x y)) (hf:∀i,i<m->f i<m/\R (L (f i)) (S (L i))) {j:Nat} (hj:j<m):∃i,i<m/\R (L j) (S (L i)):=by
 have hf1:∀i,i<m->f i<m:=λi hi=>(hf i hi).1;have NL:∀t,D (yJ S t (L j)):=λt=>by
  induction t with
  |zero=>exact hD j hj
  |succ t ih=>exact hDS _ ih
 have key:∀t,R (L (yJ f t j)) (yJ S t (L j)):=λt=>by
  induction t with
  |zero=>exact hr _
  |succ t ih=>
   have hl:=NK hf1 t j hj;exact ht _ _ _ (hf _ hl).2 ((hS _ _ (hD _ hl) (NL t)).2 ih)
 have cancel:∀a d,R (yJ S a (L j)) (yJ S (a+d) (L j))->R (L j) (yJ S d (L j)):=λa d=>by
  induction a with
  |zero=>intro h;rw[eB]at h;exact h
  |succ a ih=>
   intro h;rw[Nat.succ_add]at h;exact ih ((hS _ _ (NL _) (NL _)).1 h)
 obtain⟨a,b,hab,e⟩:=akH hf1 hj;have h1:=key a;have h2:=key b;rw[e]at h1;obtain⟨d,rfl⟩:∃d,b=a+(d+1):=⟨b - a - 1,s6⟩
 have h3:=cancel a (d+1) (ht _ _ _ (hs _ _ h1) h2);have hl:=NK hf1 d j hj;exact⟨_,hl,ht _ _ _ h3 (hs _ _ ((hS _ _ (hD _ hl) (NL d)).2 (key d)))⟩
def img(s:ae Int)(l:ae Int):ae Int:=l.map (aH s)
def iY(n:Nat)(l:ae Int):Prop:=∀c∈l,0<=c/\c<(n:Int)
def EF(s l:ae Int):(img s l).length=l.length:=by unfold img;rw[aR]
variable{s:ae Int}
def iY.img(h:bD n s){l:ae Int}(hl:iY n l):iY n (img s l):=by
 intro c hc;unfold Kd.img at hc;obtain⟨x,hx,rfl⟩:=bS.1 hc;exact h.at_ (hl x hx).1 (hl x hx).2
def aat{n:Nat}{s:ae Int}(h:bD n s):∀{a b:ae Int},iY n a->iY n b->img s a=img s b->a=b
 |[],[],_,_,_=>rfl
 |[],_::_,_,_,e=>by cases e
 |_::_,[],_,_,e=>by cases e
 |x::a,y::b,ha,hb,e=>by
  unfold img at e;rw[fA,fA]at e;injection e with e1 e2;have hx:=ha x (dD ..);have hy:=hb y (dD ..);rw[h.inj hx.1 hx.2 hy.1 hy.2 e1,aat h (λc hc=>ha c (dB _ hc)) (λc hc=>hb c (dB _ hc)) e2]
def EG(h:bD n s){l:ae Int}(hl:iY n l):img (cz s) (img s l)=l:=by
 unfold img;rw[rG];conv=>rhs;rw[<- BX l]
 exact sD λc hc=>h.uK (hl c hc).1 (hl c hc).2
def akJ(h:bD n s){l:ae Int}(hl:iY n l):img s (img (cz s) l)=l:=by
 unfold img;rw[rG];conv=>rhs;rw[<- BX l]
 exact sD λc hc=>h.GI (hl c hc).1 (hl c hc).2
def JS(hl:iY b.length l):img (bC a b) l=img a (img b l):=by
 unfold img;rw[rG];exact sD λc hc=>xk (hl c hc).1 (hl c hc).2
def NM(s:ae Int){a b:ae Int}(h:a.Perm b):(img s a).Perm (img s b):=h.map _
def akK(h:bD n s){a b:ae Int}(ha:iY n a)(hb:iY n b)(e:(img s a).Perm (img s b)):a.Perm b:=by
 have:=NM (cz s) e
 rwa [EG h ha,EG h hb]at this
def NN(s l:ae Int):img s l.reverse=(img s l).reverse:=by unfold img;rw[List.map_reverse]
def akL(h:bD n s){l:ae Int}(hl:iY n l)(hn:l.Nodup):(img s l).Nodup:=by
 unfold img;exact SK hn λa ha b hb e=>h.inj (hl a ha).1 (hl a ha).2 (hl b hb).1 (hl b hb).2 e
def NP(l:ae Int):(bK l).Perm l:=Ah l _
def NQ:bK a=bK b↔a.Perm b:=by
 constructor
 .intro e;exact(NP a).symm.trans (e▸NP b)
 .intro h;exact List.Perm.eq_of_pairwise (λx y _ _ h1 h2=>Int.le_antisymm h1 h2) (Su a) (Su b) ((NP a).trans (h.trans (NP b).symm))
end Kd
namespace Kd
open Go Go.Ideal Canon
def lg(f:Int):Bool:=decide (f=0)||decide (f=4)||decide (f=5)
def xm(L:ae (ae Int))(w:ae Int):Int:=match L.findIdx? (λx=>decide (bK x=bK w))with
 |some i=>(i:Int)
 |none=> -1
def iQ(L:ae (ae Int))(s:ae Int)(f at_:Int):Int:=if lg f then aH s at_ else xm L (img s (L.getD at_.toNat []))
def kL(a b:ae Int):Bool:=decide (bK a=bK b)
def zF(a b:ae Int):Bool:=decide (a=b)
def xq(a b:ae Int):Bool:=decide (a=b)||decide (a=b.reverse)
def qD(L:ae (ae Int))(s:ae Int)(f:Int)(eq:ae Int->ae Int->Bool)(l:ae Int)(j:Nat):Bool:=
 decide (0<=iQ L s f (j:Int))&&(kL (L.getD (iQ L s f (j:Int)).toNat []) (img s l)&&eq (L.getD (iQ L s f (j:Int)).toNat []) (img s l))
def kP(L:ae (ae Int))(s:ae Int)(f:Int)(eq:ae Int->ae Int->Bool):Bool:=L.zipIdx.all λx=>qD L s f eq x.1 x.2
def ow(aP:ae (ae Int))(s:ae Int):Bool:=aP.zipIdx.all λx=>x.1.all λb=>decide (aH s b∈aP.getD (aH s (x.2:Int)).toNat [])
def pJ(vals t:ae Int):Bool:=t.zipIdx.all λx=>decide (aH vals (x.2:Int)=aH vals x.1)
def rX(set other:Nat)(t:ae Int):Bool:=t.zipIdx.all λx=>decide (set.testBit x.2=set.testBit x.1.toNat)&&decide (other.testBit x.2=other.testBit x.1.toNat)
def CY(L:ae (ae Int)):Prop:=∀(i j:Nat) (a b:ae Int),L[i]? =some a->L[j]? =some b->a.Perm b->i=j
def uM{α:Type}{l:ae α}{p:α×Nat->Bool}:l.zipIdx.all p=true↔∀(i:Nat) x,l[i]? =some x->p (x,i)=true:=by
 rw[jy];constructor
 .intro h i x hx;exact h (x,i) (BZ.2 hx)
 .rintro h ⟨x,i⟩ hx;exact h i x (BZ.1 hx)
variable{a b:ae Int}
def EH:kL a b=true↔a.Perm b:=by unfold kL;rw[jQ];exact NQ
def GJ:xq a b=true↔a=b\/a=b.reverse:=by
 unfold xq;rw[xM,jQ,jQ]
variable{L:ae (ae Int)}{w:ae Int}
def SN(h:0<=xm L w):∃l,L[(xm L w).toNat]? =some l/\l.Perm w:=by
 unfold xm at h⊢;cases hf:L.findIdx? (λx=>decide (bK x=bK w))with
 |none=>rw[hf]at h;exact absurd h td
 |some i=>
  obtain⟨h1,h2,_⟩:=adQ.1 hf;refine⟨L[i],?_,NQ.1 (ko h2)⟩;show L[((i:Nat):Int).toNat]? =_;rw[fM];exact bG h1
variable{i:Nat}
def akM{l:ae Int}(hD:CY L)(h:L[i]? =some l)(hp:l.Perm w):xm L w=(i:Int):=by
 have h0:0<=xm L w:=by
  unfold xm;cases hf:L.findIdx? (λx=>decide (bK x=bK w))with
  |none=>
   have:=VZ.1 hf l (aT h);rw[decide_eq_false_iff_not]at this;exact absurd (NQ.2 hp) this
  |some j=>show(0:Int)<=(j:Int);omega
 obtain⟨l',h1,h2⟩:=SN h0;have:=hD _ _ _ _ h h1 (hp.trans h2.symm);omega
structure qX(n:Nat)(L:List (List Int))(f:Int):Prop where
 dJ:∀l∈L,iY n l
 len:lg f=true->L.length=n
 dis:lg f=false->CY L
def Goes(L:ae (ae Int))(s:ae Int)(f:Int)(eq:ae Int->ae Int->Bool)(j i:Nat):Prop:=
 ∃l l',L[j]? =some l/\L[i]? =some l'/\l'.Perm (img s l)/\eq l' (img s l)=true/\(lg f=true->(i:Int)=aH s (j:Int))
variable{n j:Nat}{s:ae Int}{f:Int}{eq:ae Int->ae Int->Bool}
def Goes.iQ(hK:qX n L f)(h:Goes L s f eq j i):iQ L s f (j:Int)=(i:Int):=by
 obtain⟨l,l',h1,h2,h3,h4,h5⟩:=h;unfold Kd.iQ;cases hb:lg f with
 |true=>rw[if_pos rfl];exact(h5 hb).symm
 |false=>
  rw[if_neg s7,fM,gJ h1];exact akM (hK.dis hb) h2 h3
def CZ(hK:qX n L f)(hs:bD n s):kP L s f eq=true↔∀j,j<L.length->∃i,Goes L s f eq j i:=by
 unfold kP;rw[uM];constructor
 .intro h j hj;have hl:L[j]? =some L[j]:=bG hj;have h1:=h j _ hl;dsimp only at h1;unfold qD at h1;rw[eP,eP,jQ,EH]at h1;obtain⟨a1,a2,a3⟩:=h1;have hlt:(iQ L s f (j:Int)).toNat<L.length:=by
   cases hb:lg f with
   |true=>
    have hn:=hK.len hb;have:Kd.iQ L s f (j:Int)=aH s (j:Int):=by unfold Kd.iQ;rw[if_pos hb]
    rw[this];have:=hs.at_ (c:=(j:Int)) s6 s6;omega
   |false=>
    have e:Kd.iQ L s f (j:Int)=xm L (img s (L.getD (j:Int).toNat [])):=by unfold Kd.iQ;rw[if_neg (by rw[hb];simp)]
    rw[e]at a1⊢;obtain⟨l,h2,_⟩:=SN a1;exact(aV.1 h2).1
  have hl':L[(iQ L s f (j:Int)).toNat]? =some L[(iQ L s f (j:Int)).toNat]:=bG hlt;rw[gJ hl']at a2 a3;refine⟨_,_,_,hl,hl',a2,a3,λhb=>?_⟩;have:Kd.iQ L s f (j:Int)=aH s (j:Int):=by unfold Kd.iQ;rw[if_pos hb]
  omega
 .intro h j l hl;obtain⟨i,hg⟩:=h j (aV.1 hl).1;have hw:=hg.iQ hK;obtain⟨l0,l',h1,h2,h3,h4,h5⟩:=hg;rw[hl]at h1;cases h1;unfold qD;dsimp only;rw[hw,fM,gJ h2,h4,EH.2 h3];simp
def Goes.lt(h:Goes L s f eq j i):j<L.length/\i<L.length:=by
 obtain⟨l,l',h1,h2,_⟩:=h;exact⟨(aV.1 h1).1,(aV.1 h2).1⟩
def Goes.inj{eq':ae Int->ae Int->Bool}{j':Nat}(hK:qX n L f)(hs:bD n s)(h:Goes L s f eq j i)(h':Goes L s f eq' j' i):j=j':=by
 have hl:=h.lt;have hl':=h'.lt;obtain⟨a,b,h1,h2,h3,h4,h5⟩:=h;obtain⟨a',b',k1,k2,k3,k4,k5⟩:=h';rw[h2]at k2;cases k2;cases hb:lg f with
 |true=>
  have hn:=hK.len hb;have:=hs.inj (a:=(j:Int)) (b:=(j':Int)) s6 s6 s6 s6 ((h5 hb).symm.trans (k5 hb));omega
 |false=>exact hK.dis hb _ _ _ _ h1 k1 (akK hs (hK.dJ _ (aT h1)) (hK.dJ _ (aT k1)) (h3.symm.trans k3))
def akN(hK:qX n L f)(hs:bD n s)(h:∀j,j<L.length->∃i,Goes L s f eq j i){i:Nat}(hi:i<L.length):∃j,Goes L s f eq j i:=by
 have hc:∀j,∃i,j<L.length->Goes L s f eq j i:=λj=>by
  by_cases hj:j<L.length
  .obtain⟨i,hg⟩:=h j hj;exact⟨i,λ_=>hg⟩
  .exact⟨0,λh=>absurd h hj⟩
 have hf:∀j,j<L.length->Goes L s f eq j (Classical.choose (hc j)):=λj=>Pv (hc j);obtain⟨j,hj,e⟩:=SL (m:=L.length) (L:=λi:Nat=>i) (S:=λj=>if j<L.length then Classical.choose (hc j)else j) (R:=λa b:Nat=>a=b) (D:=λj=>j<L.length) (f:=λj=>if j<L.length then Classical.choose (hc j)else j)
  (λi hi=>hi) (λx hx=>by rw[if_pos hx];exact(hf x hx).lt.2) (λ_=>rfl) (λ_ _ e=>e.symm) (λ_ _ _ e e'=>e.trans e')
  (λx y hx hy=>by
    rw[if_pos hx,if_pos hy];constructor
    .intro e;have h2:=hf y hy;rw[<- e]at h2;exact(hf x hx).inj hK hs h2
    .intro e;rw[e])
  (λi hi=>⟨by rw[if_pos hi];exact(hf i hi).lt.2,rfl⟩) hi
 rw[if_pos hj]at e;refine⟨j,?_⟩;rw[e];exact hf j hj
def xu(n:Nat)(aP:ae (ae Int)):Prop:=aP.length=n/\∀l∈aP,iY n l
def Nb(aP:ae (ae Int))(a b:Int):Prop:=∃l,0<=a/\aP[a.toNat]? =some l/\b∈l
variable{aP:ae (ae Int)}
def GK(hN:xu n aP)(hs:bD n s):ow aP s=true↔∀a b,Nb aP a b->Nb aP (aH s a) (aH s b):=by
 unfold ow;rw[uM];constructor
 .rintro h a b ⟨l,h0,h1,h2⟩;have hl:=(aV.1 h1).1;have h3:=h _ _ h1;rw[jy]at h3;have h4:=ko (h3 b h2);rw[wE h0]at h4;have hn:=hN.1;have hr:=hs.at_ h0 (by omega:a<(n:Int));have h5:aP[(aH s a).toNat]? =some (aP[(aH s a).toNat]'(s6)):=bG _;rw[gJ h5]at h4;exact⟨_,hr.1,h5,h4⟩
 .intro h i l hl;rw[jy];intro b hb;have h1:=h (i:Int) b ⟨l,s6,by rw[fM];exact hl,hb⟩;obtain⟨l',_,h3,h4⟩:=h1;rw[gJ h3];exact eT h4
def Nb.dJ(hN:xu n aP){a b:Int}(h:Nb aP a b):(0<=a/\a<(n:Int))/\0<=b/\b<(n:Int):=by
 obtain⟨l,h0,h1,h2⟩:=h;have hl:=(aV.1 h1).1;have:=hN.1;exact⟨⟨h0,s6⟩,hN.2 l (aT h1) b h2⟩
def uN(aP:ae (ae Int)):ae (Int×Int):=aP.zipIdx.flatMap λx=>x.1.map λb=>((x.2:Int),b)
def SQ{a b:Int}:(a,b)∈uN aP↔Nb aP a b:=by
 unfold uN;rw[Py];constructor
 .rintro⟨⟨l,i⟩,hx,h⟩;obtain⟨c,hc,e⟩:=bS.1 h;cases e;have:=BZ.1 hx;exact⟨l,s6,by rw[fM];exact this,hc⟩
 .rintro⟨l,h0,h1,h2⟩;refine⟨(l,a.toNat),BZ.2 h1,bS.2 ⟨b,h2,?_⟩⟩;rw[wE h0]
def aav(hN:xu n aP)(hs:bD n s)(h:∀a b,Nb aP a b->Nb aP (aH s a) (aH s b)){a b:Int}(hab:Nb aP a b):∃c d,Nb aP c d/\aH s c=a/\aH s d=b:=by
 have hmem:=SQ.2 hab;obtain⟨j,hj⟩:=iM hmem;have hjl:=(aV.1 hj).1;have hnb:∀i,i<(uN aP).length->Nb aP ((uN aP).getD i (0,0)).1 ((uN aP).getD i (0,0)).2:=λi hi=>by
  have hx:(uN aP)[i]? =some (uN aP)[i]:=bG hi;rw[gJ hx];exact SQ.1 (aT hx)
 have hc:∀i,∃i',i<(uN aP).length->(uN aP)[i']? =some (aH s ((uN aP).getD i (0,0)).1,aH s ((uN aP).getD i (0,0)).2):=λi=>by
  by_cases hi:i<(uN aP).length
  .obtain⟨i',hi'⟩:=iM (SQ.2 (h _ _ (hnb i hi)));exact⟨i',λ_=>hi'⟩
  .exact⟨0,λh=>absurd h hi⟩
 obtain⟨i,hi,e⟩:=SL (m:=(uN aP).length) (L:=λi:Nat=>(uN aP).getD i (0,0)) (S:=λp:Int×Int=>(aH s p.1,aH s p.2)) (R:=λa b=>a=b) (D:=λp=>(0<=p.1/\p.1<(n:Int))/\0<=p.2/\p.2<(n:Int)) (f:=λi=>Classical.choose (hc i))
  (λi hi=>(hnb i hi).dJ hN) (λp hp=>⟨hs.at_ hp.1.1 hp.1.2,hs.at_ hp.2.1 hp.2.2⟩) (λ_=>rfl) (λ_ _ e=>e.symm) (λ_ _ _ e e'=>e.trans e')
  (λx y hx hy=>by
    constructor
    .intro e;obtain⟨x1,x2⟩:=x;obtain⟨y1,y2⟩:=y;dsimp only at e hx hy;injection e with e1 e2;rw[hs.inj hx.1.1 hx.1.2 hy.1.1 hy.1.2 e1,hs.inj hx.2.1 hx.2.2 hy.2.1 hy.2.2 e2]
    .intro e;rw[e])
  (λi hi=>by
    exact r8) hjl
 rw[gJ hj]at e;injection e with e1 e2;exact⟨_,_,hnb i hi,e1.symm,e2.symm⟩
end Kd
namespace Kd
open Go Go.Ideal Canon Gph
def Bi:Nat->ae Bool->ae Int
 |n,[]=>if 0<n then[(n:Int)]else[]
 |n,b::bs=>if b then Bi (n+1) bs else if 0<n then(n:Int)::Bi 0 bs else Bi 0 bs
def akO(n:Nat)(l:ae Bool):Bi n (true::l)=Bi (n+1) l:=rfl
def akP(n:Nat)(l:ae Bool):Bi n (false::l)=if 0<n then(n:Int)::Bi 0 l else Bi 0 l:=rfl
variable{g:ae (ae Int)}
def Nb.rch{bJ:ae Bool}{s a b:Int}(h:mX g bJ s a)(hab:Nb g a b)(hi:eY bJ b=true):mX g bJ s b:=by
 obtain⟨l,h0,h1,h2⟩:=hab;exact .step h h1 h2 hi
variable{mk mk':ae Bool}{n:Nat}{s:ae Int}
def akQ(hN:xu n g)(hmk:∀c,0<=c->c<(n:Int)->eY mk' (aH s c)=eY mk c)(hnb:∀a b,Nb g a b->Nb g (aH s a) (aH s b)){a b:Int}(ha:0<=a/\a<(n:Int))(h:mX g mk a b):(0<=b/\b<(n:Int))/\mX g mk' (aH s a) (aH s b):=by
 induction h with
 |refl=>exact⟨ha,.refl⟩
 |step h hl hn hi ih=>
  rename_i i m l;have hab:Nb g i m:=⟨l,ih.1.1,hl,hn⟩
  have hr:=hab.dJ hN;exact⟨hr.2,(hnb _ _ hab).rch ih.2 (by rw[hmk _ hr.2.1 hr.2.2];exact hi)⟩
def Joined(g:ae (ae Int))(mk:ae Bool):Prop:=∀a b:Nat,a<g.length->b<g.length->eY mk a=true->eY mk b=true->mX g mk a b
def SS{mk:ae Bool}:∀(n a:Nat),a<n->eY mk a=true->∃f,f<n/\eY mk (f:Nat)=true/\∀j,j<f->eY mk (j:Nat)=false
 |0,a,h,_=>by omega
 |n+1,a,h,hm=>by
  by_cases hex:∃a',a'<n/\eY mk (a':Nat)=true
  .obtain⟨a',h1,h2⟩:=hex;obtain⟨f,h3,h4⟩:=SS n a' h1 h2;exact⟨f,s6,h4⟩
  .have hno:∀j,j<n->eY mk (j:Nat)=false:=λj hj=>by
    exact oB
   have:a=n:=by
    apply Classical.byContradiction;intro hne;rw[hno a s6]at hm;cases hm
   subst this;exact⟨a,s6,hm,hno⟩
def NR{g:ae (ae Int)}{mk:ae Bool}:∀k,(∀j,j<k->eY mk (j:Nat)=false)->cnt g mk k=0
 |0,_=>rfl
 |k+1,h=>by rw[cnt,NR k (λj hj=>h j s6),if_neg (λq=>by rw[h k s6]at q;cases q.1)]
def cnt_mono{g:ae (ae Int)}{mk:ae Bool}:∀k d,cnt g mk k<=cnt g mk (k+d)
 |k,0=>aZ _
 |k,d+1=>by have:=cnt_mono (g:=g) (mk:=mk) k d;rw[<- l5,cnt];omega
def aaw{f:Nat}(hf:f<g.length)(hin:eY mk f=true)(AQ:∀j,j<f->eY mk (j:Nat)=false):1<=cnt g mk g.length:=by
 have h1:cnt g mk (f+1)=1:=by
  rw[cnt,NR f AQ,if_pos ⟨hin,λ⟨j,h1,h2,_⟩=>by rw[AQ j h1]at h2;cases h2⟩]
 have:=cnt_mono (g:=g) (mk:=mk) (f+1) (g.length - (f+1));rw[show f+1+(g.length - (f+1))=g.length by omega]at this;omega
def aax(hS:Gph.oL g):(nP g mk g.length).2=0↔∀a,a<g.length->eY mk (a:Nat)=false:=by
 rw[R7 hS.rg _ (aZ _)];constructor
 .intro h a ha;cases he:eY mk (a:Nat)with
  |false=>rfl
  |true=>
   obtain⟨f,h1,h2,h3⟩:=SS g.length a ha he;have:=aaw h1 h2 h3;omega
 .exact NR _
def aay(hS:Gph.oL g):(nP g mk g.length).2<=1↔Joined g mk:=by
 rw[R7 hS.rg _ (aZ _)];by_cases hex:∃a,a<g.length/\eY mk (a:Nat)=true
 .obtain⟨a,ha,hm⟩:=hex;obtain⟨f,h1,h2,h3⟩:=SS g.length a ha hm;have hp:=aaw h1 h2 h3;have h4:=ajN hS h1 h2 h3;constructor
  .intro h x y hx hy mx my;have h5:=h4.1 s6;exact((h5 x hx mx).symm hS ⟨s6,s6⟩ h2).trans (h5 y hy my)
  .intro h;have:=h4.2 λi hi mi=>h f i h1 hi h2 mi;omega
 .have h0:∀j,j<g.length->eY mk (j:Nat)=false:=λj hj=>by
   exact oB
  rw[NR _ h0];exact⟨λ_ x y hx _ mx _=>(by rw[h0 x hx]at mx;cases mx),λ_=>bM _⟩
def aaz(hN:xu n g)(hs:bD n s)(hmk:∀c,0<=c->c<(n:Int)->eY mk' (aH s c)=eY mk c)(hnb:∀a b,Nb g a b->Nb g (aH s a) (aH s b))(h:Joined g mk):Joined g mk':=by
 intro a b ha hb ma mb;have hn:=hN.1;obtain⟨c,c0,c1,hc⟩:=hs.onto (y:=(a:Int)) s6 s6;obtain⟨d,d0,d1,hd⟩:=hs.onto (y:=(b:Int)) s6 s6;rw[<- hc,hmk c c0 c1]at ma;rw[<- hd,hmk d d0 d1]at mb;obtain⟨cn,rfl⟩:=gV c0;obtain⟨dn,rfl⟩:=gV d0;have:=(akQ hN hmk hnb ⟨c0,c1⟩ (h cn dn s6 s6 ma mb)).2;rw[hc,hd]at this;exact this
structure yK(n:Nat)(g:List (List Int))(s:List Int)(mk mk':List Bool):Prop where
 tN:Gph.oL g
 aP:xu n g
 nd:∀l∈g,l.Nodup
 ps:bD n s
 marks:∀c,0<=c->c<(n:Int)->eY mk' (aH s c)=eY mk c
 keep:∀a b,Nb g a b->Nb g (aH s a) (aH s b)
def yK.back(h:yK n g s mk mk'):yK n g (cz s) mk' mk:=by
 refine⟨h.tN,h.aP,h.nd,h.ps.inv,λc c0 c1=>?_,λa b hab=>?_⟩
 .have:=h.ps.inv.at_ c0 c1;rw[<- h.marks _ this.1 this.2,h.ps.GI c0 c1]
 .obtain⟨c,d,hcd,rfl,rfl⟩:=aav h.aP h.ps h.keep hab;have hr:=hcd.dJ h.aP;rw[h.ps.uK hr.1.1 hr.1.2,h.ps.uK hr.2.1 hr.2.2];exact hcd
def yK.few(h:yK n g s mk mk'):(nP g mk g.length).2<=1↔(nP g mk' g.length).2<=1:=by
 rw[aay h.tN,aay h.tN];exact⟨aaz h.aP h.ps h.marks h.keep,aaz h.back.aP h.back.ps h.back.marks h.back.keep⟩
def yK.aaA(h:yK n g s mk mk')(h0:∀a,a<g.length->eY mk' (a:Nat)=false):∀a,a<g.length->eY mk (a:Nat)=false:=by
 intro a ha;have hn:=h.aP.1;have hr:=h.ps.at_ (c:=(a:Int)) s6 s6;rw[<- h.marks (a:Int) s6 s6];have:=h0 (aH s a).toNat s6
 rwa [wE hr.1]at this
def yK.zero(h:yK n g s mk mk'):(nP g mk g.length).2=0↔(nP g mk' g.length).2=0:=by
 rw[aax h.tN,aax h.tN];exact⟨h.back.aaA,h.aaA⟩
def akR{a b:ae Int}(ha:a.Nodup)(hb:b.Nodup)(h:∀x,x∈a↔x∈b):a.Perm b:=by
 refine List.perm_iff_count.2 λx=>?_;have h1:=List.nodup_iff_count.1 ha x;have h2:=List.nodup_iff_count.1 hb x;have h3:=List.count_pos_iff (a:=x) (l:=a);have h4:=List.count_pos_iff (a:=x) (l:=b);have h5:=h x;by_cases hx:x∈a
 .have:=h3.2 hx;have:=h4.2 (h5.1 hx);omega
 .have k1:¬0<List.count x a:=λq=>hx (h3.1 q);have k2:¬0<List.count x b:=λq=>hx (h5.2 (h4.1 q));omega
def SV{n:Nat}{s:ae Int}{p q:Int->Bool}:∀{l:ae Int},iY n l->(∀c,0<=c->c<(n:Int)->q (aH s c)=p c)->((img s l).filter q).length=(l.filter p).length
 |[],_,_=>rfl
 |c::l,hl,h=>by
  have hc:=hl c (dD ..);have ih:=SV (l:=l) (λx hx=>hl x (dB _ hx)) h;unfold img at ih⊢;rw[fA,Dz,Dz,h c hc.1 hc.2];split
  .rw[nW,nW,ih]
  .exact ih
def aaB(mk:ae Bool)(n:Nat):Np mk n=((upTo' n).filter (eY mk)).length:=by
 unfold Np upTo';rw[List.filter_map,aR];rfl
def yK.size(h:yK n g s mk mk'):Np mk g.length=Np mk' g.length:=by
 have hn:=h.aP.1;rw[hn,aaB,aaB];have hid:=bD.ident n;have hin:iY n (upTo' n):=λc hc=>hid.dJ c hc;have h1:=SV (n:=n) (s:=s) (p:=eY mk) (q:=eY mk') hin h.marks;have h2:(img s (upTo' n)).Perm (upTo' n):=akR (akL h.ps hin hid.nd) hid.nd λx=>by
  constructor
  .intro hx;have:=(iY.img h.ps hin) x hx;exact hid.mem this.1 this.2
  .intro hx;have:=hid.dJ x hx;obtain⟨c,c0,c1,rfl⟩:=h.ps.onto this.1 this.2;exact bS.2 ⟨c,hid.mem c0 c1,rfl⟩
 rw[<- h1,(h2.filter (eY mk')).length_eq]
end Kd
namespace Kd
open Go Go.Ideal Canon
variable{L:ae (ae Int)}
def aaC(hn:L.Nodup)(hs:∀l∈L,l.Pairwise (·<·)):CY L:=by
 intro i j a b ha hb hp;have e:a=b:=List.Perm.eq_of_pairwise (λx y _ _ h1 h2=>by omega) (hs a (aT ha)) (hs b (aT hb)) hp;subst e;exact GH hn ha hb
def akS{α:Type}{K:ae α}{F:α->ae Int}(hn:K.Nodup)(h:∀a∈K,∀b∈K,(F a).Perm (F b)->a=b):CY (K.map F):=by
 intro i j a b ha hb hp;rw[bU]at ha hb;obtain⟨x,hx,rfl⟩:=kg.1 ha;obtain⟨y,hy,rfl⟩:=kg.1 hb;have:=h x (aT hx) y (aT hy) hp;subst this;exact GH hn hx hy
variable{g:bQ}
def SX(hg:ic g)(kf:Int×Int->Int×Bool):CY (lc g kf):=by
 obtain⟨h1,h2⟩:=aar kf _ (bI g) rfl;unfold lc;refine akS (aag h1) λa ha b hb hp=>?_;rw[GA]at ha hb;rw[(h2 a).2,(h2 b).2]at hp;have hne:=(h2 a).1.1 ha;cases hl:qb kf (bI g) a with
 |nil=>exact absurd hl hne
 |cons c l=>
  have hc:c∈qb kf (bI g) a:=by rw[hl];exact dD ..
  have hc':=hp.mem_iff.1 hc;unfold qb at hc hc';obtain⟨p,hp1,hp2⟩:=bS.1 hc;obtain⟨q,hq1,hq2⟩:=bS.1 hc';obtain⟨p3,p4⟩:=ug.1 hp1;obtain⟨q3,q4⟩:=ug.1 hq1;have e:=JO hg p3 q3 (.inl (hp2.trans hq2.symm));subst e;rw[eP,jQ]at p4 q4;exact p4.2.symm.trans q4.2
def GL(h:L.length<=1):CY L:=by
 intro i j a b ha hb _;have h1:=(aV.1 ha).1;have h2:=(aV.1 hb).1;omega
def akT(hg:ic g):CY (vP g):=by
 unfold vP;split
 .exact SX hg _
 split
 .rw[aas,aas];generalize hA:zD g.cells.length (λb=>decide ((uJ g b).1=(uJ g b).2))=A;generalize hB:zD g.cells.length (λb=>decide ((uJ g b).1+(uJ g b).2=g.w - 1))=B;have iA:A.Pairwise (·<·):=by rw[<- hA];exact SG _ _
  have iB:B.Pairwise (·<·):=by rw[<- hB];exact SG _ _
  by_cases a0:A=[]
  .rw[if_pos a0];by_cases b0:B=[]
   .rw[if_pos b0];exact GL (by simp[oO])
   .rw[if_neg b0];exact GL (by simp[oO,Bg])
  .rw[if_neg a0];by_cases b0:B=[]
   .rw[if_pos b0];exact GL (by simp[oO])
   .rw[if_neg b0];by_cases e:A=B
    .refine GL ?_;simp[oO,Bg,e]
    .have:oO [A] [B]=[A,B]:=by simp[oO,Bg,e]
     rw[this];refine aaC wk λl hl=>?_;simp only[bH,Ab,or_false]at hl;rcases hl with rfl|rfl
     .exact iA
     .exact iB
 .exact GL s7
def akU(hg:ic g):CY (mH (fT g)):=by
 refine aaC ?_ λl hl=>?_
 .unfold mH;unfold List.Nodup;rw[List.pairwise_flatMap];refine⟨λx hx=>?_,?_⟩
  .have hx:=aT (BZ.1 (show(x.1,x.2)∈_ from hx));unfold oP;rw[DI];obtain⟨p,_,hp⟩:=bS.1 (show x.1∈fT g from hx);have hnd:x.1.Nodup:=by rw[<- hp];exact Sw hg p
   exact(List.Pairwise.filter _ hnd).imp λ{a b} hne e=>hne (by injection e with _ e;injection e)
  .have hz:∀(l:ae (ae Int)) (n:Nat),(l.zipIdx n).Pairwise λa b=>a.2<b.2:=by
    intro l;induction l with
    |nil=>intro n;exact List.Pairwise.nil
    |cons a l ih=>
     intro n;rw[List.zipIdx_cons,qi];refine⟨λx hx=>?_,ih (n+1)⟩;have:=List.le_snd_of_mem_zipIdx hx;show n<x.2;omega
   refine(hz (fT g) 0).imp λ{a b} h x hx y hy e=>?_;unfold oP at hx hy;obtain⟨u,_,rfl⟩:=bS.1 hx;obtain⟨v,_,rfl⟩:=bS.1 hy;injection e with e _;omega
 .obtain⟨i,x,j,_,_,h,rfl⟩:=aah hl;simp[h]
def akV(hg:ic g)(k:Int):qX g.cells.length (iP g k) k:=by
 refine⟨λl hl=>(Z9 hg k l hl).2,λhb=>?_,λhb=>?_⟩
 .unfold lg at hb;simp only[xM,jQ]at hb;rcases hb with(rfl|rfl)|rfl
  .show(pI g.cells.length).length=_;exact Si _
  .show(fT g).length=_;exact CR g
  .show(qW (fT g)).length=_;rw[ZX];exact CR g
 .unfold lg at hb;simp only[VP,decide_eq_false_iff_not]at hb;unfold iP;rw[if_neg hb.1.1];split
  .exact SX hg _
  split
  .exact SX hg _
  split
  .exact akT hg
  rw[if_neg hb.1.2,if_neg hb.2];split
  .exact akU hg
  .exact GL s7
def akW(hg:ic g){rs:ae (ae Int)}(hr:xe g rs)(hn:(rs.map bK).Nodup)(k:Int)(hk:lg k=false):qX g.cells.length (jk g rs) k:=by
 refine⟨λl hl=>(aaa hg hr l hl).2,(λhb=>by rw[hk]at hb;cases hb),λ_=>?_⟩;intro i j a b ha hb hp;unfold jk at ha hb;rw[bU]at ha hb;obtain⟨x,hx,rfl⟩:=kg.1 ha;obtain⟨y,hy,rfl⟩:=kg.1 hb;have back:∀z∈rs,(jF g z).map (λn=>g.cells.getD n.toNat 0)=z:=λz hz=>by
  unfold jF;rw[rG];conv=>rhs;rw[<- BX z]
  refine sD λc hc=>?_;have hm:=(hr.all z hz).mem c hc;have uI:g.cells.Pairwise (·<·):=A0
  obtain⟨m,hm2⟩:=iM hm;show g.cells.getD ((Bh c g.cells:Nat):Int).toNat 0=c;rw[fM,Sk uI hm2];exact gJ hm2
 have h1:=hp.map (λn=>g.cells.getD n.toNat 0);rw[back x (aT hx),back y (aT hy)]at h1;have h2:=NQ.2 h1;have h3:(rs.map bK)[i]? =some (bK x):=by rw[bU,hx];rfl
 have h4:(rs.map bK)[j]? =some (bK x):=by rw[bU,hy,h2];rfl
 exact GH hn h3 h4
def akX{d:dQ}(hg:ic (bP d))(hr:∀r∈d.regions,xe (bP d) r.lists/\(r.lists.map bK).Nodup){f:Nat}{L:ae (ae Int)}(h:(oq d)[f]? =some L):qX (bP d).cells.length L (f:Int):=by
 unfold oq at h;by_cases hf:f<8
 .rw[jL (by rw[aR,nG];exact hf),bU,oI hf]at h;cases h;exact akV hg _
 .rw[jP (by rw[aR,nG];omega),bU]at h;obtain⟨r,hr2,rfl⟩:=kg.1 h;have:=hr r (aT hr2);refine akW hg this.1 this.2 _ ?_;unfold lg;simp only[VP,decide_eq_false_iff_not];omega
end Kd
namespace Kd
open Go Go.Ideal Canon
structure zG(m:Nat)(cl:List Int):Prop where
 len:cl.length=m
 pK:∀i:Nat,i<m->0<=aH cl (i:Int)/\aH cl (i:Int)<=(i:Int)/\aH cl (aH cl (i:Int))=aH cl (i:Int)
structure jS(m:Nat)(cl t:List Int):Prop where
 p:bD m t
 c:∀v:Int,0<=v->v<(m:Int)->aH cl (aH t v)=aH cl v
def EI(cl sy:ae Int)(s:Int):ak Nat:=(List.range cl.length).find? λt:Nat=>decide (aH cl (t:Int)=aH cl s)&&!decide ((t:Int)∈sy)
def xy(cl sy:ae Int)(s:Int):ae Int:=if 0<=aH sy s then sy else match EI cl sy s with
 |none=>sy
 |some t=>sy.set s.toNat (t:Int)
def iR(cl seq:ae Int):ae Int:=seq.foldl (xy cl) (List.replicate cl.length (-1))
structure GInv(m:Nat)(cl sy:List Int):Prop where
 len:sy.length=m
 val:∀s:Int,0<=s->s<(m:Int)->aH sy s= -1\/(0<=aH sy s/\aH sy s<(m:Int)/\aH cl (aH sy s)=aH cl s)
 inj:∀s u:Int,0<=s->s<(m:Int)->0<=u->u<(m:Int)->aH sy s=aH sy u->0<=aH sy s->s=u
variable{s:Int}
def EJ{l:ae Int}{x u:Int}(s0:0<=s)(s1:s<l.length)(u0:0<=u):aH (l.set s.toNat x) u=if u=s then x else aH l u:=by
 unfold aH;by_cases e:u=s
 .subst e;rw[if_pos rfl];have hl:u.toNat<l.length:=by omega
  simp[List.getD,nY,hl]
 .rw[if_neg e];simp only[List.getD,nY];rw[if_neg s6]
variable{cl sy:ae Int}{m:Nat}
def GInv.mem(h:GInv m cl sy){t:Int}(t0:0<=t)(ht:t∈sy):∃u:Int,0<=u/\u<(m:Int)/\aH sy u=t/\aH cl t=aH cl u/\t<(m:Int):=by
 obtain⟨i,hi⟩:=iM ht;have hl:=(aV.1 hi).1;have hlen:=h.len;have e:=iW hi;refine⟨(i:Int),s6,s6,e,?_⟩;rcases h.val (i:Int) s6 (s6)with h1|h1
 .omega
 .rw[e]at h1;exact⟨h1.2.2,h1.2.1⟩
def GInv.room(hc:cl.length=m)(h:GInv m cl sy){s:Int}(s0:0<=s)(s1:s<(m:Int))(hs:aH sy s= -1):∃t,EI cl sy s=some t:=by
 cases hf:EI cl sy s with
 |some t=>exact⟨t,rfl⟩
 |none=>
  exfalso
  unfold EI at hf;rw[List.find?_eq_none]at hf;have hall:∀t:Int,0<=t->t<(m:Int)->aH cl t=aH cl s->t∈sy:=λt t0 t1 hcl=>by
   have:=hf t.toNat (sF.2 s6)
   rw[wE t0]at this;simp[hcl]at this;exact this
  have hC:∀t,t∈(upTo' m).filter (λt=>decide (aH cl t=aH cl s))↔(0<=t/\t<(m:Int))/\aH cl t=aH cl s:=λt=>by
   rw[ug,jQ];refine and_congr_left λ_=>⟨λq=>(bD.ident m).dJ t q,λq=>(bD.ident m).mem q.1 q.2⟩
  have hnd:((upTo' m).filter (λt=>decide (aH cl t=aH cl s))).Nodup:=(JP m).filter _;generalize(upTo' m).filter (λt=>decide (aH cl t=aH cl s))=C at hC hnd;have hidx:∀t∈C,sy.idxOf t<sy.length/\aH sy (sy.idxOf t:Nat)=t:=λt ht=>by
   have h1:=(hC t).1 ht;have hl:=List.idxOf_lt_length_iff.2 (hall t h1.1.1 h1.1.2 h1.2);refine⟨hl,iW ?_⟩;rw[bG hl,List.getElem_idxOf]
  have hsC:s∈C:=(hC s).2 ⟨⟨s0,s1⟩,rfl⟩;have h1:=NH (l:=C.map λt=>((sy.idxOf t:Nat):Int)) (m:=C.erase s) (SK hnd λa ha b hb e=>by
   have e1:=(hidx a ha).2;have e2:=(hidx b hb).2;rw[<- e1,<- e2,e]) (λx hx=>by
   obtain⟨t,ht,rfl⟩:=bS.1 hx;obtain⟨k1,k2⟩:=hidx t ht;have k3:=(hC t).1 ht;have hlen:=h.len;have hne:((sy.idxOf t:Nat):Int)≠s:=λe=>by rw[e,hs]at k2;omega
   refine(VX hne).2 ((hC _).2 ⟨⟨s6,s6⟩,?_⟩);rcases h.val ((sy.idxOf t:Nat):Int) s6 (s6)with q|q
   .omega
   .rw[<- q.2.2,k2];exact k3.2)
  have h2:=Pw hsC;have h3:0<C.length:=Pz hsC;rw[aR]at h1;omega
def aaE{t:Nat}(h:EI cl sy s=some t):t<cl.length/\aH cl (t:Int)=aH cl s/\(t:Int)∉sy/\∀u:Nat,u<t->aH cl (u:Int)=aH cl s->(u:Int)∈sy:=by
 unfold EI at h;have h1:=List.find?_some h;have h2:=List.mem_of_find?_eq_some h;simp at h1;refine⟨sF.1 h2,h1.1,h1.2,λu hu hcl=>?_⟩;obtain⟨h3,a,b,e,h4⟩:=List.find?_eq_some_iff_append.1 h;have hat:a=List.range t:=by
  have hlt:=sF.1 h2;have e1:List.range cl.length=List.range t++t::(List.range' (t+1) (cl.length - t - 1)):=by
   rw[List.range_eq_range',List.range_eq_range',show cl.length=t+(1+(cl.length - t - 1))by omega,<- List.range'_append_1,<- List.range'_append_1];simp
  have l1:a.length=t:=by
   have hg:(List.range cl.length)[a.length]? =some t:=by rw[e,jP (aZ _),nX];rfl
   have:=(aV.1 hg).2;rw[List.getElem_range]at this;exact this
  have:a=(List.range cl.length).take t:=by rw[e,<- l1,List.take_left'];rfl
  rw[this,List.take_range,DF s6]
 have:=h4 u (by rw[hat];exact sF.2 hu);simp[hcl]at this;exact this
def GInv.step(hc:cl.length=m)(h:GInv m cl sy){s:Int}(s0:0<=s)(s1:s<(m:Int)):GInv m cl (xy cl sy s)/\0<=aH (xy cl sy s) s/\∀u:Int,0<=u->u≠s->aH (xy cl sy s) u=aH sy u:=by
 unfold xy;by_cases h0:0<=aH sy s
 .rw[if_pos h0];exact⟨h,h0,λ_ _ _=>rfl⟩
 rw[if_neg h0];have hs:aH sy s= -1:=by
  rcases h.val s s0 s1 with q|q
  .exact q
  .omega
 obtain⟨t,ht⟩:=h.room hc s0 s1 hs;rw[ht];dsimp only;obtain⟨k1,k2,k3,_⟩:=aaE ht;have hlen:=h.len;have hg:∀u:Int,0<=u->aH (sy.set s.toNat (t:Int)) u=if u=s then(t:Int)else aH sy u:=λu u0=>EJ s0 s6 u0
 have hno:∀u:Int,0<=u->u<(m:Int)->aH sy u≠(t:Int):=λu u0 u1 e=>k3 (e▸SI u0 s6);refine⟨⟨by rw[ku];exact hlen,λu u0 u1=>?_,λu w u0 u1 w0 w1 e he=>?_⟩,?_,λu u0 hne=>?_⟩
 .rw[hg u u0];split
  .rename_i e;refine .inr ⟨s6,s6,by rw[e];exact k2⟩
  .exact h.val u u0 u1
 .rw[hg u u0,hg w w0]at e;rw[hg u u0]at he;split at e
  .rename_i e1;split at e
   .rename_i e2;omega
   .exact absurd e.symm (hno w w0 w1)
  .rename_i e1;rw[if_neg e1]at he;split at e
   .exact absurd e (hno u u0 u1)
   .exact h.inj u w u0 u1 w0 w1 e he
 .rw[hg s s0,if_pos rfl];omega
 .rw[hg u u0,if_neg hne]
def aaF(cl:ae Int):iR cl []=List.replicate cl.length (-1):=rfl
def GM(cl seq:ae Int)(v:Int):iR cl (seq++[v])=xy cl (iR cl seq) v:=by unfold iR;rw[wD];rfl
def SY(n:Nat)(c:Int)(c0:0<=c)(c1:c<(n:Int)):aH (List.replicate n (-1)) c= -1:=by
 unfold aH;simp only[List.getD,HY];rw[if_pos s6];rfl
def Bj(hc:cl.length=m):∀(n:Nat) (seq:ae Int),seq.length=n->iY m seq->GInv m cl (iR cl seq)/\∀s:Int,0<=s->s<(m:Int)->(0<=aH (iR cl seq) s↔s∈seq):=by
 intro n;induction n with
 |zero=>
  intro seq hl _;rw[j6.1 hl,aaF,hc];refine⟨⟨wC,λs s0 s1=>.inl (SY m s s0 s1),λs u s0 s1 _ _ _ he=>?_⟩,λs s0 s1=>?_⟩
  .rw[SY m s s0 s1]at he;omega
  .rw[SY m s s0 s1];simp
 |succ n ih=>
  intro seq hl hr;obtain⟨qs,v,rfl⟩:∃qs v,seq=qs++[v]:=⟨seq.dropLast,seq.getLast Bk,(Ai _).symm⟩
  obtain⟨h1,h2⟩:=ih qs xF (λx hx=>hr x (jl _ hx));have hv:=hr v s7;rw[GM];obtain⟨k1,k2,k3⟩:=h1.step hc hv.1 hv.2;refine⟨k1,λs s0 s1=>?_⟩;by_cases e:s=v
  .subst e;exact⟨λ_=>by simp,λ_=>k2⟩
  .rw[k3 s s0 e,h2 s s0 s1,fq,bA];exact⟨.inl,λq=>q.resolve_right e⟩
def S9(hc:cl.length=m)(pr:ae Int)(hp:iY m pr){s:Int}(hs:s∈pr):∀(n:Nat) (rest:ae Int),rest.length=n->iY m rest->aH (iR cl (pr++rest)) s=aH (iR cl pr) s:=by
 intro n;induction n with
 |zero=>intro rest hl _;rw[j6.1 hl,gW]
 |succ n ih=>
  intro rest hl hr;obtain⟨qs,v,rfl⟩:∃qs v,rest=qs++[v]:=⟨rest.dropLast,rest.getLast Bk,(Ai _).symm⟩
  have hq:iY m qs:=λx hx=>hr x (jl _ hx);have h0:=ih qs xF hq;have hs':=hp s hs;have hpq:iY m (pr++qs):=λx hx=>(fq.1 hx).elim (hp x) (hq x);obtain⟨h1,h2⟩:=Bj hc _ (pr++qs) rfl hpq;have hv:=hr v s7;rw[<- List.append_assoc,GM];by_cases e:s=v
  .subst e;have:=(h2 s hs'.1 hs'.2).2 (jl _ hs);unfold xy;rw[if_pos this];exact h0
  .rw[(h1.step hc hv.1 hv.2).2.2 s hs'.1 e];exact h0
def akY(hc:cl.length=m){seq:ae Int}(hr:iY m seq):jS m cl (iR cl (seq++upTo' m)):=by
 have hid:=bD.ident m;have hin:iY m (seq++upTo' m):=λx hx=>(fq.1 hx).elim (hr x) (hid.dJ x);obtain⟨h1,h2⟩:=Bj hc _ _ rfl hin;have hpos:∀s:Int,0<=s->s<(m:Int)->0<=aH (iR cl (seq++upTo' m)) s:=λs s0 s1=>(h2 s s0 s1).2 (nD _ (hid.mem s0 s1));have hval:∀s:Int,0<=s->s<(m:Int)->(0<=aH (iR cl (seq++upTo' m)) s/\aH (iR cl (seq++upTo' m)) s<(m:Int))/\aH cl (aH (iR cl (seq++upTo' m)) s)=aH cl s:=λs s0 s1=>by
  have:=hpos s s0 s1;rcases h1.val s s0 s1 with q|q
  .omega
  .exact⟨⟨q.1,q.2.1⟩,q.2.2⟩
 refine⟨⟨h1.len,λx hx=>?_,?_⟩,λv v0 v1=>(hval v v0 v1).2⟩
 .obtain⟨i,hi⟩:=iM hx;have hl:=(aV.1 hi).1;have:=(hval (i:Int) s6 (by have:=h1.len;omega)).1;rw[iW hi]at this;exact this
 .unfold List.Nodup;rw[yZ];intro i j hi hj hij e;have hlen:=h1.len;have e1:=iW (bG hi);have e2:=iW (bG hj);have:=h1.inj (i:Int) (j:Int) s6 s6 s6 s6 (by rw[e1,e2,e]) (hpos _ s6 s6);omega
def akZ{t:ae Int}(hc:cl.length=m)(ht:jS m cl t):∀(n:Nat) (seq:ae Int),seq.length=n->iY m seq->
 (∀v∈seq,aH (iR cl seq) v=aH t v)\/∃pr v rest,seq=pr++v::rest/\(∀u∈pr,aH (iR cl seq) u=aH t u)/\aH (iR cl seq) v<aH t v:=by
 intro n;induction n with
 |zero=>intro seq hl _;rw[j6.1 hl];exact .inl s7
 |succ n ih=>
  intro seq hl hr;obtain⟨qs,v,rfl⟩:∃qs v,seq=qs++[v]:=⟨seq.dropLast,seq.getLast Bk,(Ai _).symm⟩
  have hq:iY m qs:=λx hx=>hr x (jl _ hx);have hv:=hr v s7;have hkeep:∀u∈qs,aH (iR cl (qs++[v])) u=aH (iR cl qs) u:=λu hu=>S9 hc qs hq hu 1 [v] rfl (λx hx=>by rw[bA.1 hx];exact hv);rcases ih qs xF hq with h|⟨pr,u,rest,e,h1,h2⟩
  .by_cases hm:v∈qs
   .refine .inl λx hx=>?_;have hx:x∈qs:=(fq.1 hx).elim id (λq=>by rw[bA.1 q];exact hm);rw[hkeep x hx];exact h x hx
   .obtain⟨g1,g2⟩:=Bj hc _ qs rfl hq;have hs:aH (iR cl qs) v= -1:=by
     rcases g1.val v hv.1 hv.2 with q|q
     .exact q
     .exact absurd ((g2 v hv.1 hv.2).1 q.1) hm
    obtain⟨w,hw⟩:=g1.room hc hv.1 hv.2 hs;obtain⟨k1,k2,k3,k4⟩:=aaE hw;have hval:aH (iR cl (qs++[v])) v=(w:Int):=by
     rw[GM];unfold xy;rw[if_neg s6,hw];dsimp only;rw[EJ hv.1 (by have:=g1.len;omega) hv.1,if_pos rfl]
    have NS:=ht.p.at_ hv.1 hv.2;have hle:(w:Int)<=aH t v:=by
     apply Classical.byContradiction;intro hlt;have:=k4 (aH t v).toNat s6 (by rw[wE NS.1];exact ht.c v hv.1 hv.2)
     rw[wE NS.1]at this;obtain⟨u,u0,u1,e1,_⟩:=g1.mem NS.1 this;have hu:u∈qs:=(g2 u u0 u1).1 (by rw[e1];exact NS.1);rw[h u hu]at e1;have:=ht.p.inj u0 u1 hv.1 hv.2 e1;subst this;exact hm hu
    by_cases e:(w:Int)=aH t v
    .refine .inl λx hx=>?_;rcases fq.1 hx with hx|hx
     .rw[hkeep x hx];exact h x hx
     .rw[bA.1 hx,hval,e]
    .exact .inr ⟨qs,v,[],rfl,λx hx=>by rw[hkeep x hx];exact h x hx,by rw[hval];omega⟩
  .refine .inr ⟨pr,u,rest++[v],by rw[e];simp,λx hx=>?_,?_⟩
   .rw[hkeep x (by rw[e];exact jl _ hx)];exact h1 x hx
   .rw[hkeep u w7];exact h2
end Kd
namespace Kd
open Go Go.Ideal Canon
def kQ(sy:Int->Bool)(t:ae Int)(g:Clue):Clue:=⟨g.aS,g.at_,if sy g.aS then img t g.values else g.values⟩
def gK(sy:Int->Bool)(t:ae Int)(p:ae Clue):ae Clue:=p.map (kQ sy t)
def rY(sy:Int->Bool)(m:Nat)(p:ae Clue):Prop:=∀g∈p,sy g.aS=true->∃v,g.values=[v]/\0<=v/\v<(m:Int)
def iq(sy:Int->Bool)(p:ae Clue):ae Int:=p.flatMap λg=>if sy g.aS then g.values else[]
def fZ(sy:Int->Bool)(cl:ae Int)(p:ae Clue):ae Int:=iR cl (iq sy p++upTo' cl.length)
def aaG(sy:Int->Bool)(g:Clue)(p:ae Clue):iq sy (g::p)=(if sy g.aS then g.values else[])++iq sy p:=by unfold iq;rw[KP]
variable{sy:Int->Bool}{m:Nat}{p:ae Clue}
def Bl(h:rY sy m p):iY m (iq sy p):=by
 intro v hv;unfold iq at hv;obtain⟨g,hg,hv⟩:=Py.1 hv;split at hv
 .rename_i hs;obtain⟨w,e,h0,h1⟩:=h g hg hs;rw[e]at hv;rw[bA.1 hv];exact⟨h0,h1⟩
 .cases hv
def rY.tail{g:Clue}(h:rY sy m (g::p)):rY sy m p:=λx hx=>h x (dB _ hx)
def Ta{sy:Int->Bool}{s t:ae Int}:∀{p:ae Clue},(∀v∈iq sy p,aH s v=aH t v)->gK sy s p=gK sy t p
 |[],_=>rfl
 |g::p,h=>by
  rw[aaG]at h;have ih:=Ta (p:=p) (λv hv=>h v (nD _ hv));unfold gK at ih⊢;rw[fA,fA,ih];congr 1;unfold kQ;split
  .rename_i hs;rw[if_pos hs]at h;unfold img;rw[sD λv hv=>h v (jl _ hv)]
  .rfl
def aaH(g:Clue):jD g g=0:=(yx.zero g g).2 rfl
def Tc{sy:Int->Bool}{m:Nat}{s t:ae Int}:∀{p:ae Clue} {pr rest:ae Int} {v:Int},rY sy m p->iq sy p=pr++v::rest->(∀u∈pr,aH s u=aH t u)->aH s v<aH t v->kX (gK sy s p) (gK sy t p)<0
 |[],pr,rest,v,_,e,_,_=>by
  have:pr++v::rest=[]:=e.symm;cases pr<;>cases this
 |g::p,pr,rest,v,h,e,hp,hv=>by
  rw[aaG]at e;unfold gK;rw[fA,fA];show dN jD _ _<0;by_cases hs:sy g.aS=true
  .obtain⟨w,hw,w0,w1⟩:=h g (dD ..) hs;rw[if_pos hs,hw,List.singleton_append]at e;have e1:kQ sy s g=⟨g.aS,g.at_,[aH s w]⟩:=by unfold kQ;rw[if_pos hs,hw];rfl
   have e2:kQ sy t g=⟨g.aS,g.at_,[aH t w]⟩:=by unfold kQ;rw[if_pos hs,hw];rfl
   cases pr with
   |nil=>
    rw[cK]at e;injection e with e3 e4;subst e3;have hlt:jD (kQ sy s g) (kQ sy t g)<0:=by
     rw[e1,e2];unfold jD;have hz:∀a,dx a a=0:=λa=>(vH.zero a a).2 rfl;rw[hz,hz,if_neg s7,if_neg s7];have hlt2:dx (aH s w) (aH t w)= -1:=by unfold dx;rw[if_pos hv]
     simp only[dN];rw[hlt2];decide
    simp only[dN];rw[if_pos s6];exact hlt
   |cons u pr=>
    rw[dm]at e;injection e with e3 e4;subst e3;have heq:kQ sy s g=kQ sy t g:=by rw[e1,e2,hp w (dD ..)]
    simp only[dN];rw[heq,aaH,if_neg s7];exact Tc (p:=p) h.tail e4 (λx hx=>hp x (dB _ hx)) hv
  .rw[if_neg hs,cK]at e;have heq:kQ sy s g=kQ sy t g:=by unfold kQ;rw[if_neg hs,if_neg hs]
   simp only[dN];rw[heq,aaH,if_neg s7];exact Tc (p:=p) h.tail e hp hv
section
variable {sy:Int->Bool} {m:Nat} {cl t t2:ae Int} {p:ae Clue}
def Td(hc:cl.length=m)(hp:rY sy m p):jS m cl (fZ sy cl p):=by
 unfold fZ;rw[hc];exact akY hc (Bl hp)
def Te(hc:cl.length=m)(ht:jS m cl t)(hp:rY sy m p):¬kX (gK sy t p) (gK sy (fZ sy cl p) p)<0:=by
 have hin:=Bl hp;have hid:=bD.ident m;have hmore:∀u∈iq sy p,aH (fZ sy cl p) u=aH (iR cl (iq sy p)) u:=λu hu=>by
  unfold fZ;rw[hc];exact S9 hc _ hin hu _ _ rfl (λx hx=>hid.dJ x hx)
 rcases akZ hc ht _ (iq sy p) rfl hin with h|⟨pr,v,rest,e,h1,h2⟩
 .have:=Ta (sy:=sy) (s:=fZ sy cl p) (t:=t) (p:=p) λv hv=>by rw[hmore v hv];exact h v hv
  rw[this,(AU.zero _ _).2 rfl];omega
 .have:=Tc (s:=fZ sy cl p) (t:=t) hp e (λu hu=>by rw[hmore u (by rw[e];exact jl _ hu)];exact h1 u hu) (by rw[hmore v w7];exact h2);have:=(AU.neg _ _).1 this;omega
def jS.comp(h:jS m cl t)(h2:jS m cl t2):jS m cl (bC t2 t):=by
 refine⟨h2.p.comp h.p,λv v0 v1=>?_⟩;have r:=h.p.at_ v0 v1;rw[xk v0 (by rw[h.p.len];exact v1),h2.c _ r.1 r.2,h.c v v0 v1]
def jS.inv(h:jS m cl t):jS m cl (cz t):=by
 refine⟨h.p.inv,λv v0 v1=>?_⟩;have r:=h.p.inv.at_ v0 v1;rw[<- h.c _ r.1 r.2,h.p.GI v0 v1]
def jS.ident(cl:ae Int)(m:Nat):jS m cl (upTo' m):=⟨bD.ident m,λv v0 v1=>by rw[uL v0 v1]⟩
def rY.ren(hp:rY sy m p)(h:bD m t):rY sy m (gK sy t p):=by
 intro g' hg' hs;obtain⟨g,hg,rfl⟩:=bS.1 hg';obtain⟨v,e,v0,v1⟩:=hp g hg hs;have r:=h.at_ v0 v1;refine⟨aH t v,?_,r⟩;have hs:sy g.aS=true:=hs;unfold kQ;dsimp only;rw[if_pos hs,e];rfl
def Tf(hp:rY sy m p)(h:bD m t):gK sy t2 (gK sy t p)=gK sy (bC t2 t) p:=by
 unfold gK;rw[rG];refine sD λg hg=>?_;show kQ sy t2 (kQ sy t g)=_;unfold kQ;dsimp only;by_cases hs:sy g.aS=true
 .obtain⟨v,e,v0,v1⟩:=hp g hg hs;rw[if_pos hs,if_pos hs,if_pos hs,JS];rw[e,h.len];intro x hx;rw[bA.1 hx];exact⟨v0,v1⟩
 .rw[if_neg hs,if_neg hs,if_neg hs]
def ak0(hp:rY sy m p):gK sy (upTo' m) p=p:=by
 unfold gK;conv=>rhs;rw[<- BX p]
 refine sD λg hg=>?_;unfold kQ;by_cases hs:sy g.aS=true
 .obtain⟨v,e,v0,v1⟩:=hp g hg hs;rw[if_pos hs,e];obtain⟨c,a,w⟩:=g;dsimp only at e;subst e;show(⟨c,a,[aH (upTo' m) v]⟩:Clue)=_;rw[uL v0 v1];rfl
 .rw[if_neg hs];rfl
def aaI{a b:ae Clue}(h1:¬kX a b<0)(h2:¬kX b a<0):a=b:=by
 have h3:=AU.neg b a;refine(AU.zero a b).1 ?_;have h4:¬0<kX a b:=λq=>h2 (h3.2 q);omega
def ak1(hc:cl.length=m)(ht:jS m cl t)(hp:rY sy m p):gK sy (fZ sy cl (gK sy t p)) (gK sy t p)=gK sy (fZ sy cl p) p:=by
 have hq:=hp.ren ht.p;have g1:=Td hc hp;have g2:=Td hc hq;refine aaI ?_ ?_
 .have:=Te (p:=p) hc (jS.comp ht g2) hp;rw[Tf hp ht.p];exact this
 .have hb:gK sy (cz t) (gK sy t p)=p:=by
   rw[Tf hp ht.p];have:gK sy (bC (cz t) t) p=gK sy (upTo' m) p:=by
    refine Ta λv hv=>?_;have r:=Bl hp v hv;rw[xk r.1 (by rw[ht.p.len];exact r.2),ht.p.uK r.1 r.2,uL r.1 r.2]
   rw[this,ak0 hp]
  have h3:=Te (p:=gK sy t p) hc (jS.comp ht.inv g1) hq;rw[<- Tf hq ht.p.inv,hb]at h3;exact h3
end
end Kd
namespace Kd
open Go Go.Ideal Canon
structure JU(n:Nat)(G:List (List Int)):Prop where
 perm:∀a∈G,bD n a
 one:upTo' n∈G
 comp:∀a∈G,∀b∈G,bC a b∈G
 inv:∀a∈G,cz a∈G
section
variable {n:Nat} {a b c:ae Int}
def bD.inr(h:bD n a):iY n a:=h.dJ
def Tg(hb:bD n b)(hc:bD n c):bC (bC a b) c=bC a (bC b c):=by
 show img (bC a b) c=img a (img b c);exact JS (by rw[hb.len];exact hc.inr)
def aaJ(h:bD n a):bC a (upTo' n)=a:=by
 apply iH;intro i;show((upTo' n).map (aH a))[i]? =_;rw[bU];by_cases hi:i<n
 .have h1:=oQ (p:=upTo' n) (c:=(i:Int)) s6 uc;have h2:=oQ (p:=a) (c:=(i:Int)) s6 yW;rw[fM]at h1 h2;rw[h1,h2,uL s6 s6];rfl
 .rw[dW uc,dW yW];rfl
def EK(h:bD n a):bC (upTo' n) a=a:=by
 show a.map (aH (upTo' n))=a;conv=>rhs;rw[<- BX a]
 exact sD λx hx=>uL (h.dJ x hx).1 (h.dJ x hx).2
def ak2(h:bD n a):bC a (cz a)=upTo' n:=by
 apply iH;intro i;show((cz a).map (aH a))[i]? =_;rw[bU];have hl:(cz a).length=n:=h.inv.len;by_cases hi:i<n
 .have h1:=oQ (p:=upTo' n) (c:=(i:Int)) s6 uc;have h2:=oQ (p:=cz a) (c:=(i:Int)) s6 s6;rw[fM]at h1 h2;rw[h1,h2,uL s6 s6];show some (aH a (aH (cz a) (i:Int)))=_;rw[h.GI s6 s6]
 .rw[dW (by rw[hl];omega),dW uc];rfl
def ak3(h:bD n a):bC (cz a) a=upTo' n:=by
 apply iH;intro i;show(a.map (aH (cz a)))[i]? =_;rw[bU];by_cases hi:i<n
 .have h1:=oQ (p:=upTo' n) (c:=(i:Int)) s6 uc;have h2:=oQ (p:=a) (c:=(i:Int)) s6 yW;rw[fM]at h1 h2;rw[h1,h2,uL s6 s6];show some (aH (cz a) (aH a (i:Int)))=_;rw[h.uK s6 s6]
 .rw[dW yW,dW uc];rfl
def aaK(ha:bD n a)(hb:bD n b)(hc:bD n c)(e:bC a b=bC a c):b=c:=by
 have h1:bC (cz a) (bC a b)=bC (cz a) (bC a c):=by rw[e]
 rwa [<- Tg ha hb,<- Tg ha hc,ak3 ha,EK hb,EK hc]at h1
end
structure qc(n:Nat)(gu l:List (List Int))(k:Nat):Prop where
 gp:∀g∈gu,bD n g
 nd:l.Nodup
 first:l[0]? =some (upTo' n)
 C8:∀(i:Nat) p,l[i]? =some p->i=0\/∃(j:Nat) (g q:List Int),j<i/\g∈gu/\l[j]? =some q/\p=bC g q
 done:∀(i:Nat) q,i<k->l[i]? =some q->∀g∈gu,bC g q∈l
variable{n k:Nat}{l gu:ae (ae Int)}
def qc.perm(h:qc n gu l k):∀(i:Nat) p,l[i]? =some p->bD n p:=by
 intro i;induction i using Nat.strongRecOn with
 |_ i ih=>
  intro p hp;rcases h.C8 i p hp with e|⟨j,g,q,hj,hg,hq,rfl⟩
  .subst e;rw[h.first]at hp;cases hp;exact bD.ident n
  .exact(h.gp g hg).comp (ih j hj q hq)
def qc.all(h:qc n gu l k){P:ae Int->Prop}(h1:P (upTo' n))(h2:∀g∈gu,∀q,bD n q->P q->P (bC g q)):∀p∈l,P p:=by
 have key:∀(i:Nat) p,l[i]? =some p->P p:=by
  intro i;induction i using Nat.strongRecOn with
  |_ i ih=>
   intro p hp;rcases h.C8 i p hp with e|⟨j,g,q,hj,hg,hq,rfl⟩
   .subst e;rw[h.first]at hp;cases hp;exact h1
   .exact h2 g hg q (h.perm j q hq) (ih j hj q hq)
 intro p hp;obtain⟨i,hi⟩:=iM hp;exact key i p hi
def qc.mul(h:qc n gu l l.length){b:ae Int}(hb:b∈l):∀(i:Nat) a,l[i]? =some a->bC a b∈l:=by
 obtain⟨jb,hjb⟩:=iM hb;have hbp:=h.perm jb b hjb;intro i;induction i using Nat.strongRecOn with
 |_ i ih=>
  intro a ha;rcases h.C8 i a ha with e|⟨j,g,q,hj,hg,hq,rfl⟩
  .subst e;rw[h.first]at ha;cases ha;rw[EK hbp];exact hb
  .rw[Tg (h.perm j q hq) hbp];obtain⟨m,hm⟩:=iM (ih j hj q hq);exact h.done m _ (aV.1 hm).1 hm g hg
def ak4(hp:∀a∈l,bD n a)(h1:upTo' n∈l)(hm:∀a∈l,∀b∈l,bC a b∈l){a:ae Int}(ha:a∈l):cz a∈l:=by
 have hap:=hp a ha;have hmem:∀i,i<l.length->l.getD i []∈l:=λi hi=>by
  rw[gJ (bG hi)];exact wo _
 have hc:∀i,∃i',i<l.length->l[i']? =some (bC a (l.getD i [])):=λi=>by
  by_cases hi:i<l.length
  .obtain⟨i',h⟩:=iM (hm a ha _ (hmem i hi));exact⟨i',λ_=>h⟩
  .exact⟨0,λh=>absurd h hi⟩
 obtain⟨j,hj⟩:=iM h1;obtain⟨i,hi,e⟩:=SL (m:=l.length) (L:=λi:Nat=>l.getD i []) (S:=λb=>bC a b) (R:=λx y=>x=y) (D:=λb=>bD n b) (f:=λi=>Classical.choose (hc i))
  (λi hi=>hp _ (hmem i hi)) (λb hb=>hap.comp hb) (λ_=>rfl) (λ_ _ e=>e.symm) (λ_ _ _ e e'=>e.trans e')
  (λx y hx hy=>⟨λe=>aaK hap hx hy e,λe=>by rw[e]⟩)
  (λi hi=>by
    exact r8) (aV.1 hj).1
 rw[gJ hj]at e;have hb:=hmem i hi;have:cz a=l.getD i []:=by
  refine aaK hap hap.inv (hp _ hb) ?_;rw[ak2 hap,e]
 rw[this];exact hb
def qc.qY(h:qc n gu l l.length):JU n l:=by
 have hp:∀a∈l,bD n a:=λa ha=>by
  obtain⟨i,hi⟩:=iM ha;exact h.perm i a hi
 have h1:upTo' n∈l:=aT h.first
 have hm:∀a∈l,∀b∈l,bC a b∈l:=λa ha b hb=>by
  obtain⟨i,hi⟩:=iM ha;exact h.mul hb i a hi
 exact⟨hp,h1,hm,λa ha=>ak4 hp h1 hm ha⟩
def JU.GG{G H:ae (ae Int)}(h:JU n G)(e:∀a,a∈H↔a∈G):JU n H:=
 ⟨λa ha=>h.perm a ((e a).1 ha),(e _).2 h.one,λa ha b hb=>(e _).2 (h.comp a ((e a).1 ha) b ((e b).1 hb)),λa ha=>(e _).2 (h.inv a ((e a).1 ha))⟩
