/- Part. -/
import Derived.Test.YtignbinlipkmfaaGreatDoorIdealNK
set_option linter.all false
namespace Gph
def eP(l:ae Bool)(n:Int):Bool:=l.getD n.toNat false
def inner(bI:ae Bool):ae Int->ae Bool->ae Int->ae Bool×ae Int
 |[],met,q=>(met,q)
 |n::ns,met,q=>if eP bI n&&!eP met n then inner bI ns (met.set n.toNat true) (q++[n])else inner bI ns met q
def xD(g:ae (ae Int))(bI:ae Bool):Nat->ae Bool->ae Int->ae Int
 |0,_,_=>[]
 |_+1,_,[]=>[]
 |f+1,met,q::qs=>q::xD g bI f (inner bI (g.getD q.toNat []) met (q::qs)).1 (inner bI (g.getD q.toNat []) met (q::qs)).2.tail
def BM(m:Nat)(s:Int):ae Bool:=(List.replicate m false).set s.toNat true
def Kj(g:ae (ae Int))(bI:ae Bool)(s:Int):ae Int:=xD g bI (g.length+1) (BM g.length s) [s]
def left(met:ae Bool):Nat:=(met.filter (!·)).length
variable{met:ae Bool}
def agR{n:Nat}(h:met[n]? =some false):left (met.set n true)+1=left met:=by
 induction met generalizing n with
 |nil=>cases h
 |cons b met ih=>
  cases n with
  |zero=>cases h;simp[left]
  |succ n=>
   have:=ih (n:=n) tE;simp only[left,List.set_cons_succ,EB]at this⊢;cases b<;>simp at this⊢<;>omega
variable{a n:Int}
def Kk(ha:0<=a)(hn:0<=n)(h:a<met.length):eP (met.set a.toNat true) n=(decide (n=a)||eP met n):=by
 unfold eP;obtain⟨a,rfl⟩:=iO ha;obtain⟨n,rfl⟩:=iO hn;simp only[fQ,CJ,nI];by_cases e:a=n
 .subst e;have:a<met.length:=by omega
  simp[this]
 .have e2:¬((n:Int)=(a:Int)):=by omega
  simp[e,e2]
def Rg(g:ae (ae Int))(n:Int):Prop:=0<=n/\n<g.length
def O8{g:ae (ae Int)}{bI:ae Bool}:∀(ns:ae Int) (met:ae Bool) (q:ae Int),met.length=g.length->(∀n∈ns,Rg g n)->
 (inner bI ns met q).1.length=g.length/\(∀n,0<=n->(eP (inner bI ns met q).1 n=true↔eP met n=true\/(n∈ns/\eP bI n=true)))/\
 left (inner bI ns met q).1+(inner bI ns met q).2.length=left met+q.length/\∃t,(inner bI ns met q).2=q++t/\∀n,(n∈t↔n∈ns/\eP bI n=true/\eP met n=false)
 |[],met,q,hm,hr=>by simp[inner,hm]
 |a::ns,met,q,hm,hr=>by
  have ha:=hr a tt;have hr':∀n∈ns,Rg g n:=λn hn=>hr n (by simp[hn]);unfold Rg at ha;rw[inner];by_cases hc:(eP bI a&&!eP met a)=true
  .rw[if_pos hc];simp only[dI,AX]at hc;obtain⟨h1,h2,h4,t,h5,h3⟩:=O8 (g:=g) (bI:=bI) ns (met.set a.toNat true) (q++[a]) (by simpa using hm) hr';refine⟨h1,λn hn=>?_,?_,a::t,by rw[h5];simp,λn=>?_⟩
   .rw[h2 n hn,Kk ha.1 hn tr];simp only[qZ,zu,bT];constructor
    .rintro((rfl|h)|h)
     .exact .inr ⟨.inl rfl,hc.1⟩
     .exact .inl h
     .exact .inr ⟨.inr h.1,h.2⟩
    .rintro(h|⟨rfl|h,h'⟩)
     .exact .inl (.inr h)
     .exact .inl (.inl rfl)
     .exact .inr ⟨h,h'⟩
   .have hs:met[a.toNat]? =some false:=by
     have:eP met a=false:=hc.2;unfold eP at this;rw[CJ]at this;have hl:a.toNat<met.length:=tr
     rw[bX hl]at this⊢;simpa using this
    have:=agR hs;rw[h4,ik,vI];omega
   .rw[bT,h3 n];simp only[bT];constructor
    .rintro(rfl|⟨h,h',h''⟩)
     .exact⟨.inl rfl,hc⟩
     .have hn:=(hr' n h).1;rw[Kk ha.1 hn tr]at h'';simp only[Bool.or_eq_false_iff]at h'';exact⟨.inr h,h',h''.2⟩
    .rintro⟨rfl|h,h',h''⟩
     .exact .inl rfl
     .by_cases e:n=a
      .exact .inl e
      .refine .inr ⟨h,h',?_⟩;rw[Kk ha.1 (hr' n h).1 tr];simp[e,h'']
  .rw[if_neg hc];obtain⟨h1,h2,h4,t,h5,h3⟩:=O8 (g:=g) (bI:=bI) ns met q hm hr';simp only[dI,AX,not_and,Bool.not_eq_false]at hc;refine⟨h1,λn hn=>?_,h4,t,h5,λn=>?_⟩
   .rw[h2 n hn];simp only[bT];constructor
    .rintro(h|⟨h,h'⟩)
     .exact .inl h
     .exact .inr ⟨.inr h,h'⟩
    .rintro(h|⟨rfl|h,h'⟩)
     .exact .inl h
     .exact .inl (hc h')
     .exact .inr ⟨h,h'⟩
   .rw[h3 n];simp only[bT];constructor
    .rintro⟨h,h'⟩;exact⟨.inr h,h'⟩
    .rintro⟨rfl|h,h',h''⟩
     .rw[hc h']at h'';cases h''
     .exact⟨h,h',h''⟩
inductive lY(g:List (List Int))(bI:List Bool)(s:Int):Int->Prop
 |refl:lY g bI s s
 |step {i n:Int} {l:List Int} (h:lY g bI s i) (hl:g[i.toNat]? =some l) (hn:n∈l) (hi:eP bI n=true):lY g bI s n
variable{g:ae (ae Int)}{bI:ae Bool}
def lY.trans{b c:Int}(h:lY g bI a b)(h2:lY g bI b c):lY g bI a c:=by
 induction h2 with
 |refl=>exact h
 |step _ hl hn hi ih=>exact .step ih hl hn hi
def iC(h:Rg g n):g[n.toNat]? =some (g.getD n.toNat []):=by
 have hl:n.toNat<g.length:=by unfold Rg at h;omega
 rw[CJ,bX hl];rfl
def VO{g:ae (ae Int)}{bI:ae Bool}(hg:∀l∈g,∀n∈l,Rg g n):∀(f:Nat) (met:ae Bool) (queue V:ae Int),met.length=g.length->(∀n∈queue,Rg g n)->
 (∀n,0<=n->(eP met n=true↔n∈V\/n∈queue))->(∀v∈V,∀l,g[v.toNat]? =some l->∀n∈l,eP bI n=true->n∈V\/n∈queue)->left met+queue.length<=f->
 (∀v,v∈V\/v∈xD g bI f met queue->∀l,g[v.toNat]? =some l->∀n∈l,eP bI n=true->n∈V\/n∈xD g bI f met queue)/\(∀n∈queue,n∈xD g bI f met queue)/\
 (∀n∈xD g bI f met queue,∃q∈queue,lY g bI q n)/\∀n∈xD g bI f met queue,Rg g n
 |0,met,queue,V,hm,hq,hM,hcl,hf=>by
  have:queue=[]:=jX.1 tr;subst this;exact kA
 |f+1,met,[],V,hm,hq,hM,hcl,hf=>by
  exact kA
 |f+1,met,q::qs,V,hm,hq,hM,hcl,hf=>by
  have hq0:=hq q tt;have hgd:=iC hq0;have hns:∀n∈g.getD q.toNat [],Rg g n:=hg _ (aS hgd);obtain⟨h1,h2,h4,t,h5,h3⟩:=O8 (g:=g) (bI:=bI) (g.getD q.toNat []) met (q::qs) hm hns;rw[xD];generalize hin:inner bI (g.getD q.toNat []) met (q::qs)=r at h1 h2 h4 h5;obtain⟨met',q'⟩:=r;dsimp only at h1 h2 h4 h5⊢;subst h5;rw[fK,List.tail_cons];have hqt:∀n∈qs++t,Rg g n:=λn hn=>by
   rcases dY.1 hn with h|h
   .exact hq n ud
   .exact hns n ((h3 n).1 h).1
  obtain⟨c1,c2,c3,c4⟩:=VO hg f met' (qs++t) (q::V) h1 hqt (λn hn=>by
   rw[h2 n hn,hM n hn];simp only[bT,dY,h3 n];constructor
   .rintro((h|rfl|h)|⟨h,h'⟩)
    .exact .inl (.inr h)
    .exact .inl (.inl rfl)
    .exact .inr (.inl h)
    .cases hme:eP met n with
     |true=>
      rcases(hM n hn).1 hme with h''|h''
      .exact .inl (.inr h'')
      .rcases bT.1 h'' with rfl|h''
       .exact .inl (.inl rfl)
       .exact .inr (.inl h'')
     |false=>exact .inr (.inr ⟨h,h',rfl⟩)
   .rintro((rfl|h)|h|⟨h,h',_⟩)
    .exact .inl (.inr (.inl rfl))
    .exact .inl (.inl h)
    .exact .inl (.inr (.inr h))
    .exact .inr ⟨h,h'⟩) (λv hv l hl n hn hi=>by
   rcases bT.1 hv with rfl|hv
   .rw[hgd]at hl;cases hl;have hn0:=(hns n hn).1;cases hme:eP met n with
    |true=>
     rcases(hM n hn0).1 hme with h''|h''
     .exact .inl (by simp[h''])
     .rcases bT.1 h'' with rfl|h''
      .exact .inl tt
      .exact .inr (by simp[h''])
    |false=>exact .inr (pI _ ((h3 n).2 ⟨hn,hi,hme⟩))
   .rcases hcl v hv l hl n hn hi with h|h
    .exact .inl ud
    .rcases bT.1 h with rfl|h
     .exact .inl tt
     .exact .inr ud) (by
   simp only[fK,oh,ik]at h4 hf⊢;omega)
  refine⟨λv hv l hl n hn hi=>?_,λn hn=>?_,λn hn=>?_,λn hn=>?_⟩
  .have:=c1 v (by
    rcases hv with h|h
    .exact .inl ud
    .rcases bT.1 h with rfl|h
     .exact .inl tt
     .exact .inr h) l hl n hn hi
   rcases this with h|h
   .rcases bT.1 h with rfl|h
    .exact .inr tt
    .exact .inl h
   .exact .inr ud
  .rcases bT.1 hn with rfl|hn
   .simp
   .exact fO _ (c2 n (by simp[hn]))
  .rcases bT.1 hn with rfl|hn
   .exact⟨n,tt,.refl⟩
   .obtain⟨p,hp,hr⟩:=c3 n hn;rcases dY.1 hp with hp|hp
    .exact⟨p,by simp[hp],hr⟩
    .obtain⟨h,h',_⟩:=(h3 p).1 hp;exact⟨q,tt,(lY.step .refl hgd h h').trans hr⟩
  .rcases bT.1 hn with rfl|hn
   .exact hq0
   .exact c4 n hn
def VP(m:Nat)(s:Int):(BM m s).length=m:=by rw[BM,ry,List.length_replicate]
def O9(hg:∀l∈g,∀n∈l,Rg g n){s:Int}(hs:Rg g s)(n:Int):n∈Kj g bI s↔lY g bI s n:=by
 have hs':=hs;unfold Rg at hs';obtain⟨c1,c2,c3,_⟩:=VO (g:=g) (bI:=bI) hg (g.length+1) (BM g.length s) [s] [] (VP _ _) (λn hn=>by rw[bK.1 hn];exact hs) (λn hn=>by
  rw[BM,Kk hs'.1 hn (by rw[List.length_replicate];omega)];have:eP (List.replicate g.length false) n=false:=by
   unfold eP;rw[CJ,HV];split<;>rfl
  simp[this]) tt (by
  have:left (BM g.length s)<=(BM g.length s).length:=MC _ _;rw[VP]at this;simp;omega)
 constructor
 .intro h;obtain⟨q,hq,hr⟩:=c3 n h;rw[bK.1 hq]at hr;exact hr
 .intro h;induction h with
  |refl=>exact c2 s tt
  |step _ hl hn hi ih=>exact(c1 _ (.inr ih) _ hl _ hn hi).resolve_left tt
def agT(hg:∀l∈g,∀n∈l,Rg g n){s:Int}(hs:Rg g s):∀n∈Kj g bI s,Rg g n:=λn hn=>by
 have h:=(O9 hg hs n).1 hn;cases h with
 |refl=>exact hs
 |step _ hl hn _=>exact hg _ (aS hl) n hn
def Af(part:ae Int)(ns:ae Int)(m:Int):ae Int:=ns.foldl (λp n=>p.set n.toNat m) part
def VQ:∀(ns part:ae Int) (m:Int),(Af part ns m).length=part.length
 |[],part,m=>rfl
 |n::ns,part,m=>by
  show(Af (part.set n.toNat m) ns m).length=_;rw[VQ ns,ry]
def Gn(g:ae (ae Int))(bI:ae Bool)(x:ae Int×Nat)(i:Nat):ae Int×Nat:=
 if eP bI i=true/\x.1.getD i 0<=0 then(Af x.1 (Kj g bI i) (x.2+1:Nat),x.2+1)else x
def mG(g:ae (ae Int))(bI:ae Bool)(k:Nat):ae Int×Nat:=(List.range k).foldl (Gn g bI) (List.replicate g.length 0,0)
def Pb(g:ae (ae Int))(bI:ae Bool)(k:Nat):mG g bI (k+1)=Gn g bI (mG g bI k) k:=by
 rw[mG,H7,EE];rfl
def VS(g:ae (ae Int))(bI:ae Bool):∀k,(mG g bI k).1.length=g.length/\(mG g bI k).2<=k/\∀p∈(mG g bI k).1,0<=p/\p<=(mG g bI k).2
 |0=>by
  refine⟨by simp[mG],by simp[mG],λp hp=>?_⟩;simp[mG]at hp⊢;omega
 |k+1=>by
  obtain⟨h1,h2,h3⟩:=VS g bI k;rw[Pb,Gn];split
  .refine⟨by rw[VQ];exact h1,by show _+1<=_;omega,?_⟩;have:∀(ns part:ae Int) (m:Nat),(∀p∈part,0<=p/\p<=(m:Int))->∀p∈Af part ns (m:Nat),0<=p/\p<=(m:Int):=by
    intro ns;induction ns with
    |nil=>intro part m h;exact h
    |cons n ns ih=>
     intro part m h;refine ih _ m λp hp=>?_;rcases List.mem_or_eq_of_mem_set hp with hp|rfl
     .exact h p hp
     .omega
   exact this _ _ _ λp hp=>by have:=h3 p hp;omega
  .exact⟨h1,tr,h3⟩
end Gph
namespace Gph
def Kl(bI:ae Bool)(k:Nat):Nat:=((List.range k).filter λi=>eP bI (i:Nat)).length
end Gph
namespace Gph
variable {g:ae (ae Int)} {bI:ae Bool}
def VT:∀(ns part:ae Int) (m:Int) (n:Nat),(∀x∈ns,0<=x/\x<part.length)->(Af part ns m).getD n 0=if(n:Int)∈ns then m else part.getD n 0
 |[],part,m,n,_=>by simp[Af]
 |a::ns,part,m,n,h=>by
  have ha:=h a tt;have h2:=VT ns (part.set a.toNat m) m n (λx hx=>by rw[ry];exact h x (by simp[hx]));show(Af (part.set a.toNat m) ns m).getD n 0=_;rw[h2];obtain⟨a,rfl⟩:=iO ha.1;by_cases e1:(n:Int)∈ns
  .rw[if_pos e1,if_pos (fO _ e1)]
  .rw[if_neg e1];by_cases e2:n=a
   .subst e2;rw[if_pos tt,fQ,CJ,nI];have:n<part.length:=by omega
    simp[this]
   .rw[if_neg (by simp only[bT,not_or];exact⟨tr,e1⟩),fQ,CJ,nI,if_neg (λe=>e2 e.symm),CJ]
def Pd(g:ae (ae Int))(bI:ae Bool)(k n:Nat):Prop:=∃j,j<k/\eP bI j=true/\lY g bI j n
def VU(hg:∀l∈g,∀n∈l,Rg g n):∀k,k<=g.length->∀n:Nat,n<g.length->(0<(mG g bI k).1.getD n 0↔Pd g bI k n)
 |0,_,n,hn=>by
  constructor
  .intro h;simp[mG,CJ,HV,hn]at h
  .rintro⟨j,hj,_⟩;omega
 |k+1,hk,n,hn=>by
  have ih:=VU hg k tr;have hlen:=(VS g bI k).1;have hkr:Rg g (k:Int):=⟨tr,tr⟩
  rw[Pb,Gn];by_cases hc:eP bI k=true/\(mG g bI k).1.getD k 0<=0
  .rw[if_pos hc];show 0<(Af _ _ _).getD n 0↔_;rw[VT _ _ _ _ (λx hx=>by rw[hlen];exact agT hg hkr x hx)];by_cases hr:(n:Int)∈Kj g bI k
   .rw[if_pos hr];have:=(O9 hg hkr n).1 hr;exact⟨λ_=>⟨k,tr,hc.1,this⟩,λ_=>by omega⟩
   .rw[if_neg hr,ih n hn];rw[O9 hg hkr]at hr;constructor
    .rintro⟨j,h1,h2,h3⟩;exact qv
    .rintro⟨j,h1,h2,h3⟩;by_cases e:j=k
     .subst e;exact absurd h3 hr
     .exact qv
  .rw[if_neg hc,ih n hn];constructor
   .rintro⟨j,h1,h2,h3⟩;exact qv
   .rintro⟨j,h1,h2,h3⟩;by_cases e:j=k
    .subst e;have:0<(mG g bI j).1.getD j 0:=by
      apply Classical.byContradiction;intro hno;exact hc ⟨h2,tr⟩
     obtain⟨i,q1,q2,q3⟩:=(ih j tr).1 this;exact⟨i,q1,q2,q3.trans h3⟩
    .exact qv
open Classical in
noncomputable def cnt(g:ae (ae Int))(bI:ae Bool):Nat->Nat
 |0=>0
 |k+1=>cnt g bI k+if eP bI k=true/\¬Pd g bI k k then 1 else 0
def Pe(hg:∀l∈g,∀n∈l,Rg g n):∀k,k<=g.length->(mG g bI k).2=cnt g bI k
 |0,_=>by simp[mG,cnt]
 |k+1,hk=>by
  have ih:=Pe hg k tr;have hs:=VU (bI:=bI) hg k tr k tr;rw[Pb,Gn,cnt];by_cases hc:eP bI k=true/\(mG g bI k).1.getD k 0<=0
  .rw[if_pos hc,if_pos ⟨hc.1,λh=>by have:=hs.2 h;omega⟩,<- ih]
  .rw[if_neg hc,if_neg (λh=>hc ⟨h.1,by
    apply Classical.byContradiction;intro hno;exact h.2 (hs.1 tr)⟩),AQ,ih]
def nu(g:ae (ae Int)):Prop:=∀(i:Nat) l,g[i]? =some l->∀n∈l,Rg g n/\∀l',g[n.toNat]? =some l'->(i:Int)∈l'
def nu.rg(h:nu g):∀l∈g,∀n∈l,Rg g n:=λl hl n hn=>by
 obtain⟨i,hi⟩:=jM hl;exact(h i l hi n hn).1
def lY.rg(h:nu g){a b:Int}(ha:Rg g a)(r:lY g bI a b):Rg g b:=by
 cases r with
 |refl=>exact ha
 |step _ hl hn _=>exact h.rg _ (aS hl) _ hn
def lY.symm(h:nu g){a b:Int}(ha:Rg g a)(hi:eP bI a=true)(r:lY g bI a b):lY g bI b a:=by
 induction r with
 |refl=>exact .refl
 |step r0 hl hn hin ih=>
  rename_i i n l;have Ag:=lY.rg h ha r0;have agU:eP bI i=true:=by
   cases r0 with
   |refl=>exact hi
   |step _ _ _ q=>exact q
  obtain⟨q1,q2⟩:=h i.toNat l hl n hn;have:=q2 _ (iC q1);have hc:((i.toNat:Nat):Int)=i:=by unfold Rg at Ag;omega
  rw[hc]at this;exact(lY.step .refl (iC q1) this agU).trans ih
def agV(h:nu g){f:Nat}(hf:f<g.length)(hin:eP bI f=true)(yM:∀j,j<f->eP bI (j:Nat)=false):
 cnt g bI g.length=1↔∀i:Nat,i<g.length->eP bI i=true->lY g bI f i:=by
 have base:∀k,k<=f->cnt g bI k=0:=by
  intro k;induction k with
  |zero=>intro _;rfl
  |succ k ih=>
   intro hk;rw[cnt,ih tr,if_neg (λq=>by rw[yM k tr]at q;cases q.1)]
 have pY:cnt g bI (f+1)=1:=by
  rw[cnt,base f (bQ _),if_pos ⟨hin,λ⟨j,h1,h2,_⟩=>by rw[yM j h1]at h2;cases h2⟩]
 have mono:∀k d,cnt g bI k<=cnt g bI (k+d):=by
  intro k d;induction d with
  |zero=>exact bQ _
  |succ d ih=>rw[<- oM,cnt];omega
 constructor
 .intro h1 i;induction i using Nat.strongRecOn with
  |_ i ih=>
   intro hi hii;by_cases e:i=f
   .subst e;exact .refl
   have hfi:f<i:=by
    apply Classical.byContradiction;intro hno;rw[yM i tr]at hii;cases hii
   have ho:Pd g bI i i:=by
    apply Classical.byContradiction;intro hno;have e1:cnt g bI (i+1)=cnt g bI i+1:=by rw[cnt,if_pos ⟨hii,hno⟩]
    have e2:=mono (f+1) (i - (f+1));have e3:=mono (i+1) (g.length - (i+1));rw[show f+1+(i - (f+1))=i by omega]at e2;rw[show i+1+(g.length - (i+1))=g.length by omega]at e3;omega
   obtain⟨j,q1,q2,q3⟩:=ho;exact(ih j q1 tr q2).trans q3
 .intro hall;have:∀d,f+1+d<=g.length->cnt g bI (f+1+d)=1:=by
   intro d;induction d with
   |zero=>intro _;exact pY
   |succ d ih=>
    intro hd;rw[<- oM,cnt,ih tr,if_neg (λq=>q.2 ⟨f,tr,hin,hall _ tr q.1⟩)]
  have:=this (g.length - (f+1)) tr
  rwa [show f+1+(g.length - (f+1))=g.length by omega]at this
end Gph
namespace Gph
structure Gp where
 kind:Int
 cells:List Int
 set:Int
 other:Int
 lo:Int
 hi:Int
 runs:List Int
 rule:Int
 at_:Int
structure Pf where
 cells:Int
 symbols:Int
 values:List Int
 aK:List (List Int)
 cons:List Gp
structure Pg(cells symbols:Int)(c:Gp):Prop where
 cell:∀(i:Nat) x,c.cells[i]? =some x->0<=x/\x<cells/\(8<=c.kind->x=i)
 nd:c.cells.Nodup
 kind:1<=c.kind/\c.kind<=9
 two:c.kind=6\/c.kind=7->c.cells.length=2
 all:8<=c.kind->(c.cells.length:Int)=cells
 set:0<=c.set/\c.set<(2^symbols.toNat:Nat)
 other:0<=c.other/\c.other<(2^symbols.toNat:Nat)
 lo:0<=c.lo/\c.lo<=65536
 hi:0<=c.hi/\c.hi<=65536
 aoM:c.runs.length<=8
 runs:∀x∈c.runs,1<=x/\x<=256
def Pg.len{cells symbols:Int}{c:Gp}(h:Pg cells symbols c):(c.cells.length:Int)<=cells\/c.cells=[]:=by
 by_cases hn:c.cells=[]
 .exact .inr hn
 left;have hb:∀x∈c.cells,0<=x/\x<cells:=λx hx=>by
  obtain⟨i,hi⟩:=jM hx;have:=h.cell i x hi;exact⟨this.1,this.2.1⟩
 have:∀(m:Nat) (l:ae Int),l.Nodup->(∀x∈l,0<=x/\x<(m:Int))->l.length<=m:=by
  intro m;induction m with
  |zero=>
   intro l _ hl;cases l with
   |nil=>simp
   |cons a l=>have:=hl a tt;omega
  |succ m ih=>
   intro l hd hl;by_cases hm:(m:Int)∈l
   .have h1:=RI hm;have h2:=ih (l.erase (m:Int)) (hd.erase _) (λx hx=>by
     have hne:x≠(m:Int):=λe=>by
      subst e;exact(List.Nodup.mem_erase_iff hd).1 hx|>.1 rfl
     have:=hl x (List.mem_of_mem_erase hx);omega)
    omega
   .have:=ih l hd (λx hx=>by
     have hne:x≠(m:Int):=λe=>hm (e▸hx);have:=hl x hx;omega)
    omega
 have h0:0<=cells:=by
  obtain⟨a,ha⟩:=List.exists_mem_of_ne_nil _ hn;have:=hb a ha;omega
 have:=this cells.toNat c.cells h.nd (λx hx=>by have:=hb x hx;omega);omega
end Gph
namespace Kd
open Go Go.Ideal
structure nu where
 name:ByteArray
 value:Int
 deriving DecidableEq
structure nR where
 name:ByteArray
 lists:List (List Int)
 deriving DecidableEq
structure jo where
 name:ByteArray
 on:ByteArray
 family:Int
 type:Int
 lo:Int
 hi:Int
 deriving DecidableEq
structure bE where
 name:ByteArray
 on:ByteArray
 kind:Int
 family:Int
 names:List ByteArray
 others:List ByteArray
 set:Int
 other:Int
 op:Int
 n:Int
 dB:ByteArray
 aX:Int
 deriving DecidableEq
structure bG where
 name:ByteArray
 version:Int
 shape:Int
 w:Int
 h:Int
 holes:List Int
 symbols:List nu
 regions:List nR
 aR:List jo
 rules:List bE
 deriving DecidableEq
structure bB where
 shape:Int
 w:Int
 h:Int
 holes:List Int
 cells:List Int
 deriving DecidableEq
structure bN where
 decl:bG
 grid:bB
 aK:List (List Int)
 lists:List (List (List Int))
 deriving DecidableEq
def eT:Enc nu:=⟨2,Unit,λx _=>[.string x.name,.int .i64 x.value],λ_ _=>[],λ_ _=>rfl⟩
def fw:Enc nR:=⟨2,ah,λx v=>[.string x.name,v],λx v=>[aj (aA ai) v x.lists],λ_ _=>rfl⟩
def bV:Enc jo:=⟨6,Unit,λx _=>[.string x.name,.string x.on,.int .i64 x.family,.int .i64 x.type,.int .i64 x.lo,.int .i64 x.hi],λ_ _=>[],λ_ _=>rfl⟩
abbrev kL(x:bE)(v1 v2:ah):ae ah:=[.string x.name,.string x.on,.int .i64 x.kind,.int .i64 x.family,v1,v2,.int .i64 x.set,.int .i64 x.other,.int .i64 x.op,.int .i64 x.n,.string x.dB,.int .i64 x.aX]
def bz:Enc bE:=⟨12,ah×ah,λx v=>kL x v.1 v.2,λx v=>[aj aV v.1 x.names,aj aV v.2 x.others],λ_ _=>rfl⟩
abbrev gW(d:bG)(vh vs vr vc vu:ah):ae ah:=[.string d.name,.int .i64 d.version,.int .i64 d.shape,.int .i64 d.w,.int .i64 d.h,vh,vs,vr,vc,vu]
abbrev mH(d:bG)(vh vs vr vc vu:ah):ae aP:=[aj ai vh d.holes,aj eT vs d.symbols,aj fw vr d.regions,aj bV vc d.aR,aj bz vu d.rules]
def dV(s:ByteArray):ae ByteArray->Nat
 |[]=>0
 |a::l=>if s=a then 0 else dV s l+1
def yS{s:ByteArray}:∀{l:ae ByteArray},s∈l->dV s l<l.length
 |[],h=>by cases h
 |a::l,h=>by
  unfold dV;split
  .simp
  .rename_i hne;have:=yS ((bT.1 h).resolve_left hne);simp;omega
def fJ(names:ae ByteArray)(start:Nat):ae (ByteArray×ah):=names.zipIdx.map λp=>(p.1,.int .i64 ((start+p.2:Nat):Int))
def Ph(a b:ae ByteArray)(start:Nat):fJ (a++b) start=fJ a start++fJ b (start+a.length):=by
 unfold fJ;rw[RJ,fG];congr 1;rw[show b.zipIdx (0+a.length)=(b.zipIdx 0).map (λp=>(p.1,p.2+a.length))by
  rw[fq];conv=>lhs;rw[show a.length=0+a.length by omega]
  rw[List.zipIdx_eq_map_add];apply wY;rintro⟨s,i⟩ _;simp only;rw[show 0+a.length+i=i+a.length by omega]]
 rw[uy];apply wY;rintro⟨s,i⟩ _;simp only[Function.comp];rw[show start+(i+a.length)=start+a.length+i by omega]
def uW(names:ae ByteArray)(start:Nat):(fJ names start).map (·.1)=names:=by
 unfold fJ;rw[uy];have:((λp:ByteArray×ah=>p.1)∘λp:ByteArray×Nat=>(p.1,Value.int .i64 ((start+p.2:Nat):Int)))=Prod.fst:=rfl;rw[this,List.zipIdx_map_fst]
variable{α:Type}
def yT{β:Type}[DecidableEq α](a b:α)(v:β)(l:ae (α×β)):dK a ((b,v)::l)=if a=b then some v else dK a l:=rfl
def tN{α β:Type}[DecidableEq α]{a:α}:∀{l:ae (α×β)},a∉l.map (·.1)->dK a l=none
 |[],_=>rfl
 |(b,v)::l,h=>by
  unfold dK;rw[if_neg (λe=>h zj),tN (λh2=>h B5)]
def Gq{α β:Type}[DecidableEq α]{a:α}:∀{l:ae (α×β)},a∈l.map (·.1)->∃v,dK a l=some v
 |[],h=>by cases h
 |(b,v)::l,h=>by
  unfold dK;by_cases e:a=b
  .exact⟨v,by rw[if_pos e]⟩
  .obtain⟨u,hu⟩:=Gq (l:=l) ((bT.1 h).resolve_left e);exact⟨u,by rw[if_neg e,hu]⟩
def yU{s:ByteArray}:∀{names:ae ByteArray} {start:Nat},s∈names->dK s (fJ names start)=some (.int .i64 ((start+dV s names:Nat):Int))
 |[],start,h=>by cases h
 |a::l,start,h=>by
  have e:fJ (a::l) start=(a,.int .i64 ((start:Nat):Int))::fJ l (start+1):=by
   have:=Ph [a] l start;simpa[fJ]using this
  rw[e];unfold dK dV;by_cases hs:s=a
  .rw[if_pos hs,if_pos hs];rfl
  .rw[if_neg hs,if_neg hs,yU ((bT.1 h).resolve_left hs),show start+1+dV s l=start+(dV s l+1)by omega]
def DU{α β:Type}[DecidableEq α]{a:α}{v:β}:∀{l:ae (α×β)},a∉l.map (·.1)->upd a v l=l++[(a,v)]
 |[],_=>rfl
 |(b,u)::l,h=>by
  unfold upd;rw[if_neg (λe=>h zj),DU (λh2=>h B5)];rfl
def jk:ae ByteArray:=[⟨⟨[99,101,108,108,115]⟩⟩,⟨⟨[114,111,119,115]⟩⟩,⟨⟨[99,111,108,117,109,110,115]⟩⟩,⟨⟨[100,105,97,103,111,110,97,108,115]⟩⟩,⟨⟨[97,114,111,117,110,100]⟩⟩,⟨⟨[110,101,97,114]⟩⟩,⟨⟨[112,97,105,114,115]⟩⟩,⟨⟨[97,108,108]⟩⟩]
def bS(d:bG):ae ByteArray:=d.symbols.map (·.name)
def cZ(d:bG):ae ByteArray:=jk++d.regions.map (·.name)
def dM(d:bG):ae ByteArray:=d.aR.map (·.name)
def oG(d:bG):ae ByteArray:=d.rules.map (·.name)
def gq(dG l:ae ByteArray):Nat:=l.foldl (λm s=>m|||1<<<dV s dG) 0
def mR(jq:ae ByteArray)(c:jo):jo:={c with family:=(dV c.on jq:Int)}
def nS(dG jq kD:ae ByteArray)(r:bE):bE:=
 {r with family:=if r.on=⟨⟨[]⟩⟩then 0 else(dV r.on jq:Int),aX:=if r.dB=⟨⟨[]⟩⟩then -1 else(dV r.dB kD:Int),set:=(gq dG r.names:Int),other:=(gq dG r.others:Int)}
def bH(d:bG):bG:={d with aR:=d.aR.map (mR (cZ d)),rules:=d.rules.map (nS (bS d) (cZ d) (dM d))}
structure BN(dG jq kD:List ByteArray)(r:bE):Prop where
 on:r.on=⟨⟨[]⟩⟩\/r.on∈jq
 names:∀s∈r.names,s∈dG
 others:∀s∈r.others,s∈dG
 dB:r.dB=⟨⟨[]⟩⟩\/r.dB∈kD
structure DV(d:bG):Prop where
 dG:d.symbols.length<=16
 VV:(bS d).Nodup
 VW:(cZ d).Nodup
 VX:(dM d).Nodup
 Pj:∀c∈d.aR,c.on∈cZ d
 VY:(oG d).Nodup
 oH:∀r∈d.rules,BN (bS d) (cZ d) (dM d) r
def j4{α:Type}(f:α->α)(k:Nat)(xs:ae α):ae α:=(xs.take k).map f++xs.drop k
def VZ(f:α->α)(xs:ae α):j4 f xs.length xs=xs.map f:=by simp[j4]
def Ah(f:α->α)(k:Nat)(xs:ae α):(j4 f k xs).length=xs.length:=by simp[j4];omega
def V3(f:α->α){k:Nat}{xs:ae α}(hk:k<xs.length):(j4 f k xs)[k]? =xs[k]?:=by
 unfold j4;rw[rq tG,bZ,iY,EF tr,xZ,sK,AQ]
def V4(f:α->α){k:Nat}{xs:ae α}{x:α}(hx:xs[k]? =some x):(j4 f k xs).set k (f x)=j4 f (k+1) xs:=by
 have hk:=(bC.1 hx).1;unfold j4;rw[RH _ _ tG,bZ,iY,EF tr,xZ];have hd:xs.drop k=x::xs.drop (k+1):=by
  rw[x8 hk];congr 1;rw[bX hk]at hx;exact Option.some.inj hx
 rw[hd,oN,hx,fG];simp
end Kd
namespace Kd
open Go Go.Ideal
structure qc(s w h:Int)(holes:List Int):Prop where
 sh:s=1\/s=2
 wi:1<=w/\w<=16
 he:1<=h/\h<=16
 len:(holes.length:Int)<w*h
 inc:holes.Pairwise (·<·)
 mem:∀x∈holes,0<=x/\x<w*h
def gY(n:Nat)(holes:ae Int):ae Int:=((List.range n).map λi:Nat=>(i:Int)).filter λi=>!decide (i∈holes)
def Km(n:Nat)(holes:ae Int):gY (n+1) holes=gY n holes++if(n:Int)∈holes then[]else[(n:Int)]:=by
 unfold gY;rw[H7,fG,H6];congr 1;by_cases h:(n:Int)∈holes
 .simp[h]
 .simp[h]
def DW(n:Nat)(holes:ae Int):(gY n holes).length<=n:=by
 unfold gY;refine ql (MC _ _) ?_;simp
variable{n:Nat}{x:Int}
def V5{holes:ae Int}(h:x∈gY n holes):0<=x/\x<n/\x∉holes:=by
 unfold gY at h;obtain⟨h1,h2⟩:=uw.1 h;obtain⟨i,hi,rfl⟩:=eF.1 h1;have:=nH.1 hi;exact⟨tr,tr,wj⟩
def Kn(n:Nat)(holes:ae Int):(gY n holes).Pairwise (·<·):=by
 unfold gY;refine List.Pairwise.filter _ ?_;exact jz
def ny(w h:Int)(holes:ae Int):ae Int:=gY (w*h).toNat holes
def xE{w h:Int}(hw:1<=w/\w<=16)(hh:1<=h/\h<=16):1<=w*h/\w*h<=256:=by
 have h1:1*1<=w*h:=Int.mul_le_mul hw.1 hh.1 tr tr;have h2:w*h<=16*16:=Int.mul_le_mul hw.2 hh.2 tr tr;omega
structure eU(g:bB):Prop where
 make:qc g.shape g.w g.h g.holes
 cells:g.cells=ny g.w g.h g.holes
variable{g:bB}
def eU.cell(h:eU g):∀x∈g.cells,0<=x/\x<256:=by
 intro x hx;rw[h.cells]at hx;have h1:=V5 hx;have h2:=xE h.make.wi h.make.he;omega
def eU.len(h:eU g):g.cells.length<=256:=by
 rw[h.cells];have h1:=DW (g.w*g.h).toNat g.holes;have h2:=xE h.make.wi h.make.he;unfold ny;omega
def oI(g:bB)(pos:Int):Int×Int:=(if g.shape=2 then pos.tmod g.w - (pos.tdiv g.w).tdiv 2 else pos.tmod g.w,pos.tdiv g.w)
def bF(g:bB):ae (Int×(Int×Int)):=g.cells.zipIdx.map λp=>((p.2:Int),oI g p.1)
variable{k:Nat}
def yV(h:g.cells[k]? =some x):(bF g)[k]? =some ((k:Int),oI g x):=by
 unfold bF;rw[dN,List.getElem?_zipIdx,h];simp
def qL(g:bB):(bF g).length=g.cells.length:=by simp[bF]
def V6{a b:ae Int}(h:a.Perm b):bR a=bR b:=by
 have h1:(bR a).Perm (bR b):=(zA a _).trans (h.trans (zA b _).symm);have s1:(bR a).Pairwise (λx y=>x<=y):=by
  have:=RN (le:=λx y:Int=>decide (x<=y)) (λa b c h1 h2=>by simp at h1 h2⊢;omega) (λa b=>by simp;omega) a;exact p0
 have s2:(bR b).Pairwise (λx y=>x<=y):=by
  have:=RN (le:=λx y:Int=>decide (x<=y)) (λa b c h1 h2=>by simp at h1 h2⊢;omega) (λa b=>by simp;omega) b;exact p0
 generalize bR a=u at h1 s1;generalize bR b=v at h1 s2;clear h;induction u generalizing v with
 |nil=>exact(List.nil_perm.1 h1).symm▸rfl
 |cons x u ih=>
  cases v with
  |nil=>exact absurd h1.length_eq tt
  |cons y v=>
   have hxy:x=y:=by
    have hx:x∈y::v:=h1.mem_iff.1 (fT ..);have hy:y∈x::u:=h1.mem_iff.2 (fT ..);rcases bT.1 hx with e|hx
    .exact e
    rcases bT.1 hy with e|hy
    .exact e.symm
    have:=(uz.1 s1).1 y hy;have:=(uz.1 s2).1 x hx;omega
   subst hxy;rw[ih (uz.1 s1).2 v ((List.perm_cons x).1 h1) (uz.1 s2).2]
def eD:ae (Int×Int):=[(1,0),(-1,0),(0,1),(0, -1),(1, -1),(-1,1)]
def dS(g:bB):Nat:=if g.shape=1 then 4 else 6
def fF(xs:ae (Int×(Int×Int))):ae ((Int×Int)×ah):=xs.foldl (λm p=>upd p.2 (.int .i64 p.1) m) []
def Pk(xs:ae (Int×(Int×Int)))(p:Int×(Int×Int)):fF (xs++[p])=upd p.2 (.int .i64 p.1) (fF xs):=by
 unfold fF;rw[EE];rfl
def V7{xs:ae (Int×(Int×Int))}:∀a v,dK a (fF xs)=some v->∃c,v=.int .i64 c/\∃p∈xs,p.1=c:=by
 have hup:∀(m:ae ((Int×Int)×ah)) (b:Int×Int) (u:ah) (a:Int×Int) (v:ah),dK a (upd b u m)=some v->(a=b/\v=u)\/dK a m=some v:=by
  intro m;induction m with
  |nil=>
   intro b u a v h;have h:(if a=b then some u else none)=some v:=h;by_cases e:a=b
   .rw[if_pos e]at h;exact .inl ⟨e,(Option.some.inj h).symm⟩
   .rw[if_neg e]at h;cases h
  |cons q m ih=>
   intro b u a v h;obtain⟨k,w⟩:=q;unfold upd at h;by_cases e:b=k
   .rw[if_pos e,yT]at h;by_cases e2:a=b
    .rw[if_pos e2]at h;exact .inl ⟨e2,(Option.some.inj h).symm⟩
    .rw[if_neg e2]at h;right;rw[yT,if_neg (λe3=>e2 (e3.trans e.symm))];exact h
   .rw[if_neg e,yT]at h;by_cases e2:a=k
    .rw[if_pos e2]at h;right;rw[yT,if_pos e2];exact h
    .rw[if_neg e2]at h;rcases ih b u a v h with h|h
     .exact .inl h
     .right;rw[yT,if_neg e2];exact h
 unfold fF;have:∀(xs:ae (Int×(Int×Int))) (m:ae ((Int×Int)×ah)) a v,dK a (xs.foldl (λm p=>upd p.2 (.int .i64 p.1) m) m)=some v->(∃c,v=.int .i64 c/\∃p∈xs,p.1=c)\/dK a m=some v:=by
  intro xs;induction xs with
  |nil=>intro m a v h;exact .inr h
  |cons p xs ih=>
   intro m a v h;rw[vD]at h;rcases ih _ a v h with⟨c,h1,q,hq,h2⟩|h
   .exact .inl ⟨c,h1,q,fO _ hq,h2⟩
   .rcases hup m p.2 _ a v h with⟨_,h1⟩|h
    .exact .inl ⟨p.1,h1,p,fT ..,rfl⟩
    .exact .inr h
 intro a v h;rcases this xs [] a v h with h|h
 .exact h
 .cases h
def numOf:ak ah->ak Int
 |some (.int .i64 n)=>some n
 |_=>none
def gM(m:ae ((Int×Int)×ah))(s:Int×Int)(ds:ae (Int×Int)):ae Int:=ds.filterMap λd=>numOf (dK (s.1+d.1,s.2+d.2) m)
def agW(m:ae ((Int×Int)×ah))(s:Int×Int)(ds:ae (Int×Int))(d:Int×Int):gM m s (ds++[d])=gM m s ds++(numOf (dK (s.1+d.1,s.2+d.2) m)).toList:=by
 unfold gM;rw[List.filterMap_append];congr 1
def Ko(m:ae ((Int×Int)×ah))(s:Int×Int)(ds:ae (Int×Int)):(gM m s ds).length<=ds.length:=List.length_filterMap_le _ _
def mU(g:bB)(p:Int×(Int×Int)):ae Int:=bR (gM (fF (bF g)) p.2 (eD.take (dS g)))
def bJ(g:bB):ae (ae Int):=(bF g).map (mU g)
def Kq(h:eU g):∀p∈bF g,(0<=p.1/\p.1<256)/\(-256<=p.2.1/\p.2.1<256)/\(0<=p.2.2/\p.2.2<256):=by
 intro p hp;obtain⟨k,hk⟩:=wZ.1 hp;have hkl:=(bC.1 hk).1;rw[qL]at hkl;have hx:g.cells[k]? =some g.cells[k]:=bX hkl;rw[yV hx]at hk;cases hk;have hb:=h.cell _ (aS hx);have hl:=h.len;generalize g.cells[k]=x at hb;have hw:=h.make.wi;have hq:0<=x.tdiv g.w/\x.tdiv g.w<=x:=by
  rw[vJ hb.1];exact⟨ME hb.1 tr,Int.ediv_le_self _ hb.1⟩
 have hr:0<=x.tmod g.w/\x.tmod g.w<=x:=by
  rw[EG hb.1];refine⟨Int.emod_nonneg _ tr,?_⟩;have:=RO x g.w;have h3:0<=g.w*(x/g.w):=Int.mul_nonneg tr (ME hb.1 tr);omega
 have hq2:0<=(x.tdiv g.w).tdiv 2/\(x.tdiv g.w).tdiv 2<=x.tdiv g.w:=by
  rw[vJ hq.1];omega
 unfold oI;dsimp only;refine⟨tr,?_,tr⟩;split<;>omega
def Pm:Enc (Int×Int):=⟨2,Unit,λx _=>[.int .i64 x.1,.int .i64 x.2],λ_ _=>[],λ_ _=>rfl⟩
abbrev DX:ae ah:=[.int .i64 1,.int .i64 0,.int .i64 (-1),.int .i64 0,.int .i64 0,.int .i64 1,.int .i64 0,.int .i64 (-1),.int .i64 1,.int .i64 (-1),.int .i64 (-1),.int .i64 1]
variable{b m:Nat}
def agX{w:Wd}(h:(eZ b 0 DX).p w)(hm:m<=6):(aj Pm (.slice (some ⟨b,0,some 0⟩) m 6) (eD.take m)).p w:=by
 obtain⟨cells,h1,h2⟩:=h;have hl:(eD.take m).length=m:=by rw[iY];show min m 6=m;omega
 refine .inr ⟨b,0,0,6,cells,⟨by rw[hl],by rw[hl];exact hm,.inl rfl⟩,h1,λk x hk=>⟨(),λj u hj=>?_,λf hf=>by cases hf⟩⟩;have hk':eD[k]? =some x:=by
  rw[vF]at hk;split at hk
  .exact hk
  .cases hk
 have:=h2 (k*2+j) u (BK (E:=Pm) (aN:=eD.map λd=>(d,())) (k:=k) (p:=(x,())) (by rw[dN,hk'];rfl) hj);show cells[0+k*2+j]? =_;rw[show 0+k*2+j=0+(k*2+j)by omega];exact this
def agY:∀d∈eD,(-1<=d.1/\d.1<=1)/\(-1<=d.2/\d.2<=1):=tA
def agZ{j:Nat}{d:Int×Int}(h:eD[j]? =some d):jN (kF DX (j*2)) 2=some [.int .i64 d.1,.int .i64 d.2]:=by
 have hj:j<6:=(bC.1 h).1;match j,hj with
 |0,_=>cases h;rfl
 |1,_=>cases h;rfl
 |2,_=>cases h;rfl
 |3,_=>cases h;rfl
 |4,_=>cases h;rfl
 |5,_=>cases h;rfl
variable{α:Type}
def cB{xs:ae α}{x:α}(h:xs[k]? =some x):xs.take (k+1)=xs.take k++[x]:=by
 rw[oN,h];rfl
def BP(g:bB):dS g<=6:=by unfold dS;split<;>omega
def ag0{P:Program}{ρ:ay->ah}{x hi:ay}{size:Nat}(hx:ρ x=.pointer (some ⟨b,0,none⟩))(hh:ρ hi=.int .i64 (m:Int))(hm:m<=n):Pu P ρ (.MI n size x none (some hi) none) (.slice (some ⟨b,0,some 0⟩) m n):=λh=>by
 have hb:bounds? n n none (some (.int .i64 (m:Int))) none=some (0,m,n):=by
  show(match upTo n (.int .i64 (m:Int))with|none=>none|some hh=>_)=_;have:upTo n (.int .i64 (m:Int))=some m:=by
   show cond (Nat.ble m n) (some m) none=_;have:Nat.ble m n=true:=by rw[wV];exact hm
   rw[this];rfl
  rw[this]
 simp only[aH.run,hx,jP,hh,hb];show some (Value.slice (Ba b (Nat.add 0 (Nat.mul 0 size))) (Nat.sub m 0) (Nat.sub n 0),h)=_;rw[show Nat.mul 0 size=0 from HY _];rfl
def yX{p:Int×(Int×Int)}(h:(bF g)[k]? =some p):p.1=(k:Int):=by
 have hk:=(bC.1 h).1;rw[qL]at hk;rw[yV (bX hk)]at h;cases h;rfl
def Kt{vs rest:ae (Int×(Int×Int))}{x:Int×(Int×Int)}(h:vs++x::rest=bF g):x.1=(vs.length:Int)/\vs.length<g.cells.length/\x∈bF g:=by
 have h1:(bF g)[vs.length]? =some x:=by rw[<- h];simp
 refine⟨yX h1,?_,aS h1⟩;have:=(bC.1 h1).1
 rwa [qL]at this
def V8{A:ae (ae Int)}(h:A.length<n)(y:ae Int):(A++List.replicate (n - A.length) []).set A.length y=(A++[y])++List.replicate (n - (A.length+1)) []:=by
 rw[RH _ _ (bQ _),xZ,show n - A.length=(n - (A.length+1))+1 by omega,Hz,List.set_cons_zero];simp
def ag1{ws:ae α}{v:α}(h:ws[k]? =some v):ws.set k v=ws:=by
 apply jW;intro i;rw[nI];by_cases e:k=i
 .subst e;rw[if_pos rfl,if_pos (bC.1 h).1,h]
 .rw[if_neg e]
def wE(g:bB):(bJ g).length=g.cells.length:=by
 unfold bJ;rw[bZ,qL]
def ag2(g:bB):(bF g).foldl (λ(xss:ae (ae Int)) (x:Int×(Int×Int))=>xss.set x.1.toNat (mU g x)) (List.replicate g.cells.length [])=bJ g:=by
 have key:∀(rest vs:ae (Int×(Int×Int))),vs++rest=bF g->rest.foldl (λ(xss:ae (ae Int)) (x:Int×(Int×Int))=>xss.set x.1.toNat (mU g x)) (vs.map (mU g)++List.replicate (g.cells.length - vs.length) [])=bJ g:=by
  intro rest;induction rest with
  |nil=>
   intro vs h;rw[jd]at h;rw[List.foldl_nil,h,qL,xZ,List.replicate_zero,jd];rfl
  |cons x rest ih=>
   intro vs h;have h1:=Kt h;rw[vD,h1.1,fQ];have h2:=V8 (A:=vs.map (mU g)) (n:=g.cells.length) (by rw[bZ];exact h1.2.1) (mU g x);rw[bZ]at h2;rw[h2];have h3:=ih (vs++[x]) (by rw[gz];exact h);rw[fG,ik]at h3;exact h3
 have:=key (bF g) [] rfl;rw[List.map_nil,dU,EC,ED]at this;exact this
end Kd
namespace Kd
open Go Go.Ideal
def yY{α β:Type}[DecidableEq α](a b:α)(v:β):∀m:ae (α×β),dK a (upd b v m)=if a=b then some v else dK a m
 |[]=>rfl
 |(k,w)::m=>by
  unfold upd;by_cases e:b=k
  .rw[if_pos e,yT,yT];by_cases e2:a=b
   .rw[if_pos e2,if_pos e2]
   .rw[if_neg e2,if_neg e2,if_neg (λe3=>e2 (e3.trans e.symm))]
  .rw[if_neg e,yT,yT,yY a b v m];by_cases e2:a=k
   .rw[if_pos e2,if_pos e2,if_neg (λe3=>e (e3.symm.trans e2))]
   .rw[if_neg e2,if_neg e2]
def V9{α β:Type}[DecidableEq α](b:α)(v:β):∀m:ae (α×β),(upd b v m).length<=m.length+1
 |[]=>bQ _
 |(k,w)::m=>by
  unfold upd;by_cases e:b=k
  .rw[if_pos e,oh,oh];omega
  .rw[if_neg e,oh,oh];have:=V9 b v m;omega
def xG(kf:Int×Int->Int×Bool)(m:ae (Int×ae Int))(p:Int×(Int×Int)):ae (Int×ae Int):=
 cond (kf p.2).2 (upd (kf p.2).1 ((dK (kf p.2).1 m).getD []++[p.1]) m) m
def jT(kf:Int×Int->Int×Bool)(ps:ae (Int×(Int×Int))):ae (Int×ae Int):=ps.foldl (xG kf) []
def Gr(kf:Int×Int->Int×Bool)(ps:ae (Int×(Int×Int)))(p:Int×(Int×Int)):jT kf (ps++[p])=xG kf (jT kf ps) p:=by
 unfold jT;rw[EE];rfl
def Pn(kf:Int×Int->Int×Bool)(n:Nat):∀ps:ae (Int×(Int×Int)),ps.length=n->(jT kf ps).length<=ps.length/\∀a,((dK a (jT kf ps)).getD []).length<=ps.length:=by
 induction n with
 |zero=>
  intro ps h;rw[jX.1 h];exact⟨bQ _,λa=>bQ _⟩
 |succ n ih=>
  intro ps h;obtain⟨qs,p,rfl⟩:∃qs p,ps=qs++[p]:=⟨ps.dropLast,ps.getLast uc,(CK _).symm⟩
  have hq:qs.length=n:=tE
  obtain⟨h1,h2⟩:=ih qs hq;rw[Gr,ik,vI];unfold xG;cases (kf p.2).2 with
  |false=>exact⟨by show(jT kf qs).length<=_;omega,λa=>by have:=h2 a;show((dK a (jT kf qs)).getD []).length<=_;omega⟩
  |true=>
   refine⟨?_,λa=>?_⟩
   .have:=V9 (kf p.2).1 ((dK (kf p.2).1 (jT kf qs)).getD []++[p.1]) (jT kf qs);show(upd _ _ _).length<=_;omega
   .show((dK a (upd _ _ _)).getD []).length<=_;rw[yY];by_cases e:a=(kf p.2).1
    .rw[if_pos e,wX,ik,vI];have:=h2 (kf p.2).1;omega
    .rw[if_neg e];have:=h2 a;omega
def jr(g:bB)(kf:Int×Int->Int×Bool):ae (ae Int):=(bR ((jT kf (bF g)).map (·.1))).map λn=>(dK n (jT kf (bF g))).getD []
variable{g:bB}
def Ku(hg:eU g)(kf:Int×Int->Int×Bool):(jr g kf).length<=256/\∀l∈jr g kf,l.length<=256:=by
 have h:=Pn kf _ (bF g) rfl;have hl:=hg.len;rw[qL]at h;unfold jr;refine⟨?_,λl hl2=>?_⟩
 .rw[bZ];have:(bR ((jT kf (bF g)).map (·.1))).length=((jT kf (bF g)).map (·.1)).length:=(zA _ _).length_eq;rw[this,bZ];omega
 .obtain⟨n,_,rfl⟩:=eF.1 hl2;have:=h.2 n;omega
def uX(acc:ae (ae Int))(l:ae Int):ae (ae Int):=if acc.head? =some l then acc else acc++[l]
def kP(a b:ae (ae Int)):ae (ae Int):=b.foldl uX a
variable{l:ae Int}{k:Nat}
def We{a b:ae (ae Int)}(h:b[k]? =some l):kP a (b.take (k+1))=uX (kP a (b.take k)) l:=by
 unfold kP;rw[cB h,EE];rfl
def Po{a b:ae (ae Int)}{n:Nat}(ha:∀l∈a,l.length<=n)(hb:∀l∈b,l.length<=n):∀k,(kP a (b.take k)).length<=a.length+k/\∀l∈kP a (b.take k),l.length<=n
 |0=>⟨bQ _,ha⟩
 |k+1=>by
  obtain⟨h1,h2⟩:=Po ha hb k;cases h:b[k]? with
  |none=>
   have:b.take (k+1)=b.take k:=by rw[oN,h];simp
   rw[this];exact⟨tr,h2⟩
  |some l=>
   rw[We h];unfold uX;split
   .exact⟨tr,h2⟩
   .rw[ik,vI];refine⟨tr,λx hx=>?_⟩;rcases dY.1 hx with hx|hx
    .exact h2 x hx
    .rw[bK.1 hx];exact hb l (aS h)
def lZ(g:bB):ae (ae Int):=
 if g.shape=2 then jr g (λs=>(s.1+s.2,true))
 else if g.w=g.h then kP (jr g (λs=>(0,decide (s.1=s.2)))) (jr g (λs=>(0,decide (s.1+s.2=g.w - 1))))
 else[]
variable{x:Int}
def wF:x∈bR l↔x∈l:=(zA l _).mem_iff
def ag3:∀a c:Int,Value.int .i64 a=Value.int .i64 c->a=c:=λa c h=>by injection h
def mV(n:Nat):ae (ae Int):=(List.range n).map λi:Nat=>[(i:Int)]
def Wh(k:Nat):mV (k+1)=mV k++[[(k:Int)]]:=by
 unfold mV;rw[H7,fG];rfl
def Pp(k:Nat):(mV k).length=k:=by unfold mV;simp
def upTo'(n:Nat):ae Int:=(List.range n).map λi:Nat=>(i:Int)
def wG(k:Nat):upTo' (k+1)=upTo' k++[(k:Int)]:=by
 unfold upTo';rw[H7,fG];rfl
def nT(k:Nat):(upTo' k).length=k:=by unfold upTo';simp
def l5(aK:ae (ae Int)):ae (ae Int):=aK.zipIdx.map λp=>bR (p.1++[(p.2:Int)])
variable{aK:ae (ae Int)}
def Wi(h:aK[k]? =some l):l5 (aK.take (k+1))=l5 (aK.take k)++[bR (l++[(k:Int)])]:=by
 have hk:=(bC.1 h).1;unfold l5;rw[cB h,RJ,fG,iY,EF tr];simp
def Pq(aK:ae (ae Int)):(l5 aK).length=aK.length:=by unfold l5;simp
def jK(i:Nat)(l:ae Int):ae (ae Int):=(l.filter λj=>decide ((i:Int)<j)).map λj=>[(i:Int),j]
def Wj{i j:Nat}(h:l[j]? =some x):jK i (l.take (j+1))=jK i (l.take j)++if(i:Int)<x then[[(i:Int),x]]else[]:=by
 unfold jK;rw[cB h,H6,fG];by_cases e:(i:Int)<x<;>simp[e]
def Ps(i:Nat)(l:ae Int):(jK i l).length<=l.length:=by
 unfold jK;rw[bZ];exact MC _ _
def iX(aK:ae (ae Int)):ae (ae Int):=aK.zipIdx.flatMap λp=>jK p.2 p.1
def Pt(h:aK[k]? =some l):iX (aK.take (k+1))=iX (aK.take k)++jK k l:=by
 have hk:=(bC.1 h).1;unfold iX;rw[cB h,RJ,List.flatMap_append,iY,EF tr];simp
def Kv{aK:ae (ae Int)}(hn:∀l∈aK,l.length<=6):∀k,k<=aK.length->(iX (aK.take k)).length<=6*k
 |0,_=>by simp[iX]
 |k+1,hk=>by
  have h:aK[k]? =some aK[k]:=bX tr;have:=Kv hn k tr;have h2:=Ps k aK[k];have h3:=hn aK[k] (wU _);rw[Pt h,ik];omega
def Gs:∀l∈bJ g,l.length<=6:=by
 intro l hl;obtain⟨p,_,rfl⟩:=eF.1 hl;unfold mU;exact eM
def dD(g:bB)(k:Int):ae (ae Int):=
 if k=0 then mV g.cells.length
 else if k=1 then jr g (λs=>(s.2,true))
 else if k=2 then jr g (λs=>(s.1,true))
 else if k=3 then lZ g
 else if k=4 then bJ g
 else if k=5 then l5 (bJ g)
 else if k=6 then iX (bJ g)
 else[upTo' g.cells.length]
end Kd
namespace Kd
open Go Go.Ideal
def xH(p:Int):ae Int->Nat
 |[]=>0
 |a::l=>if p=a then 0 else xH p l+1
def Kw{p:Int}:∀{l:ae Int} {n:Nat},l.Pairwise (·<·)->l[n]? =some p->xH p l=n
 |[],n,_,h=>by simp at h
 |a::l,0,_,h=>by
  have h:a=p:=tE
  unfold xH;rw[if_pos h.symm]
 |a::l,n+1,hp,h=>by
  have h:l[n]? =some p:=tE
  have h1:=(uz.1 hp).1 p (aS h);unfold xH;rw[if_neg tr,Kw (uz.1 hp).2 h]
def Pv{p:Int}:∀{l:ae Int},p∈l->xH p l<l.length
 |[],h=>by cases h
 |a::l,h=>by
  unfold xH;by_cases e:p=a
  .rw[if_pos e,oh];omega
  .rw[if_neg e,oh];have:=Pv (p:=p) (l:=l) ((bT.1 h).resolve_left e);omega
def Ai(xs:ae Int):ae (Int×ah):=xs.foldl (λm c=>upd c (.bool true) m) []
def Wl(xs:ae Int)(c:Int):Ai (xs++[c])=upd c (.bool true) (Ai xs):=by
 unfold Ai;rw[EE];rfl
def ag4(c:Int)(n:Nat):∀xs:ae Int,xs.length=n->dK c (Ai xs)=if c∈xs then some (.bool true)else none:=by
 induction n with
 |zero=>
  intro xs h;rw[jX.1 h];rfl
 |succ n ih=>
  intro xs h;obtain⟨ys,p,rfl⟩:∃ys p,xs=ys++[p]:=⟨xs.dropLast,xs.getLast uc,(CK _).symm⟩
  rw[Wl,yY,ih ys tE];by_cases e:c=p
  .subst e;simp
  .simp[e]
def ag5(c:Int)(xs:ae Int):lX false (.bool false) c (Ai xs)=.bool (decide (c∈xs)):=by
 unfold lX;rw[ag4 c _ xs rfl];by_cases e:c∈xs
 .rw[if_pos e,eB e];rfl
 .rw[if_neg e,aY e];rfl
def Wm:∀(m:Nat) (l:ae Int),l.Nodup->(∀x∈l,0<=x/\x<(m:Int))->l.length<=m:=by
 intro m;induction m with
 |zero=>
  intro l _ h;cases l with
  |nil=>exact bQ _
  |cons x l=>have:=h x (fT ..);omega
 |succ m ih=>
  intro l hn h;have h1:=ih (l.erase (m:Int)) (hn.erase _) (λx hx=>by
   have:=h x (List.mem_of_mem_erase hx);have hne:x≠(m:Int):=λe=>by subst e;exact(List.Nodup.mem_erase_iff hn).1 hx|>.1 rfl
   omega)
  rw[List.length_erase]at h1;split at h1<;>omega
structure Aj(g:bB)(ps:List Int):Prop where
 ne:ps≠[]
 mem:∀p∈ps,p∈g.cells
 nd:(ps.map λp=>(xH p g.cells:Int)).Nodup
structure xI(g:bB)(rs:List (List Int)):Prop where
 len:rs.length<=64
 all:∀ps∈rs,Aj g ps
def fA(g:bB)(ps:ae Int):ae Int:=ps.map λp=>(xH p g.cells:Int)
def dW(g:bB)(rs:ae (ae Int)):ae (ae Int):=rs.map (fA g)
def Ky{g:bB}{ps:ae Int}(hm:∀p∈ps,p∈g.cells)(hn:(fA g ps).Nodup):ps.length<=g.cells.length:=by
 have:=Wm g.cells.length (fA g ps) hn (λx hx=>by
  obtain⟨p,hp,rfl⟩:=eF.1 hx;have:=Pv (hm p hp);omega)
 unfold fA at this
 rwa [bZ]at this
end Kd
namespace Kd
open Go Go.Ideal
def wH(xs:ae Int):ae (Int×ah):=(xs.foldl (λs c=>(upd c (.int .i64 ((s.2.count c:Nat)+1)) s.1,s.2++[c])) (([]:ae (Int×ah)),([]:ae Int))).1
def ag6(xs:ae Int):∀(m:ae (Int×ah)) (ys:ae Int),(xs.foldl (λs c=>(upd c (.int .i64 ((s.2.count c:Nat)+1)) s.1,s.2++[c])) (m,ys)).2=ys++xs:=by
 induction xs with
 |nil=>intro m ys;simp
 |cons x xs ih=>intro m ys;rw[vD,ih];simp
def Wn(xs:ae Int)(c:Int):wH (xs++[c])=upd c (.int .i64 ((xs.count c:Nat)+1)) (wH xs):=by
 unfold wH;rw[EE,vD,List.foldl_nil];show upd c _ _=_;rw[ag6,dU]
def ag7(c:Int)(n:Nat):∀xs:ae Int,xs.length=n->dK c (wH xs)=if c∈xs then some (.int .i64 (xs.count c:Nat))else none:=by
 induction n with
 |zero=>
  intro xs h;rw[jX.1 h];rfl
 |succ n ih=>
  intro xs h;obtain⟨ys,p,rfl⟩:∃ys p,xs=ys++[p]:=⟨xs.dropLast,xs.getLast uc,(CK _).symm⟩
  rw[Wn,yY,ih ys tE];by_cases e:c=p
  .subst e;simp
  .have e2:¬p=c:=λh=>e h.symm;simp[e,e2,List.count_cons,List.count_append]
def Wo(c:Int)(xs:ae Int):lX false (.int .i64 0) c (wH xs)=.int .i64 (xs.count c:Nat):=by
 unfold lX;rw[ag7 c _ xs rfl];by_cases e:c∈xs
 .rw[if_pos e];rfl
 .rw[if_neg e,List.count_eq_zero_of_not_mem e];rfl
def Wp(c:Int)(xs:ae Int):xs.count c<=xs.length:=List.count_le_length ..
def aU(d:bG):bB:=⟨d.shape,d.w,d.h,d.holes,ny d.w d.h d.holes⟩
def mI(d:bG):ae (ae (ae Int)):=((List.range 8).map λf:Nat=>dD (aU d) (f:Int))++d.regions.map λr=>dW (aU d) r.lists
def lJ(d:bG):bN:=⟨d,aU d,bJ (aU d),mI d⟩
end Kd
namespace Kd
open Go Go.Ideal Canon
def DY:ae Int->Int
 |[]=>0
 |a::l=>if a≠0 then a else DY l
def jI(a b:Clue):Int:=DY [lH a.aX b.aX,lH a.at_ b.at_]
def ag8(a b:Clue):jI a b=kU lH [a.aX,a.at_] [b.aX,b.at_]:=by
 unfold jI;simp only[DY,kU]
variable{a b:Clue}
def DZ:jI a b<0↔a.aX<b.aX\/(a.aX=b.aX/\a.at_<b.at_):=by
 exact eA
def Pw{c:Clue}(h1:jI a b<0)(h2:jI b c<0):jI a c<0:=by
 rw[DZ]at *;omega
def Gt(k:bN)(g:Clue):Prop:=∃(c:jo) (l:ae (ae Int)),0<=g.aX/\k.decl.aR[g.aX.toNat]? =some c/\k.lists[c.family.toNat]? =some l/\0<=g.at_/\g.at_<l.length/\
 ((c.type=1/\g.values.length=1/\∀x∈g.values,0<=x/\x<=(k.decl.symbols.length:Int) - 1)\/(c.type=2/\g.values.length=1/\∀x∈g.values,c.lo<=x/\x<=c.hi)\/
   (c.type≠1/\c.type≠2/\g.values.length<=8/\∀x∈g.values,1<=x/\x<=256))
structure D5(k:bN)(p:List Clue):Prop where
 len:p.length<=512
 right:∀g∈p,Gt k g
 sorted:∀(i:Nat) a b,p[i]? =some a->p[i+1]? =some b->jI a b<0
def Wq(k:bN):Prop:=∀c∈k.decl.aR,0<=c.family/\c.family<k.lists.length
end Kd
namespace Kd
open Go Go.Ideal Canon
def Ws(k:bN)(i:Int):Int:=match k.decl.aR[i.toNat]? with|some c=>c.family|none=>0
def oO(k:bN)(g:Clue):ae Int:=(k.lists.getD (Ws k g.aX).toNat []).getD g.at_.toNat []
def Kz(k:bN)(p:ae Clue)(r:bE):ae (ae Int×ae Int):=
 if r.aX<0 then(k.lists.getD r.family.toNat []).map λl=>(l,[r.n])else(p.filter λg=>decide (g.aX=r.aX)).map λg=>(oO k g,g.values)
def iC{α:Type}{l:ae α}{n:Nat}{x d:α}(h:l[n]? =some x):l.getD n d=x:=by simp[List.getD,h]
def Gt.cells{k:bN}{g:Clue}(h:Gt k g):∃(c:jo) (l:ae (ae Int)) (ps:ae Int),k.decl.aR[g.aX.toNat]? =some c/\k.lists[c.family.toNat]? =some l/\l[g.at_.toNat]? =some ps/\0<=g.aX/\0<=g.at_/\g.at_<l.length/\oO k g=ps:=by
 obtain⟨c,l,h1,h2,h3,h4,h5,_⟩:=h;have h6:l[g.at_.toNat]? =some (l[g.at_.toNat]'(tr)):=bX _;refine⟨c,l,_,h2,h3,h6,h1,h4,h5,?_⟩;unfold oO Ws;rw[h2];dsimp only;rw[iC h3,iC h6]
end Kd
namespace Kd
open Go Go.Ideal Canon
def aT(grid:ae Int)(c:Int):Int:=grid.getD c.toNat 0
def kX{grid:ae Int}{n:Nat}{x:Int}(h:grid[n]? =some x):aT grid (n:Int)=x:=by unfold aT;exact iC h
end Kd
namespace Kd
open Go Go.Ideal
def D6(n:Nat)(l:ae Int):Prop:=l.length<=4096/\∀c∈l,0<=c/\c<(n:Int)
variable{g:bB}
def KA:∀p∈bF g,0<=p.1/\p.1<(g.cells.length:Int):=by
 intro p hp;obtain⟨k,hk⟩:=wZ.1 hp;have hkl:=(bC.1 hk).1;rw[qL]at hkl;have:=yX hk;omega
def ag9(kf:Int×Int->Int×Bool)(n:Nat):∀ps:ae (Int×(Int×Int)),ps.length=n->∀a,∀c∈(dK a (jT kf ps)).getD [],∃p∈ps,p.1=c:=by
 induction n with
 |zero=>
  intro ps h a c hc;rw[jX.1 h]at hc;have hc:c∈([]:ae Int):=hc;cases hc
 |succ n ih=>
  intro ps h a c hc;obtain⟨qs,p,rfl⟩:∃qs p,ps=qs++[p]:=⟨ps.dropLast,ps.getLast uc,(CK _).symm⟩
  have hq:qs.length=n:=tE
  have hih:∀a,∀c∈(dK a (jT kf qs)).getD [],∃p'∈qs++[p],p'.1=c:=λa c hc=>by
   obtain⟨q,h1,h2⟩:=ih qs hq a c hc;exact⟨q,lq _ h1,h2⟩
  rw[Gr]at hc;unfold xG at hc;cases hb:(kf p.2).2 with
  |false=>
   rw[hb]at hc;exact hih a c hc
  |true=>
   rw[hb]at hc;have hc:c∈(dK a (upd (kf p.2).1 ((dK (kf p.2).1 (jT kf qs)).getD []++[p.1]) (jT kf qs))).getD []:=hc;rw[yY]at hc;by_cases e:a=(kf p.2).1
   .rw[if_pos e,wX]at hc;rcases dY.1 hc with hc|hc
    .exact hih _ c hc
    .exact⟨p,tt,(bK.1 hc).symm⟩
   .rw[if_neg e]at hc;exact hih a c hc
def Gu(hg:eU g)(kf:Int×Int->Int×Bool):∀l∈jr g kf,D6 g.cells.length l:=by
 intro l hl;have hlen:=(Ku hg kf).2 l hl;refine⟨tr,λc hc=>?_⟩;unfold jr at hl;obtain⟨n,_,rfl⟩:=eF.1 hl;obtain⟨p,hp,rfl⟩:=ag9 kf _ (bF g) rfl n c hc;exact KA p hp
variable{l:ae Int}
def Px{a b:ae (ae Int)}(h:l∈kP a b):l∈a\/l∈b:=by
 unfold kP at h;induction b generalizing a with
 |nil=>exact .inl h
 |cons x b ih=>
  rw[vD]at h;rcases ih h with h|h
  .unfold uX at h;split at h
   .exact .inl h
   .rcases dY.1 h with h|h
    .exact .inl h
    .exact .inr (by rw[bK.1 h];simp)
  .exact .inr (fO _ h)
def Wt{o:ak ah}{n:Int}(h:numOf o=some n):o=some (.int .i64 n):=by
 unfold numOf at h;split at h
 .cases h;rfl
 .cases h
def aha{p:Int×(Int×Int)}:D6 g.cells.length (mU g p):=by
 unfold mU;refine⟨?_,λc hc=>?_⟩
 .exact eM
 .rw[wF]at hc;unfold gM at hc;obtain⟨d,_,hd⟩:=Hw.1 hc;obtain⟨c',h1,q,hq,h2⟩:=V7 _ _ (Wt hd);injection h1 with _ h1;rw[h1,<- h2];exact KA q hq
def Gv:∀l∈bJ g,D6 g.cells.length l:=by
 intro l hl;obtain⟨p,_,rfl⟩:=eF.1 hl;exact aha
def ahb(l:ae Int):(bR l).length=l.length:=(zA l _).length_eq
def Wu(hg:eU g)(k:Int):∀l∈dD g k,D6 g.cells.length l:=by
 have hlen:=hg.len;have hnl:=wE g;have hnm:=Gs (g:=g);intro l hl;unfold dD at hl;split at hl
 .unfold mV at hl;obtain⟨i,hi,rfl⟩:=eF.1 hl;have:=nH.1 hi;exact⟨tt,λc hc=>by rw[bK.1 hc];omega⟩
 split at hl
 .exact Gu hg _ l hl
 split at hl
 .exact Gu hg _ l hl
 split at hl
 .unfold lZ at hl;split at hl
  .exact Gu hg _ l hl
  split at hl
  .rcases Px hl with hl|hl
   .exact Gu hg _ l hl
   .exact Gu hg _ l hl
  .cases hl
 split at hl
 .exact Gv l hl
 split at hl
 .unfold l5 at hl;obtain⟨⟨x,i⟩,hx,rfl⟩:=eF.1 hl;have hx:=vK.1 hx;have hxm:=aS hx;have hi:=(bC.1 hx).1;have h6:=hnm x hxm;refine⟨by rw[ahb];simp;omega,λc hc=>?_⟩;rw[wF]at hc;rcases dY.1 hc with hc|hc
  .exact(Gv x hxm).2 c hc
  .rw[bK.1 hc];dsimp only;omega
 split at hl
 .unfold iX at hl;obtain⟨⟨x,i⟩,hx,hl⟩:=List.mem_flatMap.1 hl;have hx:=vK.1 hx;have hxm:=aS hx;have hi:=(bC.1 hx).1;unfold jK at hl;obtain⟨j,hj,rfl⟩:=eF.1 hl;have hj:=(uw.1 hj).1;refine⟨tt,λc hc=>?_⟩;simp only[bT,Hu,or_false]at hc;rcases hc with rfl|rfl
  .omega
  .exact(Gv x hxm).2 _ hj
 .rw[bK.1 hl];refine⟨by rw[nT];omega,λc hc=>?_⟩;unfold upTo' at hc;obtain⟨i,hi,rfl⟩:=eF.1 hc;have:=nH.1 hi;omega
def Wv(hg:eU g){rs:ae (ae Int)}(hr:xI g rs):∀l∈dW g rs,D6 g.cells.length l:=by
 intro l hl;obtain⟨ps,hps,rfl⟩:=eF.1 hl;have hP:=hr.all ps hps;have h1:=Ky hP.mem hP.nd;have h2:=hg.len;refine⟨by unfold fA;rw[bZ];omega,λc hc=>?_⟩;obtain⟨p,hp,rfl⟩:=eF.1 hc;have:=Pv (hP.mem p hp);omega
def ahc{d:bG}(hg:eU (aU d))(hr:∀r∈d.regions,xI (aU d) r.lists):∀l∈mI d,∀ps∈l,D6 (aU d).cells.length ps:=by
 intro l hl ps hps;unfold mI at hl;rcases dY.1 hl with hl|hl
 .obtain⟨f,_,rfl⟩:=eF.1 hl;exact Wu hg _ ps hps
 .obtain⟨r,hrm,rfl⟩:=eF.1 hl;exact Wv hg (hr r hrm) ps hps
def ahd(hw:1<=g.w){x y:Int}(hx:0<=x)(hy:0<=y)(h:oI g x=oI g y):x=y:=by
 unfold oI at h;have h1:=congrArg Prod.fst h;have h2:=congrArg Prod.snd h;dsimp only at h1 h2;rw[vJ hx,vJ hy]at h2;rw[vJ hx,vJ hy,EG hx,EG hy,h2]at h1;have h3:x%g.w=y%g.w:=by
  split at h1<;>omega
 have e1:=RO x g.w;have e2:=RO y g.w;rw[h2,h3]at e1;omega
def Gw(hg:eU g){p q:Int×(Int×Int)}(hp:p∈bF g)(hq:q∈bF g)(h:p.1=q.1\/p.2=q.2):p=q:=by
 obtain⟨k,hk⟩:=wZ.1 hp;obtain⟨j,hj⟩:=wZ.1 hq;have hkl:=(bC.1 hk).1;have hjl:=(bC.1 hj).1;rw[qL]at hkl hjl;rcases h with h|h
 .have h1:=yX hk;have h2:=yX hj;have:k=j:=by omega
  subst this;rw[hk]at hj;exact Option.some.inj hj
 .have hx:g.cells[k]? =some g.cells[k]:=bX hkl;have hy:g.cells[j]? =some g.cells[j]:=bX hjl;have hkk:=hk;have hjj:=hj;rw[yV hx]at hk;rw[yV hy]at hj;have hk:=Option.some.inj hk;have hj:=Option.some.inj hj;have hs:oI g g.cells[k]=oI g g.cells[j]:=by rw[<- hk,<- hj]at h;exact h
  have he:=ahd (by have:=hg.make.wi;omega) (hg.cell _ (wU _)).1 (hg.cell _ (wU _)).1 hs;have mW:g.cells.Pairwise (·<·):=zp
  have hkj:k=j:=by
   apply Classical.byContradiction;intro hne;have:=AZ.1 mW;rcases Nat.lt_or_gt_of_ne hne with hl|hl
   .have:=this k j hkl hjl hl;omega
   .have:=this j k hjl hkl hl;omega
  subst hkj;rw[hkk]at hjj;exact Option.some.inj hjj
def ahe(n:Nat):∀xs:ae (Int×(Int×Int)),xs.length=n->(∀p∈xs,∀q∈xs,p.2=q.2->p=q)->∀p∈xs,dK p.2 (fF xs)=some (.int .i64 p.1):=by
 induction n with
 |zero=>intro xs h _ p hp;rw[jX.1 h]at hp;cases hp
 |succ n ih=>
  intro xs h hi p hp;obtain⟨ys,q,rfl⟩:∃ys q,xs=ys++[q]:=⟨xs.dropLast,xs.getLast uc,(CK _).symm⟩
  rw[Pk,yY];by_cases e:p.2=q.2
  .have:=hi p hp q tt e;subst this;rw[if_pos rfl]
  .rw[if_neg e];refine ih ys tE (λa ha b hb=>hi a (lq _ ha) b (lq _ hb)) p ?_;rcases dY.1 hp with hp|hp
   .exact hp
   .rw[bK.1 hp]at e;exact absurd rfl e
def ahf(n:Nat):∀xs:ae (Int×(Int×Int)),xs.length=n->∀a v,dK a (fF xs)=some v->∃p∈xs,p.2=a/\v=.int .i64 p.1:=by
 induction n with
 |zero=>
  intro xs h a v hv;rw[jX.1 h]at hv;cases hv
 |succ n ih=>
  intro xs h a v hv;obtain⟨ys,q,rfl⟩:∃ys q,xs=ys++[q]:=⟨xs.dropLast,xs.getLast uc,(CK _).symm⟩
  rw[Pk,yY]at hv;by_cases e:a=q.2
  .rw[if_pos e]at hv;exact⟨q,tt,e.symm,(Option.some.inj hv).symm⟩
  .rw[if_neg e]at hv;obtain⟨p,h1,h2⟩:=ih ys tE a v hv;exact⟨p,lq _ h1,h2⟩
def KC(hg:eU g){s:Int×Int}{d:Int×Int}{n:Int}:numOf (dK (s.1+d.1,s.2+d.2) (fF (bF g)))=some n↔∃q∈bF g,q.2=(s.1+d.1,s.2+d.2)/\q.1=n:=by
 constructor
 .intro h;obtain⟨q,hq,h1,h2⟩:=ahf _ (bF g) rfl _ _ (Wt h);injection h2 with _ h2;exact⟨q,hq,h1,h2.symm⟩
 .rintro⟨q,hq,h1,h2⟩;rw[<- h1,ahe _ (bF g) rfl (λa ha b hb e=>Gw hg ha hb (.inr e)) q hq,<- h2];rfl
def Py(hg:eU g){p:Int×(Int×Int)}{n:Int}:n∈mU g p↔∃d∈eD.take (dS g),∃q∈bF g,q.2=(p.2.1+d.1,p.2.2+d.2)/\q.1=n:=by
 unfold mU;rw[wF];unfold gM;rw[Hw];constructor
 .rintro⟨d,hd,h⟩;exact⟨d,hd,(KC hg).1 h⟩
 .rintro⟨d,hd,h⟩;exact⟨d,hd,(KC hg).2 h⟩
def Ww(g:bB):dS g=4\/dS g=6:=by unfold dS;split<;>simp
variable{m:Nat}
def ahg(hm:m=4\/m=6):∀d∈eD.take m,(-d.1, -d.2)∈eD.take m:=by
 rcases hm with rfl|rfl<;>decide
def ahh:∀d∈eD.take m,¬(d.1=0/\d.2=0):=by
 intro d hd;have:=Rq hd;revert d;have:∀d∈eD,¬(d.1=0/\d.2=0):=tA
 intro d _ hd;exact this d hd
def ahi(hm:m=4\/m=6):(eD.take m).Nodup:=by
 rcases hm with rfl|rfl<;>decide
def Pz(l:ae Int):(bR l).Pairwise (λx y=>x<=y):=by
 have:=RN (le:=λx y:Int=>decide (x<=y)) (λa b c h1 h2=>by simp at h1 h2⊢;omega) (λa b=>by simp;omega) l;exact p0
def KD(h:l.Nodup):(bR l).Pairwise (·<·):=by
 have h1:=Pz l;have h2:(bR l).Nodup:=(zA l _).symm.nodup h;have h3:(bR l).Pairwise (λx y=>x<=y/\x≠y):=List.Pairwise.and h1 h2;exact h3.imp (λh=>by omega)
def PD(hg:eU g)(p:Int×(Int×Int)):(mU g p).Pairwise (·<·):=by
 unfold mU;refine KD ?_;unfold gM;refine List.Pairwise.filterMap _ ?_ (ahi (Ww g));intro d1 d2 hne b hb b' hb' e;subst e;obtain⟨q1,h1,h2,h3⟩:=(KC hg).1 hb;obtain⟨q2,k1,k2,k3⟩:=(KC hg).1 hb';have:=Gw hg h1 k1 (.inl (by rw[h3,k3]));subst this;rw[h2]at k2;apply hne;have e1:=congrArg Prod.fst k2;have e2:=congrArg Prod.snd k2;dsimp only at e1 e2;exact Prod.ext tr tr
def Wx(hg:eU g)(i:Nat)(l:ae Int)(hl:(bJ g)[i]? =some l)(k:Nat)(n:Int)(hn:l[k]? =some n):
 0<=n/\n<(bJ g).length/\n≠i/\(∀m,0<k->l[k - 1]? =some m->m<n)/\∀l',(bJ g)[n.toNat]? =some l'->(i:Int)∈l':=by
 have hnm:=wE g;unfold bJ at hl;rw[dN]at hl;obtain⟨p,hp,rfl⟩:=lm.1 hl;have hp1:=yX hp;have hpm:=aS hp;obtain⟨d,hd,q,hq,hq2,hq1⟩:=(Py hg).1 (aS hn);have hqi:=KA q hq;refine⟨tr,tr,λe=>?_,λm hk hm=>?_,λl' hl'=>?_⟩
 .have:q=p:=Gw hg hq hpm (.inl tr);subst this;have e1:=congrArg Prod.fst hq2;have e2:=congrArg Prod.snd hq2;dsimp only at e1 e2;exact ahh d hd ⟨tr,tr⟩
 .have hlt:=PD hg p;obtain⟨a1,a2⟩:=bC.1 hm;obtain⟨b1,b2⟩:=bC.1 hn;have:=AZ.1 hlt (k - 1) k a1 b1 tr;rw[a2,b2]at this;exact this
 .unfold bJ at hl';rw[dN]at hl';obtain⟨q',hq',rfl⟩:=lm.1 hl';have h1:=yX hq';have:q'=q:=Gw hg (aS hq') hq (.inl tr);subst this;rw[Py hg];refine⟨(-d.1, -d.2),ahg (Ww g) d hd,p,hpm,?_,hp1⟩;rw[hq2];dsimp only;exact Prod.ext wl wl
end Kd
namespace Kd
open Go Go.Ideal Canon Gph
def BQ(r:bE):Int:=if r.kind=6\/r.kind=7\/r.kind=8 then 6 else if r.kind=9\/r.kind=10 then 7 else if r.kind=11 then 0 else r.family
end Kd
namespace Kd
open Go Go.Ideal Canon Gph
def KE(p:ae Clue)(c:Int)(at_:Int):ak (ae Int):=(p.find? λg=>decide (g.aX=c/\g.at_=at_)).map (·.values)
def PE(p:ae Clue)(r:bE)(x:ae Int×Nat):ak (Nat×ae Int×ae Int):=if r.aX<0 then some (x.2,x.1,[])else(KE p r.aX (x.2:Int)).map λv=>(x.2,x.1,v)
def PG(p:ae Clue)(r:bE)(ls:ae (ae Int)):ae (Nat×ae Int×ae Int):=ls.zipIdx.filterMap (PE p r)
end Kd
namespace Kd
open Go Go.Ideal Canon Gph
def ahj(kf:Int×Int->Int×Bool)(n:Nat):∀ps:ae (Int×(Int×Int)),ps.length=n->∀a,((dK a (jT kf ps)).getD []).Sublist (ps.map (·.1)):=by
 induction n with
 |zero=>
  intro ps h a;rw[jX.1 h];exact List.Sublist.refl _
 |succ n ih=>
  intro ps h a;obtain⟨qs,p,rfl⟩:∃qs p,ps=qs++[p]:=⟨ps.dropLast,ps.getLast uc,(CK _).symm⟩
  have hq:qs.length=n:=tE
  have ih:=ih qs hq;rw[fG,Gr];unfold xG;cases hb:(kf p.2).2 with
  |false=>exact(ih a).trans (List.sublist_append_left _ _)
  |true=>
   show((dK a (upd (kf p.2).1 ((dK (kf p.2).1 (jT kf qs)).getD []++[p.1]) (jT kf qs))).getD []).Sublist _;rw[yY];by_cases e:a=(kf p.2).1
   .rw[if_pos e,wX];exact(ih _).append (List.Sublist.refl _)
   .rw[if_neg e];exact(ih a).trans (List.sublist_append_left _ _)
variable{g:bB}
def ahk:(bF g).map (·.1)=upTo' g.cells.length:=by
 apply jW;intro i;unfold upTo';rw[dN,dN];by_cases h:i<g.cells.length
 .rw[yV (bX h),ru h];rfl
 .rw[iq z6,iq (by rw[qm];omega)];rfl
def Gx(n:Nat):(upTo' n).Nodup:=by
 unfold upTo';refine List.Pairwise.map _ (λa b h=>?_) List.nodup_range;intro e;apply h;omega
def Wy{n i:Nat}{x:Int}(h:(upTo' n)[i]? =some x):x=i:=by
 unfold upTo' at h;rw[dN]at h;obtain⟨j,hj,rfl⟩:=lm.1 h;have:=bC.1 hj;obtain⟨h1,h2⟩:=this;rw[List.getElem_range]at h2;omega
def Gy(kf:Int×Int->Int×Bool):∀l∈jr g kf,l.Nodup:=by
 intro l hl;unfold jr at hl;obtain⟨n,_,rfl⟩:=eF.1 hl;have:=ahj kf _ (bF g) rfl n;rw[ahk]at this;exact this.nodup (Gx _)
def PI(hg:eU g)(p:Int×(Int×Int)):(mU g p).Nodup:=(PD hg p).imp (λh=>by omega)
variable{l:ae Int}
def Wz(h:l.Nodup):(bR l).Nodup:=(KD h).imp (λh=>by omega)
def WA{aK:ae (ae Int)}(h:l∈iX aK):∃(i:Nat) (x:ae Int) (j:Int),aK[i]? =some x/\j∈x/\(i:Int)<j/\l=[(i:Int),j]:=by
 unfold iX at h;obtain⟨⟨x,i⟩,hx,hl⟩:=List.mem_flatMap.1 h;unfold jK at hl;obtain⟨j,hj,rfl⟩:=eF.1 hl;obtain⟨h1,h2⟩:=uw.1 hj;exact⟨i,x,j,vK.1 hx,h1,gT h2,rfl⟩
def ahl(hg:eU g)(k:Int):∀l∈dD g k,l.Nodup:=by
 intro l hl;unfold dD at hl;split at hl
 .unfold mV at hl;obtain⟨i,hi,rfl⟩:=eF.1 hl;simp
 split at hl
 .exact Gy _ l hl
 split at hl
 .exact Gy _ l hl
 split at hl
 .unfold lZ at hl;split at hl
  .exact Gy _ l hl
  split at hl
  .rcases Px hl with hl|hl
   .exact Gy _ l hl
   .exact Gy _ l hl
  .cases hl
 split at hl
 .unfold bJ at hl;obtain⟨p,_,rfl⟩:=eF.1 hl;exact PI hg p
 split at hl
 .unfold l5 at hl;obtain⟨⟨x,i⟩,hx,rfl⟩:=eF.1 hl;have hx:=vK.1 hx;have hxm:=aS hx;refine Wz ?_;rw[iT];refine⟨?_,tt,λa ha b hb e=>?_⟩
  .unfold bJ at hxm;obtain⟨p,_,rfl⟩:=eF.1 hxm;exact PI hg p
  .rw[bK.1 hb]at e;obtain⟨j,hj⟩:=jM ha;exact(Wx hg i x hx j a hj).2.2.1 e
 split at hl
 .obtain⟨i,x,j,h1,h2,h3,rfl⟩:=WA hl;simp only[xY,bK,Hu,not_false_iff,w9,zx];omega
 .rw[bK.1 hl];exact Gx _
def ahm{d:bG}(hg:eU (aU d))(hr:∀r∈d.regions,xI (aU d) r.lists):∀l∈mI d,∀ps∈l,ps.Nodup:=by
 intro l hl ps hps;unfold mI at hl;rcases dY.1 hl with hl|hl
 .obtain⟨f,_,rfl⟩:=eF.1 hl;exact ahl hg _ ps hps
 .obtain⟨r,hrm,rfl⟩:=eF.1 hl;obtain⟨q,hq,rfl⟩:=eF.1 hps;exact((hr r hrm).all q hq).nd
end Kd
namespace Kd
open Go Go.Ideal Canon Gph
def PK{k:bN}{p:ae Clue}(h:D5 k p):∀(d i:Nat) a b,p[i]? =some a->p[i+1+d]? =some b->jI a b<0
 |0,i,a,b,ha,hb=>h.sorted i a b ha hb
 |d+1,i,a,b,ha,hb=>by
  have hlt:=(bC.1 hb).1;have hc:p[i+1+d]? =some (p[i+1+d]'(tr)):=bX _;exact Pw (PK h d i a _ ha hc) (h.sorted (i+1+d) _ b hc hb)
variable{p:ae Clue}{k:bN}
def ahn(h:D5 k p){a b:Clue}(ha:a∈p)(hb:b∈p)(h1:a.aX=b.aX)(h2:a.at_=b.at_):a=b:=by
 obtain⟨i,hi⟩:=jM ha;obtain⟨j,hj⟩:=jM hb;rcases RP i j with hl|hl|hl
 .have:=DZ.1 (PK h (j - (i+1)) i a b hi (by rw[show i+1+(j - (i+1))=j by omega];exact hj));omega
 .subst hl;rw[hi]at hj;exact Option.some.inj hj
 .have:=DZ.1 (PK h (i - (j+1)) j b a hj (by rw[show j+1+(i - (j+1))=i by omega];exact hi));omega
def aho(h:D5 k p){c a:Int}{v:ae Int}:KE p c a=some v↔∃g∈p,g.aX=c/\g.at_=a/\g.values=v:=by
 unfold KE;constructor
 .intro hf;obtain⟨g,hg,rfl⟩:=lm.1 hf;have h1':=List.find?_some hg;have h1:g.aX=c/\g.at_=a:=gT h1';exact⟨g,RG hg,h1.1,h1.2,rfl⟩
 .rintro⟨g,hg,h1,h2,rfl⟩;cases hf:p.find? (λg=>decide (g.aX=c/\g.at_=a))with
  |none=>exact absurd (eB ⟨h1,h2⟩) (List.find?_eq_none.1 hf g hg)
  |some g2=>
   have h3':=List.find?_some hf;have h3:g2.aX=c/\g2.at_=a:=gT h3';rw[ahn h hg (RG hf) tr tr];rfl
def ahp{r:bE}{ls:ae (ae Int)}{y:Nat×ae Int×ae Int}:y∈PG p r ls↔ls[y.1]? =some y.2.1/\((r.aX<0/\y.2.2=[])\/(0<=r.aX/\KE p r.aX (y.1:Int)=some y.2.2)):=by
 obtain⟨j,l,v⟩:=y;unfold PG;rw[Hw];constructor
 .rintro⟨⟨x,i⟩,hx,h⟩;have hx:=vK.1 hx;unfold PE at h;split at h
  .rename_i hc;cases h;exact⟨hx,.inl ⟨hc,rfl⟩⟩
  .rename_i hc;obtain⟨w,hw,e⟩:=lm.1 h;cases e;exact⟨hx,.inr ⟨tr,hw⟩⟩
 .rintro⟨h1,h2⟩;refine⟨(l,j),vK.2 h1,?_⟩;unfold PE;rcases h2 with⟨hc,e⟩|⟨hc,e⟩
  .rw[if_pos hc];dsimp only at e;rw[e]
  .rw[if_neg tr];dsimp only at e⊢;rw[e];rfl
end Kd
namespace Kd
open Go Go.Ideal
def Gz:∀{l m:ae Int},l.Nodup->(∀x∈l,x∈m)->l.length<=m.length
 |[],m,_,_=>bP _
 |a::l,m,hd,hs=>by
  have ha:=hs a (fT ..);have h1:=RI ha;have hp:0<m.length:=List.length_pos_of_mem ha;have:=Gz (l:=l) (m:=m.erase a) (xY.1 hd).2 (λx hx=>by
   have hne:x≠a:=λe=>(xY.1 hd).1 (e▸hx);exact(List.mem_erase_of_ne hne).2 (hs x (fO _ hx)))
  rw[oh];omega
def ahq{g:bB}(hg:eU g):0<g.cells.length:=by
 apply Classical.byContradiction;intro h0;have he:g.cells=[]:=jX.1 tr;rw[hg.cells]at he;unfold ny gY at he;have hw:=xE hg.make.wi hg.make.he;have hlen:=hg.make.len;have:=Gz (l:=upTo' (g.w*g.h).toNat) (m:=g.holes) (Gx _) (λx hx=>by
  have hx:x∈(List.range (g.w*g.h).toNat).map λi:Nat=>(i:Int):=hx;have:=List.filter_eq_nil_iff.1 he x hx;simpa using this)
 rw[nT]at this;omega
end Kd
namespace Kd
open Go Go.Ideal Canon Gph
def ahr{g:bB}(hg:eU g)(k:Int):(dD g k).length<=2048:=by
 have hl:=hg.len;have hn:=wE g;have hL:=λkf=>Ku hg kf;unfold dD;split
 .unfold mV;rw[bZ,qm];omega
 split
 .have:=(hL (λs=>(s.2,true))).1;omega
 split
 .have:=(hL (λs=>(s.1,true))).1;omega
 split
 .unfold lZ;split
  .have:=(hL (λs=>(s.1+s.2,true))).1;omega
  split
  .have h1:=hL (λs=>(0,decide (s.1=s.2)));have h2:=hL (λs=>(0,decide (s.1+s.2=g.w - 1)));have:=(Po h1.2 h2.2 (jr g (λs=>(0,decide (s.1+s.2=g.w - 1)))).length).1;rw[bM]at this;omega
  .simp
 split
 .omega
 split
 .unfold l5;rw[bZ,List.length_zipIdx];omega
 split
 .have:=Kv (aK:=bJ g) Gs (bJ g).length (bQ _);rw[bM]at this;omega
 .simp
def ahs{d:bG}(hg:eU (aU d))(hr:∀r∈d.regions,xI (aU d) r.lists):∀l∈mI d,l.length<=2048:=by
 intro l hl;unfold mI at hl;rcases dY.1 hl with hl|hl
 .obtain⟨f,_,rfl⟩:=eF.1 hl;exact ahr hg _
 .obtain⟨r,hrm,rfl⟩:=eF.1 hl;have:=(hr r hrm).len;unfold dW;rw[bZ];omega
end Kd
namespace Kd
open Canon
variable{b a:Clue}
def KF:jI a b=0↔a.aX=b.aX/\a.at_=b.at_:=by
 exact eA
def aht(a b:Clue):FL a b=if jI a b≠0 then jI a b else kU lH a.values b.values:=by
 rw[aeG,<- ag8]
def ahu:FL a b<0↔jI a b<0\/(jI a b=0/\kU lH a.values b.values<0):=by
 rw[aht];split<;>omega
structure Ak(xs rs:List Clue):Prop where
 inc:rs.Pairwise λa b=>jI a b<0
 sub:∀r∈rs,r∈xs
 all:∀x∈xs,∃r∈rs,jI x r=0/\¬kU lH x.values r.values<0
variable{rs:ae Clue}
def ahv(h:rs.Pairwise λa b=>jI a b<0){a b:Clue}(ha:a∈rs)(hb:b∈rs)(he:jI a b=0):a=b:=by
 induction h with
 |nil=>cases ha
 |cons h1 _ ih=>
  rcases bT.1 ha with e1|ha'<;>rcases bT.1 hb with e2|hb'
  .rw[e1,e2]
  .have:=h1 b hb';rw[<- e1]at this;omega
  .have:=h1 a ha';rw[<- e2]at this;rw[KF]at he;rw[DZ]at this;omega
  .exact ih ha' hb'
variable{xs:ae Clue}
def Ak.mem{rs':ae Clue}(h:Ak xs rs)(h':Ak xs rs'){r:Clue}(hr:r∈rs):r∈rs':=by
 obtain⟨r2,m2,p2,v2⟩:=h'.all r (h.sub r hr);obtain⟨r1,m1,p1,v1⟩:=h.all r2 (h'.sub r2 m2);have h3:jI r r1=0:=by rw[KF]at *;omega
 have:=ahv h.inc hr m1 h3;subst this;have hO:=Uq Uo;have h4:kU lH r.values r2.values=0:=by
  have:=hO.neg r2.values r.values;have:=hO.neg r.values r2.values;omega
 have h5:=(hO.zero _ _).1 h4;rw[KF]at p2;have:r=r2:=by cases r;cases r2;simp_all
 rw[this];exact m2
def Ak.self(h:Ak xs rs):Ak rs rs:=⟨h.inc,λ_ h=>h,λx hx=>⟨x,hx,by rw[KF];exact⟨rfl,rfl⟩,by have:=((Uq Uo).zero x.values x.values).2 rfl;omega⟩⟩
def opn(p:ae Clue)(x:Clue):Bool:=match p.getLast? with
 |none=>true
 |some y=>decide (0<jI x y)
variable{p:ae Clue}
def PL{x:Clue}:opn (p++[b]) x=decide (0<jI x b):=by
 unfold opn;rw[List.getLast?_append];rfl
def KG:0<jI a b↔jI b a<0:=by
 rw[DZ];exact eA
structure BS(l p:List Clue)(n:Nat):Prop where
 inc:p.Pairwise λa b=>jI a b<0
 sub:∀r∈p,r∈l
 done:∀x∈l,opn p x=false->∃r∈p,jI x r=0/\¬kU lH x.values r.values<0
 cnt:l.countP (opn p)+n<=l.length
def WB{α:Type}{p q:α->Bool}:∀{l:ae α} {b:α},b∈l->p b=true->q b=false->(∀x,q x=true->p x=true)->l.countP q+1<=l.countP p
 |x::l,b,hb,h1,h2,h3=>by
  rw[List.countP_cons,List.countP_cons];rcases bT.1 hb with rfl|hb
  .have:=List.countP_mono_left (l:=l) (p:=q) (q:=p) λx _=>h3 x;rw[h1,h2];simp only[if_true];simp;omega
  .have:=WB hb h1 h2 h3;by_cases e:q x=true
   .rw[if_pos e,if_pos (h3 x e)];omega
   .rw[if_neg e];omega
def WC:∀{p:ae Clue} {y:Clue},(p.Pairwise λa b=>jI a b<0)->p.getLast? =some y->∀a∈p,a=y\/jI a y<0
 |[],y,_,h,a,ha=>by cases ha
 |[x],y,_,h,a,ha=>by
  cases h;exact .inl (bK.1 ha)
 |x::z::p,y,hp,h,a,ha=>by
  obtain⟨h1,h2⟩:=uz.1 hp;have h':(z::p).getLast? =some y:=by rw[List.getLast?_cons_cons]at h;exact h
  rcases bT.1 ha with rfl|ha
  .exact .inr (h1 y (List.mem_of_getLast? h'))
  .exact WC h2 h' a ha
variable{l:ae Clue}{n:Nat}
def BS.step(h:BS l p n)(hb:b∈l)(ho:opn p b=true)(hl:∀x∈l,opn p x=true->¬FL x b<0):BS l (p++[b]) (n+1):=by
 have hab:∀y,p.getLast? =some y->jI y b<0:=λy hy=>by
  unfold opn at ho;rw[hy]at ho;exact KG.1 (gT ho)
 refine⟨MF.2 ⟨h.inc,List.pairwise_singleton ..,λa ha b' hb'=>?_⟩,λr hr=>?_,λx hx hc=>?_,?_⟩
 .rw[bK.1 hb'];cases e:p.getLast? with
  |none=>rw[List.getLast?_eq_none_iff.1 e]at ha;cases ha
  |some y=>
   have h2:=hab y e;rcases WC h.inc e a ha with rfl|h1
   .exact h2
   .exact Pw h1 h2
 .rcases dY.1 hr with hr|hr
  .exact h.sub r hr
  .rw[bK.1 hr];exact hb
 .rw[PL]at hc;have hc:=ol hc;cases e:opn p x with
  |true=>
   have h1:=hl x hx e;rw[ahu]at h1;refine⟨b,tt,?_,?_⟩
   .by_cases h2:jI x b<0
    .exact absurd (.inl h2) h1
    .omega
   .intro h2;by_cases h3:jI x b<0
    .exact h1 (.inl h3)
    .exact h1 (.inr ⟨tr,h2⟩)
  |false=>
   obtain⟨r,m,q⟩:=h.done x hx e;exact⟨r,lq _ m,q⟩
 .have:=WB (p:=opn p) (q:=opn (p++[b])) hb ho (by rw[PL];exact aY (by rw[KG,DZ];omega)) (λx hx=>by
   rw[PL]at hx;have hx:=gT hx;unfold opn;cases e:p.getLast? with
   |none=>rfl
   |some y=>exact eB (KG.2 (Pw (hab y e) (KG.1 hx))))
  have:=h.cnt;omega
def BS.stop(h:BS l p n)(hn:∀x∈l,opn p x=false):Ak l p:=⟨h.inc,h.sub,λx hx=>h.done x hx (hn x hx)⟩
def BS.full(h:BS l p l.length):Ak l p:=h.stop λx hx=>by
 have h1:=h.cnt;have h2:l.countP (opn p)=0:=tr
 rw[List.countP_eq_zero]at h2;simpa using h2 x hx
end Kd
namespace Kd
open Canon
end Kd
namespace Kd
open Go Go.Ideal
def PM:∀{a b:ae Int},a.Pairwise (·<·)->b.Pairwise (·<·)->(∀x,x∈a↔x∈b)->a=b
 |[],[],_,_,_=>rfl
 |[],y::b,_,_,h=>by have:=(h y).2 (fT ..);cases this
 |x::a,[],_,_,h=>by have:=(h x).1 (fT ..);cases this
 |x::a,y::b,ha,hb,h=>by
  have hxy:x=y:=by
   rcases bT.1 ((h x).1 (fT ..))with e|hx
   .exact e
   rcases bT.1 ((h y).2 (fT ..))with e|hy
   .exact e.symm
   have:=(uz.1 ha).1 y hy;have:=(uz.1 hb).1 x hx;omega
  subst hxy;rw[PM (uz.1 ha).2 (uz.1 hb).2 λz=>?_];constructor
  .intro hz;have:=(uz.1 ha).1 z hz;exact(bT.1 ((h z).1 (fO _ hz))).resolve_left tr
  .intro hz;have:=(uz.1 hb).1 z hz;exact(bT.1 ((h z).2 (fO _ hz))).resolve_left tr
variable{n:Nat}{x:Int}
def ahw:x∈upTo' n↔0<=x/\x<(n:Int):=by
 unfold upTo';rw[eF];constructor
 .rintro⟨i,hi,rfl⟩;have:=nH.1 hi;omega
 .intro h;exact⟨x.toNat,nH.2 tr,tr⟩
def ahx(n:Nat):(upTo' n).Pairwise (·<·):=by
 unfold upTo';exact jz
def dP(n:Nat)(p:Int->Bool):ae Int:=(upTo' n).filter p
def ahy{p:Int->Bool}:x∈dP n p↔(0<=x/\x<(n:Int))/\p x=true:=by
 unfold dP;rw[uw,ahw]
def KH(n:Nat)(p:Int->Bool):(dP n p).Pairwise (·<·):=List.Pairwise.filter _ (ahx n)
def BU(k:Nat)(p:Int->Bool):dP (k+1) p=dP k p++if p (k:Int)then[(k:Int)]else[]:=by
 unfold dP;rw[wG,H6];congr 1;rw[EB];split<;>simp
def BV(n:Nat)(p:Int->Bool):(dP n p).length<=n:=by
 unfold dP;refine ql (MC _ _) ?_;rw[nT];exact bQ _
def KI{l:ae Int}(hi:l.Pairwise (·<·)){n:Nat}{p:Int->Bool}(h:∀x,x∈l↔(0<=x/\x<(n:Int))/\p x=true):l=dP n p:=
 PM hi (KH n p) λx=>(h x).trans ahy.symm
def ahz(n:Nat)(holes:ae Int):gY n holes=dP n λi=>!decide (i∈holes):=rfl
variable{holes:ae Int}
def WE(hi:holes.Pairwise (·<·))(hm:∀x∈holes,0<=x/\x<(n:Int)):dP n (λi=>decide (i∈holes))=holes:=
 (KI hi λx=>⟨λh=>⟨hm x h,eB h⟩,λh=>gT h.2⟩).symm
def ahA(hi:holes.Pairwise (·<·))(hm:∀x∈holes,0<=x/\x<(n:Int)):(gY n holes).length+holes.length=n:=by
 have h1:(dP n λi=>decide (i∈holes)).length=holes.length:=by rw[WE hi hm]
 have h2:=List.length_eq_countP_add_countP (λi:Int=>decide (i∈holes)) (l:=upTo' n);rw[nT,List.countP_eq_length_filter,List.countP_eq_length_filter]at h2;have h3:gY n holes=List.filter (λa=>decide ¬decide (a∈holes)=true) (upTo' n):=by
  rw[ahz];unfold dP;congr 1;funext i
  by_cases h:i∈holes<;>simp[h]
 rw[h3];unfold dP at h1;omega
structure ahB(s w h:Int)(holes:List Int):Prop where
 sh:s=1\/s=2
 wi:1<=w/\w<=16
 he:1<=h/\h<=16
 inc:holes.Pairwise (·<·)
 mem:∀x∈holes,0<=x/\x<w*h
 ne:ny w h holes≠[]
def xJ{s w h:Int}:ahB s w h holes↔qc s w h holes:=by
 have key:(1<=w/\w<=16)->(1<=h/\h<=16)->holes.Pairwise (·<·)->(∀x∈holes,0<=x/\x<w*h)->(ny w h holes≠[]↔(holes.length:Int)<w*h):=by
  intro hw hh hi hm;have hb:=xE hw hh;obtain⟨m,hmm⟩:=iO (show 0<=w*h by omega);rw[hmm]at hm⊢;unfold ny;rw[hmm,fQ];have:=ahA hi hm;rw[<- CF];omega
 exact⟨λq=>⟨q.sh,q.wi,q.he,(key q.wi q.he q.inc q.mem).1 q.ne,q.inc,q.mem⟩,λq=>⟨q.sh,q.wi,q.he,q.inc,q.mem,(key q.wi q.he q.inc q.mem).2 q.len⟩⟩
def iR(g:bB)(c:Int):Int×Int:=((g.cells[c.toNat]?).map (oI g)).getD (0,0)
variable{g:bB}{k:Nat}
def D7(h:g.cells[k]? =some x):iR g (k:Int)=oI g x:=by
 unfold iR;rw[fQ,h];rfl
def GA{q:Int×(Int×Int)}:q∈bF g↔(0<=q.1/\q.1<(g.cells.length:Int))/\q.2=iR g q.1:=by
 constructor
 .intro h;refine⟨KA q h,?_⟩;obtain⟨k,hk⟩:=wZ.1 h;have h1:=yX hk;have hkl:=(bC.1 hk).1;rw[qL]at hkl;have hx:g.cells[k]? =some g.cells[k]:=bX hkl;rw[yV hx]at hk;have hk:=Option.some.inj hk;rw[h1,D7 hx,<- hk]
 .rintro⟨⟨h1,h2⟩,h3⟩;have hkl:q.1.toNat<g.cells.length:=by omega
  have hx:g.cells[q.1.toNat]? =some g.cells[q.1.toNat]:=bX hkl;have h4:=yV hx;rw[show((q.1.toNat:Nat):Int)=q.1 by omega]at h4;have h5:iR g q.1=oI g g.cells[q.1.toNat]:=by
   have:=D7 hx
   rwa [show((q.1.toNat:Nat):Int)=q.1 by omega]at this
  rw[<- h5,<- h3]at h4;exact aS h4
def yZ(sh:Int)(s t:Int×Int):Bool:=
 if sh=1 then(decide (t.2 - s.2=0)&&(decide (t.1 - s.1=1)||decide (t.1 - s.1= -1)))||(decide (t.1 - s.1=0)&&(decide (t.2 - s.2=1)||decide (t.2 - s.2= -1)))
 else(decide (t.1 - s.1=1)&&decide (t.2 - s.2=0))||(decide (t.1 - s.1= -1)&&decide (t.2 - s.2=0))||(decide (t.1 - s.1=0)&&decide (t.2 - s.2=1))||(decide (t.1 - s.1=0)&&decide (t.2 - s.2= -1))||(decide (t.1 - s.1=1)&&decide (t.2 - s.2= -1))||(decide (t.1 - s.1= -1)&&decide (t.2 - s.2=1))
def ahC{s t:Int×Int}:yZ g.shape s t=true↔∃d∈eD.take (dS g),t=(s.1+d.1,s.2+d.2):=by
 obtain⟨s1,s2⟩:=s;obtain⟨t1,t2⟩:=t;unfold yZ dS;by_cases h:g.shape=1
 .rw[if_pos h,if_pos h];simp[eD];omega
 .rw[if_neg h,if_neg h];simp[eD];omega
def ahD(hg:eU g){p:Int×(Int×Int)}:mU g p=dP g.cells.length λb=>yZ g.shape p.2 (iR g b):=by
 refine KI (PD hg p) λc=>?_;rw[Py hg,ahC];constructor
 .rintro⟨d,hd,q,hq,h1,rfl⟩;obtain⟨h2,h3⟩:=GA.1 hq;exact⟨h2,d,hd,h3▸h1⟩
 .rintro⟨h2,d,hd,h1⟩;exact⟨d,hd,(c,iR g c),GA.2 ⟨h2,rfl⟩,h1,rfl⟩
def WG(hg:eU g){k:Nat}(hk:k<g.cells.length):(bJ g)[k]? =some (dP g.cells.length λb=>yZ g.shape (iR g k) (iR g b)):=by
 unfold bJ;have hx:g.cells[k]? =some g.cells[k]:=bX hk;rw[dN,yV hx,lg,ahD hg,D7 hx]
def Gj{α β:Type}[DecidableEq α](b:α)(v:β):∀m:ae (α×β),(upd b v m).map (·.1)=if b∈m.map (·.1)then m.map (·.1)else m.map (·.1)++[b]
 |[]=>by
  rw[if_neg tt];rfl
 |(a,u)::m=>by
  unfold upd;by_cases e:b=a
  .rw[if_pos e,if_pos zj,e];rfl
  .rw[if_neg e,iQ,iQ,Gj b v m];by_cases h:b∈m.map (·.1)
   .rw[if_pos h,if_pos (fO _ h)]
   .rw[if_neg h,if_neg (by rw[bT,not_or];exact⟨e,h⟩)];rfl
def oJ(kf:Int×Int->Int×Bool)(ps:ae (Int×(Int×Int)))(n:Int):ae Int:=(ps.filter λp=>(kf p.2).2&&decide ((kf p.2).1=n)).map (·.1)
def PN(kf:Int×Int->Int×Bool)(ps:ae (Int×(Int×Int)))(p:Int×(Int×Int))(n:Int):oJ kf (ps++[p]) n=oJ kf ps n++if((kf p.2).2&&decide ((kf p.2).1=n))=true then[p.1]else[]:=by
 unfold oJ;rw[H6,fG];congr 1;rw[EB];split<;>simp
def WH(kf:Int×Int->Int×Bool)(m:Nat):∀ps:ae (Int×(Int×Int)),ps.length=m->((jT kf ps).map (·.1)).Nodup/\∀n,(n∈(jT kf ps).map (·.1)↔oJ kf ps n≠[])/\(dK n (jT kf ps)).getD []=oJ kf ps n:=by
 induction m with
 |zero=>
  intro ps h;rw[jX.1 h];exact⟨w9,λn=>⟨by simp[jT,oJ],rfl⟩⟩
 |succ m ih=>
  intro ps h;obtain⟨qs,p,rfl⟩:∃qs p,ps=qs++[p]:=⟨ps.dropLast,ps.getLast uc,(CK _).symm⟩
  obtain⟨h1,h2⟩:=ih qs tE;rw[Gr];unfold xG;cases hb:(kf p.2).2 with
  |false=>
   refine⟨h1,λn=>?_⟩;rw[PN,hb,if_neg tt,jd];exact h2 n
  |true=>
   dsimp only[cond];rw[Gj];refine⟨?_,λn=>⟨?_,?_⟩⟩
   .split
    .exact h1
    .rename_i hn;rw[iT];exact⟨h1,tt,λa ha b hb'=>by rw[bK.1 hb'];exact λe=>hn (e▸ha)⟩
   .rw[PN,hb];by_cases e:(kf p.2).1=n
    .have hc:(true&&decide ((kf p.2).1=n))=true:=by simp[e]
     rw[if_pos hc];split
     .rename_i hn;rw[e]at hn;exact⟨λ_=>by simp,λ_=>hn⟩
     .rw[e];exact⟨λ_=>by simp,λ_=>pI _ (bK.2 rfl)⟩
    .have hc:¬(true&&decide ((kf p.2).1=n))=true:=by simp[e]
     rw[if_neg hc,jd];split
     .exact(h2 n).1
     .rw[dY,(h2 n).1];simp only[bK];exact⟨λh=>h.resolve_right (λx=>e x.symm),.inl⟩
   .rw[yY,PN,hb];by_cases e:(kf p.2).1=n
    .rw[if_pos e.symm,if_pos w8,wX,(h2 _).2,e]
    .rw[if_neg (λx=>e x.symm),if_neg w8,jd];exact(h2 n).2
def WI(kf:Int×Int->Int×Bool)(n:Int):oJ kf (bF g) n=dP g.cells.length λc=>(kf (iR g c)).2&&decide ((kf (iR g c)).1=n):=by
 refine KI ?_ λc=>?_
 .unfold oJ;rw[zz];refine List.Pairwise.filter _ ?_;rw[AZ];intro i j hi hj hij;have h1:=yX (bX hi);have h2:=yX (bX hj);rw[h1,h2];omega
 .unfold oJ;rw[eF];constructor
  .rintro⟨p,hp,rfl⟩;obtain⟨h1,h2⟩:=uw.1 hp;obtain⟨h3,h4⟩:=GA.1 h1;rw[<- h4];exact⟨h3,h2⟩
  .rintro⟨h1,h2⟩;exact⟨(c,iR g c),uw.2 ⟨GA.2 ⟨h1,rfl⟩,h2⟩,rfl⟩
def dQ(lo:Int)(k:Nat):ae Int:=(List.range k).map λi:Nat=>lo+(i:Int)
def ahE(lo:Int)(k:Nat):dQ lo (k+1)=dQ lo k++[lo+(k:Int)]:=by
 unfold dQ;rw[H7,fG];rfl
def ahF{lo:Int}:x∈dQ lo k↔lo<=x/\x<lo+(k:Int):=by
 unfold dQ;rw[eF];constructor
 .rintro⟨i,hi,rfl⟩;have:=nH.1 hi;omega
 .intro h;exact⟨(x - lo).toNat,nH.2 tr,tr⟩
def ahG(lo:Int)(k:Nat):(dQ lo k).Pairwise (·<·):=by
 unfold dQ;exact jz
def Al(L:Int->ae Int)(lo:Int)(k:Nat):ae (ae Int):=((dQ lo k).map L).filter λl=>!l.isEmpty
def WJ(L:Int->ae Int)(lo:Int)(k:Nat):Al L lo (k+1)=Al L lo k++if L (lo+(k:Int))=[]then[]else[L (lo+(k:Int))]:=by
 unfold Al;rw[ahE,fG,H6];congr 1;rw[sN,EB];cases h:L (lo+(k:Int))with
 |nil=>rfl
 |cons x l=>simp
def WK(kf:Int×Int->Int×Bool){lo:Int}{k:Nat}(hk:∀p∈bF g,(kf p.2).2=true->lo<=(kf p.2).1/\(kf p.2).1<lo+(k:Int)):jr g kf=Al (oJ kf (bF g)) lo k:=by
 obtain⟨h1,h2⟩:=WH kf _ (bF g) rfl;have h3:bR ((jT kf (bF g)).map (·.1))=(dQ lo k).filter λn=>!(oJ kf (bF g) n).isEmpty:=by
  refine PM (KD h1) (List.Pairwise.filter _ (ahG lo k)) λn=>?_;rw[wF,(h2 n).1,uw,ahF];have hne:((!(oJ kf (bF g) n).isEmpty)=true)↔oJ kf (bF g) n≠[]:=by
   cases oJ kf (bF g) n<;>simp
  rw[hne];refine⟨λh=>⟨?_,h⟩,λh=>h.2⟩;obtain⟨c,hc⟩:=List.exists_mem_of_ne_nil _ h;unfold oJ at hc;obtain⟨p,hp,_⟩:=eF.1 hc;obtain⟨hp1,hp2⟩:=uw.1 hp;simp only[dI,zu]at hp2;rw[<- hp2.2];exact hk p hp1 hp2.1
 unfold jr Al;rw[h3,List.filter_map];refine wY λn _=>?_;exact(h2 n).2
def KJ(c:Int×Int->Bool):jr g (λs=>(0,c s))=if dP g.cells.length (λb=>c (iR g b))=[]then[]else[dP g.cells.length λb=>c (iR g b)]:=by
 rw[WK (lo:=0) (k:=1) (λs=>(0,c s)) (λp _ _=>⟨Int.le_refl 0,tr⟩)];rw[show(1:Nat)=0+1 from rfl,WJ];have e:oJ (λs=>(0,c s)) (bF g) (0+((0:Nat):Int))=dP g.cells.length λb=>c (iR g b):=by
  rw[WI];congr 1;funext b
  simp
 rw[e];rfl
def ahH(hg:eU g){k:Nat}{l:ae Int}(hl:(bJ g)[k]? =some l):bR (l++[(k:Int)])=dP g.cells.length λb=>decide (b=(k:Int))||decide (b∈l):=by
 have hk:k<g.cells.length:=by have:=(bC.1 hl).1;rwa [wE]at this
 have hls:∀c∈l,(0<=c/\c<(g.cells.length:Int)):=(Gv l (aS hl)).2;have hlt:l.Pairwise (·<·):=by
  have:=WG hg hk;rw[hl]at this;rw[Option.some.inj this];exact KH _ _
 have hkl:(k:Int)∉l:=λh=>by
  obtain⟨j,hj⟩:=wZ.1 h;exact(Wx hg k l hl j k hj).2.2.1 rfl
 refine KI (KD ?_) λc=>?_
 .rw[iT];exact⟨hlt.imp (λh=>by omega),tt,λa ha b hb=>by rw[bK.1 hb];exact λe=>hkl (e▸ha)⟩
 .rw[wF,dY,bK];simp only[qZ,zu];constructor
  .rintro(h|rfl)
   .exact⟨hls c h,.inr h⟩
   .exact⟨tr,.inl rfl⟩
  .rintro⟨_,h|h⟩
   .exact .inr h
   .exact .inl h
end Kd
namespace Kd
open Go Go.Ideal Canon
structure bW(n:Nat)(p:List Int):Prop where
 len:p.length=n
 dQ:∀x∈p,0<=x/\x<(n:Int)
 nd:p.Nodup
variable{p:ae Int}{c:Int}
def xK(h0:0<=c)(h1:c<p.length):p[c.toNat]? =some (aT p c):=by
 unfold aT;rw[List.getD,bX tr];rfl
def PO(h0:0<=c)(h1:c<p.length):aT p c∈p:=aS (xK h0 h1)
variable{n:Nat}
def bW.at_(h:bW n p){c:Int}(h0:0<=c)(h1:c<(n:Int)):0<=aT p c/\aT p c<(n:Int):=h.dQ _ (PO h0 (by rw[h.len];exact h1))
variable{α:Type}
def BX{p:ae α}(h:p.Nodup){i j:Nat}{x:α}(hi:p[i]? =some x)(hj:p[j]? =some x):i=j:=by
 obtain⟨h1,h2⟩:=bC.1 hi;obtain⟨h3,h4⟩:=bC.1 hj;rcases RP i j with hl|hl|hl
 .exact absurd (h2.trans h4.symm) (AZ.1 h i j h1 h3 hl)
 .exact hl
 .exact absurd (h4.trans h2.symm) (AZ.1 h j i h3 h1 hl)
def bW.inj(h:bW n p){a b:Int}(a0:0<=a)(a1:a<(n:Int))(b0:0<=b)(b1:b<(n:Int))(e:aT p a=aT p b):a=b:=by
 have h1:=xK (p:=p) a0 (by rw[h.len];exact a1);have h2:=xK (p:=p) b0 (by rw[h.len];exact b1);rw[e]at h1;have:=BX h.nd h1 h2;omega
def bW.mem(h:bW n p){y:Int}(y0:0<=y)(y1:y<(n:Int)):y∈p:=by
 apply Classical.byContradiction;intro hn;have h1:=Gz (l:=p) (m:=(upTo' n).erase y) h.nd (λx hx=>by
  have hne:x≠y:=λe=>hn (e▸hx);refine(List.mem_erase_of_ne hne).2 ?_;have:=h.dQ x hx;unfold upTo';exact eF.2 ⟨x.toNat,nH.2 tr,tr⟩)
 have hy:y∈upTo' n:=by
  unfold upTo';exact eF.2 ⟨y.toNat,nH.2 tr,tr⟩
 have h2:=RI hy;have h3:0<(upTo' n).length:=List.length_pos_of_mem hy;rw[nT]at h2 h3;have h4:=h.len;omega
def bW.onto(h:bW n p){y:Int}(y0:0<=y)(y1:y<(n:Int)):∃c,0<=c/\c<(n:Int)/\aT p c=y:=by
 obtain⟨i,hi⟩:=jM (h.mem y0 y1);have:=(bC.1 hi).1;have h4:=h.len;refine⟨(i:Int),tr,tr,kX hi⟩
def eX(a b:ae Int):ae Int:=b.map (aT a)
def iH(p:ae Int):ae Int:=(List.range p.length).map λy:Nat=>((p.idxOf (y:Int):Nat):Int)
variable{a b:ae Int}
def y5(h0:0<=c)(h1:c<b.length):aT (eX a b) c=aT a (aT b c):=by
 unfold eX;have h:=xK h0 h1;have h2:(b.map (aT a))[c.toNat]? =some (aT a (aT b c)):=by rw[dN,h];rfl
 show(b.map (aT a)).getD c.toNat 0=_;exact iC h2
variable{l:ae Int}
def PP{f:Int->Int}(h:l.Nodup)(hf:∀a∈l,∀b∈l,f a=f b->a=b):(l.map f).Nodup:=by
 unfold List.Nodup;rw[zz];exact List.Pairwise.imp_of_mem (λha hb hne e=>hne (hf _ ha _ hb e)) h
def bW.comp(ha:bW n a)(hb:bW n b):bW n (eX a b):=by
 refine⟨by unfold eX;rw[bZ];exact hb.len,λx hx=>?_,?_⟩
 .unfold eX at hx;obtain⟨y,hy,rfl⟩:=eF.1 hx;have:=hb.dQ y hy;exact ha.at_ this.1 this.2
 .unfold eX;exact PP hb.nd λx hx y hy e=>ha.inj (hb.dQ x hx).1 (hb.dQ x hx).2 (hb.dQ y hy).1 (hb.dQ y hy).2 e
def D8(p:ae Int):(iH p).length=p.length:=by unfold iH;rw[bZ,qm]
def ahI{y:Int}(h0:0<=y)(h1:y<p.length):aT (iH p) y=((p.idxOf y:Nat):Int):=by
 obtain⟨m,rfl⟩:=iO h0;apply kX;unfold iH;rw[dN,ru tr];rfl
def bW.idx(h:bW n p){c:Int}(h0:0<=c)(h1:c<(n:Int)):((p.idxOf (aT p c):Nat):Int)=c:=by
 have hg:=xK (p:=p) h0 (by rw[h.len];exact h1);have hm:=aS hg;have hl:=List.idxOf_lt_length_iff.2 hm;have h2:p[p.idxOf (aT p c)]? =some (aT p c):=by
  rw[bX hl,List.getElem_idxOf]
 have:=BX h.nd hg h2;omega
def bW.wI(h:bW n p){c:Int}(h0:0<=c)(h1:c<(n:Int)):aT (iH p) (aT p c)=c:=by
 have:=h.at_ h0 h1;rw[ahI this.1 (by rw[h.len];exact this.2),h.idx h0 h1]
def bW.KM(h:bW n p){y:Int}(h0:0<=y)(h1:y<(n:Int)):aT p (aT (iH p) y)=y:=by
 obtain⟨c,c0,c1,rfl⟩:=h.onto h0 h1;rw[h.wI c0 c1]
def bW.inv(h:bW n p):bW n (iH p):=by
 refine⟨by rw[D8];exact h.len,λx hx=>?_,?_⟩
 .obtain⟨i,hi⟩:=jM hx;have hl:=(bC.1 hi).1;rw[D8,h.len]at hl;obtain⟨c,c0,c1,hc⟩:=h.onto (y:=(i:Int)) tr tr;have:=h.wI c0 c1;rw[hc,kX hi]at this;omega
 .unfold iH;unfold List.Nodup;rw[zz];refine List.Pairwise.imp_of_mem (λ{a b} ha hb hne e=>hne ?_) List.nodup_range;have ha:=nH.1 ha;have hb:=nH.1 hb;rw[h.len]at ha hb;obtain⟨c,c0,c1,hc⟩:=h.onto (y:=(a:Int)) tr tr;obtain⟨d,d0,d1,hd⟩:=h.onto (y:=(b:Int)) tr tr;rw[<- hc,<- hd,h.idx c0 c1,h.idx d0 d1]at e;rw[e,hd]at hc;omega
def bW.ident(n:Nat):bW n (upTo' n):=by
 refine⟨nT n,λx hx=>?_,Gx n⟩;obtain⟨i,hi⟩:=jM hx;have hl:=(bC.1 hi).1;rw[nT]at hl;rw[Wy hi];omega
def BZ(h0:0<=c)(h1:c<(n:Int)):aT (upTo' n) c=c:=by
 have h:=xK (p:=upTo' n) h0 (by rw[nT];exact h1);have:=Wy h;omega
def wJ{α:Type}(f:α->α):Nat->α->α
 |0,x=>x
 |t+1,x=>f (wJ f t x)
def KN{m:Nat}{f:Nat->Nat}(hf:∀i,i<m->f i<m):∀t x,x<m->wJ f t x<m
 |0,_,h=>h
 |t+1,x,h=>hf _ (KN hf t x h)
variable{m:Nat}{f:Nat->Nat}
def ahJ(hf:∀i,i<m->f i<m){j:Nat}(hj:j<m):∃a b,a<b/\wJ f a j=wJ f b j:=by
 apply Classical.byContradiction;intro hno;have h:=Wm m ((List.range (m+1)).map λt=>((wJ f t j:Nat):Int)) (by
  unfold List.Nodup;rw[zz];exact List.pairwise_lt_range.imp (λ{a b} hab e=>hno ⟨a,b,hab,Int.ofNat.inj e⟩)) (λx hx=>by
  obtain⟨t,_,rfl⟩:=eF.1 hx;have:=KN hf t j hj;omega)
 rw[bZ,qm]at h;omega
def WL{L:Nat->α}{S:α->α}{R:α->α->Prop}{D:α->Prop}(hD:∀i,i<m->D (L i))(hDS:∀x,D x->D (S x))(hr:∀x,R x x)(hs:∀x y,R x y->R y x)(ht:∀x y z,R x y->R y z->R x z)
 (hS:∀x y,D x->D y->(R (S x) (S y)↔R x y)) (hf:∀i,i<m->f i<m/\R (L (f i)) (S (L i))) {j:Nat} (hj:j<m):∃i,i<m/\R (L j) (S (L i)):=by
 have hf1:∀i,i<m->f i<m:=λi hi=>(hf i hi).1;have KP:∀t,D (wJ S t (L j)):=λt=>by
  induction t with
  |zero=>exact hD j hj
  |succ t ih=>exact hDS _ ih
 have key:∀t,R (L (wJ f t j)) (wJ S t (L j)):=λt=>by
  induction t with
  |zero=>exact hr _
  |succ t ih=>
   have hl:=KN hf1 t j hj;exact ht _ _ _ (hf _ hl).2 ((hS _ _ (hD _ hl) (KP t)).2 ih)
 have cancel:∀a d,R (wJ S a (L j)) (wJ S (a+d) (L j))->R (L j) (wJ S d (L j)):=λa d=>by
  induction a with
  |zero=>intro h;rw[fq]at h;exact h
  |succ a ih=>
   intro h;rw[Nat.succ_add]at h;exact ih ((hS _ _ (KP _) (KP _)).1 h)
 obtain⟨a,b,hab,e⟩:=ahJ hf1 hj;have h1:=key a;have h2:=key b;rw[e]at h1;obtain⟨d,rfl⟩:∃d,b=a+(d+1):=⟨b - a - 1,tr⟩
 have h3:=cancel a (d+1) (ht _ _ _ (hs _ _ h1) h2);have hl:=KN hf1 d j hj;exact⟨_,hl,ht _ _ _ h3 (hs _ _ ((hS _ _ (hD _ hl) (KP d)).2 (key d)))⟩
def img(s:ae Int)(l:ae Int):ae Int:=l.map (aT s)
def nU(n:Nat)(l:ae Int):Prop:=∀c∈l,0<=c/\c<(n:Int)
def GD(s l:ae Int):(img s l).length=l.length:=by unfold img;rw[bZ]
variable{s:ae Int}
def nU.img(h:bW n s){l:ae Int}(hl:nU n l):nU n (img s l):=by
 intro c hc;unfold Kd.img at hc;obtain⟨x,hx,rfl⟩:=eF.1 hc;exact h.at_ (hl x hx).1 (hl x hx).2
def KQ(h:bW n s){l:ae Int}(hl:nU n l):img (iH s) (img s l)=l:=by
 unfold img;rw[uy];conv=>rhs;rw[<- List.map_id l]
 exact wY λc hc=>h.wI (hl c hc).1 (hl c hc).2
def WM(hl:nU b.length l):img (eX a b) l=img a (img b l):=by
 unfold img;rw[uy];exact wY λc hc=>y5 (hl c hc).1 (hl c hc).2
def KS(s:ae Int){a b:ae Int}(h:a.Perm b):(img s a).Perm (img s b):=h.map _
def ahL(h:bW n s){a b:ae Int}(ha:nU n a)(hb:nU n b)(e:(img s a).Perm (img s b)):a.Perm b:=by
 have:=KS (iH s) e
 rwa [KQ h ha,KQ h hb]at this
def ahM(s l:ae Int):img s l.reverse=(img s l).reverse:=by unfold img;rw[List.map_reverse]
def WN(h:bW n s){l:ae Int}(hl:nU n l)(hn:l.Nodup):(img s l).Nodup:=by
 unfold img;exact PP hn λa ha b hb e=>h.inj (hl a ha).1 (hl a ha).2 (hl b hb).1 (hl b hb).2 e
def KT(l:ae Int):(bR l).Perm l:=zA l _
def KU:bR a=bR b↔a.Perm b:=by
 constructor
 .intro e;exact(KT a).symm.trans (e▸KT b)
 .intro h;exact List.Perm.eq_of_pairwise (λx y _ _ h1 h2=>Int.le_antisymm h1 h2) (Pz a) (Pz b) ((KT a).trans (h.trans (KT b).symm))
end Kd
namespace Kd
open Go Go.Ideal Canon
def jA(f:Int):Bool:=decide (f=0)||decide (f=4)||decide (f=5)
def qM(L:ae (ae Int))(w:ae Int):Int:=match L.findIdx? (λx=>decide (bR x=bR w))with
 |some i=>(i:Int)
 |none=> -1
def jv(L:ae (ae Int))(s:ae Int)(f at_:Int):Int:=if jA f then aT s at_ else qM L (img s (L.getD at_.toNat []))
def jw(a b:ae Int):Bool:=decide (bR a=bR b)
def rX(a b:ae Int):Bool:=decide (a=b)
def qN(a b:ae Int):Bool:=decide (a=b)||decide (a=b.reverse)
def nV(L:ae (ae Int))(s:ae Int)(f:Int)(eq:ae Int->ae Int->Bool)(l:ae Int)(j:Nat):Bool:=
 decide (0<=jv L s f (j:Int))&&(jw (L.getD (jv L s f (j:Int)).toNat []) (img s l)&&eq (L.getD (jv L s f (j:Int)).toNat []) (img s l))
def jl(L:ae (ae Int))(s:ae Int)(f:Int)(eq:ae Int->ae Int->Bool):Bool:=L.zipIdx.all λx=>nV L s f eq x.1 x.2
def j5(aK:ae (ae Int))(s:ae Int):Bool:=aK.zipIdx.all λx=>x.1.all λb=>decide (aT s b∈aK.getD (aT s (x.2:Int)).toNat [])
def kY(vals t:ae Int):Bool:=t.zipIdx.all λx=>decide (aT vals (x.2:Int)=aT vals x.1)
def l6(set other:Nat)(t:ae Int):Bool:=t.zipIdx.all λx=>decide (set.testBit x.2=set.testBit x.1.toNat)&&decide (other.testBit x.2=other.testBit x.1.toNat)
def Am(L:ae (ae Int)):Prop:=∀(i j:Nat) (a b:ae Int),L[i]? =some a->L[j]? =some b->a.Perm b->i=j
def mJ{α:Type}{l:ae α}{p:α×Nat->Bool}:l.zipIdx.all p=true↔∀(i:Nat) x,l[i]? =some x->p (x,i)=true:=by
 rw[jL];constructor
 .intro h i x hx;exact h (x,i) (vK.2 hx)
 .rintro h ⟨x,i⟩ hx;exact h i x (vK.1 hx)
variable{a b:ae Int}
def Ao:jw a b=true↔a.Perm b:=by unfold jw;rw[lu];exact KU
def GG:qN a b=true↔a=b\/a=b.reverse:=by
 unfold qN;rw[qZ,lu,lu]
variable{L:ae (ae Int)}{w:ae Int}
def KW(h:0<=qM L w):∃l,L[(qM L w).toNat]? =some l/\l.Perm w:=by
 unfold qM at h⊢;cases hf:L.findIdx? (λx=>decide (bR x=bR w))with
 |none=>rw[hf]at h;exact absurd h tA
 |some i=>
  obtain⟨h1,h2,_⟩:=aaV.1 hf;refine⟨L[i],?_,KU.1 (gT h2)⟩;show L[((i:Nat):Int).toNat]? =_;rw[fQ];exact bX h1
variable{i:Nat}
def ahN{l:ae Int}(hD:Am L)(h:L[i]? =some l)(hp:l.Perm w):qM L w=(i:Int):=by
 have h0:0<=qM L w:=by
  unfold qM;cases hf:L.findIdx? (λx=>decide (bR x=bR w))with
  |none=>
   have:=aaW.1 hf l (aS h);rw[decide_eq_false_iff_not]at this;exact absurd (KU.2 hp) this
  |some j=>show(0:Int)<=(j:Int);omega
 obtain⟨l',h1,h2⟩:=KW h0;have:=hD _ _ _ _ h h1 (hp.trans h2.symm);omega
structure qd(n:Nat)(L:List (List Int))(f:Int):Prop where
 dQ:∀l∈L,nU n l
 len:jA f=true->L.length=n
 WO:jA f=false->Am L
def Goes(L:ae (ae Int))(s:ae Int)(f:Int)(eq:ae Int->ae Int->Bool)(j i:Nat):Prop:=
 ∃l l',L[j]? =some l/\L[i]? =some l'/\l'.Perm (img s l)/\eq l' (img s l)=true/\(jA f=true->(i:Int)=aT s (j:Int))
variable{n j:Nat}{s:ae Int}{f:Int}{eq:ae Int->ae Int->Bool}
def Goes.jv(hK:qd n L f)(h:Goes L s f eq j i):jv L s f (j:Int)=(i:Int):=by
 obtain⟨l,l',h1,h2,h3,h4,h5⟩:=h;unfold Kd.jv;cases hb:jA f with
 |true=>rw[if_pos rfl];exact(h5 hb).symm
 |false=>
  rw[if_neg tt,fQ,iC h1];exact ahN (hK.WO hb) h2 h3
def D9(hK:qd n L f)(hs:bW n s):jl L s f eq=true↔∀j,j<L.length->∃i,Goes L s f eq j i:=by
 unfold jl;rw[mJ];constructor
 .intro h j hj;have hl:L[j]? =some L[j]:=bX hj;have h1:=h j _ hl;dsimp only at h1;unfold nV at h1;rw[dI,dI,lu,Ao]at h1;obtain⟨a1,a2,a3⟩:=h1;have hlt:(jv L s f (j:Int)).toNat<L.length:=by
   cases hb:jA f with
   |true=>
    have hn:=hK.len hb;have:Kd.jv L s f (j:Int)=aT s (j:Int):=by unfold Kd.jv;rw[if_pos hb]
    rw[this];have:=hs.at_ (c:=(j:Int)) tr tr;omega
   |false=>
    have e:Kd.jv L s f (j:Int)=qM L (img s (L.getD (j:Int).toNat [])):=by unfold Kd.jv;rw[if_neg (by rw[hb];simp)]
    rw[e]at a1⊢;obtain⟨l,h2,_⟩:=KW a1;exact(bC.1 h2).1
  have hl':L[(jv L s f (j:Int)).toNat]? =some L[(jv L s f (j:Int)).toNat]:=bX hlt;rw[iC hl']at a2 a3;refine⟨_,_,_,hl,hl',a2,a3,λhb=>?_⟩;have:Kd.jv L s f (j:Int)=aT s (j:Int):=by unfold Kd.jv;rw[if_pos hb]
  omega
 .intro h j l hl;obtain⟨i,hg⟩:=h j (bC.1 hl).1;have hw:=hg.jv hK;obtain⟨l0,l',h1,h2,h3,h4,h5⟩:=hg;rw[hl]at h1;cases h1;unfold nV;dsimp only;rw[hw,fQ,iC h2,h4,Ao.2 h3];simp
def Goes.lt(h:Goes L s f eq j i):j<L.length/\i<L.length:=by
 obtain⟨l,l',h1,h2,_⟩:=h;exact⟨(bC.1 h1).1,(bC.1 h2).1⟩
def Goes.inj{eq':ae Int->ae Int->Bool}{j':Nat}(hK:qd n L f)(hs:bW n s)(h:Goes L s f eq j i)(h':Goes L s f eq' j' i):j=j':=by
 have hl:=h.lt;have hl':=h'.lt;obtain⟨a,b,h1,h2,h3,h4,h5⟩:=h;obtain⟨a',b',k1,k2,k3,k4,k5⟩:=h';rw[h2]at k2;cases k2;cases hb:jA f with
 |true=>
  have hn:=hK.len hb;have:=hs.inj (a:=(j:Int)) (b:=(j':Int)) tr tr tr tr ((h5 hb).symm.trans (k5 hb));omega
 |false=>exact hK.WO hb _ _ _ _ h1 k1 (ahL hs (hK.dQ _ (aS h1)) (hK.dQ _ (aS k1)) (h3.symm.trans k3))
def ahO(hK:qd n L f)(hs:bW n s)(h:∀j,j<L.length->∃i,Goes L s f eq j i){i:Nat}(hi:i<L.length):∃j,Goes L s f eq j i:=by
 have hc:∀j,∃i,j<L.length->Goes L s f eq j i:=λj=>by
  by_cases hj:j<L.length
  .obtain⟨i,hg⟩:=h j hj;exact⟨i,λ_=>hg⟩
  .exact⟨0,λh=>absurd h hj⟩
 have hf:∀j,j<L.length->Goes L s f eq j (Classical.choose (hc j)):=λj=>Classical.choose_spec (hc j);obtain⟨j,hj,e⟩:=WL (m:=L.length) (L:=λi:Nat=>i) (S:=λj=>if j<L.length then Classical.choose (hc j)else j) (R:=λa b:Nat=>a=b) (D:=λj=>j<L.length) (f:=λj=>if j<L.length then Classical.choose (hc j)else j)
  (λi hi=>hi) (λx hx=>by rw[if_pos hx];exact(hf x hx).lt.2) (λ_=>rfl) (λ_ _ e=>e.symm) (λ_ _ _ e e'=>e.trans e')
  (λx y hx hy=>by
    rw[if_pos hx,if_pos hy];constructor
    .intro e;have h2:=hf y hy;rw[<- e]at h2;exact(hf x hx).inj hK hs h2
    .intro e;rw[e])
  (λi hi=>⟨by rw[if_pos hi];exact(hf i hi).lt.2,rfl⟩) hi
 rw[if_pos hj]at e;refine⟨j,?_⟩;rw[e];exact hf j hj
def tO(n:Nat)(aK:ae (ae Int)):Prop:=aK.length=n/\∀l∈aK,nU n l
def Nb(aK:ae (ae Int))(a b:Int):Prop:=∃l,0<=a/\aK[a.toNat]? =some l/\b∈l
variable{aK:ae (ae Int)}
def Ea(hN:tO n aK)(hs:bW n s):j5 aK s=true↔∀a b,Nb aK a b->Nb aK (aT s a) (aT s b):=by
 unfold j5;rw[mJ];constructor
 .rintro h a b ⟨l,h0,h1,h2⟩;have hl:=(bC.1 h1).1;have h3:=h _ _ h1;rw[jL]at h3;have h4:=gT (h3 b h2);rw[CL h0]at h4;have hn:=hN.1;have hr:=hs.at_ h0 (by omega:a<(n:Int));have h5:aK[(aT s a).toNat]? =some (aK[(aT s a).toNat]'(tr)):=bX _;rw[iC h5]at h4;exact⟨_,hr.1,h5,h4⟩
 .intro h i l hl;rw[jL];intro b hb;have h1:=h (i:Int) b ⟨l,tr,by rw[fQ];exact hl,hb⟩;obtain⟨l',_,h3,h4⟩:=h1;rw[iC h3];exact eB h4
def Nb.dQ(hN:tO n aK){a b:Int}(h:Nb aK a b):(0<=a/\a<(n:Int))/\0<=b/\b<(n:Int):=by
 obtain⟨l,h0,h1,h2⟩:=h;have hl:=(bC.1 h1).1;have:=hN.1;exact⟨⟨h0,tr⟩,hN.2 l (aS h1) b h2⟩
def rY(aK:ae (ae Int)):ae (Int×Int):=aK.zipIdx.flatMap λx=>x.1.map λb=>((x.2:Int),b)
def PR{a b:Int}:(a,b)∈rY aK↔Nb aK a b:=by
 unfold rY;rw[List.mem_flatMap];constructor
 .rintro⟨⟨l,i⟩,hx,h⟩;obtain⟨c,hc,e⟩:=eF.1 h;cases e;have:=vK.1 hx;exact⟨l,tr,by rw[fQ];exact this,hc⟩
 .rintro⟨l,h0,h1,h2⟩;refine⟨(l,a.toNat),vK.2 h1,eF.2 ⟨b,h2,?_⟩⟩;rw[CL h0]
def WQ(hN:tO n aK)(hs:bW n s)(h:∀a b,Nb aK a b->Nb aK (aT s a) (aT s b)){a b:Int}(hab:Nb aK a b):∃c d,Nb aK c d/\aT s c=a/\aT s d=b:=by
 have hmem:=PR.2 hab;obtain⟨j,hj⟩:=jM hmem;have hjl:=(bC.1 hj).1;have hnb:∀i,i<(rY aK).length->Nb aK ((rY aK).getD i (0,0)).1 ((rY aK).getD i (0,0)).2:=λi hi=>by
  have hx:(rY aK)[i]? =some (rY aK)[i]:=bX hi;rw[iC hx];exact PR.1 (aS hx)
 have hc:∀i,∃i',i<(rY aK).length->(rY aK)[i']? =some (aT s ((rY aK).getD i (0,0)).1,aT s ((rY aK).getD i (0,0)).2):=λi=>by
  by_cases hi:i<(rY aK).length
  .obtain⟨i',hi'⟩:=jM (PR.2 (h _ _ (hnb i hi)));exact⟨i',λ_=>hi'⟩
  .exact⟨0,λh=>absurd h hi⟩
 obtain⟨i,hi,e⟩:=WL (m:=(rY aK).length) (L:=λi:Nat=>(rY aK).getD i (0,0)) (S:=λp:Int×Int=>(aT s p.1,aT s p.2)) (R:=λa b=>a=b) (D:=λp=>(0<=p.1/\p.1<(n:Int))/\0<=p.2/\p.2<(n:Int)) (f:=λi=>Classical.choose (hc i))
  (λi hi=>(hnb i hi).dQ hN) (λp hp=>⟨hs.at_ hp.1.1 hp.1.2,hs.at_ hp.2.1 hp.2.2⟩) (λ_=>rfl) (λ_ _ e=>e.symm) (λ_ _ _ e e'=>e.trans e')
  (λx y hx hy=>by
    constructor
    .intro e;obtain⟨x1,x2⟩:=x;obtain⟨y1,y2⟩:=y;dsimp only at e hx hy;injection e with e1 e2;rw[hs.inj hx.1.1 hx.1.2 hy.1.1 hy.1.2 e1,hs.inj hx.2.1 hx.2.2 hy.2.1 hy.2.2 e2]
    .intro e;rw[e])
  (λi hi=>by
    have:=Classical.choose_spec (hc i) hi;exact⟨(bC.1 this).1,iC this⟩) hjl
 rw[iC hj]at e;injection e with e1 e2;exact⟨_,_,hnb i hi,e1.symm,e2.symm⟩
end Kd
namespace Kd
open Go Go.Ideal Canon Gph
def y7:Nat->ae Bool->ae Int
 |n,[]=>if 0<n then[(n:Int)]else[]
 |n,b::bs=>if b then y7 (n+1) bs else if 0<n then(n:Int)::y7 0 bs else y7 0 bs
def ahP(n:Nat)(l:ae Bool):y7 n (true::l)=y7 (n+1) l:=rfl
def ahQ(n:Nat)(l:ae Bool):y7 n (false::l)=if 0<n then(n:Int)::y7 0 l else y7 0 l:=rfl
variable{g:ae (ae Int)}
def Nb.rch{bI:ae Bool}{s a b:Int}(h:lY g bI s a)(hab:Nb g a b)(hi:eP bI b=true):lY g bI s b:=by
 obtain⟨l,h0,h1,h2⟩:=hab;exact .step h h1 h2 hi
variable{mk mk':ae Bool}{n:Nat}{s:ae Int}
def ahR(hN:tO n g)(hmk:∀c,0<=c->c<(n:Int)->eP mk' (aT s c)=eP mk c)(hnb:∀a b,Nb g a b->Nb g (aT s a) (aT s b)){a b:Int}(ha:0<=a/\a<(n:Int))(h:lY g mk a b):(0<=b/\b<(n:Int))/\lY g mk' (aT s a) (aT s b):=by
 induction h with
 |refl=>exact⟨ha,.refl⟩
 |step h hl hn hi ih=>
  rename_i i m l;have hab:Nb g i m:=⟨l,ih.1.1,hl,hn⟩
  have hr:=hab.dQ hN;exact⟨hr.2,(hnb _ _ hab).rch ih.2 (by rw[hmk _ hr.2.1 hr.2.2];exact hi)⟩
def Joined(g:ae (ae Int))(mk:ae Bool):Prop:=∀a b:Nat,a<g.length->b<g.length->eP mk a=true->eP mk b=true->lY g mk a b
def PS{mk:ae Bool}:∀(n a:Nat),a<n->eP mk a=true->∃f,f<n/\eP mk (f:Nat)=true/\∀j,j<f->eP mk (j:Nat)=false
 |0,a,h,_=>by omega
 |n+1,a,h,hm=>by
  by_cases hex:∃a',a'<n/\eP mk (a':Nat)=true
  .obtain⟨a',h1,h2⟩:=hex;obtain⟨f,h3,h4⟩:=PS n a' h1 h2;exact⟨f,tr,h4⟩
  .have hno:∀j,j<n->eP mk (j:Nat)=false:=λj hj=>by
    exact py
   have:a=n:=by
    apply Classical.byContradiction;intro hne;rw[hno a tr]at hm;cases hm
   subst this;exact⟨a,tr,hm,hno⟩
def KX{g:ae (ae Int)}{mk:ae Bool}:∀k,(∀j,j<k->eP mk (j:Nat)=false)->cnt g mk k=0
 |0,_=>rfl
 |k+1,h=>by rw[cnt,KX k (λj hj=>h j tr),if_neg (λq=>by rw[h k tr]at q;cases q.1)]
def cnt_mono{g:ae (ae Int)}{mk:ae Bool}:∀k d,cnt g mk k<=cnt g mk (k+d)
 |k,0=>bQ _
 |k,d+1=>by have:=cnt_mono (g:=g) (mk:=mk) k d;rw[<- oM,cnt];omega
def WS{f:Nat}(hf:f<g.length)(hin:eP mk f=true)(yM:∀j,j<f->eP mk (j:Nat)=false):1<=cnt g mk g.length:=by
 have h1:cnt g mk (f+1)=1:=by
  rw[cnt,KX f yM,if_pos ⟨hin,λ⟨j,h1,h2,_⟩=>by rw[yM j h1]at h2;cases h2⟩]
 have:=cnt_mono (g:=g) (mk:=mk) (f+1) (g.length - (f+1));rw[show f+1+(g.length - (f+1))=g.length by omega]at this;omega
def WT(hS:Gph.nu g):(mG g mk g.length).2=0↔∀a,a<g.length->eP mk (a:Nat)=false:=by
 rw[Pe hS.rg _ (bQ _)];constructor
 .intro h a ha;cases he:eP mk (a:Nat)with
  |false=>rfl
  |true=>
   obtain⟨f,h1,h2,h3⟩:=PS g.length a ha he;have:=WS h1 h2 h3;omega
 .exact KX _
def WU(hS:Gph.nu g):(mG g mk g.length).2<=1↔Joined g mk:=by
 rw[Pe hS.rg _ (bQ _)];by_cases hex:∃a,a<g.length/\eP mk (a:Nat)=true
 .obtain⟨a,ha,hm⟩:=hex;obtain⟨f,h1,h2,h3⟩:=PS g.length a ha hm;have hp:=WS h1 h2 h3;have h4:=agV hS h1 h2 h3;constructor
  .intro h x y hx hy mx my;have h5:=h4.1 tr;exact((h5 x hx mx).symm hS ⟨tr,tr⟩ h2).trans (h5 y hy my)
  .intro h;have:=h4.2 λi hi mi=>h f i h1 hi h2 mi;omega
 .have h0:∀j,j<g.length->eP mk (j:Nat)=false:=λj hj=>by
   exact py
  rw[KX _ h0];exact⟨λ_ x y hx _ mx _=>(by rw[h0 x hx]at mx;cases mx),λ_=>bP _⟩
def WV(hN:tO n g)(hs:bW n s)(hmk:∀c,0<=c->c<(n:Int)->eP mk' (aT s c)=eP mk c)(hnb:∀a b,Nb g a b->Nb g (aT s a) (aT s b))(h:Joined g mk):Joined g mk':=by
 intro a b ha hb ma mb;have hn:=hN.1;obtain⟨c,c0,c1,hc⟩:=hs.onto (y:=(a:Int)) tr tr;obtain⟨d,d0,d1,hd⟩:=hs.onto (y:=(b:Int)) tr tr;rw[<- hc,hmk c c0 c1]at ma;rw[<- hd,hmk d d0 d1]at mb;obtain⟨cn,rfl⟩:=iO c0;obtain⟨dn,rfl⟩:=iO d0;have:=(ahR hN hmk hnb ⟨c0,c1⟩ (h cn dn tr tr ma mb)).2;rw[hc,hd]at this;exact this
structure wK(n:Nat)(g:List (List Int))(s:List Int)(mk mk':List Bool):Prop where
 xL:Gph.nu g
 aK:tO n g
 nd:∀l∈g,l.Nodup
 ps:bW n s
 marks:∀c,0<=c->c<(n:Int)->eP mk' (aT s c)=eP mk c
 keep:∀a b,Nb g a b->Nb g (aT s a) (aT s b)
def wK.back(h:wK n g s mk mk'):wK n g (iH s) mk' mk:=by
 refine⟨h.xL,h.aK,h.nd,h.ps.inv,λc c0 c1=>?_,λa b hab=>?_⟩
 .have:=h.ps.inv.at_ c0 c1;rw[<- h.marks _ this.1 this.2,h.ps.KM c0 c1]
 .obtain⟨c,d,hcd,rfl,rfl⟩:=WQ h.aK h.ps h.keep hab;have hr:=hcd.dQ h.aK;rw[h.ps.wI hr.1.1 hr.1.2,h.ps.wI hr.2.1 hr.2.2];exact hcd
def wK.few(h:wK n g s mk mk'):(mG g mk g.length).2<=1↔(mG g mk' g.length).2<=1:=by
 rw[WU h.xL,WU h.xL];exact⟨WV h.aK h.ps h.marks h.keep,WV h.back.aK h.back.ps h.back.marks h.back.keep⟩
def wK.WW(h:wK n g s mk mk')(h0:∀a,a<g.length->eP mk' (a:Nat)=false):∀a,a<g.length->eP mk (a:Nat)=false:=by
 intro a ha;have hn:=h.aK.1;have hr:=h.ps.at_ (c:=(a:Int)) tr tr;rw[<- h.marks (a:Int) tr tr];have:=h0 (aT s a).toNat tr
 rwa [CL hr.1]at this
def wK.zero(h:wK n g s mk mk'):(mG g mk g.length).2=0↔(mG g mk' g.length).2=0:=by
 rw[WT h.xL,WT h.xL];exact⟨h.back.WW,h.WW⟩
def ahS{a b:ae Int}(ha:a.Nodup)(hb:b.Nodup)(h:∀x,x∈a↔x∈b):a.Perm b:=by
 refine List.perm_iff_count.2 λx=>?_;have h1:=List.nodup_iff_count.1 ha x;have h2:=List.nodup_iff_count.1 hb x;have h3:=List.count_pos_iff (a:=x) (l:=a);have h4:=List.count_pos_iff (a:=x) (l:=b);have h5:=h x;by_cases hx:x∈a
 .have:=h3.2 hx;have:=h4.2 (h5.1 hx);omega
 .have k1:¬0<List.count x a:=λq=>hx (h3.1 q);have k2:¬0<List.count x b:=λq=>hx (h5.2 (h4.1 q));omega
def PT{n:Nat}{s:ae Int}{p q:Int->Bool}:∀{l:ae Int},nU n l->(∀c,0<=c->c<(n:Int)->q (aT s c)=p c)->((img s l).filter q).length=(l.filter p).length
 |[],_,_=>rfl
 |c::l,hl,h=>by
  have hc:=hl c (fT ..);have ih:=PT (l:=l) (λx hx=>hl x (fO _ hx)) h;unfold img at ih⊢;rw[iQ,EB,EB,h c hc.1 hc.2];split
  .rw[oh,oh,ih]
  .exact ih
def WX(mk:ae Bool)(n:Nat):Kl mk n=((upTo' n).filter (eP mk)).length:=by
 unfold Kl upTo';rw[List.filter_map,bZ];rfl
def wK.size(h:wK n g s mk mk'):Kl mk g.length=Kl mk' g.length:=by
 have hn:=h.aK.1;rw[hn,WX,WX];have hid:=bW.ident n;have hin:nU n (upTo' n):=λc hc=>hid.dQ c hc;have h1:=PT (n:=n) (s:=s) (p:=eP mk) (q:=eP mk') hin h.marks;have h2:(img s (upTo' n)).Perm (upTo' n):=ahS (WN h.ps hin hid.nd) hid.nd λx=>by
  constructor
  .intro hx;have:=(nU.img h.ps hin) x hx;exact hid.mem this.1 this.2
  .intro hx;have:=hid.dQ x hx;obtain⟨c,c0,c1,rfl⟩:=h.ps.onto this.1 this.2;exact eF.2 ⟨c,hid.mem c0 c1,rfl⟩
 rw[<- h1,(h2.filter (eP mk')).length_eq]
end Kd
namespace Kd
open Go Go.Ideal Canon
variable{L:ae (ae Int)}
def WY(hn:L.Nodup)(hs:∀l∈L,l.Pairwise (·<·)):Am L:=by
 intro i j a b ha hb hp;have e:a=b:=List.Perm.eq_of_pairwise (λx y _ _ h1 h2=>by omega) (hs a (aS ha)) (hs b (aS hb)) hp;subst e;exact BX hn ha hb
def ahT{α:Type}{K:ae α}{F:α->ae Int}(hn:K.Nodup)(h:∀a∈K,∀b∈K,(F a).Perm (F b)->a=b):Am (K.map F):=by
 intro i j a b ha hb hp;rw[dN]at ha hb;obtain⟨x,hx,rfl⟩:=lm.1 ha;obtain⟨y,hy,rfl⟩:=lm.1 hb;have:=h x (aS hx) y (aS hy) hp;subst this;exact BX hn hx hy
variable{g:bB}
def PU(hg:eU g)(kf:Int×Int->Int×Bool):Am (jr g kf):=by
 obtain⟨h1,h2⟩:=WH kf _ (bF g) rfl;unfold jr;refine ahT (Wz h1) λa ha b hb hp=>?_;rw[wF]at ha hb;rw[(h2 a).2,(h2 b).2]at hp;have hne:=(h2 a).1.1 ha;cases hl:oJ kf (bF g) a with
 |nil=>exact absurd hl hne
 |cons c l=>
  have hc:c∈oJ kf (bF g) a:=by rw[hl];exact fT ..
  have hc':=hp.mem_iff.1 hc;unfold oJ at hc hc';obtain⟨p,hp1,hp2⟩:=eF.1 hc;obtain⟨q,hq1,hq2⟩:=eF.1 hc';obtain⟨p3,p4⟩:=uw.1 hp1;obtain⟨q3,q4⟩:=uw.1 hq1;have e:=Gw hg p3 q3 (.inl (hp2.trans hq2.symm));subst e;rw[dI,lu]at p4 q4;exact p4.2.symm.trans q4.2
def Eb(h:L.length<=1):Am L:=by
 intro i j a b ha hb _;have h1:=(bC.1 ha).1;have h2:=(bC.1 hb).1;omega
def ahU(hg:eU g):Am (lZ g):=by
 unfold lZ;split
 .exact PU hg _
 split
 .rw[KJ,KJ];generalize hA:dP g.cells.length (λb=>decide ((iR g b).1=(iR g b).2))=A;generalize hB:dP g.cells.length (λb=>decide ((iR g b).1+(iR g b).2=g.w - 1))=B;have iA:A.Pairwise (·<·):=by rw[<- hA];exact KH _ _
  have iB:B.Pairwise (·<·):=by rw[<- hB];exact KH _ _
  by_cases a0:A=[]
  .rw[if_pos a0];by_cases b0:B=[]
   .rw[if_pos b0];exact Eb (by simp[kP])
   .rw[if_neg b0];exact Eb (by simp[kP,uX])
  .rw[if_neg a0];by_cases b0:B=[]
   .rw[if_pos b0];exact Eb (by simp[kP])
   .rw[if_neg b0];by_cases e:A=B
    .refine Eb ?_;simp[kP,uX,e]
    .have:kP [A] [B]=[A,B]:=by simp[kP,uX,e]
     rw[this];refine WY w8 λl hl=>?_;simp only[bT,Hu,or_false]at hl;rcases hl with rfl|rfl
     .exact iA
     .exact iB
 .exact Eb tt
def ahV(hg:eU g):Am (iX (bJ g)):=by
 refine WY ?_ λl hl=>?_
 .unfold iX;unfold List.Nodup;rw[List.pairwise_flatMap];refine⟨λx hx=>?_,?_⟩
  .have hx:=aS (vK.1 (show(x.1,x.2)∈_ from hx));unfold jK;rw[zz];obtain⟨p,_,hp⟩:=eF.1 (show x.1∈bJ g from hx);have hnd:x.1.Nodup:=by rw[<- hp];exact PI hg p
   exact(List.Pairwise.filter _ hnd).imp λ{a b} hne e=>hne (by injection e with _ e;injection e)
  .have hz:∀(l:ae (ae Int)) (n:Nat),(l.zipIdx n).Pairwise λa b=>a.2<b.2:=by
    intro l;induction l with
    |nil=>intro n;exact List.Pairwise.nil
    |cons a l ih=>
     intro n;rw[List.zipIdx_cons,uz];refine⟨λx hx=>?_,ih (n+1)⟩;have:=List.le_snd_of_mem_zipIdx hx;show n<x.2;omega
   refine(hz (bJ g) 0).imp λ{a b} h x hx y hy e=>?_;unfold jK at hx hy;obtain⟨u,_,rfl⟩:=eF.1 hx;obtain⟨v,_,rfl⟩:=eF.1 hy;injection e with e _;omega
 .obtain⟨i,x,j,_,_,h,rfl⟩:=WA hl;simp[h]
def ahW(hg:eU g)(k:Int):qd g.cells.length (dD g k) k:=by
 refine⟨λl hl=>(Wu hg k l hl).2,λhb=>?_,λhb=>?_⟩
 .unfold jA at hb;simp only[qZ,lu]at hb;rcases hb with(rfl|rfl)|rfl
  .show(mV g.cells.length).length=_;exact Pp _
  .show(bJ g).length=_;exact wE g
  .show(l5 (bJ g)).length=_;rw[Pq];exact wE g
 .unfold jA at hb;simp only[Bool.or_eq_false_iff,decide_eq_false_iff_not]at hb;unfold dD;rw[if_neg hb.1.1];split
  .exact PU hg _
  split
  .exact PU hg _
  split
  .exact ahU hg
  rw[if_neg hb.1.2,if_neg hb.2];split
  .exact ahV hg
  .exact Eb tt
def ahX(hg:eU g){rs:ae (ae Int)}(hr:xI g rs)(hn:(rs.map bR).Nodup)(k:Int)(hk:jA k=false):qd g.cells.length (dW g rs) k:=by
 refine⟨λl hl=>(Wv hg hr l hl).2,(λhb=>by rw[hk]at hb;cases hb),λ_=>?_⟩;intro i j a b ha hb hp;unfold dW at ha hb;rw[dN]at ha hb;obtain⟨x,hx,rfl⟩:=lm.1 ha;obtain⟨y,hy,rfl⟩:=lm.1 hb;have back:∀z∈rs,(fA g z).map (λn=>g.cells.getD n.toNat 0)=z:=λz hz=>by
  unfold fA;rw[uy];conv=>rhs;rw[<- List.map_id z]
  refine wY λc hc=>?_;have hm:=(hr.all z hz).mem c hc;have mW:g.cells.Pairwise (·<·):=zp
  obtain⟨m,hm2⟩:=jM hm;show g.cells.getD ((xH c g.cells:Nat):Int).toNat 0=c;rw[fQ,Kw mW hm2];exact iC hm2
 have h1:=hp.map (λn=>g.cells.getD n.toNat 0);rw[back x (aS hx),back y (aS hy)]at h1;have h2:=KU.2 h1;have h3:(rs.map bR)[i]? =some (bR x):=by rw[dN,hx];rfl
 have h4:(rs.map bR)[j]? =some (bR x):=by rw[dN,hy,h2];rfl
 exact BX hn h3 h4
def ahY{d:bG}(hg:eU (aU d))(hr:∀r∈d.regions,xI (aU d) r.lists/\(r.lists.map bR).Nodup){f:Nat}{L:ae (ae Int)}(h:(mI d)[f]? =some L):qd (aU d).cells.length L (f:Int):=by
 unfold mI at h;by_cases hf:f<8
 .rw[pG (by rw[bZ,qm];exact hf),dN,ru hf]at h;cases h;exact ahW hg _
 .rw[rq (by rw[bZ,qm];omega),dN]at h;obtain⟨r,hr2,rfl⟩:=lm.1 h;have:=hr r (aS hr2);refine ahX hg this.1 this.2 _ ?_;unfold jA;simp only[Bool.or_eq_false_iff,decide_eq_false_iff_not];omega
end Kd
namespace Kd
open Go Go.Ideal Canon
structure ahZ(m:Nat)(cl:List Int):Prop where
 len:cl.length=m
 WZ:∀i:Nat,i<m->0<=aT cl (i:Int)/\aT cl (i:Int)<=(i:Int)/\aT cl (aT cl (i:Int))=aT cl (i:Int)
structure y8(m:Nat)(cl t:List Int):Prop where
 p:bW m t
 c:∀v:Int,0<=v->v<(m:Int)->aT cl (aT t v)=aT cl v
def Ec(cl sy:ae Int)(s:Int):ak Nat:=(List.range cl.length).find? λt:Nat=>decide (aT cl (t:Int)=aT cl s)&&!decide ((t:Int)∈sy)
def KY(cl sy:ae Int)(s:Int):ae Int:=if 0<=aT sy s then sy else match Ec cl sy s with
 |none=>sy
 |some t=>sy.set s.toNat (t:Int)
structure GInv(m:Nat)(cl sy:List Int):Prop where
 len:sy.length=m
 val:∀s:Int,0<=s->s<(m:Int)->aT sy s= -1\/(0<=aT sy s/\aT sy s<(m:Int)/\aT cl (aT sy s)=aT cl s)
 inj:∀s u:Int,0<=s->s<(m:Int)->0<=u->u<(m:Int)->aT sy s=aT sy u->0<=aT sy s->s=u
variable{s:Int}
def ah0{l:ae Int}{x u:Int}(s0:0<=s)(s1:s<l.length)(u0:0<=u):aT (l.set s.toNat x) u=if u=s then x else aT l u:=by
 unfold aT;by_cases e:u=s
 .subst e;rw[if_pos rfl];have hl:u.toNat<l.length:=by omega
  simp[List.getD,nI,hl]
 .rw[if_neg e];simp only[List.getD,nI];rw[if_neg tr]
variable{cl sy:ae Int}{m:Nat}
def GInv.mem(h:GInv m cl sy){t:Int}(t0:0<=t)(ht:t∈sy):∃u:Int,0<=u/\u<(m:Int)/\aT sy u=t/\aT cl t=aT cl u/\t<(m:Int):=by
 obtain⟨i,hi⟩:=jM ht;have hl:=(bC.1 hi).1;have hlen:=h.len;have e:=kX hi;refine⟨(i:Int),tr,tr,e,?_⟩;rcases h.val (i:Int) tr (tr)with h1|h1
 .omega
 .rw[e]at h1;exact⟨h1.2.2,h1.2.1⟩
def GInv.room(hc:cl.length=m)(h:GInv m cl sy){s:Int}(s0:0<=s)(s1:s<(m:Int))(hs:aT sy s= -1):∃t,Ec cl sy s=some t:=by
 cases hf:Ec cl sy s with
 |some t=>exact⟨t,rfl⟩
 |none=>
  exfalso
  unfold Ec at hf;rw[List.find?_eq_none]at hf;have hall:∀t:Int,0<=t->t<(m:Int)->aT cl t=aT cl s->t∈sy:=λt t0 t1 hcl=>by
   have:=hf t.toNat (nH.2 tr)
   rw[CL t0]at this;simp[hcl]at this;exact this
  have hC:∀t,t∈(upTo' m).filter (λt=>decide (aT cl t=aT cl s))↔(0<=t/\t<(m:Int))/\aT cl t=aT cl s:=λt=>by
   rw[uw,lu];refine and_congr_left λ_=>⟨λq=>(bW.ident m).dQ t q,λq=>(bW.ident m).mem q.1 q.2⟩
  have hnd:((upTo' m).filter (λt=>decide (aT cl t=aT cl s))).Nodup:=(Gx m).filter _;generalize(upTo' m).filter (λt=>decide (aT cl t=aT cl s))=C at hC hnd;have hidx:∀t∈C,sy.idxOf t<sy.length/\aT sy (sy.idxOf t:Nat)=t:=λt ht=>by
   have h1:=(hC t).1 ht;have hl:=List.idxOf_lt_length_iff.2 (hall t h1.1.1 h1.1.2 h1.2);refine⟨hl,kX ?_⟩;rw[bX hl,List.getElem_idxOf]
  have W9:s∈C:=(hC s).2 ⟨⟨s0,s1⟩,rfl⟩;have h1:=Gz (l:=C.map λt=>((sy.idxOf t:Nat):Int)) (m:=C.erase s) (PP hnd λa ha b hb e=>by
   have e1:=(hidx a ha).2;have e2:=(hidx b hb).2;rw[<- e1,<- e2,e]) (λx hx=>by
   obtain⟨t,ht,rfl⟩:=eF.1 hx;obtain⟨k1,k2⟩:=hidx t ht;have k3:=(hC t).1 ht;have hlen:=h.len;have hne:((sy.idxOf t:Nat):Int)≠s:=λe=>by rw[e,hs]at k2;omega
   refine(List.mem_erase_of_ne hne).2 ((hC _).2 ⟨⟨tr,tr⟩,?_⟩);rcases h.val ((sy.idxOf t:Nat):Int) tr (tr)with q|q
   .omega
   .rw[<- q.2.2,k2];exact k3.2)
  have h2:=RI W9;have h3:0<C.length:=List.length_pos_of_mem W9;rw[bZ]at h1;omega
def ah1{t:Nat}(h:Ec cl sy s=some t):t<cl.length/\aT cl (t:Int)=aT cl s/\(t:Int)∉sy/\∀u:Nat,u<t->aT cl (u:Int)=aT cl s->(u:Int)∈sy:=by
 unfold Ec at h;have h1:=List.find?_some h;have h2:=RG h;simp at h1;refine⟨nH.1 h2,h1.1,h1.2,λu hu hcl=>?_⟩;obtain⟨h3,a,b,e,h4⟩:=List.find?_eq_some_iff_append.1 h;have hat:a=List.range t:=by
  have hlt:=nH.1 h2;have e1:List.range cl.length=List.range t++t::(List.range' (t+1) (cl.length - t - 1)):=by
   rw[List.range_eq_range',List.range_eq_range',show cl.length=t+(1+(cl.length - t - 1))by omega,<- List.range'_append_1,<- List.range'_append_1];simp
  have l1:a.length=t:=by
   have hg:(List.range cl.length)[a.length]? =some t:=by rw[e,rq (bQ _),xZ];rfl
   have:=(bC.1 hg).2;rw[List.getElem_range]at this;exact this
  have:a=(List.range cl.length).take t:=by rw[e,<- l1,List.take_left'];rfl
  rw[this,List.take_range,EF tr]
 have:=h4 u (by rw[hat];exact nH.2 hu);simp[hcl]at this;exact this
def GInv.step(hc:cl.length=m)(h:GInv m cl sy){s:Int}(s0:0<=s)(s1:s<(m:Int)):GInv m cl (KY cl sy s)/\0<=aT (KY cl sy s) s/\∀u:Int,0<=u->u≠s->aT (KY cl sy s) u=aT sy u:=by
 unfold KY;by_cases h0:0<=aT sy s
 .rw[if_pos h0];exact⟨h,h0,λ_ _ _=>rfl⟩
 rw[if_neg h0];have hs:aT sy s= -1:=by
  rcases h.val s s0 s1 with q|q
  .exact q
  .omega
 obtain⟨t,ht⟩:=h.room hc s0 s1 hs;rw[ht];dsimp only;obtain⟨k1,k2,k3,_⟩:=ah1 ht;have hlen:=h.len;have hg:∀u:Int,0<=u->aT (sy.set s.toNat (t:Int)) u=if u=s then(t:Int)else aT sy u:=λu u0=>ah0 s0 tr u0
 have hno:∀u:Int,0<=u->u<(m:Int)->aT sy u≠(t:Int):=λu u0 u1 e=>k3 (e▸PO u0 tr);refine⟨⟨by rw[ry];exact hlen,λu u0 u1=>?_,λu w u0 u1 w0 w1 e he=>?_⟩,?_,λu u0 hne=>?_⟩
 .rw[hg u u0];split
  .rename_i e;refine .inr ⟨tr,tr,by rw[e];exact k2⟩
  .exact h.val u u0 u1
 .rw[hg u u0,hg w w0]at e;rw[hg u u0]at he;split at e
  .rename_i e1;split at e
   .rename_i e2;omega
   .exact absurd e.symm (hno w w0 w1)
  .rename_i e1;rw[if_neg e1]at he;split at e
   .exact absurd e (hno u u0 u1)
   .exact h.inj u w u0 u1 w0 w1 e he
 .rw[hg s s0,if_pos rfl];omega
 .rw[hg u u0,if_neg hne]
end Kd
namespace Kd
open Go Go.Ideal Canon
def PV(sy:Int->Bool)(m:Nat)(p:ae Clue):Prop:=∀g∈p,sy g.aX=true->∃v,g.values=[v]/\0<=v/\v<(m:Int)
def PV.tail{sy:Int->Bool}{m:Nat}{g:Clue}{p:ae Clue}(h:PV sy m (g::p)):PV sy m p:=λx hx=>h x (fO _ hx)
section
variable {sy:Int->Bool} {m:Nat} {cl t t2:ae Int} {p:ae Clue}
def y8.comp(h:y8 m cl t)(h2:y8 m cl t2):y8 m cl (eX t2 t):=by
 refine⟨h2.p.comp h.p,λv v0 v1=>?_⟩;have r:=h.p.at_ v0 v1;rw[y5 v0 (by rw[h.p.len];exact v1),h2.c _ r.1 r.2,h.c v v0 v1]
def y8.inv(h:y8 m cl t):y8 m cl (iH t):=by
 refine⟨h.p.inv,λv v0 v1=>?_⟩;have r:=h.p.inv.at_ v0 v1;rw[<- h.c _ r.1 r.2,h.p.KM v0 v1]
def y8.ident(cl:ae Int)(m:Nat):y8 m cl (upTo' m):=⟨bW.ident m,λv v0 v1=>by rw[BZ v0 v1]⟩
end
end Kd
namespace Kd
open Go Go.Ideal Canon
structure Grp(n:Nat)(G:List (List Int)):Prop where
 perm:∀a∈G,bW n a
 one:upTo' n∈G
 comp:∀a∈G,∀b∈G,eX a b∈G
 inv:∀a∈G,iH a∈G
section
variable {n:Nat} {a b c:ae Int}
def bW.inr(h:bW n a):nU n a:=h.dQ
def ah2(hb:bW n b)(hc:bW n c):eX (eX a b) c=eX a (eX b c):=by
 show img (eX a b) c=img a (img b c);exact WM (by rw[hb.len];exact hc.inr)
def ah3(h:bW n a):eX (upTo' n) a=a:=by
 show a.map (aT (upTo' n))=a;conv=>rhs;rw[<- List.map_id a]
 exact wY λx hx=>BZ (h.dQ x hx).1 (h.dQ x hx).2
end
structure Ed(n:Nat)(xM l:List (List Int))(k:Nat):Prop where
 gp:∀g∈xM,bW n g
 nd:l.Nodup
 first:l[0]? =some (upTo' n)
 PW:∀(i:Nat) p,l[i]? =some p->i=0\/∃(j:Nat) (g q:List Int),j<i/\g∈xM/\l[j]? =some q/\p=eX g q
 done:∀(i:Nat) q,i<k->l[i]? =some q->∀g∈xM,eX g q∈l
variable{n k:Nat}{xM l:ae (ae Int)}
def Ed.perm(h:Ed n xM l k):∀(i:Nat) p,l[i]? =some p->bW n p:=by
 intro i;induction i using Nat.strongRecOn with
 |_ i ih=>
  intro p hp;rcases h.PW i p hp with e|⟨j,g,q,hj,hg,hq,rfl⟩
  .subst e;rw[h.first]at hp;cases hp;exact bW.ident n
  .exact(h.gp g hg).comp (ih j hj q hq)
def Ed.all(h:Ed n xM l k){P:ae Int->Prop}(h1:P (upTo' n))(h2:∀g∈xM,∀q,bW n q->P q->P (eX g q)):∀p∈l,P p:=by
 have key:∀(i:Nat) p,l[i]? =some p->P p:=by
  intro i;induction i using Nat.strongRecOn with
  |_ i ih=>
   intro p hp;rcases h.PW i p hp with e|⟨j,g,q,hj,hg,hq,rfl⟩
   .subst e;rw[h.first]at hp;cases hp;exact h1
   .exact h2 g hg q (h.perm j q hq) (ih j hj q hq)
 intro p hp;obtain⟨i,hi⟩:=jM hp;exact key i p hi
def Ed.mul(h:Ed n xM l l.length){b:ae Int}(hb:b∈l):∀(i:Nat) a,l[i]? =some a->eX a b∈l:=by
 obtain⟨jb,hjb⟩:=jM hb;have hbp:=h.perm jb b hjb;intro i;induction i using Nat.strongRecOn with
 |_ i ih=>
  intro a ha;rcases h.PW i a ha with e|⟨j,g,q,hj,hg,hq,rfl⟩
  .subst e;rw[h.first]at ha;cases ha;rw[ah3 hbp];exact hb
  .rw[ah2 (h.perm j q hq) hbp];obtain⟨m,hm⟩:=jM (ih j hj q hq);exact h.done m _ (bC.1 hm).1 hm g hg
