/- Part. -/
import Derived.Test.YtoilpafpgndilaaGreatIdealNF
set_option linter.all false
namespace Gph
def eP(l:kI Bool)(n:Int):Bool:=l.getD n.toNat false
def inner(bG:kI Bool):kI Int->kI Bool->kI Int->kI Bool×kI Int
 |[],met,q=>(met,q)
 |n::ns,met,q=>if eP bG n&&!eP met n then inner bG ns (met.set n.toNat true) (q++[n])else inner bG ns met q
def wh(g:kI (kI Int))(bG:kI Bool):Nat->kI Bool->kI Int->kI Int
 |0,_,_=>[]
 |_+1,_,[]=>[]
 |f+1,met,q::qs=>q::wh g bG f (inner bG (g.getD q.toNat []) met (q::qs)).1 (inner bG (g.getD q.toNat []) met (q::qs)).2.tail
def AY(m:Nat)(s:Int):kI Bool:=(List.replicate m false).set s.toNat true
def I9(g:kI (kI Int))(bG:kI Bool)(s:Int):kI Int:=wh g bG (g.length+1) (AY g.length s) [s]
def left(met:kI Bool):Nat:=(met.filter (!·)).length
variable{met:kI Bool}
def adG{n:Nat}(h:met[n]? =some false):left (met.set n true)+1=left met:=by
 induction met generalizing n with
 |nil=>cases h
 |cons b met ih=>
  cases n with
  |zero=>cases h;simp[left]
  |succ n=>
   have:=ih (n:=n) AH;simp only[left,List.set_cons_succ,Gd]at this⊢;cases b<;>simp at this⊢<;>omega
variable{a n:Int}
def Ja(ha:0<=a)(hn:0<=n)(h:a<met.length):eP (met.set a.toNat true) n=(decide (n=a)||eP met n):=by
 unfold eP;obtain⟨a,rfl⟩:=jA ha;obtain⟨n,rfl⟩:=jA hn;simp only[kJ,alv,oQ];by_cases e:a=n
 .subst e;have:a<met.length:=by omega
  simp[this]
 .have e2:¬((n:Int)=(a:Int)):=by omega
  simp[e,e2]
def Rg(g:kI (kI Int))(n:Int):Prop:=0<=n/\n<g.length
def M5{g:kI (kI Int)}{bG:kI Bool}:∀(ns:kI Int) (met:kI Bool) (q:kI Int),met.length=g.length->(∀n∈ns,Rg g n)->
 (inner bG ns met q).1.length=g.length/\(∀n,0<=n->(eP (inner bG ns met q).1 n=true↔eP met n=true\/(n∈ns/\eP bG n=true)))/\
 left (inner bG ns met q).1+(inner bG ns met q).2.length=left met+q.length/\∃t,(inner bG ns met q).2=q++t/\∀n,(n∈t↔n∈ns/\eP bG n=true/\eP met n=false)
 |[],met,q,hm,hr=>by simp[inner,hm]
 |a::ns,met,q,hm,hr=>by
  have ha:=hr a An;have hr':∀n∈ns,Rg g n:=λn hn=>hr n (by simp[hn]);unfold Rg at ha;rw[inner];by_cases hc:(eP bG a&&!eP met a)=true
  .rw[if_pos hc];simp only[afD,Dy]at hc;obtain⟨h1,h2,h4,t,h5,h3⟩:=M5 (g:=g) (bG:=bG) ns (met.set a.toNat true) (q++[a]) FA hr';refine⟨h1,λn hn=>?_,?_,a::t,by rw[h5];simp,λn=>?_⟩
   .rw[h2 n hn,Ja ha.1 hn z7];simp only[vG,wP,dx];constructor
    .rintro((rfl|h)|h)
     .exact .inr ⟨.inl rfl,hc.1⟩
     .exact .inl h
     .exact .inr ⟨.inr h.1,h.2⟩
    .rintro(h|⟨rfl|h,h'⟩)
     .exact .inl (.inr h)
     .exact .inl (.inl rfl)
     .exact .inr ⟨h,h'⟩
   .have hs:met[a.toNat]? =some false:=by
     have:eP met a=false:=hc.2;unfold eP at this;rw[alv]at this;have hl:a.toNat<met.length:=z7
     rw[bP hl]at this⊢;simpa using this
    have:=adG hs;rw[h4,iH,zS];omega
   .rw[dx,h3 n];simp only[dx];constructor
    .rintro(rfl|⟨h,h',h''⟩)
     .exact⟨.inl rfl,hc⟩
     .have hn:=(hr' n h).1;rw[Ja ha.1 hn z7]at h'';simp only[Bool.or_eq_false_iff]at h'';exact⟨.inr h,h',h''.2⟩
    .rintro⟨rfl|h,h',h''⟩
     .exact .inl rfl
     .by_cases e:n=a
      .exact .inl e
      .refine .inr ⟨h,h',?_⟩;rw[Ja ha.1 (hr' n h).1 z7];simp[e,h'']
  .rw[if_neg hc];obtain⟨h1,h2,h4,t,h5,h3⟩:=M5 (g:=g) (bG:=bG) ns met q hm hr';simp only[afD,Dy,not_and,Bool.not_eq_false]at hc;refine⟨h1,λn hn=>?_,h4,t,h5,λn=>?_⟩
   .rw[h2 n hn];simp only[dx];constructor
    .rintro(h|⟨h,h'⟩)
     .exact .inl h
     .exact .inr ⟨.inr h,h'⟩
    .rintro(h|⟨rfl|h,h'⟩)
     .exact .inl h
     .exact .inl (hc h')
     .exact .inr ⟨h,h'⟩
   .rw[h3 n];simp only[dx];constructor
    .rintro⟨h,h'⟩;exact⟨.inr h,h'⟩
    .rintro⟨rfl|h,h',h''⟩
     .rw[hc h']at h'';cases h''
     .exact⟨h,h',h''⟩
inductive kV(g:List (List Int))(bG:List Bool)(s:Int):Int->Prop
 |refl:kV g bG s s
 |step {i n:Int} {l:List Int} (h:kV g bG s i) (hl:g[i.toNat]? =some l) (hn:n∈l) (hi:eP bG n=true):kV g bG s n
variable{g:kI (kI Int)}{bG:kI Bool}
def kV.trans{b c:Int}(h:kV g bG a b)(h2:kV g bG b c):kV g bG a c:=by
 induction h2 with
 |refl=>exact h
 |step _ hl hn hi ih=>exact .step ih hl hn hi
def j5(h:Rg g n):g[n.toNat]? =some (g.getD n.toNat []):=by
 have hl:n.toNat<g.length:=by unfold Rg at h;omega
 rw[alv,bP hl];rfl
def TU{g:kI (kI Int)}{bG:kI Bool}(hg:∀l∈g,∀n∈l,Rg g n):∀(f:Nat) (met:kI Bool) (queue V:kI Int),met.length=g.length->(∀n∈queue,Rg g n)->
 (∀n,0<=n->(eP met n=true↔n∈V\/n∈queue))->(∀v∈V,∀l,g[v.toNat]? =some l->∀n∈l,eP bG n=true->n∈V\/n∈queue)->left met+queue.length<=f->
 (∀v,v∈V\/v∈wh g bG f met queue->∀l,g[v.toNat]? =some l->∀n∈l,eP bG n=true->n∈V\/n∈wh g bG f met queue)/\(∀n∈queue,n∈wh g bG f met queue)/\
 (∀n∈wh g bG f met queue,∃q∈queue,kV g bG q n)/\∀n∈wh g bG f met queue,Rg g n
 |0,met,queue,V,hm,hq,hM,hcl,hf=>by
  have:queue=[]:=jy.1 z7;subst this;exact oB
 |f+1,met,[],V,hm,hq,hM,hcl,hf=>by
  exact oB
 |f+1,met,q::qs,V,hm,hq,hM,hcl,hf=>by
  have hq0:=hq q An;have hgd:=j5 hq0;have hns:∀n∈g.getD q.toNat [],Rg g n:=hg _ (aZ hgd);obtain⟨h1,h2,h4,t,h5,h3⟩:=M5 (g:=g) (bG:=bG) (g.getD q.toNat []) met (q::qs) hm hns;rw[wh];generalize hin:inner bG (g.getD q.toNat []) met (q::qs)=r at h1 h2 h4 h5;obtain⟨met',q'⟩:=r;dsimp only at h1 h2 h4 h5⊢;subst h5;rw[fV,List.tail_cons];have hqt:∀n∈qs++t,Rg g n:=λn hn=>by
   rcases dX.1 hn with h|h
   .exact hq n A5
   .exact hns n ((h3 n).1 h).1
  obtain⟨c1,c2,c3,c4⟩:=TU hg f met' (qs++t) (q::V) h1 hqt (λn hn=>by
   rw[h2 n hn,hM n hn];simp only[dx,dX,h3 n];constructor
   .rintro((h|rfl|h)|⟨h,h'⟩)
    .exact .inl (.inr h)
    .exact .inl (.inl rfl)
    .exact .inr (.inl h)
    .cases hme:eP met n with
     |true=>
      rcases(hM n hn).1 hme with h''|h''
      .exact .inl (.inr h'')
      .rcases dx.1 h'' with rfl|h''
       .exact .inl (.inl rfl)
       .exact .inr (.inl h'')
     |false=>exact .inr (.inr ⟨h,h',rfl⟩)
   .rintro((rfl|h)|h|⟨h,h',_⟩)
    .exact .inl (.inr (.inl rfl))
    .exact .inl (.inl h)
    .exact .inl (.inr (.inr h))
    .exact .inr ⟨h,h'⟩) (λv hv l hl n hn hi=>by
   rcases dx.1 hv with rfl|hv
   .rw[hgd]at hl;cases hl;have hn0:=(hns n hn).1;cases hme:eP met n with
    |true=>
     rcases(hM n hn0).1 hme with h''|h''
     .exact .inl (by simp[h''])
     .rcases dx.1 h'' with rfl|h''
      .exact .inl An
      .exact .inr (by simp[h''])
    |false=>exact .inr (nA _ ((h3 n).2 ⟨hn,hi,hme⟩))
   .rcases hcl v hv l hl n hn hi with h|h
    .exact .inl A5
    .rcases dx.1 h with rfl|h
     .exact .inl An
     .exact .inr A5) (by
   simp only[fV,oP,iH]at h4 hf⊢;omega)
  refine⟨λv hv l hl n hn hi=>?_,λn hn=>?_,λn hn=>?_,λn hn=>?_⟩
  .have:=c1 v (by
    rcases hv with h|h
    .exact .inl A5
    .rcases dx.1 h with rfl|h
     .exact .inl An
     .exact .inr h) l hl n hn hi
   rcases this with h|h
   .rcases dx.1 h with rfl|h
    .exact .inr An
    .exact .inl h
   .exact .inr A5
  .rcases dx.1 hn with rfl|hn
   .simp
   .exact cO _ (c2 n (by simp[hn]))
  .rcases dx.1 hn with rfl|hn
   .exact⟨n,An,.refl⟩
   .obtain⟨p,hp,hr⟩:=c3 n hn;rcases dX.1 hp with hp|hp
    .exact⟨p,by simp[hp],hr⟩
    .obtain⟨h,h',_⟩:=(h3 p).1 hp;exact⟨q,An,(kV.step .refl hgd h h').trans hr⟩
  .rcases dx.1 hn with rfl|hn
   .exact hq0
   .exact c4 n hn
def TV(m:Nat)(s:Int):(AY m s).length=m:=by rw[AY,pV,Gn]
def M6(hg:∀l∈g,∀n∈l,Rg g n){s:Int}(hs:Rg g s)(n:Int):n∈I9 g bG s↔kV g bG s n:=by
 have hs':=hs;unfold Rg at hs';obtain⟨c1,c2,c3,_⟩:=TU (g:=g) (bG:=bG) hg (g.length+1) (AY g.length s) [s] [] (TV _ _) (λn hn=>by rw[bM.1 hn];exact hs) (λn hn=>by
  rw[AY,Ja hs'.1 hn (by rw[Gn];omega)];have:eP (List.replicate g.length false) n=false:=by
   unfold eP;rw[alv,PO];split<;>rfl
  simp[this]) An (by
  have:left (AY g.length s)<=(AY g.length s).length:=PR _ _;rw[TV]at this;simp;omega)
 constructor
 .intro h;obtain⟨q,hq,hr⟩:=c3 n h;rw[bM.1 hq]at hr;exact hr
 .intro h;induction h with
  |refl=>exact c2 s An
  |step _ hl hn hi ih=>exact(c1 _ (.inr ih) _ hl _ hn hi).resolve_left An
def adI(hg:∀l∈g,∀n∈l,Rg g n){s:Int}(hs:Rg g s):∀n∈I9 g bG s,Rg g n:=λn hn=>by
 have h:=(M6 hg hs n).1 hn;cases h with
 |refl=>exact hs
 |step _ hl hn _=>exact hg _ (aZ hl) n hn
def ze(part:kI Int)(ns:kI Int)(m:Int):kI Int:=ns.foldl (λp n=>p.set n.toNat m) part
def TW:∀(ns part:kI Int) (m:Int),(ze part ns m).length=part.length
 |[],part,m=>rfl
 |n::ns,part,m=>by
  show(ze (part.set n.toNat m) ns m).length=_;rw[TW ns,pV]
def Fj(g:kI (kI Int))(bG:kI Bool)(x:kI Int×Nat)(i:Nat):kI Int×Nat:=
 if eP bG i=true/\x.1.getD i 0<=0 then(ze x.1 (I9 g bG i) (x.2+1:Nat),x.2+1)else x
def lF(g:kI (kI Int))(bG:kI Bool)(k:Nat):kI Int×Nat:=(List.range k).foldl (Fj g bG) (List.replicate g.length 0,0)
def M7(g:kI (kI Int))(bG:kI Bool)(k:Nat):lF g bG (k+1)=Fj g bG (lF g bG k) k:=by
 rw[lF,Gm,DI];rfl
def TY(g:kI (kI Int))(bG:kI Bool):∀k,(lF g bG k).1.length=g.length/\(lF g bG k).2<=k/\∀p∈(lF g bG k).1,0<=p/\p<=(lF g bG k).2
 |0=>by
  refine⟨by simp[lF],by simp[lF],λp hp=>?_⟩;simp[lF]at hp⊢;omega
 |k+1=>by
  obtain⟨h1,h2,h3⟩:=TY g bG k;rw[M7,Fj];split
  .refine⟨by rw[TW];exact h1,by show _+1<=_;omega,?_⟩;have:∀(ns part:kI Int) (m:Nat),(∀p∈part,0<=p/\p<=(m:Int))->∀p∈ze part ns (m:Nat),0<=p/\p<=(m:Int):=by
    intro ns;induction ns with
    |nil=>intro part m h;exact h
    |cons n ns ih=>
     intro part m h;refine ih _ m λp hp=>?_;rcases anJ hp with hp|rfl
     .exact h p hp
     .omega
   exact this _ _ _ λp hp=>by have:=h3 p hp;omega
  .exact⟨h1,z7,h3⟩
end Gph
namespace Gph
def Jb(bG:kI Bool)(k:Nat):Nat:=((List.range k).filter λi=>eP bG (i:Nat)).length
end Gph
namespace Gph
variable {g:kI (kI Int)} {bG:kI Bool}
def TZ:∀(ns part:kI Int) (m:Int) (n:Nat),(∀x∈ns,0<=x/\x<part.length)->(ze part ns m).getD n 0=if(n:Int)∈ns then m else part.getD n 0
 |[],part,m,n,_=>by simp[ze]
 |a::ns,part,m,n,h=>by
  have ha:=h a An;have h2:=TZ ns (part.set a.toNat m) m n (λx hx=>by rw[pV];exact h x (by simp[hx]));show(ze (part.set a.toNat m) ns m).getD n 0=_;rw[h2];obtain⟨a,rfl⟩:=jA ha.1;by_cases e1:(n:Int)∈ns
  .rw[if_pos e1,if_pos (cO _ e1)]
  .rw[if_neg e1];by_cases e2:n=a
   .subst e2;rw[if_pos An,kJ,alv,oQ];have:n<part.length:=by omega
    simp[this]
   .rw[if_neg (by simp only[dx,not_or];exact⟨z7,e1⟩),kJ,alv,oQ,if_neg (λe=>e2 e.symm),alv]
def M8(g:kI (kI Int))(bG:kI Bool)(k n:Nat):Prop:=∃j,j<k/\eP bG j=true/\kV g bG j n
def T9(hg:∀l∈g,∀n∈l,Rg g n):∀k,k<=g.length->∀n:Nat,n<g.length->(0<(lF g bG k).1.getD n 0↔M8 g bG k n)
 |0,_,n,hn=>by
  constructor
  .intro h;simp[lF,alv,PO,hn]at h
  .rintro⟨j,hj,_⟩;omega
 |k+1,hk,n,hn=>by
  have ih:=T9 hg k z7;have hlen:=(TY g bG k).1;have hkr:Rg g (k:Int):=⟨z7,z7⟩
  rw[M7,Fj];by_cases hc:eP bG k=true/\(lF g bG k).1.getD k 0<=0
  .rw[if_pos hc];show 0<(ze _ _ _).getD n 0↔_;rw[TZ _ _ _ _ (λx hx=>by rw[hlen];exact adI hg hkr x hx)];by_cases hr:(n:Int)∈I9 g bG k
   .rw[if_pos hr];have:=(M6 hg hkr n).1 hr;exact⟨λ_=>⟨k,z7,hc.1,this⟩,λ_=>by omega⟩
   .rw[if_neg hr,ih n hn];rw[M6 hg hkr]at hr;constructor
    .rintro⟨j,h1,h2,h3⟩;exact tU
    .rintro⟨j,h1,h2,h3⟩;by_cases e:j=k
     .subst e;exact absurd h3 hr
     .exact tU
  .rw[if_neg hc,ih n hn];constructor
   .rintro⟨j,h1,h2,h3⟩;exact tU
   .rintro⟨j,h1,h2,h3⟩;by_cases e:j=k
    .subst e;have:0<(lF g bG j).1.getD j 0:=by
      apply Classical.byContradiction;intro hno;exact hc ⟨h2,z7⟩
     obtain⟨i,q1,q2,q3⟩:=(ih j z7).1 this;exact⟨i,q1,q2,q3.trans h3⟩
    .exact tU
open Classical in
noncomputable def cnt(g:kI (kI Int))(bG:kI Bool):Nat->Nat
 |0=>0
 |k+1=>cnt g bG k+if eP bG k=true/\¬M8 g bG k k then 1 else 0
def M9(hg:∀l∈g,∀n∈l,Rg g n):∀k,k<=g.length->(lF g bG k).2=cnt g bG k
 |0,_=>by simp[lF,cnt]
 |k+1,hk=>by
  have ih:=M9 hg k z7;have hs:=T9 (bG:=bG) hg k z7 k z7;rw[M7,Fj,cnt];by_cases hc:eP bG k=true/\(lF g bG k).1.getD k 0<=0
  .rw[if_pos hc,if_pos ⟨hc.1,λh=>by have:=hs.2 h;omega⟩,<- ih]
  .rw[if_neg hc,if_neg (λh=>hc ⟨h.1,by
    apply Classical.byContradiction;intro hno;exact h.2 (hs.1 z7)⟩),zM,ih]
def mU(g:kI (kI Int)):Prop:=∀(i:Nat) l,g[i]? =some l->∀n∈l,Rg g n/\∀l',g[n.toNat]? =some l'->(i:Int)∈l'
def mU.rg(h:mU g):∀l∈g,∀n∈l,Rg g n:=λl hl n hn=>by
 obtain⟨i,hi⟩:=jS hl;exact(h i l hi n hn).1
def kV.rg(h:mU g){a b:Int}(ha:Rg g a)(r:kV g bG a b):Rg g b:=by
 cases r with
 |refl=>exact ha
 |step _ hl hn _=>exact h.rg _ (aZ hl) _ hn
def kV.symm(h:mU g){a b:Int}(ha:Rg g a)(hi:eP bG a=true)(r:kV g bG a b):kV g bG b a:=by
 induction r with
 |refl=>exact .refl
 |step r0 hl hn hin ih=>
  rename_i i n l;have hri:=kV.rg h ha r0;have adK:eP bG i=true:=by
   cases r0 with
   |refl=>exact hi
   |step _ _ _ q=>exact q
  obtain⟨q1,q2⟩:=h i.toNat l hl n hn;have:=q2 _ (j5 q1);have hc:((i.toNat:Nat):Int)=i:=by unfold Rg at hri;omega
  rw[hc]at this;exact(kV.step .refl (j5 q1) this adK).trans ih
def adL(h:mU g){f:Nat}(hf:f<g.length)(hin:eP bG f=true)(xI:∀j,j<f->eP bG (j:Nat)=false):
 cnt g bG g.length=1↔∀i:Nat,i<g.length->eP bG i=true->kV g bG f i:=by
 have base:∀k,k<=f->cnt g bG k=0:=by
  intro k;induction k with
  |zero=>intro _;rfl
  |succ k ih=>
   intro hk;rw[cnt,ih z7,if_neg (λq=>by rw[xI k z7]at q;cases q.1)]
 have uS:cnt g bG (f+1)=1:=by
  rw[cnt,base f (bT _),if_pos ⟨hin,λ⟨j,h1,h2,_⟩=>by rw[xI j h1]at h2;cases h2⟩]
 have mono:∀k d,cnt g bG k<=cnt g bG (k+d):=by
  intro k d;induction d with
  |zero=>exact bT _
  |succ d ih=>rw[<- qw,cnt];omega
 constructor
 .intro h1 i;induction i using Nat.strongRecOn with
  |_ i ih=>
   intro hi hii;by_cases e:i=f
   .subst e;exact .refl
   have hfi:f<i:=by
    apply Classical.byContradiction;intro hno;rw[xI i z7]at hii;cases hii
   have ho:M8 g bG i i:=by
    apply Classical.byContradiction;intro hno;have e1:cnt g bG (i+1)=cnt g bG i+1:=by rw[cnt,if_pos ⟨hii,hno⟩]
    have e2:=mono (f+1) (i - (f+1));have e3:=mono (i+1) (g.length - (i+1));rw[show f+1+(i - (f+1))=i by omega]at e2;rw[show i+1+(g.length - (i+1))=g.length by omega]at e3;omega
   obtain⟨j,q1,q2,q3⟩:=ho;exact(ih j q1 z7 q2).trans q3
 .intro hall;have:∀d,f+1+d<=g.length->cnt g bG (f+1+d)=1:=by
   intro d;induction d with
   |zero=>intro _;exact uS
   |succ d ih=>
    intro hd;rw[<- qw,cnt,ih z7,if_neg (λq=>q.2 ⟨f,z7,hin,hall _ z7 q.1⟩)]
  have:=this (g.length - (f+1)) z7
  rwa [show f+1+(g.length - (f+1))=g.length by omega]at this
end Gph
namespace Gph
structure Jc where
 kind:Int
 cells:List Int
 set:Int
 other:Int
 lo:Int
 hi:Int
 runs:List Int
 rule:Int
 at_:Int
structure Ua where
 cells:Int
 symbols:Int
 values:List Int
 aQ:List (List Int)
 cons:List Jc
structure Na(cells symbols:Int)(c:Jc):Prop where
 cell:∀(i:Nat) x,c.cells[i]? =some x->0<=x/\x<cells/\(8<=c.kind->x=i)
 nd:c.cells.Nodup
 kind:1<=c.kind/\c.kind<=9
 two:c.kind=6\/c.kind=7->c.cells.length=2
 all:8<=c.kind->(c.cells.length:Int)=cells
 set:0<=c.set/\c.set<(2^symbols.toNat:Nat)
 other:0<=c.other/\c.other<(2^symbols.toNat:Nat)
 lo:0<=c.lo/\c.lo<=65536
 hi:0<=c.hi/\c.hi<=65536
 akw:c.runs.length<=8
 runs:∀x∈c.runs,1<=x/\x<=256
def Na.len{cells symbols:Int}{c:Jc}(h:Na cells symbols c):(c.cells.length:Int)<=cells\/c.cells=[]:=by
 by_cases hn:c.cells=[]
 .exact .inr hn
 left;have hb:∀x∈c.cells,0<=x/\x<cells:=λx hx=>by
  obtain⟨i,hi⟩:=jS hx;have:=h.cell i x hi;exact⟨this.1,this.2.1⟩
 have:∀(m:Nat) (l:kI Int),l.Nodup->(∀x∈l,0<=x/\x<(m:Int))->l.length<=m:=by
  intro m;induction m with
  |zero=>
   intro l _ hl;cases l with
   |nil=>simp
   |cons a l=>have:=hl a An;omega
  |succ m ih=>
   intro l hd hl;by_cases hm:(m:Int)∈l
   .have h1:=PU hm;have h2:=ih (l.erase (m:Int)) (hd.erase _) (λx hx=>by
     have hne:x≠(m:Int):=λe=>by
      subst e;exact(List.Nodup.mem_erase_iff hd).1 hx|>.1 rfl
     have:=hl x (List.mem_of_mem_erase hx);omega)
    omega
   .have:=ih l hd (λx hx=>by
     have hne:x≠(m:Int):=λe=>hm (e▸hx);have:=hl x hx;omega)
    omega
 have h0:0<=cells:=by
  obtain⟨a,ha⟩:=List.exists_mem_of_ne_nil _ hn;have:=hb a ha;omega
 have:=this cells.toNat c.cells h.nd (λx hx=>by have:=hb x hx;omega);omega
end Gph
namespace Kd
open Go Go.Ideal
structure mU where
 name:ByteArray
 value:Int
 deriving DecidableEq
structure mV where
 name:ByteArray
 lists:List (List Int)
 deriving DecidableEq
structure gW where
 name:ByteArray
 on:ByteArray
 family:Int
 type:Int
 lo:Int
 hi:Int
 deriving DecidableEq
structure bN where
 name:ByteArray
 on:ByteArray
 kind:Int
 family:Int
 names:List ByteArray
 others:List ByteArray
 set:Int
 other:Int
 op:Int
 n:Int
 dS:ByteArray
 adJ:Int
 deriving DecidableEq
structure bF where
 name:ByteArray
 version:Int
 shape:Int
 w:Int
 h:Int
 holes:List Int
 symbols:List mU
 regions:List mV
 aJ:List gW
 rules:List bN
 deriving DecidableEq
structure bz where
 shape:Int
 w:Int
 h:Int
 holes:List Int
 cells:List Int
 deriving DecidableEq
structure bD where
 decl:bF
 grid:bz
 aQ:List (List Int)
 lists:List (List (List Int))
 deriving DecidableEq
def fF:Enc mU:=⟨2,Unit,λx _=>[.string x.name,.int .i64 x.value],λ_ _=>[],λ_ _=>rfl⟩
def eY:Enc mV:=⟨2,vI,λx v=>[.string x.name,v],λx v=>[ai (ak ae) v x.lists],λ_ _=>rfl⟩
def bI:Enc gW:=⟨6,Unit,λx _=>[.string x.name,.string x.on,.int .i64 x.family,.int .i64 x.type,.int .i64 x.lo,.int .i64 x.hi],λ_ _=>[],λ_ _=>rfl⟩
abbrev lV(x:bN)(v1 v2:vI):kI vI:=[.string x.name,.string x.on,.int .i64 x.kind,.int .i64 x.family,v1,v2,.int .i64 x.set,.int .i64 x.other,.int .i64 x.op,.int .i64 x.n,.string x.dS,.int .i64 x.adJ]
def aY:Enc bN:=⟨12,vI×vI,λx v=>lV x v.1 v.2,λx v=>[ai bC v.1 x.names,ai bC v.2 x.others],λ_ _=>rfl⟩
abbrev ahE(d:bF)(vh vs vr vc vu:vI):kI vI:=[.string d.name,.int .i64 d.version,.int .i64 d.shape,.int .i64 d.w,.int .i64 d.h,vh,vs,vr,vc,vu]
abbrev lG(d:bF)(vh vs vr vc vu:vI):kI aO:=[ai ae vh d.holes,ai fF vs d.symbols,ai eY vr d.regions,ai bI vc d.aJ,ai aY vu d.rules]
def dZ(s:ByteArray):kI ByteArray->Nat
 |[]=>0
 |a::l=>if s=a then 0 else dZ s l+1
def AZ{s:ByteArray}:∀{l:kI ByteArray},s∈l->dZ s l<l.length
 |[],h=>by cases h
 |a::l,h=>by
  unfold dZ;split
  .simp
  .rename_i hne;have:=AZ ((dx.1 h).resolve_left hne);simp;omega
def fD(names:kI ByteArray)(start:Nat):kI (ByteArray×vI):=names.zipIdx.map λp=>(p.1,.int .i64 ((start+p.2:Nat):Int))
def Nc(a b:kI ByteArray)(start:Nat):fD (a++b) start=fD a start++fD b (start+a.length):=by
 unfold fD;rw[PP,fP];congr 1;rw[show b.zipIdx (0+a.length)=(b.zipIdx 0).map (λp=>(p.1,p.2+a.length))by
  rw[fo];conv=>lhs;rw[show a.length=0+a.length by omega]
  rw[List.zipIdx_eq_map_add];apply sN;rintro⟨s,i⟩ _;simp only;rw[show 0+a.length+i=i+a.length by omega]]
 rw[wR];apply sN;rintro⟨s,i⟩ _;simp only[Function.comp];rw[show start+(i+a.length)=start+a.length+i by omega]
def tZ(names:kI ByteArray)(start:Nat):(fD names start).map (·.1)=names:=by
 unfold fD;rw[wR];have:((λp:ByteArray×vI=>p.1)∘λp:ByteArray×Nat=>(p.1,Value.int .i64 ((start+p.2:Nat):Int)))=Prod.fst:=rfl;rw[this,List.zipIdx_map_fst]
variable{α:Type}
def xO{β:Type}[DecidableEq α](a b:α)(v:β)(l:kI (α×β)):dR a ((b,v)::l)=if a=b then some v else dR a l:=rfl
def rU{α β:Type}[DecidableEq α]{a:α}:∀{l:kI (α×β)},a∉l.map (·.1)->dR a l=none
 |[],_=>rfl
 |(b,v)::l,h=>by
  unfold dR;rw[if_neg (λe=>h (by rw[e];simp)),rU (λh2=>h HT)]
def Fp{α β:Type}[DecidableEq α]{a:α}:∀{l:kI (α×β)},a∈l.map (·.1)->∃v,dR a l=some v
 |[],h=>by cases h
 |(b,v)::l,h=>by
  unfold dR;by_cases e:a=b
  .exact⟨v,by rw[if_pos e]⟩
  .obtain⟨u,hu⟩:=Fp (l:=l) ((dx.1 h).resolve_left e);exact⟨u,by rw[if_neg e,hu]⟩
def xP{s:ByteArray}:∀{names:kI ByteArray} {start:Nat},s∈names->dR s (fD names start)=some (.int .i64 ((start+dZ s names:Nat):Int))
 |[],start,h=>by cases h
 |a::l,start,h=>by
  have e:fD (a::l) start=(a,.int .i64 ((start:Nat):Int))::fD l (start+1):=by
   have:=Nc [a] l start;simpa[fD]using this
  rw[e];unfold dR dZ;by_cases hs:s=a
  .rw[if_pos hs,if_pos hs];rfl
  .rw[if_neg hs,if_neg hs,xP ((dx.1 h).resolve_left hs),show start+1+dZ s l=start+(dZ s l+1)by omega]
def CS{α β:Type}[DecidableEq α]{a:α}{v:β}:∀{l:kI (α×β)},a∉l.map (·.1)->upd a v l=l++[(a,v)]
 |[],_=>rfl
 |(b,u)::l,h=>by
  unfold upd;rw[if_neg (λe=>h (by rw[e];simp)),CS (λh2=>h HT)];rfl
def iN:kI ByteArray:=[⟨⟨[99,101,108,108,115]⟩⟩,⟨⟨[114,111,119,115]⟩⟩,⟨⟨[99,111,108,117,109,110,115]⟩⟩,⟨⟨[100,105,97,103,111,110,97,108,115]⟩⟩,⟨⟨[97,114,111,117,110,100]⟩⟩,⟨⟨[110,101,97,114]⟩⟩,⟨⟨[112,97,105,114,115]⟩⟩,⟨⟨[97,108,108]⟩⟩]
def bX(d:bF):kI ByteArray:=d.symbols.map (·.name)
def cz(d:bF):kI ByteArray:=iN++d.regions.map (·.name)
def dO(d:bF):kI ByteArray:=d.aJ.map (·.name)
def nL(d:bF):kI ByteArray:=d.rules.map (·.name)
def gK(eH l:kI ByteArray):Nat:=l.foldl (λm s=>m|||1<<<dZ s eH) 0
def lW(kE:kI ByteArray)(c:gW):gW:={c with family:=(dZ c.on kE:Int)}
def mW(eH kE jg:kI ByteArray)(r:bN):bN:=
 {r with family:=if r.on=⟨⟨[]⟩⟩then 0 else(dZ r.on kE:Int),adJ:=if r.dS=⟨⟨[]⟩⟩then -1 else(dZ r.dS jg:Int),set:=(gK eH r.names:Int),other:=(gK eH r.others:Int)}
def bE(d:bF):bF:={d with aJ:=d.aJ.map (lW (cz d)),rules:=d.rules.map (mW (bX d) (cz d) (dO d))}
structure A7(eH kE jg:List ByteArray)(r:bN):Prop where
 on:r.on=⟨⟨[]⟩⟩\/r.on∈kE
 names:∀s∈r.names,s∈eH
 others:∀s∈r.others,s∈eH
 dS:r.dS=⟨⟨[]⟩⟩\/r.dS∈jg
structure CU(d:bF):Prop where
 eH:d.symbols.length<=16
 Ub:(bX d).Nodup
 Uc:(cz d).Nodup
 Ud:(dO d).Nodup
 Nf:∀c∈d.aJ,c.on∈cz d
 Ue:(nL d).Nodup
 rV:∀r∈d.rules,A7 (bX d) (cz d) (dO d) r
def jD{α:Type}(f:α->α)(k:Nat)(xs:kI α):kI α:=(xs.take k).map f++xs.drop k
def Uf(f:α->α)(xs:kI α):jD f xs.length xs=xs.map f:=by simp[jD]
def zf(f:α->α)(k:Nat)(xs:kI α):(jD f k xs).length=xs.length:=by simp[jD];omega
def Ug(f:α->α){k:Nat}{xs:kI α}(hk:k<xs.length):(jD f k xs)[k]? =xs[k]?:=by
 unfold jD;rw[pR AI,bY,gT,DF z7,vK,oO,zM]
def Uh(f:α->α){k:Nat}{xs:kI α}{x:α}(hx:xs[k]? =some x):(jD f k xs).set k (f x)=jD f (k+1) xs:=by
 have hk:=(bq.1 hx).1;unfold jD;rw[Gl _ _ AI,bY,gT,DF z7,vK];have hd:xs.drop k=x::xs.drop (k+1):=by
  rw[oU hk];congr 1;rw[bP hk]at hx;exact Option.some.inj hx
 rw[hd,nP,hx,fP];simp
end Kd
namespace Kd
open Go Go.Ideal
structure oH(s w h:Int)(holes:List Int):Prop where
 sh:s=1\/s=2
 wi:1<=w/\w<=16
 he:1<=h/\h<=16
 len:(holes.length:Int)<w*h
 inc:holes.Pairwise (·<·)
 mem:∀x∈holes,0<=x/\x<w*h
def gI(n:Nat)(holes:kI Int):kI Int:=((List.range n).map λi:Nat=>(i:Int)).filter λi=>!decide (i∈holes)
def Jd(n:Nat)(holes:kI Int):gI (n+1) holes=gI n holes++if(n:Int)∈holes then[]else[(n:Int)]:=by
 unfold gI;rw[Gm,fP,Gi];congr 1;by_cases h:(n:Int)∈holes
 .simp[h]
 .simp[h]
def CW(n:Nat)(holes:kI Int):(gI n holes).length<=n:=by
 unfold gI;refine pQ (PR _ _) ?_;simp
variable{n:Nat}{x:Int}
def Ui{holes:kI Int}(h:x∈gI n holes):0<=x/\x<n/\x∉holes:=by
 unfold gI at h;obtain⟨h1,h2⟩:=sP.1 h;obtain⟨i,hi,rfl⟩:=eT.1 h1;have:=ol.1 hi;exact⟨z7,z7,BW⟩
def Je(n:Nat)(holes:kI Int):(gI n holes).Pairwise (·<·):=by
 unfold gI;refine List.Pairwise.filter _ ?_;exact n5
def mX(w h:Int)(holes:kI Int):kI Int:=gI (w*h).toNat holes
def xQ{w h:Int}(hw:1<=w/\w<=16)(hh:1<=h/\h<=16):1<=w*h/\w*h<=256:=by
 have h1:1*1<=w*h:=Int.mul_le_mul hw.1 hh.1 z7 z7;have h2:w*h<=16*16:=Int.mul_le_mul hw.2 hh.2 z7 z7;omega
structure fE(g:bz):Prop where
 make:oH g.shape g.w g.h g.holes
 cells:g.cells=mX g.w g.h g.holes
variable{g:bz}
def fE.cell(h:fE g):∀x∈g.cells,0<=x/\x<256:=by
 intro x hx;rw[h.cells]at hx;have h1:=Ui hx;have h2:=xQ h.make.wi h.make.he;omega
def fE.len(h:fE g):g.cells.length<=256:=by
 rw[h.cells];have h1:=CW (g.w*g.h).toNat g.holes;have h2:=xQ h.make.wi h.make.he;unfold mX;omega
def nM(g:bz)(pos:Int):Int×Int:=(if g.shape=2 then pos.tmod g.w - (pos.tdiv g.w).tdiv 2 else pos.tmod g.w,pos.tdiv g.w)
def bB(g:bz):kI (Int×(Int×Int)):=g.cells.zipIdx.map λp=>((p.2:Int),nM g p.1)
variable{k:Nat}
def zg(h:g.cells[k]? =some x):(bB g)[k]? =some ((k:Int),nM g x):=by
 unfold bB;rw[dm,List.getElem?_zipIdx,h];simp
def qK(g:bz):(bB g).length=g.cells.length:=by simp[bB]
def Uj{a b:kI Int}(h:a.Perm b):bW a=bW b:=by
 have h1:(bW a).Perm (bW b):=(zT a _).trans (h.trans (zT b _).symm);have s1:(bW a).Pairwise (λx y=>x<=y):=by
  have:=XL (le:=λx y:Int=>decide (x<=y)) (λa b c h1 h2=>by simp at h1 h2⊢;omega) (λa b=>by simp;omega) a;exact tD
 have s2:(bW b).Pairwise (λx y=>x<=y):=by
  have:=XL (le:=λx y:Int=>decide (x<=y)) (λa b c h1 h2=>by simp at h1 h2⊢;omega) (λa b=>by simp;omega) b;exact tD
 generalize bW a=u at h1 s1;generalize bW b=v at h1 s2;clear h;induction u generalizing v with
 |nil=>exact(List.nil_perm.1 h1).symm▸rfl
 |cons x u ih=>
  cases v with
  |nil=>exact absurd h1.length_eq An
  |cons y v=>
   have hxy:x=y:=by
    have hx:x∈y::v:=h1.mem_iff.1 (cB ..);have hy:y∈x::u:=h1.mem_iff.2 (cB ..);rcases dx.1 hx with e|hx
    .exact e
    rcases dx.1 hy with e|hy
    .exact e.symm
    have:=(qx.1 s1).1 y hy;have:=(qx.1 s2).1 x hx;omega
   subst hxy;rw[ih (qx.1 s1).2 v ((List.perm_cons x).1 h1) (qx.1 s2).2]
def eO:kI (Int×Int):=[(1,0),(-1,0),(0,1),(0, -1),(1, -1),(-1,1)]
def dV(g:bz):Nat:=if g.shape=1 then 4 else 6
def atM(xs:kI (Int×(Int×Int))):kI ((Int×Int)×vI):=xs.foldl (λm p=>upd p.2 (.int .i64 p.1) m) []
def Ng(xs:kI (Int×(Int×Int)))(p:Int×(Int×Int)):atM (xs++[p])=upd p.2 (.int .i64 p.1) (atM xs):=by
 unfold atM;rw[DI];rfl
def Uk{xs:kI (Int×(Int×Int))}:∀a v,dR a (atM xs)=some v->∃c,v=.int .i64 c/\∃p∈xs,p.1=c:=by
 have hup:∀(m:kI ((Int×Int)×vI)) (b:Int×Int) (u:vI) (a:Int×Int) (v:vI),dR a (upd b u m)=some v->(a=b/\v=u)\/dR a m=some v:=by
  intro m;induction m with
  |nil=>
   intro b u a v h;have h:(if a=b then some u else none)=some v:=h;by_cases e:a=b
   .rw[if_pos e]at h;exact .inl ⟨e,(Option.some.inj h).symm⟩
   .rw[if_neg e]at h;cases h
  |cons q m ih=>
   intro b u a v h;obtain⟨k,w⟩:=q;unfold upd at h;by_cases e:b=k
   .rw[if_pos e,xO]at h;by_cases e2:a=b
    .rw[if_pos e2]at h;exact .inl ⟨e2,(Option.some.inj h).symm⟩
    .rw[if_neg e2]at h;right;rw[xO,if_neg (λe3=>e2 (e3.trans e.symm))];exact h
   .rw[if_neg e,xO]at h;by_cases e2:a=k
    .rw[if_pos e2]at h;right;rw[xO,if_pos e2];exact h
    .rw[if_neg e2]at h;rcases ih b u a v h with h|h
     .exact .inl h
     .right;rw[xO,if_neg e2];exact h
 unfold atM;have:∀(xs:kI (Int×(Int×Int))) (m:kI ((Int×Int)×vI)) a v,dR a (xs.foldl (λm p=>upd p.2 (.int .i64 p.1) m) m)=some v->(∃c,v=.int .i64 c/\∃p∈xs,p.1=c)\/dR a m=some v:=by
  intro xs;induction xs with
  |nil=>intro m a v h;exact .inr h
  |cons p xs ih=>
   intro m a v h;rw[wO]at h;rcases ih _ a v h with⟨c,h1,q,hq,h2⟩|h
   .exact .inl ⟨c,h1,q,cO _ hq,h2⟩
   .rcases hup m p.2 _ a v h with⟨_,h1⟩|h
    .exact .inl ⟨p.1,h1,p,cB ..,rfl⟩
    .exact .inr h
 intro a v h;rcases this xs [] a v h with h|h
 .exact h
 .cases h
def numOf:x8 vI->x8 Int
 |some (.int .i64 n)=>some n
 |_=>none
def gu(m:kI ((Int×Int)×vI))(s:Int×Int)(ds:kI (Int×Int)):kI Int:=ds.filterMap λd=>numOf (dR (s.1+d.1,s.2+d.2) m)
def adM(m:kI ((Int×Int)×vI))(s:Int×Int)(ds:kI (Int×Int))(d:Int×Int):gu m s (ds++[d])=gu m s ds++(numOf (dR (s.1+d.1,s.2+d.2) m)).toList:=by
 unfold gu;rw[List.filterMap_append];congr 1
def Jf(m:kI ((Int×Int)×vI))(s:Int×Int)(ds:kI (Int×Int)):(gu m s ds).length<=ds.length:=List.length_filterMap_le _ _
def lX(g:bz)(p:Int×(Int×Int)):kI Int:=bW (gu (atM (bB g)) p.2 (eO.take (dV g)))
def bJ(g:bz):kI (kI Int):=(bB g).map (lX g)
def Jg(h:fE g):∀p∈bB g,(0<=p.1/\p.1<256)/\(-256<=p.2.1/\p.2.1<256)/\(0<=p.2.2/\p.2.2<256):=by
 intro p hp;obtain⟨k,hk⟩:=uy.1 hp;have hkl:=(bq.1 hk).1;rw[qK]at hkl;have hx:g.cells[k]? =some g.cells[k]:=bP hkl;rw[zg hx]at hk;cases hk;have hb:=h.cell _ (aZ hx);have hl:=h.len;generalize g.cells[k]=x at hb;have hw:=h.make.wi;have hq:0<=x.tdiv g.w/\x.tdiv g.w<=x:=by
  rw[uz hb.1];exact⟨Ko hb.1 z7,Int.ediv_le_self _ hb.1⟩
 have hr:0<=x.tmod g.w/\x.tmod g.w<=x:=by
  rw[DJ hb.1];refine⟨Int.emod_nonneg _ z7,?_⟩;have:=PS x g.w;have h3:0<=g.w*(x/g.w):=Int.mul_nonneg z7 (Ko hb.1 z7);omega
 have hq2:0<=(x.tdiv g.w).tdiv 2/\(x.tdiv g.w).tdiv 2<=x.tdiv g.w:=by
  rw[uz hq.1];omega
 unfold nM;dsimp only;refine⟨z7,?_,z7⟩;split<;>omega
def Nh:Enc (Int×Int):=⟨2,Unit,λx _=>[.int .i64 x.1,.int .i64 x.2],λ_ _=>[],λ_ _=>rfl⟩
abbrev CY:kI vI:=[.int .i64 1,.int .i64 0,.int .i64 (-1),.int .i64 0,.int .i64 0,.int .i64 1,.int .i64 0,.int .i64 (-1),.int .i64 1,.int .i64 (-1),.int .i64 (-1),.int .i64 1]
variable{b m:Nat}
def adN{w:Wd}(h:(gY b 0 CY).p w)(hm:m<=6):(ai Nh (.slice (some ⟨b,0,some 0⟩) m 6) (eO.take m)).p w:=by
 obtain⟨cells,h1,h2⟩:=h;have hl:(eO.take m).length=m:=by rw[gT];show min m 6=m;omega
 refine .inr ⟨b,0,0,6,cells,⟨by rw[hl],by rw[hl];exact hm,.inl rfl⟩,h1,λk x hk=>⟨(),λj u hj=>?_,λf hf=>by cases hf⟩⟩;have hk':eO[k]? =some x:=by
  rw[sK]at hk;split at hk
  .exact hk
  .cases hk
 have:=h2 (k*2+j) u (vZ (E:=Nh) (aC:=eO.map λd=>(d,())) (k:=k) (p:=(x,())) (by rw[dm,hk'];rfl) hj);show cells[0+k*2+j]? =_;rw[show 0+k*2+j=0+(k*2+j)by omega];exact this
def adO:∀d∈eO,(-1<=d.1/\d.1<=1)/\(-1<=d.2/\d.2<=1):=AE
def adP{j:Nat}{d:Int×Int}(h:eO[j]? =some d):jf (jH CY (j*2)) 2=some [.int .i64 d.1,.int .i64 d.2]:=by
 have hj:j<6:=(bq.1 h).1;match j,hj with
 |0,_=>cases h;rfl
 |1,_=>cases h;rfl
 |2,_=>cases h;rfl
 |3,_=>cases h;rfl
 |4,_=>cases h;rfl
 |5,_=>cases h;rfl
variable{α:Type}
def bZ{xs:kI α}{x:α}(h:xs[k]? =some x):xs.take (k+1)=xs.take k++[x]:=by
 rw[nP,h];rfl
def A8(g:bz):dV g<=6:=by unfold dV;split<;>omega
def adQ{P:Program}{ρ:aaB->vI}{x hi:aaB}{size:Nat}(hx:ρ x=.pointer (some ⟨b,0,none⟩))(hh:ρ hi=.int .i64 (m:Int))(hm:m<=n):Pu P ρ (.Kt n size x none (some hi) none) (.slice (some ⟨b,0,some 0⟩) m n):=λh=>by
 have hb:bounds? n n none (some (.int .i64 (m:Int))) none=some (0,m,n):=by
  show(match upTo n (.int .i64 (m:Int))with|none=>none|some hh=>_)=_;have:upTo n (.int .i64 (m:Int))=some m:=by
   show cond (Nat.ble m n) (some m) none=_;have:Nat.ble m n=true:=by rw[vH];exact hm
   rw[this];rfl
  rw[this]
 simp only[aF.run,hx,jm,hh,hb];show some (Value.slice (zY b (Nat.add 0 (Nat.mul 0 size))) (Nat.sub m 0) (Nat.sub n 0),h)=_;rw[show Nat.mul 0 size=0 from Gh _];rfl
def xR{p:Int×(Int×Int)}(h:(bB g)[k]? =some p):p.1=(k:Int):=by
 have hk:=(bq.1 h).1;rw[qK]at hk;rw[zg (bP hk)]at h;cases h;rfl
def Jh{vs rest:kI (Int×(Int×Int))}{x:Int×(Int×Int)}(h:vs++x::rest=bB g):x.1=(vs.length:Int)/\vs.length<g.cells.length/\x∈bB g:=by
 have h1:(bB g)[vs.length]? =some x:=by rw[<- h];simp
 refine⟨xR h1,?_,aZ h1⟩;have:=(bq.1 h1).1
 rwa [qK]at this
def Ul{A:kI (kI Int)}(h:A.length<n)(y:kI Int):(A++List.replicate (n - A.length) []).set A.length y=(A++[y])++List.replicate (n - (A.length+1)) []:=by
 rw[Gl _ _ (bT _),vK,show n - A.length=(n - (A.length+1))+1 by omega,Gg,List.set_cons_zero];simp
def adR{ws:kI α}{v:α}(h:ws[k]? =some v):ws.set k v=ws:=by
 apply iY;intro i;rw[oQ];by_cases e:k=i
 .subst e;rw[if_pos rfl,if_pos (bq.1 h).1,h]
 .rw[if_neg e]
def wm(g:bz):(bJ g).length=g.cells.length:=by
 unfold bJ;rw[bY,qK]
def adS(g:bz):(bB g).foldl (λ(xss:kI (kI Int)) (x:Int×(Int×Int))=>xss.set x.1.toNat (lX g x)) (List.replicate g.cells.length [])=bJ g:=by
 have key:∀(rest vs:kI (Int×(Int×Int))),vs++rest=bB g->rest.foldl (λ(xss:kI (kI Int)) (x:Int×(Int×Int))=>xss.set x.1.toNat (lX g x)) (vs.map (lX g)++List.replicate (g.cells.length - vs.length) [])=bJ g:=by
  intro rest;induction rest with
  |nil=>
   intro vs h;rw[gU]at h;rw[List.foldl_nil,h,qK,vK,List.replicate_zero,gU];rfl
  |cons x rest ih=>
   intro vs h;have h1:=Jh h;rw[wO,h1.1,kJ];have h2:=Ul (A:=vs.map (lX g)) (n:=g.cells.length) (by rw[bY];exact h1.2.1) (lX g x);rw[bY]at h2;rw[h2];have h3:=ih (vs++[x]) (by rw[List.append_assoc];exact h);rw[fP,iH]at h3;exact h3
 have:=key (bB g) [] rfl;rw[List.map_nil,dY,Dx,Dz]at this;exact this
end Kd
namespace Kd
open Go Go.Ideal
def zh{α β:Type}[DecidableEq α](a b:α)(v:β):∀m:kI (α×β),dR a (upd b v m)=if a=b then some v else dR a m
 |[]=>rfl
 |(k,w)::m=>by
  unfold upd;by_cases e:b=k
  .rw[if_pos e,xO,xO];by_cases e2:a=b
   .rw[if_pos e2,if_pos e2]
   .rw[if_neg e2,if_neg e2,if_neg (λe3=>e2 (e3.trans e.symm))]
  .rw[if_neg e,xO,xO,zh a b v m];by_cases e2:a=k
   .rw[if_pos e2,if_pos e2,if_neg (λe3=>e (e3.symm.trans e2))]
   .rw[if_neg e2,if_neg e2]
def Um{α β:Type}[DecidableEq α](b:α)(v:β):∀m:kI (α×β),(upd b v m).length<=m.length+1
 |[]=>bT _
 |(k,w)::m=>by
  unfold upd;by_cases e:b=k
  .rw[if_pos e,oP,oP];omega
  .rw[if_neg e,oP,oP];have:=Um b v m;omega
def xS(kf:Int×Int->Int×Bool)(m:kI (Int×kI Int))(p:Int×(Int×Int)):kI (Int×kI Int):=
 cond (kf p.2).2 (upd (kf p.2).1 ((dR (kf p.2).1 m).getD []++[p.1]) m) m
def jN(kf:Int×Int->Int×Bool)(ps:kI (Int×(Int×Int))):kI (Int×kI Int):=ps.foldl (xS kf) []
def Ji(kf:Int×Int->Int×Bool)(ps:kI (Int×(Int×Int)))(p:Int×(Int×Int)):jN kf (ps++[p])=xS kf (jN kf ps) p:=by
 unfold jN;rw[DI];rfl
def Ni(kf:Int×Int->Int×Bool)(n:Nat):∀ps:kI (Int×(Int×Int)),ps.length=n->(jN kf ps).length<=ps.length/\∀a,((dR a (jN kf ps)).getD []).length<=ps.length:=by
 induction n with
 |zero=>
  intro ps h;rw[jy.1 h];exact⟨bT _,λa=>bT _⟩
 |succ n ih=>
  intro ps h;obtain⟨qs,p,rfl⟩:∃qs p,ps=qs++[p]:=⟨ps.dropLast,ps.getLast A4,(yF _).symm⟩
  have hq:qs.length=n:=AH
  obtain⟨h1,h2⟩:=ih qs hq;rw[Ji,iH,zS];unfold xS;cases (kf p.2).2 with
  |false=>exact⟨by show(jN kf qs).length<=_;omega,λa=>by have:=h2 a;show((dR a (jN kf qs)).getD []).length<=_;omega⟩
  |true=>
   refine⟨?_,λa=>?_⟩
   .have:=Um (kf p.2).1 ((dR (kf p.2).1 (jN kf qs)).getD []++[p.1]) (jN kf qs);show(upd _ _ _).length<=_;omega
   .show((dR a (upd _ _ _)).getD []).length<=_;rw[zh];by_cases e:a=(kf p.2).1
    .rw[if_pos e,wQ,iH,zS];have:=h2 (kf p.2).1;omega
    .rw[if_neg e];have:=h2 a;omega
def jd(g:bz)(kf:Int×Int->Int×Bool):kI (kI Int):=(bW ((jN kf (bB g)).map (·.1))).map λn=>(dR n (jN kf (bB g))).getD []
variable{g:bz}
def Nj(hg:fE g)(kf:Int×Int->Int×Bool):(jd g kf).length<=256/\∀l∈jd g kf,l.length<=256:=by
 have h:=Ni kf _ (bB g) rfl;have hl:=hg.len;rw[qK]at h;unfold jd;refine⟨?_,λl hl2=>?_⟩
 .rw[bY];have:(bW ((jN kf (bB g)).map (·.1))).length=((jN kf (bB g)).map (·.1)).length:=(zT _ _).length_eq;rw[this,bY];omega
 .obtain⟨n,_,rfl⟩:=eT.1 hl2;have:=h.2 n;omega
def uf(acc:kI (kI Int))(l:kI Int):kI (kI Int):=if acc.head? =some l then acc else acc++[l]
def jO(a b:kI (kI Int)):kI (kI Int):=b.foldl uf a
variable{l:kI Int}{k:Nat}
def Un{a b:kI (kI Int)}(h:b[k]? =some l):jO a (b.take (k+1))=uf (jO a (b.take k)) l:=by
 unfold jO;rw[bZ h,DI];rfl
def Uo{a b:kI (kI Int)}{n:Nat}(ha:∀l∈a,l.length<=n)(hb:∀l∈b,l.length<=n):∀k,(jO a (b.take k)).length<=a.length+k/\∀l∈jO a (b.take k),l.length<=n
 |0=>⟨bT _,ha⟩
 |k+1=>by
  obtain⟨h1,h2⟩:=Uo ha hb k;cases h:b[k]? with
  |none=>
   have:b.take (k+1)=b.take k:=by rw[nP,h];simp
   rw[this];exact⟨z7,h2⟩
  |some l=>
   rw[Un h];unfold uf;split
   .exact⟨z7,h2⟩
   .rw[iH,zS];refine⟨z7,λx hx=>?_⟩;rcases dX.1 hx with hx|hx
    .exact h2 x hx
    .rw[bM.1 hx];exact hb l (aZ h)
def lY(g:bz):kI (kI Int):=
 if g.shape=2 then jd g (λs=>(s.1+s.2,true))
 else if g.w=g.h then jO (jd g (λs=>(0,decide (s.1=s.2)))) (jd g (λs=>(0,decide (s.1+s.2=g.w - 1))))
 else[]
variable{x:Int}
def uU:x∈bW l↔x∈l:=(zT l _).mem_iff
def adT:∀a c:Int,Value.int .i64 a=Value.int .i64 c->a=c:=λa c h=>by injection h
def kW(n:Nat):kI (kI Int):=(List.range n).map λi:Nat=>[(i:Int)]
def Uq(k:Nat):kW (k+1)=kW k++[[(k:Int)]]:=by
 unfold kW;rw[Gm,fP];rfl
def Jj(k:Nat):(kW k).length=k:=by unfold kW;simp
def upTo'(n:Nat):kI Int:=(List.range n).map λi:Nat=>(i:Int)
def wo(k:Nat):upTo' (k+1)=upTo' k++[(k:Int)]:=by
 unfold upTo';rw[Gm,fP];rfl
def lZ(k:Nat):(upTo' k).length=k:=by unfold upTo';simp
def l5(aQ:kI (kI Int)):kI (kI Int):=aQ.zipIdx.map λp=>bW (p.1++[(p.2:Int)])
variable{aQ:kI (kI Int)}
def Ur(h:aQ[k]? =some l):l5 (aQ.take (k+1))=l5 (aQ.take k)++[bW (l++[(k:Int)])]:=by
 have hk:=(bq.1 h).1;unfold l5;rw[bZ h,PP,fP,gT,DF z7];simp
def Nk(aQ:kI (kI Int)):(l5 aQ).length=aQ.length:=by unfold l5;simp
def jh(i:Nat)(l:kI Int):kI (kI Int):=(l.filter λj=>decide ((i:Int)<j)).map λj=>[(i:Int),j]
def Us{i j:Nat}(h:l[j]? =some x):jh i (l.take (j+1))=jh i (l.take j)++if(i:Int)<x then[[(i:Int),x]]else[]:=by
 unfold jh;rw[bZ h,Gi,fP];by_cases e:(i:Int)<x<;>simp[e]
def Nl(i:Nat)(l:kI Int):(jh i l).length<=l.length:=by
 unfold jh;rw[bY];exact PR _ _
def ik(aQ:kI (kI Int)):kI (kI Int):=aQ.zipIdx.flatMap λp=>jh p.2 p.1
def Nn(h:aQ[k]? =some l):ik (aQ.take (k+1))=ik (aQ.take k)++jh k l:=by
 have hk:=(bq.1 h).1;unfold ik;rw[bZ h,PP,anI,gT,DF z7];simp
def Np{aQ:kI (kI Int)}(hn:∀l∈aQ,l.length<=6):∀k,k<=aQ.length->(ik (aQ.take k)).length<=6*k
 |0,_=>by simp[ik]
 |k+1,hk=>by
  have h:aQ[k]? =some aQ[k]:=bP z7;have:=Np hn k z7;have h2:=Nl k aQ[k];have h3:=hn aQ[k] (vF _);rw[Nn h,iH];omega
def Nq:∀l∈bJ g,l.length<=6:=by
 intro l hl;obtain⟨p,_,rfl⟩:=eT.1 hl;unfold lX;exact gj
def dM(g:bz)(k:Int):kI (kI Int):=
 if k=0 then kW g.cells.length
 else if k=1 then jd g (λs=>(s.2,true))
 else if k=2 then jd g (λs=>(s.1,true))
 else if k=3 then lY g
 else if k=4 then bJ g
 else if k=5 then l5 (bJ g)
 else if k=6 then ik (bJ g)
 else[upTo' g.cells.length]
end Kd
namespace Kd
open Go Go.Ideal
def ww(p:Int):kI Int->Nat
 |[]=>0
 |a::l=>if p=a then 0 else ww p l+1
def Jk{p:Int}:∀{l:kI Int} {n:Nat},l.Pairwise (·<·)->l[n]? =some p->ww p l=n
 |[],n,_,h=>by simp at h
 |a::l,0,_,h=>by
  have h:a=p:=AH
  unfold ww;rw[if_pos h.symm]
 |a::l,n+1,hp,h=>by
  have h:l[n]? =some p:=AH
  have h1:=(qx.1 hp).1 p (aZ h);unfold ww;rw[if_neg z7,Jk (qx.1 hp).2 h]
def Nr{p:Int}:∀{l:kI Int},p∈l->ww p l<l.length
 |[],h=>by cases h
 |a::l,h=>by
  unfold ww;by_cases e:p=a
  .rw[if_pos e,oP];omega
  .rw[if_neg e,oP];have:=Nr (p:=p) (l:=l) ((dx.1 h).resolve_left e);omega
def zi(xs:kI Int):kI (Int×vI):=xs.foldl (λm c=>upd c (.bool true) m) []
def Ut(xs:kI Int)(c:Int):zi (xs++[c])=upd c (.bool true) (zi xs):=by
 unfold zi;rw[DI];rfl
def adU(c:Int)(n:Nat):∀xs:kI Int,xs.length=n->dR c (zi xs)=if c∈xs then some (.bool true)else none:=by
 induction n with
 |zero=>
  intro xs h;rw[jy.1 h];rfl
 |succ n ih=>
  intro xs h;obtain⟨ys,p,rfl⟩:∃ys p,xs=ys++[p]:=⟨xs.dropLast,xs.getLast A4,(yF _).symm⟩
  rw[Ut,zh,ih ys AH];by_cases e:c=p
  .subst e;simp
  .simp[e]
def adV(c:Int)(xs:kI Int):kT false (.bool false) c (zi xs)=.bool (decide (c∈xs)):=by
 unfold kT;rw[adU c _ xs rfl];by_cases e:c∈xs
 .rw[if_pos e,dK e];rfl
 .rw[if_neg e,aR e];rfl
def Uu:∀(m:Nat) (l:kI Int),l.Nodup->(∀x∈l,0<=x/\x<(m:Int))->l.length<=m:=by
 intro m;induction m with
 |zero=>
  intro l _ h;cases l with
  |nil=>exact bT _
  |cons x l=>have:=h x (cB ..);omega
 |succ m ih=>
  intro l hn h;have h1:=ih (l.erase (m:Int)) (hn.erase _) (λx hx=>by
   have:=h x (List.mem_of_mem_erase hx);have hne:x≠(m:Int):=λe=>by subst e;exact(List.Nodup.mem_erase_iff hn).1 hx|>.1 rfl
   omega)
  rw[List.length_erase]at h1;split at h1<;>omega
structure zk(g:bz)(ps:List Int):Prop where
 ne:ps≠[]
 mem:∀p∈ps,p∈g.cells
 nd:(ps.map λp=>(ww p g.cells:Int)).Nodup
structure CZ(g:bz)(rs:List (List Int)):Prop where
 len:rs.length<=64
 all:∀ps∈rs,zk g ps
def eZ(g:bz)(ps:kI Int):kI Int:=ps.map λp=>(ww p g.cells:Int)
def dW(g:bz)(rs:kI (kI Int)):kI (kI Int):=rs.map (eZ g)
def Jl{g:bz}{ps:kI Int}(hm:∀p∈ps,p∈g.cells)(hn:(eZ g ps).Nodup):ps.length<=g.cells.length:=by
 have:=Uu g.cells.length (eZ g ps) hn (λx hx=>by
  obtain⟨p,hp,rfl⟩:=eT.1 hx;have:=Nr (hm p hp);omega)
 unfold eZ at this
 rwa [bY]at this
end Kd
namespace Kd
open Go Go.Ideal
def uV(xs:kI Int):kI (Int×vI):=(xs.foldl (λs c=>(upd c (.int .i64 ((s.2.count c:Nat)+1)) s.1,s.2++[c])) (([]:kI (Int×vI)),([]:kI Int))).1
def adW(xs:kI Int):∀(m:kI (Int×vI)) (ys:kI Int),(xs.foldl (λs c=>(upd c (.int .i64 ((s.2.count c:Nat)+1)) s.1,s.2++[c])) (m,ys)).2=ys++xs:=by
 induction xs with
 |nil=>intro m ys;simp
 |cons x xs ih=>intro m ys;rw[wO,ih];simp
def Uv(xs:kI Int)(c:Int):uV (xs++[c])=upd c (.int .i64 ((xs.count c:Nat)+1)) (uV xs):=by
 unfold uV;rw[DI,wO,List.foldl_nil];show upd c _ _=_;rw[adW,dY]
def adX(c:Int)(n:Nat):∀xs:kI Int,xs.length=n->dR c (uV xs)=if c∈xs then some (.int .i64 (xs.count c:Nat))else none:=by
 induction n with
 |zero=>
  intro xs h;rw[jy.1 h];rfl
 |succ n ih=>
  intro xs h;obtain⟨ys,p,rfl⟩:∃ys p,xs=ys++[p]:=⟨xs.dropLast,xs.getLast A4,(yF _).symm⟩
  rw[Uv,zh,ih ys AH];by_cases e:c=p
  .subst e;simp
  .have e2:¬p=c:=λh=>e h.symm;simp[e,e2,List.count_cons,List.count_append]
def Uw(c:Int)(xs:kI Int):kT false (.int .i64 0) c (uV xs)=.int .i64 (xs.count c:Nat):=by
 unfold kT;rw[adX c _ xs rfl];by_cases e:c∈xs
 .rw[if_pos e];rfl
 .rw[if_neg e,List.count_eq_zero_of_not_mem e];rfl
def Ux(c:Int)(xs:kI Int):xs.count c<=xs.length:=List.count_le_length ..
def aT(d:bF):bz:=⟨d.shape,d.w,d.h,d.holes,mX d.w d.h d.holes⟩
def oI(d:bF):kI (kI (kI Int)):=((List.range 8).map λf:Nat=>dM (aT d) (f:Int))++d.regions.map λr=>dW (aT d) r.lists
def kF(d:bF):bD:=⟨d,aT d,bJ (aT d),oI d⟩
end Kd
namespace Kd
open Go Go.Ideal Canon
def bO:Enc Clue:=⟨3,vI,λg v=>[.int .i64 g.adJ,.int .i64 g.at_,v],λg v=>[ai ae v g.values],λ_ _=>rfl⟩
abbrev wy(g:Clue)(v:vI):vI:=.agg ⟨[.int .i64 g.adJ,.int .i64 g.at_,v]⟩
def uW:kI Int->Int
 |[]=>0
 |a::l=>if a≠0 then a else uW l
def gJ(a b:Clue):Int:=uW [eU a.adJ b.adJ,eU a.at_ b.at_]
def Uy(a b:Clue):gJ a b=fK eU [a.adJ,a.at_] [b.adJ,b.at_]:=by
 unfold gJ;simp only[uW,fK]
variable{a b:Clue}
def uX:gJ a b<0↔a.adJ<b.adJ\/(a.adJ=b.adJ/\a.at_<b.at_):=by
 exact gb
def Ns{c:Clue}(h1:gJ a b<0)(h2:gJ b c<0):gJ a c<0:=by
 rw[uX]at *;omega
def mY(k:bD)(g:Clue):Prop:=∃(c:gW) (l:kI (kI Int)),0<=g.adJ/\k.decl.aJ[g.adJ.toNat]? =some c/\k.lists[c.family.toNat]? =some l/\0<=g.at_/\g.at_<l.length/\
 ((c.type=1/\g.values.length=1/\∀x∈g.values,0<=x/\x<=(k.decl.symbols.length:Int) - 1)\/(c.type=2/\g.values.length=1/\∀x∈g.values,c.lo<=x/\x<=c.hi)\/
   (c.type≠1/\c.type≠2/\g.values.length<=8/\∀x∈g.values,1<=x/\x<=256))
structure age(k:bD)(p:List Clue):Prop where
 len:p.length<=512
 right:∀g∈p,mY k g
 sorted:∀(i:Nat) a b,p[i]? =some a->p[i+1]? =some b->gJ a b<0
def Fq(k:bD):Prop:=∀c∈k.decl.aJ,0<=c.family/\c.family<k.lists.length
end Kd
namespace Kd
open Go Go.Ideal Canon
def Nt(k:bD)(i:Int):Int:=match k.decl.aJ[i.toNat]? with|some c=>c.family|none=>0
def nR(k:bD)(g:Clue):kI Int:=(k.lists.getD (Nt k g.adJ).toNat []).getD g.at_.toNat []
def Jm(k:bD)(p:kI Clue)(r:bN):kI (kI Int×kI Int):=
 if r.adJ<0 then(k.lists.getD r.family.toNat []).map λl=>(l,[r.n])else(p.filter λg=>decide (g.adJ=r.adJ)).map λg=>(nR k g,g.values)
def j5{α:Type}{l:kI α}{n:Nat}{x d:α}(h:l[n]? =some x):l.getD n d=x:=by simp[List.getD,h]
def mY.cells{k:bD}{g:Clue}(h:mY k g):∃(c:gW) (l:kI (kI Int)) (ps:kI Int),k.decl.aJ[g.adJ.toNat]? =some c/\k.lists[c.family.toNat]? =some l/\l[g.at_.toNat]? =some ps/\0<=g.adJ/\0<=g.at_/\g.at_<l.length/\nR k g=ps:=by
 obtain⟨c,l,h1,h2,h3,h4,h5,_⟩:=h;have h6:l[g.at_.toNat]? =some (l[g.at_.toNat]'(z7)):=bP _;refine⟨c,l,_,h2,h3,h6,h1,h4,h5,?_⟩;unfold nR Nt;rw[h2];dsimp only;rw[j5 h3,j5 h6]
end Kd
namespace Kd
open Go Go.Ideal Canon
def aB(grid:kI Int)(c:Int):Int:=grid.getD c.toNat 0
def ji{grid:kI Int}{n:Nat}{x:Int}(h:grid[n]? =some x):aB grid (n:Int)=x:=by unfold aB;exact j5 h
end Kd
namespace Kd
open Go Go.Ideal
def Fs(n:Nat)(l:kI Int):Prop:=l.length<=4096/\∀c∈l,0<=c/\c<(n:Int)
variable{g:bz}
def Jn:∀p∈bB g,0<=p.1/\p.1<(g.cells.length:Int):=by
 intro p hp;obtain⟨k,hk⟩:=uy.1 hp;have hkl:=(bq.1 hk).1;rw[qK]at hkl;have:=xR hk;omega
def adY(kf:Int×Int->Int×Bool)(n:Nat):∀ps:kI (Int×(Int×Int)),ps.length=n->∀a,∀c∈(dR a (jN kf ps)).getD [],∃p∈ps,p.1=c:=by
 induction n with
 |zero=>
  intro ps h a c hc;rw[jy.1 h]at hc;have hc:c∈([]:kI Int):=hc;cases hc
 |succ n ih=>
  intro ps h a c hc;obtain⟨qs,p,rfl⟩:∃qs p,ps=qs++[p]:=⟨ps.dropLast,ps.getLast A4,(yF _).symm⟩
  have hq:qs.length=n:=AH
  have hih:∀a,∀c∈(dR a (jN kf qs)).getD [],∃p'∈qs++[p],p'.1=c:=λa c hc=>by
   obtain⟨q,h1,h2⟩:=ih qs hq a c hc;exact⟨q,je _ h1,h2⟩
  rw[Ji]at hc;unfold xS at hc;cases hb:(kf p.2).2 with
  |false=>
   rw[hb]at hc;exact hih a c hc
  |true=>
   rw[hb]at hc;have hc:c∈(dR a (upd (kf p.2).1 ((dR (kf p.2).1 (jN kf qs)).getD []++[p.1]) (jN kf qs))).getD []:=hc;rw[zh]at hc;by_cases e:a=(kf p.2).1
   .rw[if_pos e,wQ]at hc;rcases dX.1 hc with hc|hc
    .exact hih _ c hc
    .exact⟨p,An,(bM.1 hc).symm⟩
   .rw[if_neg e]at hc;exact hih a c hc
def Fu(hg:fE g)(kf:Int×Int->Int×Bool):∀l∈jd g kf,Fs g.cells.length l:=by
 intro l hl;have hlen:=(Nj hg kf).2 l hl;refine⟨z7,λc hc=>?_⟩;unfold jd at hl;obtain⟨n,_,rfl⟩:=eT.1 hl;obtain⟨p,hp,rfl⟩:=adY kf _ (bB g) rfl n c hc;exact Jn p hp
variable{l:kI Int}
def Uz{a b:kI (kI Int)}(h:l∈jO a b):l∈a\/l∈b:=by
 unfold jO at h;induction b generalizing a with
 |nil=>exact .inl h
 |cons x b ih=>
  rw[wO]at h;rcases ih h with h|h
  .unfold uf at h;split at h
   .exact .inl h
   .rcases dX.1 h with h|h
    .exact .inl h
    .exact .inr (by rw[bM.1 h];simp)
  .exact .inr (cO _ h)
def UA{o:x8 vI}{n:Int}(h:numOf o=some n):o=some (.int .i64 n):=by
 unfold numOf at h;split at h
 .cases h;rfl
 .cases h
def adZ{p:Int×(Int×Int)}:Fs g.cells.length (lX g p):=by
 unfold lX;refine⟨?_,λc hc=>?_⟩
 .exact gj
 .rw[uU]at hc;unfold gu at hc;obtain⟨d,_,hd⟩:=Kk.1 hc;obtain⟨c',h1,q,hq,h2⟩:=Uk _ _ (UA hd);injection h1 with _ h1;rw[h1,<- h2];exact Jn q hq
def Fv:∀l∈bJ g,Fs g.cells.length l:=by
 intro l hl;obtain⟨p,_,rfl⟩:=eT.1 hl;exact adZ
def ad1(l:kI Int):(bW l).length=l.length:=(zT l _).length_eq
def ad3(hg:fE g)(k:Int):∀l∈dM g k,Fs g.cells.length l:=by
 have hlen:=hg.len;have hnl:=wm g;have hnm:=Nq (g:=g);intro l hl;unfold dM at hl;split at hl
 .unfold kW at hl;obtain⟨i,hi,rfl⟩:=eT.1 hl;have:=ol.1 hi;exact⟨An,λc hc=>by rw[bM.1 hc];omega⟩
 split at hl
 .exact Fu hg _ l hl
 split at hl
 .exact Fu hg _ l hl
 split at hl
 .unfold lY at hl;split at hl
  .exact Fu hg _ l hl
  split at hl
  .rcases Uz hl with hl|hl
   .exact Fu hg _ l hl
   .exact Fu hg _ l hl
  .cases hl
 split at hl
 .exact Fv l hl
 split at hl
 .unfold l5 at hl;obtain⟨⟨x,i⟩,hx,rfl⟩:=eT.1 hl;have hx:=zU.1 hx;have hxm:=aZ hx;have hi:=(bq.1 hx).1;have h6:=hnm x hxm;refine⟨by rw[ad1];simp;omega,λc hc=>?_⟩;rw[uU]at hc;rcases dX.1 hc with hc|hc
  .exact(Fv x hxm).2 c hc
  .rw[bM.1 hc];dsimp only;omega
 split at hl
 .unfold ik at hl;obtain⟨⟨x,i⟩,hx,hl⟩:=List.mem_flatMap.1 hl;have hx:=zU.1 hx;have hxm:=aZ hx;have hi:=(bq.1 hx).1;unfold jh at hl;obtain⟨j,hj,rfl⟩:=eT.1 hl;have hj:=(sP.1 hj).1;refine⟨An,λc hc=>?_⟩;simp only[dx,Kj,or_false]at hc;rcases hc with rfl|rfl
  .omega
  .exact(Fv x hxm).2 _ hj
 .rw[bM.1 hl];refine⟨by rw[lZ];omega,λc hc=>?_⟩;unfold upTo' at hc;obtain⟨i,hi,rfl⟩:=eT.1 hc;have:=ol.1 hi;omega
def ad4(hg:fE g){rs:kI (kI Int)}(hr:CZ g rs):∀l∈dW g rs,Fs g.cells.length l:=by
 intro l hl;obtain⟨ps,hps,rfl⟩:=eT.1 hl;have hP:=hr.all ps hps;have h1:=Jl hP.mem hP.nd;have h2:=hg.len;refine⟨by unfold eZ;rw[bY];omega,λc hc=>?_⟩;obtain⟨p,hp,rfl⟩:=eT.1 hc;have:=Nr (hP.mem p hp);omega
def amW{d:bF}(hg:fE (aT d))(hr:∀r∈d.regions,CZ (aT d) r.lists):∀l∈oI d,∀ps∈l,Fs (aT d).cells.length ps:=by
 intro l hl ps hps;unfold oI at hl;rcases dX.1 hl with hl|hl
 .obtain⟨f,_,rfl⟩:=eT.1 hl;exact ad3 hg _ ps hps
 .obtain⟨r,hrm,rfl⟩:=eT.1 hl;exact ad4 hg (hr r hrm) ps hps
def ad5(hw:1<=g.w){x y:Int}(hx:0<=x)(hy:0<=y)(h:nM g x=nM g y):x=y:=by
 unfold nM at h;have h1:=congrArg Prod.fst h;have h2:=congrArg Prod.snd h;dsimp only at h1 h2;rw[uz hx,uz hy]at h2;rw[uz hx,uz hy,DJ hx,DJ hy,h2]at h1;have h3:x%g.w=y%g.w:=by
  split at h1<;>omega
 have e1:=PS x g.w;have e2:=PS y g.w;rw[h2,h3]at e1;omega
def Fw(hg:fE g){p q:Int×(Int×Int)}(hp:p∈bB g)(hq:q∈bB g)(h:p.1=q.1\/p.2=q.2):p=q:=by
 obtain⟨k,hk⟩:=uy.1 hp;obtain⟨j,hj⟩:=uy.1 hq;have hkl:=(bq.1 hk).1;have hjl:=(bq.1 hj).1;rw[qK]at hkl hjl;rcases h with h|h
 .have h1:=xR hk;have h2:=xR hj;have:k=j:=by omega
  subst this;rw[hk]at hj;exact Option.some.inj hj
 .have hx:g.cells[k]? =some g.cells[k]:=bP hkl;have hy:g.cells[j]? =some g.cells[j]:=bP hjl;have hkk:=hk;have hjj:=hj;rw[zg hx]at hk;rw[zg hy]at hj;have hk:=Option.some.inj hk;have hj:=Option.some.inj hj;have hs:nM g g.cells[k]=nM g g.cells[j]:=by rw[<- hk,<- hj]at h;exact h
  have he:=ad5 (by have:=hg.make.wi;omega) (hg.cell _ (vF _)).1 (hg.cell _ (vF _)).1 hs;have l6:g.cells.Pairwise (·<·):=DM
  have hkj:k=j:=by
   apply Classical.byContradiction;intro hne;have:=wT.1 l6;rcases Nat.lt_or_gt_of_ne hne with hl|hl
   .have:=this k j hkl hjl hl;omega
   .have:=this j k hjl hkl hl;omega
  subst hkj;rw[hkk]at hjj;exact Option.some.inj hjj
def ad6(n:Nat):∀xs:kI (Int×(Int×Int)),xs.length=n->(∀p∈xs,∀q∈xs,p.2=q.2->p=q)->∀p∈xs,dR p.2 (atM xs)=some (.int .i64 p.1):=by
 induction n with
 |zero=>intro xs h _ p hp;rw[jy.1 h]at hp;cases hp
 |succ n ih=>
  intro xs h hi p hp;obtain⟨ys,q,rfl⟩:∃ys q,xs=ys++[q]:=⟨xs.dropLast,xs.getLast A4,(yF _).symm⟩
  rw[Ng,zh];by_cases e:p.2=q.2
  .have:=hi p hp q An e;subst this;rw[if_pos rfl]
  .rw[if_neg e];refine ih ys AH (λa ha b hb=>hi a (je _ ha) b (je _ hb)) p ?_;rcases dX.1 hp with hp|hp
   .exact hp
   .rw[bM.1 hp]at e;exact absurd rfl e
def ad7(n:Nat):∀xs:kI (Int×(Int×Int)),xs.length=n->∀a v,dR a (atM xs)=some v->∃p∈xs,p.2=a/\v=.int .i64 p.1:=by
 induction n with
 |zero=>
  intro xs h a v hv;rw[jy.1 h]at hv;cases hv
 |succ n ih=>
  intro xs h a v hv;obtain⟨ys,q,rfl⟩:∃ys q,xs=ys++[q]:=⟨xs.dropLast,xs.getLast A4,(yF _).symm⟩
  rw[Ng,zh]at hv;by_cases e:a=q.2
  .rw[if_pos e]at hv;exact⟨q,An,e.symm,(Option.some.inj hv).symm⟩
  .rw[if_neg e]at hv;obtain⟨p,h1,h2⟩:=ih ys AH a v hv;exact⟨p,je _ h1,h2⟩
def Jo(hg:fE g){s:Int×Int}{d:Int×Int}{n:Int}:numOf (dR (s.1+d.1,s.2+d.2) (atM (bB g)))=some n↔∃q∈bB g,q.2=(s.1+d.1,s.2+d.2)/\q.1=n:=by
 constructor
 .intro h;obtain⟨q,hq,h1,h2⟩:=ad7 _ (bB g) rfl _ _ (UA h);injection h2 with _ h2;exact⟨q,hq,h1,h2.symm⟩
 .rintro⟨q,hq,h1,h2⟩;rw[<- h1,ad6 _ (bB g) rfl (λa ha b hb e=>Fw hg ha hb (.inr e)) q hq,<- h2];rfl
def Nu(hg:fE g){p:Int×(Int×Int)}{n:Int}:n∈lX g p↔∃d∈eO.take (dV g),∃q∈bB g,q.2=(p.2.1+d.1,p.2.2+d.2)/\q.1=n:=by
 unfold lX;rw[uU];unfold gu;rw[Kk];constructor
 .rintro⟨d,hd,h⟩;exact⟨d,hd,(Jo hg).1 h⟩
 .rintro⟨d,hd,h⟩;exact⟨d,hd,(Jo hg).2 h⟩
def UB(g:bz):dV g=4\/dV g=6:=by unfold dV;split<;>simp
variable{m:Nat}
def ad8(hm:m=4\/m=6):∀d∈eO.take m,(-d.1, -d.2)∈eO.take m:=by
 rcases hm with rfl|rfl<;>decide
def ad9:∀d∈eO.take m,¬(d.1=0/\d.2=0):=by
 intro d hd;have:=BJ hd;revert d;have:∀d∈eO,¬(d.1=0/\d.2=0):=AE
 intro d _ hd;exact this d hd
def aea(hm:m=4\/m=6):(eO.take m).Nodup:=by
 rcases hm with rfl|rfl<;>decide
def Nv(l:kI Int):(bW l).Pairwise (λx y=>x<=y):=by
 have:=XL (le:=λx y:Int=>decide (x<=y)) (λa b c h1 h2=>by simp at h1 h2⊢;omega) (λa b=>by simp;omega) l;exact tD
def Jp(h:l.Nodup):(bW l).Pairwise (·<·):=by
 have h1:=Nv l;have h2:(bW l).Nodup:=(zT l _).symm.nodup h;have h3:(bW l).Pairwise (λx y=>x<=y/\x≠y):=List.Pairwise.and h1 h2;exact h3.imp (λh=>by omega)
def Nw(hg:fE g)(p:Int×(Int×Int)):(lX g p).Pairwise (·<·):=by
 unfold lX;refine Jp ?_;unfold gu;refine List.Pairwise.filterMap _ ?_ (aea (UB g));intro d1 d2 hne b hb b' hb' e;subst e;obtain⟨q1,h1,h2,h3⟩:=(Jo hg).1 hb;obtain⟨q2,k1,k2,k3⟩:=(Jo hg).1 hb';have:=Fw hg h1 k1 (.inl (by rw[h3,k3]));subst this;rw[h2]at k2;apply hne;have e1:=congrArg Prod.fst k2;have e2:=congrArg Prod.snd k2;dsimp only at e1 e2;exact Prod.ext z7 z7
def aeb(hg:fE g)(i:Nat)(l:kI Int)(hl:(bJ g)[i]? =some l)(k:Nat)(n:Int)(hn:l[k]? =some n):
 0<=n/\n<(bJ g).length/\n≠i/\(∀m,0<k->l[k - 1]? =some m->m<n)/\∀l',(bJ g)[n.toNat]? =some l'->(i:Int)∈l':=by
 have hnm:=wm g;unfold bJ at hl;rw[dm]at hl;obtain⟨p,hp,rfl⟩:=kg.1 hl;have hp1:=xR hp;have hpm:=aZ hp;obtain⟨d,hd,q,hq,hq2,hq1⟩:=(Nu hg).1 (aZ hn);have hqi:=Jn q hq;refine⟨z7,z7,λe=>?_,λm hk hm=>?_,λl' hl'=>?_⟩
 .have:q=p:=Fw hg hq hpm (.inl z7);subst this;have e1:=congrArg Prod.fst hq2;have e2:=congrArg Prod.snd hq2;dsimp only at e1 e2;exact ad9 d hd ⟨z7,z7⟩
 .have hlt:=Nw hg p;obtain⟨a1,a2⟩:=bq.1 hm;obtain⟨b1,b2⟩:=bq.1 hn;have:=wT.1 hlt (k - 1) k a1 b1 z7;rw[a2,b2]at this;exact this
 .unfold bJ at hl';rw[dm]at hl';obtain⟨q',hq',rfl⟩:=kg.1 hl';have h1:=xR hq';have:q'=q:=Fw hg (aZ hq') hq (.inl z7);subst this;rw[Nu hg];refine⟨(-d.1, -d.2),ad8 (UB g) d hd,p,hpm,?_,hp1⟩;rw[hq2];dsimp only;exact Prod.ext B0 B0
end Kd
namespace Kd
open Go Go.Ideal Canon Gph
def alx(r:bN):Int:=if r.kind=6\/r.kind=7\/r.kind=8 then 6 else if r.kind=9\/r.kind=10 then 7 else if r.kind=11 then 0 else r.family
end Kd
namespace Kd
open Go Go.Ideal Canon Gph
def ams(p:kI Clue)(c:Int)(at_:Int):x8 (kI Int):=(p.find? λg=>decide (g.adJ=c/\g.at_=at_)).map (·.values)
def amX(p:kI Clue)(r:bN)(x:kI Int×Nat):x8 (Nat×kI Int×kI Int):=if r.adJ<0 then some (x.2,x.1,[])else(ams p r.adJ (x.2:Int)).map λv=>(x.2,x.1,v)
def amY(p:kI Clue)(r:bN)(ls:kI (kI Int)):kI (Nat×kI Int×kI Int):=ls.zipIdx.filterMap (amX p r)
end Kd
namespace Kd
open Go Go.Ideal Canon Gph
def apA(kf:Int×Int->Int×Bool)(n:Nat):∀ps:kI (Int×(Int×Int)),ps.length=n->∀a,((dR a (jN kf ps)).getD []).Sublist (ps.map (·.1)):=by
 induction n with
 |zero=>
  intro ps h a;rw[jy.1 h];exact List.Sublist.refl _
 |succ n ih=>
  intro ps h a;obtain⟨qs,p,rfl⟩:∃qs p,ps=qs++[p]:=⟨ps.dropLast,ps.getLast A4,(yF _).symm⟩
  have hq:qs.length=n:=AH
  have ih:=ih qs hq;rw[fP,Ji];unfold xS;cases hb:(kf p.2).2 with
  |false=>exact(ih a).trans (List.sublist_append_left _ _)
  |true=>
   show((dR a (upd (kf p.2).1 ((dR (kf p.2).1 (jN kf qs)).getD []++[p.1]) (jN kf qs))).getD []).Sublist _;rw[zh];by_cases e:a=(kf p.2).1
   .rw[if_pos e,wQ];exact(ih _).append (List.Sublist.refl _)
   .rw[if_neg e];exact(ih a).trans (List.sublist_append_left _ _)
variable{g:bz}
def apB:(bB g).map (·.1)=upTo' g.cells.length:=by
 apply iY;intro i;unfold upTo';rw[dm,dm];by_cases h:i<g.cells.length
 .rw[zg (bP h),pU h];rfl
 .rw[fO DO,fO (by rw[uu];omega)];rfl
def UC(n:Nat):(upTo' n).Nodup:=by
 unfold upTo';refine List.Pairwise.map _ (λa b h=>?_) List.nodup_range;intro e;apply h;omega
def UD{n i:Nat}{x:Int}(h:(upTo' n)[i]? =some x):x=i:=by
 unfold upTo' at h;rw[dm]at h;obtain⟨j,hj,rfl⟩:=kg.1 h;have:=bq.1 hj;obtain⟨h1,h2⟩:=this;rw[List.getElem_range]at h2;omega
def al3(kf:Int×Int->Int×Bool):∀l∈jd g kf,l.Nodup:=by
 intro l hl;unfold jd at hl;obtain⟨n,_,rfl⟩:=eT.1 hl;have:=apA kf _ (bB g) rfl n;rw[apB]at this;exact this.nodup (UC _)
def aec(hg:fE g)(p:Int×(Int×Int)):(lX g p).Nodup:=(Nw hg p).imp (λh=>by omega)
variable{l:kI Int}
def aed(h:l.Nodup):(bW l).Nodup:=(Jp h).imp (λh=>by omega)
def aee{aQ:kI (kI Int)}(h:l∈ik aQ):∃(i:Nat) (x:kI Int) (j:Int),aQ[i]? =some x/\j∈x/\(i:Int)<j/\l=[(i:Int),j]:=by
 unfold ik at h;obtain⟨⟨x,i⟩,hx,hl⟩:=List.mem_flatMap.1 h;unfold jh at hl;obtain⟨j,hj,rfl⟩:=eT.1 hl;obtain⟨h1,h2⟩:=sP.1 hj;exact⟨i,x,j,zU.1 hx,h1,iI h2,rfl⟩
def apC(hg:fE g)(k:Int):∀l∈dM g k,l.Nodup:=by
 intro l hl;unfold dM at hl;split at hl
 .unfold kW at hl;obtain⟨i,hi,rfl⟩:=eT.1 hl;simp
 split at hl
 .exact al3 _ l hl
 split at hl
 .exact al3 _ l hl
 split at hl
 .unfold lY at hl;split at hl
  .exact al3 _ l hl
  split at hl
  .rcases Uz hl with hl|hl
   .exact al3 _ l hl
   .exact al3 _ l hl
  .cases hl
 split at hl
 .unfold bJ at hl;obtain⟨p,_,rfl⟩:=eT.1 hl;exact aec hg p
 split at hl
 .unfold l5 at hl;obtain⟨⟨x,i⟩,hx,rfl⟩:=eT.1 hl;have hx:=zU.1 hx;have hxm:=aZ hx;refine aed ?_;rw[iT];refine⟨?_,An,λa ha b hb e=>?_⟩
  .unfold bJ at hxm;obtain⟨p,_,rfl⟩:=eT.1 hxm;exact aec hg p
  .rw[bM.1 hb]at e;obtain⟨j,hj⟩:=jS ha;exact(aeb hg i x hx j a hj).2.2.1 e
 split at hl
 .obtain⟨i,x,j,h1,h2,h3,rfl⟩:=aee hl;simp only[yD,bM,Kj,not_false_iff,yE,yC];omega
 .rw[bM.1 hl];exact UC _
def apD{d:bF}(hg:fE (aT d))(hr:∀r∈d.regions,CZ (aT d) r.lists):∀l∈oI d,∀ps∈l,ps.Nodup:=by
 intro l hl ps hps;unfold oI at hl;rcases dX.1 hl with hl|hl
 .obtain⟨f,_,rfl⟩:=eT.1 hl;exact apC hg _ ps hps
 .obtain⟨r,hrm,rfl⟩:=eT.1 hl;obtain⟨q,hq,rfl⟩:=eT.1 hps;exact((hr r hrm).all q hq).nd
end Kd
namespace Kd
open Go Go.Ideal Canon Gph
def Ny{k:bD}{p:kI Clue}(h:age k p):∀(d i:Nat) a b,p[i]? =some a->p[i+1+d]? =some b->gJ a b<0
 |0,i,a,b,ha,hb=>h.sorted i a b ha hb
 |d+1,i,a,b,ha,hb=>by
  have hlt:=(bq.1 hb).1;have hc:p[i+1+d]? =some (p[i+1+d]'(z7)):=bP _;exact Ns (Ny h d i a _ ha hc) (h.sorted (i+1+d) _ b hc hb)
variable{p:kI Clue}{k:bD}
def aef(h:age k p){a b:Clue}(ha:a∈p)(hb:b∈p)(h1:a.adJ=b.adJ)(h2:a.at_=b.at_):a=b:=by
 obtain⟨i,hi⟩:=jS ha;obtain⟨j,hj⟩:=jS hb;rcases PT i j with hl|hl|hl
 .have:=uX.1 (Ny h (j - (i+1)) i a b hi (by rw[show i+1+(j - (i+1))=j by omega];exact hj));omega
 .subst hl;rw[hi]at hj;exact Option.some.inj hj
 .have:=uX.1 (Ny h (i - (j+1)) j b a hj (by rw[show j+1+(i - (j+1))=i by omega];exact hi));omega
def apE(h:age k p){c a:Int}{v:kI Int}:ams p c a=some v↔∃g∈p,g.adJ=c/\g.at_=a/\g.values=v:=by
 unfold ams;constructor
 .intro hf;obtain⟨g,hg,rfl⟩:=kg.1 hf;have h1':=List.find?_some hg;have h1:g.adJ=c/\g.at_=a:=iI h1';exact⟨g,anH hg,h1.1,h1.2,rfl⟩
 .rintro⟨g,hg,h1,h2,rfl⟩;cases hf:p.find? (λg=>decide (g.adJ=c/\g.at_=a))with
  |none=>exact absurd (dK ⟨h1,h2⟩) (anG.1 hf g hg)
  |some g2=>
   have h3':=List.find?_some hf;have h3:g2.adJ=c/\g2.at_=a:=iI h3';rw[aef h hg (anH hf) z7 z7];rfl
def apF{r:bN}{ls:kI (kI Int)}{y:Nat×kI Int×kI Int}:y∈amY p r ls↔ls[y.1]? =some y.2.1/\((r.adJ<0/\y.2.2=[])\/(0<=r.adJ/\ams p r.adJ (y.1:Int)=some y.2.2)):=by
 obtain⟨j,l,v⟩:=y;unfold amY;rw[Kk];constructor
 .rintro⟨⟨x,i⟩,hx,h⟩;have hx:=zU.1 hx;unfold amX at h;split at h
  .rename_i hc;cases h;exact⟨hx,.inl ⟨hc,rfl⟩⟩
  .rename_i hc;obtain⟨w,hw,e⟩:=kg.1 h;cases e;exact⟨hx,.inr ⟨z7,hw⟩⟩
 .rintro⟨h1,h2⟩;refine⟨(l,j),zU.2 h1,?_⟩;unfold amX;rcases h2 with⟨hc,e⟩|⟨hc,e⟩
  .rw[if_pos hc];dsimp only at e;rw[e]
  .rw[if_neg z7];dsimp only at e⊢;rw[e];rfl
end Kd
namespace Kd
open Go Go.Ideal
def Nz:∀{l m:kI Int},l.Nodup->(∀x∈l,x∈m)->l.length<=m.length
 |[],m,_,_=>bR _
 |a::l,m,hd,hs=>by
  have ha:=hs a (cB ..);have h1:=PU ha;have hp:0<m.length:=PV ha;have:=Nz (l:=l) (m:=m.erase a) (yD.1 hd).2 (λx hx=>by
   have hne:x≠a:=λe=>(yD.1 hd).1 (e▸hx);exact(PW hne).2 (hs x (cO _ hx)))
  rw[oP];omega
def apG{g:bz}(hg:fE g):0<g.cells.length:=by
 apply Classical.byContradiction;intro h0;have he:g.cells=[]:=jy.1 z7;rw[hg.cells]at he;unfold mX gI at he;have hw:=xQ hg.make.wi hg.make.he;have hlen:=hg.make.len;have:=Nz (l:=upTo' (g.w*g.h).toNat) (m:=g.holes) (UC _) (λx hx=>by
  have hx:x∈(List.range (g.w*g.h).toNat).map λi:Nat=>(i:Int):=hx;have:=List.filter_eq_nil_iff.1 he x hx;simpa using this)
 rw[lZ]at this;omega
end Kd
namespace Kd
open Go Go.Ideal Canon Gph
def apH{g:bz}(hg:fE g)(k:Int):(dM g k).length<=2048:=by
 have hl:=hg.len;have hn:=wm g;have hL:=λkf=>Nj hg kf;unfold dM;split
 .unfold kW;rw[bY,uu];omega
 split
 .have:=(hL (λs=>(s.2,true))).1;omega
 split
 .have:=(hL (λs=>(s.1,true))).1;omega
 split
 .unfold lY;split
  .have:=(hL (λs=>(s.1+s.2,true))).1;omega
  split
  .have h1:=hL (λs=>(0,decide (s.1=s.2)));have h2:=hL (λs=>(0,decide (s.1+s.2=g.w - 1)));have:=(Uo h1.2 h2.2 (jd g (λs=>(0,decide (s.1+s.2=g.w - 1)))).length).1;rw[bU]at this;omega
  .simp
 split
 .omega
 split
 .unfold l5;rw[bY,List.length_zipIdx];omega
 split
 .have:=Np (aQ:=bJ g) Nq (bJ g).length (bT _);rw[bU]at this;omega
 .simp
def amZ{d:bF}(hg:fE (aT d))(hr:∀r∈d.regions,CZ (aT d) r.lists):∀l∈oI d,l.length<=2048:=by
 intro l hl;unfold oI at hl;rcases dX.1 hl with hl|hl
 .obtain⟨f,_,rfl⟩:=eT.1 hl;exact apH hg _
 .obtain⟨r,hrm,rfl⟩:=eT.1 hl;have:=(hr r hrm).len;unfold dW;rw[bY];omega
end Kd
namespace Kd
open Canon
variable{b a:Clue}
def zl:gJ a b=0↔a.adJ=b.adJ/\a.at_=b.at_:=by
 exact gb
def aeg(a b:Clue):nW a b=if gJ a b≠0 then gJ a b else fK eU a.values b.values:=by
 rw[abv,<- Uy]
def aeh:nW a b<0↔gJ a b<0\/(gJ a b=0/\fK eU a.values b.values<0):=by
 rw[aeg];split<;>omega
structure l7(xs rs:List Clue):Prop where
 inc:rs.Pairwise λa b=>gJ a b<0
 sub:∀r∈rs,r∈xs
 all:∀x∈xs,∃r∈rs,gJ x r=0/\¬fK eU x.values r.values<0
variable{rs:kI Clue}
def aei(h:rs.Pairwise λa b=>gJ a b<0){a b:Clue}(ha:a∈rs)(hb:b∈rs)(he:gJ a b=0):a=b:=by
 induction h with
 |nil=>cases ha
 |cons h1 _ ih=>
  rcases dx.1 ha with e1|ha'<;>rcases dx.1 hb with e2|hb'
  .rw[e1,e2]
  .have:=h1 b hb';rw[<- e1]at this;omega
  .have:=h1 a ha';rw[<- e2]at this;rw[zl]at he;rw[uX]at this;omega
  .exact ih ha' hb'
variable{xs rs':kI Clue}
def l7.mem(h:l7 xs rs)(h':l7 xs rs'){r:Clue}(hr:r∈rs):r∈rs':=by
 obtain⟨r2,m2,p2,v2⟩:=h'.all r (h.sub r hr);obtain⟨r1,m1,p1,v1⟩:=h.all r2 (h'.sub r2 m2);have h3:gJ r r1=0:=by rw[zl]at *;omega
 have:=aei h.inc hr m1 h3;subst this;have hO:=xK xJ;have h4:fK eU r.values r2.values=0:=by
  have:=hO.neg r2.values r.values;have:=hO.neg r.values r2.values;omega
 have h5:=(hO.zero _ _).1 h4;rw[zl]at p2;have:r=r2:=by cases r;cases r2;simp_all
 rw[this];exact m2
def UE:∀{a b:kI Clue},(a.Pairwise λx y=>gJ x y<0)->(b.Pairwise λx y=>gJ x y<0)->(∀x,x∈a↔x∈b)->a=b
 |[],[],_,_,_=>rfl
 |[],y::b,_,_,h=>absurd ((h y).2 (cB ..)) An
 |x::a,[],_,_,h=>absurd ((h x).1 (cB ..)) An
 |x::a,y::b,ha,hb,h=>by
  obtain⟨a1,a2⟩:=qx.1 ha;obtain⟨b1,b2⟩:=qx.1 hb;have hxy:x=y:=by
   rcases dx.1 ((h x).1 (cB ..))with e|e
   .exact e
   .rcases dx.1 ((h y).2 (cB ..))with e'|e'
    .exact e'.symm
    .have q1:=b1 x e;have q2:=a1 y e';rw[uX]at q1 q2;omega
  subst hxy;have UF:∀z:Clue,¬gJ z z<0:=λz h=>by rw[uX]at h;omega
  rw[UE a2 b2 λz=>⟨λhz=>?_,λhz=>?_⟩]
  .rcases dx.1 ((h z).1 (cO _ hz))with e|e
   .subst e;exact absurd (a1 z hz) (UF z)
   .exact e
  .rcases dx.1 ((h z).2 (cO _ hz))with e|e
   .subst e;exact absurd (b1 z hz) (UF z)
   .exact e
def l7.uniq(h:l7 xs rs)(h':l7 xs rs'):rs=rs':=UE h.inc h'.inc λr=>⟨h.mem h',h'.mem h⟩
def l7.aej{xs':kI Clue}(h:l7 xs rs)(h1:∀x,x∈xs'↔x∈xs):l7 xs' rs:=⟨h.inc,λr hr=>(h1 r).2 (h.sub r hr),λx hx=>h.all x ((h1 x).1 hx)⟩
def l7.self(h:l7 xs rs):l7 rs rs:=⟨h.inc,λ_ h=>h,λx hx=>⟨x,hx,by rw[zl];exact⟨rfl,rfl⟩,GC⟩⟩
def cgo{β:Type}(eq:β->β->Bool)(p:β):kI β->kI β
 |[]=>[]
 |y::l=>cond (eq y p) (cgo eq y l) (y::cgo eq y l)
def akN{β:Type}(eq:β->β->Bool):kI β->kI β
 |[]=>[]
 |x::l=>x::cgo eq x l
def am0{β:Type}{eq:β->β->Bool}:∀{l:kI β} {p r:β},r∈cgo eq p l->r∈l
 |y::l,p,r,h=>by
  unfold cgo at h;cases e:eq y p with
  |true=>rw[e]at h;exact cO _ (am0 h)
  |false=>
   rw[e]at h;exact vf
variable{β:Type}
def apI{eq:β->β->Bool}:∀{l:kI β} {r:β},r∈akN eq l->r∈l
 |x::l,r,h=>by
  exact vf
def am1{β γ:Type}{eq:β->β->Bool}{eq':γ->γ->Bool}(f:β->γ)(h:∀a b,eq a b=eq' (f a) (f b)):∀(l:kI β) (p:β),(cgo eq p l).map f=cgo eq' (f p) (l.map f)
 |[],_=>rfl
 |y::l,p=>by
  rw[agO,cgo,cgo,<- h];cases eq y p with
  |true=>exact am1 f h l y
  |false=>
   show f y::(cgo eq y l).map f=f y::_;rw[am1 f h l y]
def apJ{γ:Type}{eq:β->β->Bool}{eq':γ->γ->Bool}(f:β->γ)(h:∀a b,eq a b=eq' (f a) (f b)):∀(l:kI β),(akN eq l).map f=akN eq' (l.map f)
 |[]=>rfl
 |x::l=>by
  show f x::(cgo eq x l).map f=f x::_;rw[am1 f h l x]
abbrev akF(a b:Clue):Bool:=decide (gJ a b=0)
def anX:∀(l:kI Clue) (p:Clue),((p::l).Pairwise λx y=>¬nW y x<0)->(p::cgo akF p l).Pairwise (λa b=>gJ a b<0)/\∀x∈l,(∃r∈p::cgo akF p l,gJ x r=0/\¬fK eU x.values r.values<0)
 |[],p,_=>⟨List.pairwise_singleton ..,λx hx=>by cases hx⟩
 |y::l,p,h=>by
  obtain⟨h1,h2⟩:=qx.1 h;have hyp:=h1 y (cB ..);obtain⟨i1,i2⟩:=anX l y h2;obtain⟨i3,i4⟩:=qx.1 i1;have hO:=xK xJ;unfold cgo;by_cases e:gJ y p=0
  .rw[show akF y p=true from dK e,cond_true];have ep:∀z,gJ p z=gJ y z:=λz=>by
    rw[zl]at e;unfold gJ;rw[e.1,e.2]
   refine⟨qx.2 ⟨λz hz=>by rw[ep];exact i3 z hz,i4⟩,λx hx=>?_⟩;have hp:∀x:Clue,gJ x y=0->¬fK eU x.values y.values<0->∃r∈p::cgo akF y l,gJ x r=0/\¬fK eU x.values r.values<0:=λx q1 q2=>by
    refine⟨p,cB ..,by rw[zl]at *;omega,λq=>?_⟩;have hpy:¬fK eU y.values p.values<0:=λq=>hyp (aeh.2 (.inr ⟨e,q⟩));by_cases e1:fK eU x.values y.values=0
    .rw[(hO.zero _ _).1 e1]at q;exact hpy q
    by_cases e2:fK eU y.values p.values=0
    .rw[<- (hO.zero _ _).1 e2]at q;exact q2 q
    have:=hO.neg p.values y.values;have:=hO.neg y.values p.values;have:=hO.neg y.values x.values;have:=hO.neg x.values y.values;have:=hO.trans p.values y.values x.values z7 z7;have:=hO.neg p.values x.values;omega
   rcases dx.1 hx with rfl|hx
   .exact hp x (by rw[zl];exact⟨rfl,rfl⟩) HU
   .obtain⟨r,m,q1,q2⟩:=i2 x hx;rcases dx.1 m with rfl|m
    .exact hp x q1 q2
    .exact⟨r,cO _ m,q1,q2⟩
  .rw[show akF y p=false from aR e,cond_false];have hpy:gJ p y<0:=by
    have:¬gJ y p<0:=λq=>hyp (aeh.2 (.inl q));rw[uX]at *;rw[zl]at e;omega
   refine⟨qx.2 ⟨λz hz=>?_,i1⟩,λx hx=>?_⟩
   .rcases dx.1 hz with rfl|hz
    .exact hpy
    .exact Ns hpy (i3 z hz)
   .rcases dx.1 hx with rfl|hx
    .exact⟨x,cO _ (cB ..),by rw[zl];exact⟨rfl,rfl⟩,HU⟩
    .obtain⟨r,m,q⟩:=i2 x hx;exact⟨r,cO _ m,q⟩
def apK{ys:kI Clue}(hp:ys.Perm xs)(hs:ys.Pairwise λx y=>¬nW y x<0):l7 xs (akN akF ys):=by
 cases ys with
 |nil=>exact⟨List.Pairwise.nil,(λr hr=>by cases hr),(λx hx=>by have:=hp.mem_iff.2 hx;cases this)⟩
 |cons p l=>
  obtain⟨h1,h2⟩:=anX l p hs;refine⟨h1,λr hr=>hp.mem_iff.1 (apI hr),λx hx=>?_⟩;rcases dx.1 (hp.mem_iff.2 hx)with rfl|hx
  .exact⟨x,cB ..,by rw[zl];exact⟨rfl,rfl⟩,GC⟩
  .exact h2 x hx
def opn(p:kI Clue)(x:Clue):Bool:=match p.getLast? with
 |none=>true
 |some y=>decide (0<gJ x y)
variable{p:kI Clue}
def NA{x:Clue}:opn (p++[b]) x=decide (0<gJ x b):=by
 unfold opn;rw[List.getLast?_append];rfl
def Jq:0<gJ a b↔gJ b a<0:=by
 rw[uX];exact gb
structure NB(l p:List Clue)(n:Nat):Prop where
 inc:p.Pairwise λa b=>gJ a b<0
 sub:∀r∈p,r∈l
 done:∀x∈l,opn p x=false->∃r∈p,gJ x r=0/\¬fK eU x.values r.values<0
 cnt:l.countP (opn p)+n<=l.length
variable{l:kI Clue}
def apL:NB l [] 0:=⟨List.Pairwise.nil,(λr hr=>by cases hr),(λx hx h=>by cases h),List.countP_le_length⟩
def UG{α:Type}{p q:α->Bool}:∀{l:kI α} {b:α},b∈l->p b=true->q b=false->(∀x,q x=true->p x=true)->l.countP q+1<=l.countP p
 |x::l,b,hb,h1,h2,h3=>by
  rw[List.countP_cons,List.countP_cons];rcases dx.1 hb with rfl|hb
  .have:=List.countP_mono_left (l:=l) (p:=q) (q:=p) λx _=>h3 x;rw[h1,h2];simp only[if_true];simp;omega
  .have:=UG hb h1 h2 h3;by_cases e:q x=true
   .rw[if_pos e,if_pos (h3 x e)];omega
   .rw[if_neg e];omega
def UH:∀{p:kI Clue} {y:Clue},(p.Pairwise λa b=>gJ a b<0)->p.getLast? =some y->∀a∈p,a=y\/gJ a y<0
 |[],y,_,h,a,ha=>by cases ha
 |[x],y,_,h,a,ha=>by
  cases h;exact .inl (bM.1 ha)
 |x::z::p,y,hp,h,a,ha=>by
  obtain⟨h1,h2⟩:=qx.1 hp;have h':(z::p).getLast? =some y:=by rw[List.getLast?_cons_cons]at h;exact h
  rcases dx.1 ha with rfl|ha
  .exact .inr (h1 y (List.mem_of_getLast? h'))
  .exact UH h2 h' a ha
variable{n:Nat}
def NB.step(h:NB l p n)(hb:b∈l)(ho:opn p b=true)(hl:∀x∈l,opn p x=true->¬nW x b<0):NB l (p++[b]) (n+1):=by
 have hab:∀y,p.getLast? =some y->gJ y b<0:=λy hy=>by
  unfold opn at ho;rw[hy]at ho;exact Jq.1 (iI ho)
 refine⟨Kq.2 ⟨h.inc,List.pairwise_singleton ..,λa ha b' hb'=>?_⟩,λr hr=>?_,λx hx hc=>?_,?_⟩
 .rw[bM.1 hb'];cases e:p.getLast? with
  |none=>rw[List.getLast?_eq_none_iff.1 e]at ha;cases ha
  |some y=>
   have h2:=hab y e;rcases UH h.inc e a ha with rfl|h1
   .exact h2
   .exact Ns h1 h2
 .rcases dX.1 hr with hr|hr
  .exact h.sub r hr
  .rw[bM.1 hr];exact hb
 .rw[NA]at hc;have hc:=nC hc;cases e:opn p x with
  |true=>
   have h1:=hl x hx e;rw[aeh]at h1;refine⟨b,An,?_,?_⟩
   .by_cases h2:gJ x b<0
    .exact absurd (.inl h2) h1
    .omega
   .intro h2;by_cases h3:gJ x b<0
    .exact h1 (.inl h3)
    .exact h1 (.inr ⟨z7,h2⟩)
  |false=>
   obtain⟨r,m,q⟩:=h.done x hx e;exact⟨r,je _ m,q⟩
 .have:=UG (p:=opn p) (q:=opn (p++[b])) hb ho (by rw[NA];exact aR (by rw[Jq,uX];omega)) (λx hx=>by
   rw[NA]at hx;have hx:=iI hx;unfold opn;cases e:p.getLast? with
   |none=>rfl
   |some y=>exact dK (Jq.2 (Ns (hab y e) (Jq.1 hx))))
  have:=h.cnt;omega
def NB.stop(h:NB l p n)(hn:∀x∈l,opn p x=false):l7 l p:=⟨h.inc,h.sub,λx hx=>h.done x hx (hn x hx)⟩
def NB.full(h:NB l p l.length):l7 l p:=h.stop λx hx=>by
 have h1:=h.cnt;have h2:l.countP (opn p)=0:=z7
 rw[List.countP_eq_zero]at h2;simpa using h2 x hx
end Kd
namespace Kd
open Canon
variable{rs:kI Clue}
def aek(h:rs.Pairwise λa b=>gJ a b<0):rs.Nodup:=h.imp λ{a b} hab he=>by rw[he,uX]at hab;omega
def UI{α:Type}[DecidableEq α]:∀{a b:kI α},a.Nodup->(∀x∈a,x∈b)->a.length<=b.length
 |[],_,_,_=>bR _
 |x::a,b,hn,h=>by
  obtain⟨h1,h2⟩:=yD.1 hn;have hx:=h x (cB ..);have:=UI (b:=b.erase x) h2 λy hy=>(PW (by rintro rfl;exact h1 hy)).2 (h y (cO _ hy));rw[PU hx]at this;have:=PV hx;rw[oP];omega
def ael{xs:kI Clue}(h:l7 xs rs):rs.length<=xs.length:=UI (aek h.inc) h.sub
end Kd
namespace Kd
open Go Go.Ideal
def NC:∀{a b:kI Int},a.Pairwise (·<·)->b.Pairwise (·<·)->(∀x,x∈a↔x∈b)->a=b
 |[],[],_,_,_=>rfl
 |[],y::b,_,_,h=>by have:=(h y).2 (cB ..);cases this
 |x::a,[],_,_,h=>by have:=(h x).1 (cB ..);cases this
 |x::a,y::b,ha,hb,h=>by
  have hxy:x=y:=by
   rcases dx.1 ((h x).1 (cB ..))with e|hx
   .exact e
   rcases dx.1 ((h y).2 (cB ..))with e|hy
   .exact e.symm
   have:=(qx.1 ha).1 y hy;have:=(qx.1 hb).1 x hx;omega
  subst hxy;rw[NC (qx.1 ha).2 (qx.1 hb).2 λz=>?_];constructor
  .intro hz;have:=(qx.1 ha).1 z hz;exact(dx.1 ((h z).1 (cO _ hz))).resolve_left z7
  .intro hz;have:=(qx.1 hb).1 z hz;exact(dx.1 ((h z).2 (cO _ hz))).resolve_left z7
variable{n:Nat}{x:Int}
def aem:x∈upTo' n↔0<=x/\x<(n:Int):=by
 unfold upTo';rw[eT];constructor
 .rintro⟨i,hi,rfl⟩;have:=ol.1 hi;omega
 .intro h;exact⟨x.toNat,ol.2 z7,z7⟩
def aen(n:Nat):(upTo' n).Pairwise (·<·):=by
 unfold upTo';exact n5
def dP(n:Nat)(p:Int->Bool):kI Int:=(upTo' n).filter p
def aeo{p:Int->Bool}:x∈dP n p↔(0<=x/\x<(n:Int))/\p x=true:=by
 unfold dP;rw[sP,aem]
def Jr(n:Nat)(p:Int->Bool):(dP n p).Pairwise (·<·):=List.Pairwise.filter _ (aen n)
def A9(k:Nat)(p:Int->Bool):dP (k+1) p=dP k p++if p (k:Int)then[(k:Int)]else[]:=by
 unfold dP;rw[wo,Gi];congr 1;rw[Gd];split<;>simp
def Ba(n:Nat)(p:Int->Bool):(dP n p).length<=n:=by
 unfold dP;refine pQ (PR _ _) ?_;rw[lZ];exact bT _
def Js{l:kI Int}(hi:l.Pairwise (·<·)){n:Nat}{p:Int->Bool}(h:∀x,x∈l↔(0<=x/\x<(n:Int))/\p x=true):l=dP n p:=
 NC hi (Jr n p) λx=>(h x).trans aeo.symm
def aep(n:Nat)(holes:kI Int):gI n holes=dP n λi=>!decide (i∈holes):=rfl
variable{holes:kI Int}
def UJ(hi:holes.Pairwise (·<·))(hm:∀x∈holes,0<=x/\x<(n:Int)):dP n (λi=>decide (i∈holes))=holes:=
 (Js hi λx=>⟨λh=>⟨hm x h,dK h⟩,λh=>iI h.2⟩).symm
def aeq(hi:holes.Pairwise (·<·))(hm:∀x∈holes,0<=x/\x<(n:Int)):(gI n holes).length+holes.length=n:=by
 have h1:(dP n λi=>decide (i∈holes)).length=holes.length:=by rw[UJ hi hm]
 have h2:=List.length_eq_countP_add_countP (λi:Int=>decide (i∈holes)) (l:=upTo' n);rw[lZ,List.countP_eq_length_filter,List.countP_eq_length_filter]at h2;have h3:gI n holes=List.filter (λa=>decide ¬decide (a∈holes)=true) (upTo' n):=by
  rw[aep];unfold dP;congr 1;funext i
  by_cases h:i∈holes<;>simp[h]
 rw[h3];unfold dP at h1;omega
structure aer(s w h:Int)(holes:List Int):Prop where
 sh:s=1\/s=2
 wi:1<=w/\w<=16
 he:1<=h/\h<=16
 inc:holes.Pairwise (·<·)
 mem:∀x∈holes,0<=x/\x<w*h
 ne:mX w h holes≠[]
def wz{s w h:Int}:aer s w h holes↔oH s w h holes:=by
 have key:(1<=w/\w<=16)->(1<=h/\h<=16)->holes.Pairwise (·<·)->(∀x∈holes,0<=x/\x<w*h)->(mX w h holes≠[]↔(holes.length:Int)<w*h):=by
  intro hw hh hi hm;have hb:=xQ hw hh;obtain⟨m,hmm⟩:=jA (show 0<=w*h by omega);rw[hmm]at hm⊢;unfold mX;rw[hmm,kJ];have:=aeq hi hm;rw[<- BK];omega
 exact⟨λq=>⟨q.sh,q.wi,q.he,(key q.wi q.he q.inc q.mem).1 q.ne,q.inc,q.mem⟩,λq=>⟨q.sh,q.wi,q.he,q.inc,q.mem,(key q.wi q.he q.inc q.mem).2 q.len⟩⟩
def aic(g:bz)(c:Int):Int×Int:=((g.cells[c.toNat]?).map (nM g)).getD (0,0)
variable{g:bz}{k:Nat}
def C8(h:g.cells[k]? =some x):aic g (k:Int)=nM g x:=by
 unfold aic;rw[kJ,h];rfl
def Fx{q:Int×(Int×Int)}:q∈bB g↔(0<=q.1/\q.1<(g.cells.length:Int))/\q.2=aic g q.1:=by
 constructor
 .intro h;refine⟨Jn q h,?_⟩;obtain⟨k,hk⟩:=uy.1 h;have h1:=xR hk;have hkl:=(bq.1 hk).1;rw[qK]at hkl;have hx:g.cells[k]? =some g.cells[k]:=bP hkl;rw[zg hx]at hk;have hk:=Option.some.inj hk;rw[h1,C8 hx,<- hk]
 .rintro⟨⟨h1,h2⟩,h3⟩;have hkl:q.1.toNat<g.cells.length:=by omega
  have hx:g.cells[q.1.toNat]? =some g.cells[q.1.toNat]:=bP hkl;have h4:=zg hx;rw[show((q.1.toNat:Nat):Int)=q.1 by omega]at h4;have h5:aic g q.1=nM g g.cells[q.1.toNat]:=by
   have:=C8 hx
   rwa [show((q.1.toNat:Nat):Int)=q.1 by omega]at this
  rw[<- h5,<- h3]at h4;exact aZ h4
def xU(sh:Int)(s t:Int×Int):Bool:=
 if sh=1 then(decide (t.2 - s.2=0)&&(decide (t.1 - s.1=1)||decide (t.1 - s.1= -1)))||(decide (t.1 - s.1=0)&&(decide (t.2 - s.2=1)||decide (t.2 - s.2= -1)))
 else(decide (t.1 - s.1=1)&&decide (t.2 - s.2=0))||(decide (t.1 - s.1= -1)&&decide (t.2 - s.2=0))||(decide (t.1 - s.1=0)&&decide (t.2 - s.2=1))||(decide (t.1 - s.1=0)&&decide (t.2 - s.2= -1))||(decide (t.1 - s.1=1)&&decide (t.2 - s.2= -1))||(decide (t.1 - s.1= -1)&&decide (t.2 - s.2=1))
def aes{s t:Int×Int}:xU g.shape s t=true↔∃d∈eO.take (dV g),t=(s.1+d.1,s.2+d.2):=by
 obtain⟨s1,s2⟩:=s;obtain⟨t1,t2⟩:=t;unfold xU dV;by_cases h:g.shape=1
 .rw[if_pos h,if_pos h];simp[eO];omega
 .rw[if_neg h,if_neg h];simp[eO];omega
def aet(hg:fE g){p:Int×(Int×Int)}:lX g p=dP g.cells.length λb=>xU g.shape p.2 (aic g b):=by
 refine Js (Nw hg p) λc=>?_;rw[Nu hg,aes];constructor
 .rintro⟨d,hd,q,hq,h1,rfl⟩;obtain⟨h2,h3⟩:=Fx.1 hq;exact⟨h2,d,hd,h3▸h1⟩
 .rintro⟨h2,d,hd,h1⟩;exact⟨d,hd,(c,aic g c),Fx.2 ⟨h2,rfl⟩,h1,rfl⟩
def UK(hg:fE g){k:Nat}(hk:k<g.cells.length):(bJ g)[k]? =some (dP g.cells.length λb=>xU g.shape (aic g k) (aic g b)):=by
 unfold bJ;have hx:g.cells[k]? =some g.cells[k]:=bP hk;rw[dm,zg hx,jT,aet hg,C8 hx]
def Fh{α β:Type}[DecidableEq α](b:α)(v:β):∀m:kI (α×β),(upd b v m).map (·.1)=if b∈m.map (·.1)then m.map (·.1)else m.map (·.1)++[b]
 |[]=>by
  rw[if_neg An];rfl
 |(a,u)::m=>by
  unfold upd;by_cases e:b=a
  .rw[if_pos e,if_pos (by rw[e];simp),e];rfl
  .rw[if_neg e,agO,agO,Fh b v m];by_cases h:b∈m.map (·.1)
   .rw[if_pos h,if_pos (cO _ h)]
   .rw[if_neg h,if_neg (by rw[dx,not_or];exact⟨e,h⟩)];rfl
def nN(kf:Int×Int->Int×Bool)(ps:kI (Int×(Int×Int)))(n:Int):kI Int:=(ps.filter λp=>(kf p.2).2&&decide ((kf p.2).1=n)).map (·.1)
def ND(kf:Int×Int->Int×Bool)(ps:kI (Int×(Int×Int)))(p:Int×(Int×Int))(n:Int):nN kf (ps++[p]) n=nN kf ps n++if((kf p.2).2&&decide ((kf p.2).1=n))=true then[p.1]else[]:=by
 unfold nN;rw[Gi,fP];congr 1;rw[Gd];split<;>simp
def UL(kf:Int×Int->Int×Bool)(m:Nat):∀ps:kI (Int×(Int×Int)),ps.length=m->((jN kf ps).map (·.1)).Nodup/\∀n,(n∈(jN kf ps).map (·.1)↔nN kf ps n≠[])/\(dR n (jN kf ps)).getD []=nN kf ps n:=by
 induction m with
 |zero=>
  intro ps h;rw[jy.1 h];exact⟨yE,λn=>⟨by simp[jN,nN],rfl⟩⟩
 |succ m ih=>
  intro ps h;obtain⟨qs,p,rfl⟩:∃qs p,ps=qs++[p]:=⟨ps.dropLast,ps.getLast A4,(yF _).symm⟩
  obtain⟨h1,h2⟩:=ih qs AH;rw[Ji];unfold xS;cases hb:(kf p.2).2 with
  |false=>
   refine⟨h1,λn=>?_⟩;rw[ND,hb,if_neg An,gU];exact h2 n
  |true=>
   dsimp only[cond];rw[Fh];refine⟨?_,λn=>⟨?_,?_⟩⟩
   .split
    .exact h1
    .rename_i hn;rw[iT];exact⟨h1,An,λa ha b hb'=>by rw[bM.1 hb'];exact λe=>hn (e▸ha)⟩
   .rw[ND,hb];by_cases e:(kf p.2).1=n
    .have hc:(true&&decide ((kf p.2).1=n))=true:=by simp[e]
     rw[if_pos hc];split
     .rename_i hn;rw[e]at hn;exact⟨λ_=>by simp,λ_=>hn⟩
     .rw[e];exact⟨λ_=>by simp,λ_=>nA _ (bM.2 rfl)⟩
    .have hc:¬(true&&decide ((kf p.2).1=n))=true:=by simp[e]
     rw[if_neg hc,gU];split
     .exact(h2 n).1
     .rw[dX,(h2 n).1];simp only[bM];exact⟨λh=>h.resolve_right (λx=>e x.symm),.inl⟩
   .rw[zh,ND,hb];by_cases e:(kf p.2).1=n
    .rw[if_pos e.symm,if_pos B9,wQ,(h2 _).2,e]
    .rw[if_neg (λx=>e x.symm),if_neg B9,gU];exact(h2 n).2
def UM(kf:Int×Int->Int×Bool)(n:Int):nN kf (bB g) n=dP g.cells.length λc=>(kf (aic g c)).2&&decide ((kf (aic g c)).1=n):=by
 refine Js ?_ λc=>?_
 .unfold nN;rw[wS];refine List.Pairwise.filter _ ?_;rw[wT];intro i j hi hj hij;have h1:=xR (bP hi);have h2:=xR (bP hj);rw[h1,h2];omega
 .unfold nN;rw[eT];constructor
  .rintro⟨p,hp,rfl⟩;obtain⟨h1,h2⟩:=sP.1 hp;obtain⟨h3,h4⟩:=Fx.1 h1;rw[<- h4];exact⟨h3,h2⟩
  .rintro⟨h1,h2⟩;exact⟨(c,aic g c),sP.2 ⟨Fx.2 ⟨h1,rfl⟩,h2⟩,rfl⟩
def fG(lo:Int)(k:Nat):kI Int:=(List.range k).map λi:Nat=>lo+(i:Int)
def aeu(lo:Int)(k:Nat):fG lo (k+1)=fG lo k++[lo+(k:Int)]:=by
 unfold fG;rw[Gm,fP];rfl
def aev{lo:Int}:x∈fG lo k↔lo<=x/\x<lo+(k:Int):=by
 unfold fG;rw[eT];constructor
 .rintro⟨i,hi,rfl⟩;have:=ol.1 hi;omega
 .intro h;exact⟨(x - lo).toNat,ol.2 z7,z7⟩
def aew(lo:Int)(k:Nat):(fG lo k).Pairwise (·<·):=by
 unfold fG;exact n5
def zm(L:Int->kI Int)(lo:Int)(k:Nat):kI (kI Int):=((fG lo k).map L).filter λl=>!l.isEmpty
def UN(L:Int->kI Int)(lo:Int)(k:Nat):zm L lo (k+1)=zm L lo k++if L (lo+(k:Int))=[]then[]else[L (lo+(k:Int))]:=by
 unfold zm;rw[aeu,fP,Gi];congr 1;rw[sQ,Gd];cases h:L (lo+(k:Int))with
 |nil=>rfl
 |cons x l=>simp
def UO(kf:Int×Int->Int×Bool){lo:Int}{k:Nat}(hk:∀p∈bB g,(kf p.2).2=true->lo<=(kf p.2).1/\(kf p.2).1<lo+(k:Int)):jd g kf=zm (nN kf (bB g)) lo k:=by
 obtain⟨h1,h2⟩:=UL kf _ (bB g) rfl;have h3:bW ((jN kf (bB g)).map (·.1))=(fG lo k).filter λn=>!(nN kf (bB g) n).isEmpty:=by
  refine NC (Jp h1) (List.Pairwise.filter _ (aew lo k)) λn=>?_;rw[uU,(h2 n).1,sP,aev];have hne:((!(nN kf (bB g) n).isEmpty)=true)↔nN kf (bB g) n≠[]:=by
   cases nN kf (bB g) n<;>simp
  rw[hne];refine⟨λh=>⟨?_,h⟩,λh=>h.2⟩;obtain⟨c,hc⟩:=List.exists_mem_of_ne_nil _ h;unfold nN at hc;obtain⟨p,hp,_⟩:=eT.1 hc;obtain⟨hp1,hp2⟩:=sP.1 hp;simp only[afD,wP]at hp2;rw[<- hp2.2];exact hk p hp1 hp2.1
 unfold jd zm;rw[h3,List.filter_map];refine sN λn _=>?_;exact(h2 n).2
def Jt(c:Int×Int->Bool):jd g (λs=>(0,c s))=if dP g.cells.length (λb=>c (aic g b))=[]then[]else[dP g.cells.length λb=>c (aic g b)]:=by
 rw[UO (lo:=0) (k:=1) (λs=>(0,c s)) (λp _ _=>⟨Int.le_refl 0,z7⟩)];rw[show(1:Nat)=0+1 from rfl,UN];have e:nN (λs=>(0,c s)) (bB g) (0+((0:Nat):Int))=dP g.cells.length λb=>c (aic g b):=by
  rw[UM];congr 1;funext b
  simp
 rw[e];rfl
def aex(hg:fE g){k:Nat}{l:kI Int}(hl:(bJ g)[k]? =some l):bW (l++[(k:Int)])=dP g.cells.length λb=>decide (b=(k:Int))||decide (b∈l):=by
 have hk:k<g.cells.length:=by have:=(bq.1 hl).1;rwa [wm]at this
 have hls:∀c∈l,(0<=c/\c<(g.cells.length:Int)):=(Fv l (aZ hl)).2;have hlt:l.Pairwise (·<·):=by
  have:=UK hg hk;rw[hl]at this;rw[Option.some.inj this];exact Jr _ _
 have hkl:(k:Int)∉l:=λh=>by
  obtain⟨j,hj⟩:=uy.1 h;exact(aeb hg k l hl j k hj).2.2.1 rfl
 refine Js (Jp ?_) λc=>?_
 .rw[iT];exact⟨hlt.imp (λh=>by omega),An,λa ha b hb=>by rw[bM.1 hb];exact λe=>hkl (e▸ha)⟩
 .rw[uU,dX,bM];simp only[vG,wP];constructor
  .rintro(h|rfl)
   .exact⟨hls c h,.inr h⟩
   .exact⟨z7,.inl rfl⟩
  .rintro⟨_,h|h⟩
   .exact .inr h
   .exact .inl h
end Kd
namespace Kd
open Go Go.Ideal Canon
structure dF(n:Nat)(p:List Int):Prop where
 len:p.length=n
 fG:∀x∈p,0<=x/\x<(n:Int)
 nd:p.Nodup
variable{p:kI Int}{c:Int}
def rW(h0:0<=c)(h1:c<p.length):p[c.toNat]? =some (aB p c):=by
 unfold aB;rw[List.getD,bP z7];rfl
def NE(h0:0<=c)(h1:c<p.length):aB p c∈p:=aZ (rW h0 h1)
variable{n:Nat}
def dF.at_(h:dF n p){c:Int}(h0:0<=c)(h1:c<(n:Int)):0<=aB p c/\aB p c<(n:Int):=h.fG _ (NE h0 (by rw[h.len];exact h1))
variable{α:Type}
def C9{p:kI α}(h:p.Nodup){i j:Nat}{x:α}(hi:p[i]? =some x)(hj:p[j]? =some x):i=j:=by
 obtain⟨h1,h2⟩:=bq.1 hi;obtain⟨h3,h4⟩:=bq.1 hj;rcases PT i j with hl|hl|hl
 .exact absurd (h2.trans h4.symm) (wT.1 h i j h1 h3 hl)
 .exact hl
 .exact absurd (h4.trans h2.symm) (wT.1 h j i h3 h1 hl)
def dF.inj(h:dF n p){a b:Int}(a0:0<=a)(a1:a<(n:Int))(b0:0<=b)(b1:b<(n:Int))(e:aB p a=aB p b):a=b:=by
 have h1:=rW (p:=p) a0 (by rw[h.len];exact a1);have h2:=rW (p:=p) b0 (by rw[h.len];exact b1);rw[e]at h1;have:=C9 h.nd h1 h2;omega
def dF.mem(h:dF n p){y:Int}(y0:0<=y)(y1:y<(n:Int)):y∈p:=by
 apply Classical.byContradiction;intro hn;have h1:=Nz (l:=p) (m:=(upTo' n).erase y) h.nd (λx hx=>by
  have hne:x≠y:=λe=>hn (e▸hx);refine(PW hne).2 ?_;have:=h.fG x hx;unfold upTo';exact eT.2 ⟨x.toNat,ol.2 z7,z7⟩)
 have hy:y∈upTo' n:=by
  unfold upTo';exact eT.2 ⟨y.toNat,ol.2 z7,z7⟩
 have h2:=PU hy;have h3:0<(upTo' n).length:=PV hy;rw[lZ]at h2 h3;have h4:=h.len;omega
def dF.onto(h:dF n p){y:Int}(y0:0<=y)(y1:y<(n:Int)):∃c,0<=c/\c<(n:Int)/\aB p c=y:=by
 obtain⟨i,hi⟩:=jS (h.mem y0 y1);have:=(bq.1 hi).1;have h4:=h.len;refine⟨(i:Int),z7,z7,ji hi⟩
def iK(a b:kI Int):kI Int:=b.map (aB a)
def kG(p:kI Int):kI Int:=(List.range p.length).map λy:Nat=>((p.idxOf (y:Int):Nat):Int)
variable{a b:kI Int}
def wB(h0:0<=c)(h1:c<b.length):aB (iK a b) c=aB a (aB b c):=by
 unfold iK;have h:=rW h0 h1;have h2:(b.map (aB a))[c.toNat]? =some (aB a (aB b c)):=by rw[dm,h];rfl
 show(b.map (aB a)).getD c.toNat 0=_;exact j5 h2
variable{l:kI Int}
def NF{f:Int->Int}(h:l.Nodup)(hf:∀a∈l,∀b∈l,f a=f b->a=b):(l.map f).Nodup:=by
 unfold List.Nodup;rw[wS];exact List.Pairwise.imp_of_mem (λha hb hne e=>hne (hf _ ha _ hb e)) h
def dF.comp(ha:dF n a)(hb:dF n b):dF n (iK a b):=by
 refine⟨by unfold iK;rw[bY];exact hb.len,λx hx=>?_,?_⟩
 .unfold iK at hx;obtain⟨y,hy,rfl⟩:=eT.1 hx;have:=hb.fG y hy;exact ha.at_ this.1 this.2
 .unfold iK;exact NF hb.nd λx hx y hy e=>ha.inj (hb.fG x hx).1 (hb.fG x hx).2 (hb.fG y hy).1 (hb.fG y hy).2 e
def UQ(p:kI Int):(kG p).length=p.length:=by unfold kG;rw[bY,uu]
def aey{y:Int}(h0:0<=y)(h1:y<p.length):aB (kG p) y=((p.idxOf y:Nat):Int):=by
 obtain⟨m,rfl⟩:=jA h0;apply ji;unfold kG;rw[dm,pU z7];rfl
def dF.idx(h:dF n p){c:Int}(h0:0<=c)(h1:c<(n:Int)):((p.idxOf (aB p c):Nat):Int)=c:=by
 have hg:=rW (p:=p) h0 (by rw[h.len];exact h1);have hm:=aZ hg;have hl:=List.idxOf_lt_length_iff.2 hm;have h2:p[p.idxOf (aB p c)]? =some (aB p c):=by
  rw[bP hl,List.getElem_idxOf]
 have:=C9 h.nd hg h2;omega
def dF.uY(h:dF n p){c:Int}(h0:0<=c)(h1:c<(n:Int)):aB (kG p) (aB p c)=c:=by
 have:=h.at_ h0 h1;rw[aey this.1 (by rw[h.len];exact this.2),h.idx h0 h1]
def dF.Ju(h:dF n p){y:Int}(h0:0<=y)(h1:y<(n:Int)):aB p (aB (kG p) y)=y:=by
 obtain⟨c,c0,c1,rfl⟩:=h.onto h0 h1;rw[h.uY c0 c1]
def dF.inv(h:dF n p):dF n (kG p):=by
 refine⟨by rw[UQ];exact h.len,λx hx=>?_,?_⟩
 .obtain⟨i,hi⟩:=jS hx;have hl:=(bq.1 hi).1;rw[UQ,h.len]at hl;obtain⟨c,c0,c1,hc⟩:=h.onto (y:=(i:Int)) z7 z7;have:=h.uY c0 c1;rw[hc,ji hi]at this;omega
 .unfold kG;unfold List.Nodup;rw[wS];refine List.Pairwise.imp_of_mem (λ{a b} ha hb hne e=>hne ?_) List.nodup_range;have ha:=ol.1 ha;have hb:=ol.1 hb;rw[h.len]at ha hb;obtain⟨c,c0,c1,hc⟩:=h.onto (y:=(a:Int)) z7 z7;obtain⟨d,d0,d1,hd⟩:=h.onto (y:=(b:Int)) z7 z7;rw[<- hc,<- hd,h.idx c0 c1,h.idx d0 d1]at e;rw[e,hd]at hc;omega
def dF.ident(n:Nat):dF n (upTo' n):=by
 refine⟨lZ n,λx hx=>?_,UC n⟩;obtain⟨i,hi⟩:=jS hx;have hl:=(bq.1 hi).1;rw[lZ]at hl;rw[UD hi];omega
def zn(h0:0<=c)(h1:c<(n:Int)):aB (upTo' n) c=c:=by
 have h:=rW (p:=upTo' n) h0 (by rw[lZ];exact h1);have:=UD h;omega
def uZ{α:Type}(f:α->α):Nat->α->α
 |0,x=>x
 |t+1,x=>f (uZ f t x)
def Jv{m:Nat}{f:Nat->Nat}(hf:∀i,i<m->f i<m):∀t x,x<m->uZ f t x<m
 |0,_,h=>h
 |t+1,x,h=>hf _ (Jv hf t x h)
variable{m:Nat}{f:Nat->Nat}
def aez(hf:∀i,i<m->f i<m){j:Nat}(hj:j<m):∃a b,a<b/\uZ f a j=uZ f b j:=by
 apply Classical.byContradiction;intro hno;have h:=Uu m ((List.range (m+1)).map λt=>((uZ f t j:Nat):Int)) (by
  unfold List.Nodup;rw[wS];exact List.pairwise_lt_range.imp (λ{a b} hab e=>hno ⟨a,b,hab,Int.ofNat.inj e⟩)) (λx hx=>by
  obtain⟨t,_,rfl⟩:=eT.1 hx;have:=Jv hf t j hj;omega)
 rw[bY,uu]at h;omega
def UR{L:Nat->α}{S:α->α}{R:α->α->Prop}{D:α->Prop}(hD:∀i,i<m->D (L i))(hDS:∀x,D x->D (S x))(hr:∀x,R x x)(hs:∀x y,R x y->R y x)(ht:∀x y z,R x y->R y z->R x z)
 (hS:∀x y,D x->D y->(R (S x) (S y)↔R x y)) (hf:∀i,i<m->f i<m/\R (L (f i)) (S (L i))) {j:Nat} (hj:j<m):∃i,i<m/\R (L j) (S (L i)):=by
 have hf1:∀i,i<m->f i<m:=λi hi=>(hf i hi).1;have Jw:∀t,D (uZ S t (L j)):=λt=>by
  induction t with
  |zero=>exact hD j hj
  |succ t ih=>exact hDS _ ih
 have key:∀t,R (L (uZ f t j)) (uZ S t (L j)):=λt=>by
  induction t with
  |zero=>exact hr _
  |succ t ih=>
   have hl:=Jv hf1 t j hj;exact ht _ _ _ (hf _ hl).2 ((hS _ _ (hD _ hl) (Jw t)).2 ih)
 have cancel:∀a d,R (uZ S a (L j)) (uZ S (a+d) (L j))->R (L j) (uZ S d (L j)):=λa d=>by
  induction a with
  |zero=>intro h;rw[fo]at h;exact h
  |succ a ih=>
   intro h;rw[Nat.succ_add]at h;exact ih ((hS _ _ (Jw _) (Jw _)).1 h)
 obtain⟨a,b,hab,e⟩:=aez hf1 hj;have h1:=key a;have h2:=key b;rw[e]at h1;obtain⟨d,rfl⟩:∃d,b=a+(d+1):=⟨b - a - 1,z7⟩
 have h3:=cancel a (d+1) (ht _ _ _ (hs _ _ h1) h2);have hl:=Jv hf1 d j hj;exact⟨_,hl,ht _ _ _ h3 (hs _ _ ((hS _ _ (hD _ hl) (Jw d)).2 (key d)))⟩
def img(s:kI Int)(l:kI Int):kI Int:=l.map (aB s)
def iP(n:Nat)(l:kI Int):Prop:=∀c∈l,0<=c/\c<(n:Int)
def NG(s l:kI Int):(img s l).length=l.length:=by unfold img;rw[bY]
variable{s:kI Int}
def iP.img(h:dF n s){l:kI Int}(hl:iP n l):iP n (img s l):=by
 intro c hc;unfold Kd.img at hc;obtain⟨x,hx,rfl⟩:=eT.1 hc;exact h.at_ (hl x hx).1 (hl x hx).2
def UT{n:Nat}{s:kI Int}(h:dF n s):∀{a b:kI Int},iP n a->iP n b->img s a=img s b->a=b
 |[],[],_,_,_=>rfl
 |[],_::_,_,_,e=>by cases e
 |_::_,[],_,_,e=>by cases e
 |x::a,y::b,ha,hb,e=>by
  unfold img at e;rw[agO,agO]at e;injection e with e1 e2;have hx:=ha x (cB ..);have hy:=hb y (cB ..);rw[h.inj hx.1 hx.2 hy.1 hy.2 e1,UT h (λc hc=>ha c (cO _ hc)) (λc hc=>hb c (cO _ hc)) e2]
def Jy(h:dF n s){l:kI Int}(hl:iP n l):img (kG s) (img s l)=l:=by
 unfold img;rw[wR];conv=>rhs;rw[<- alU l]
 exact sN λc hc=>h.uY (hl c hc).1 (hl c hc).2
def Jz(hl:iP b.length l):img (iK a b) l=img a (img b l):=by
 unfold img;rw[wR];exact sN λc hc=>wB (hl c hc).1 (hl c hc).2
def JA(s:kI Int){a b:kI Int}(h:a.Perm b):(img s a).Perm (img s b):=h.map _
def aeB(h:dF n s){a b:kI Int}(ha:iP n a)(hb:iP n b)(e:(img s a).Perm (img s b)):a.Perm b:=by
 have:=JA (kG s) e
 rwa [Jy h ha,Jy h hb]at this
def NH(s l:kI Int):img s l.reverse=(img s l).reverse:=by unfold img;rw[List.map_reverse]
def aeC(h:dF n s){l:kI Int}(hl:iP n l)(hn:l.Nodup):(img s l).Nodup:=by
 unfold img;exact NF hn λa ha b hb e=>h.inj (hl a ha).1 (hl a ha).2 (hl b hb).1 (hl b hb).2 e
def JB(l:kI Int):(bW l).Perm l:=zT l _
def JC:bW a=bW b↔a.Perm b:=by
 constructor
 .intro e;exact(JB a).symm.trans (e▸JB b)
 .intro h;exact List.Perm.eq_of_pairwise (λx y _ _ h1 h2=>Int.le_antisymm h1 h2) (Nv a) (Nv b) ((JB a).trans (h.trans (JB b).symm))
end Kd
namespace Kd
open Go Go.Ideal Canon
def u7(f:Int):Bool:=decide (f=0)||decide (f=4)||decide (f=5)
def zo(L:kI (kI Int))(w:kI Int):Int:=match L.findIdx? (λx=>decide (bW x=bW w))with
 |some i=>(i:Int)
 |none=> -1
def lH(L:kI (kI Int))(s:kI Int)(f at_:Int):Int:=if u7 f then aB s at_ else zo L (img s (L.getD at_.toNat []))
def xV(a b:kI Int):Bool:=decide (bW a=bW b)
def Bb(a b:kI Int):Bool:=decide (a=b)
def Bc(a b:kI Int):Bool:=decide (a=b)||decide (a=b.reverse)
def NI(L:kI (kI Int))(s:kI Int)(f:Int)(eq:kI Int->kI Int->Bool)(l:kI Int)(j:Nat):Bool:=
 decide (0<=lH L s f (j:Int))&&(xV (L.getD (lH L s f (j:Int)).toNat []) (img s l)&&eq (L.getD (lH L s f (j:Int)).toNat []) (img s l))
def mZ(L:kI (kI Int))(s:kI Int)(f:Int)(eq:kI Int->kI Int->Bool):Bool:=L.zipIdx.all λx=>NI L s f eq x.1 x.2
def pI(aQ:kI (kI Int))(s:kI Int):Bool:=aQ.zipIdx.all λx=>x.1.all λb=>decide (aB s b∈aQ.getD (aB s (x.2:Int)).toNat [])
def qL(vals t:kI Int):Bool:=t.zipIdx.all λx=>decide (aB vals (x.2:Int)=aB vals x.1)
def xW(set other:Nat)(t:kI Int):Bool:=t.zipIdx.all λx=>decide (set.testBit x.2=set.testBit x.1.toNat)&&decide (other.testBit x.2=other.testBit x.1.toNat)
def zq(L:kI (kI Int)):Prop:=∀(i j:Nat) (a b:kI Int),L[i]? =some a->L[j]? =some b->a.Perm b->i=j
def Da{α:Type}{l:kI α}{p:α×Nat->Bool}:l.zipIdx.all p=true↔∀(i:Nat) x,l[i]? =some x->p (x,i)=true:=by
 rw[lK];constructor
 .intro h i x hx;exact h (x,i) (zU.2 hx)
 .rintro h ⟨x,i⟩ hx;exact h i x (zU.1 hx)
variable{a b:kI Int}
def Bd:xV a b=true↔a.Perm b:=by unfold xV;rw[lM];exact JC
def Fy:Bc a b=true↔a=b\/a=b.reverse:=by
 unfold Bc;rw[vG,lM,lM]
variable{L:kI (kI Int)}{w:kI Int}
def UU(h:0<=zo L w):∃l,L[(zo L w).toNat]? =some l/\l.Perm w:=by
 unfold zo at h⊢;cases hf:L.findIdx? (λx=>decide (bW x=bW w))with
 |none=>rw[hf]at h;exact absurd h AE
 |some i=>
  obtain⟨h1,h2,_⟩:=aoV.1 hf;refine⟨L[i],?_,JC.1 (iI h2)⟩;show L[((i:Nat):Int).toNat]? =_;rw[kJ];exact bP h1
variable{i:Nat}
def aeD{l:kI Int}(hD:zq L)(h:L[i]? =some l)(hp:l.Perm w):zo L w=(i:Int):=by
 have h0:0<=zo L w:=by
  unfold zo;cases hf:L.findIdx? (λx=>decide (bW x=bW w))with
  |none=>
   have:=List.findIdx?_eq_none_iff.1 hf l (aZ h);rw[decide_eq_false_iff_not]at this;exact absurd (JC.2 hp) this
  |some j=>show(0:Int)<=(j:Int);omega
 obtain⟨l',h1,h2⟩:=UU h0;have:=hD _ _ _ _ h h1 (hp.trans h2.symm);omega
structure pJ(n:Nat)(L:List (List Int))(f:Int):Prop where
 fG:∀l∈L,iP n l
 len:u7 f=true->L.length=n
 UW:u7 f=false->zq L
def Goes(L:kI (kI Int))(s:kI Int)(f:Int)(eq:kI Int->kI Int->Bool)(j i:Nat):Prop:=
 ∃l l',L[j]? =some l/\L[i]? =some l'/\l'.Perm (img s l)/\eq l' (img s l)=true/\(u7 f=true->(i:Int)=aB s (j:Int))
variable{n j:Nat}{s:kI Int}{f:Int}{eq:kI Int->kI Int->Bool}
def Goes.lH(hK:pJ n L f)(h:Goes L s f eq j i):lH L s f (j:Int)=(i:Int):=by
 obtain⟨l,l',h1,h2,h3,h4,h5⟩:=h;unfold Kd.lH;cases hb:u7 f with
 |true=>rw[if_pos rfl];exact(h5 hb).symm
 |false=>
  rw[if_neg An,kJ,j5 h1];exact aeD (hK.UW hb) h2 h3
def zu(hK:pJ n L f)(hs:dF n s):mZ L s f eq=true↔∀j,j<L.length->∃i,Goes L s f eq j i:=by
 unfold mZ;rw[Da];constructor
 .intro h j hj;have hl:L[j]? =some L[j]:=bP hj;have h1:=h j _ hl;dsimp only at h1;unfold NI at h1;rw[afD,afD,lM,Bd]at h1;obtain⟨a1,a2,a3⟩:=h1;have hlt:(lH L s f (j:Int)).toNat<L.length:=by
   cases hb:u7 f with
   |true=>
    have hn:=hK.len hb;have:Kd.lH L s f (j:Int)=aB s (j:Int):=by unfold Kd.lH;rw[if_pos hb]
    rw[this];have:=hs.at_ (c:=(j:Int)) z7 z7;omega
   |false=>
    have e:Kd.lH L s f (j:Int)=zo L (img s (L.getD (j:Int).toNat [])):=by unfold Kd.lH;rw[if_neg (by rw[hb];simp)]
    rw[e]at a1⊢;obtain⟨l,h2,_⟩:=UU a1;exact(bq.1 h2).1
  have hl':L[(lH L s f (j:Int)).toNat]? =some L[(lH L s f (j:Int)).toNat]:=bP hlt;rw[j5 hl']at a2 a3;refine⟨_,_,_,hl,hl',a2,a3,λhb=>?_⟩;have:Kd.lH L s f (j:Int)=aB s (j:Int):=by unfold Kd.lH;rw[if_pos hb]
  omega
 .intro h j l hl;obtain⟨i,hg⟩:=h j (bq.1 hl).1;have hw:=hg.lH hK;obtain⟨l0,l',h1,h2,h3,h4,h5⟩:=hg;rw[hl]at h1;cases h1;unfold NI;dsimp only;rw[hw,kJ,j5 h2,h4,Bd.2 h3];simp
def Goes.lt(h:Goes L s f eq j i):j<L.length/\i<L.length:=by
 obtain⟨l,l',h1,h2,_⟩:=h;exact⟨(bq.1 h1).1,(bq.1 h2).1⟩
def Goes.inj{eq':kI Int->kI Int->Bool}{j':Nat}(hK:pJ n L f)(hs:dF n s)(h:Goes L s f eq j i)(h':Goes L s f eq' j' i):j=j':=by
 have hl:=h.lt;have hl':=h'.lt;obtain⟨a,b,h1,h2,h3,h4,h5⟩:=h;obtain⟨a',b',k1,k2,k3,k4,k5⟩:=h';rw[h2]at k2;cases k2;cases hb:u7 f with
 |true=>
  have hn:=hK.len hb;have:=hs.inj (a:=(j:Int)) (b:=(j':Int)) z7 z7 z7 z7 ((h5 hb).symm.trans (k5 hb));omega
 |false=>exact hK.UW hb _ _ _ _ h1 k1 (aeB hs (hK.fG _ (aZ h1)) (hK.fG _ (aZ k1)) (h3.symm.trans k3))
def aeE(hK:pJ n L f)(hs:dF n s)(h:∀j,j<L.length->∃i,Goes L s f eq j i){i:Nat}(hi:i<L.length):∃j,Goes L s f eq j i:=by
 have hc:∀j,∃i,j<L.length->Goes L s f eq j i:=λj=>by
  by_cases hj:j<L.length
  .obtain⟨i,hg⟩:=h j hj;exact⟨i,λ_=>hg⟩
  .exact⟨0,λh=>absurd h hj⟩
 have hf:∀j,j<L.length->Goes L s f eq j (Classical.choose (hc j)):=λj=>amO (hc j);obtain⟨j,hj,e⟩:=UR (m:=L.length) (L:=λi:Nat=>i) (S:=λj=>if j<L.length then Classical.choose (hc j)else j) (R:=λa b:Nat=>a=b) (D:=λj=>j<L.length) (f:=λj=>if j<L.length then Classical.choose (hc j)else j)
  (λi hi=>hi) (λx hx=>by rw[if_pos hx];exact(hf x hx).lt.2) (λ_=>rfl) (λ_ _ e=>e.symm) (λ_ _ _ e e'=>e.trans e')
  (λx y hx hy=>by
    rw[if_pos hx,if_pos hy];constructor
    .intro e;have h2:=hf y hy;rw[<- e]at h2;exact(hf x hx).inj hK hs h2
    .intro e;rw[e])
  (λi hi=>⟨by rw[if_pos hi];exact(hf i hi).lt.2,rfl⟩) hi
 rw[if_pos hj]at e;refine⟨j,?_⟩;rw[e];exact hf j hj
def wC(n:Nat)(aQ:kI (kI Int)):Prop:=aQ.length=n/\∀l∈aQ,iP n l
def Nb(aQ:kI (kI Int))(a b:Int):Prop:=∃l,0<=a/\aQ[a.toNat]? =some l/\b∈l
variable{aQ:kI (kI Int)}
def Db(hN:wC n aQ)(hs:dF n s):pI aQ s=true↔∀a b,Nb aQ a b->Nb aQ (aB s a) (aB s b):=by
 unfold pI;rw[Da];constructor
 .rintro h a b ⟨l,h0,h1,h2⟩;have hl:=(bq.1 h1).1;have h3:=h _ _ h1;rw[lK]at h3;have h4:=iI (h3 b h2);rw[vM h0]at h4;have hn:=hN.1;have hr:=hs.at_ h0 (by omega:a<(n:Int));have h5:aQ[(aB s a).toNat]? =some (aQ[(aB s a).toNat]'(z7)):=bP _;rw[j5 h5]at h4;exact⟨_,hr.1,h5,h4⟩
 .intro h i l hl;rw[lK];intro b hb;have h1:=h (i:Int) b ⟨l,z7,by rw[kJ];exact hl,hb⟩;obtain⟨l',_,h3,h4⟩:=h1;rw[j5 h3];exact dK h4
def Nb.fG(hN:wC n aQ){a b:Int}(h:Nb aQ a b):(0<=a/\a<(n:Int))/\0<=b/\b<(n:Int):=by
 obtain⟨l,h0,h1,h2⟩:=h;have hl:=(bq.1 h1).1;have:=hN.1;exact⟨⟨h0,z7⟩,hN.2 l (aZ h1) b h2⟩
def qM(aQ:kI (kI Int)):kI (Int×Int):=aQ.zipIdx.flatMap λx=>x.1.map λb=>((x.2:Int),b)
def NJ{a b:Int}:(a,b)∈qM aQ↔Nb aQ a b:=by
 unfold qM;rw[List.mem_flatMap];constructor
 .rintro⟨⟨l,i⟩,hx,h⟩;obtain⟨c,hc,e⟩:=eT.1 h;cases e;have:=zU.1 hx;exact⟨l,z7,by rw[kJ];exact this,hc⟩
 .rintro⟨l,h0,h1,h2⟩;refine⟨(l,a.toNat),zU.2 h1,eT.2 ⟨b,h2,?_⟩⟩;rw[vM h0]
def UX(hN:wC n aQ)(hs:dF n s)(h:∀a b,Nb aQ a b->Nb aQ (aB s a) (aB s b)){a b:Int}(hab:Nb aQ a b):∃c d,Nb aQ c d/\aB s c=a/\aB s d=b:=by
 have hmem:=NJ.2 hab;obtain⟨j,hj⟩:=jS hmem;have hjl:=(bq.1 hj).1;have hnb:∀i,i<(qM aQ).length->Nb aQ ((qM aQ).getD i (0,0)).1 ((qM aQ).getD i (0,0)).2:=λi hi=>by
  have hx:(qM aQ)[i]? =some (qM aQ)[i]:=bP hi;rw[j5 hx];exact NJ.1 (aZ hx)
 have hc:∀i,∃i',i<(qM aQ).length->(qM aQ)[i']? =some (aB s ((qM aQ).getD i (0,0)).1,aB s ((qM aQ).getD i (0,0)).2):=λi=>by
  by_cases hi:i<(qM aQ).length
  .obtain⟨i',hi'⟩:=jS (NJ.2 (h _ _ (hnb i hi)));exact⟨i',λ_=>hi'⟩
  .exact⟨0,λh=>absurd h hi⟩
 obtain⟨i,hi,e⟩:=UR (m:=(qM aQ).length) (L:=λi:Nat=>(qM aQ).getD i (0,0)) (S:=λp:Int×Int=>(aB s p.1,aB s p.2)) (R:=λa b=>a=b) (D:=λp=>(0<=p.1/\p.1<(n:Int))/\0<=p.2/\p.2<(n:Int)) (f:=λi=>Classical.choose (hc i))
  (λi hi=>(hnb i hi).fG hN) (λp hp=>⟨hs.at_ hp.1.1 hp.1.2,hs.at_ hp.2.1 hp.2.2⟩) (λ_=>rfl) (λ_ _ e=>e.symm) (λ_ _ _ e e'=>e.trans e')
  (λx y hx hy=>by
    constructor
    .intro e;obtain⟨x1,x2⟩:=x;obtain⟨y1,y2⟩:=y;dsimp only at e hx hy;injection e with e1 e2;rw[hs.inj hx.1.1 hx.1.2 hy.1.1 hy.1.2 e1,hs.inj hx.2.1 hx.2.2 hy.2.1 hy.2.2 e2]
    .intro e;rw[e])
  (λi hi=>by
    exact xf) hjl
 rw[j5 hj]at e;injection e with e1 e2;exact⟨_,_,hnb i hi,e1.symm,e2.symm⟩
end Kd
namespace Kd
open Go Go.Ideal Canon Gph
def xX:Nat->kI Bool->kI Int
 |n,[]=>if 0<n then[(n:Int)]else[]
 |n,b::bs=>if b then xX (n+1) bs else if 0<n then(n:Int)::xX 0 bs else xX 0 bs
def aeF(n:Nat)(l:kI Bool):xX n (true::l)=xX (n+1) l:=rfl
def aeG(n:Nat)(l:kI Bool):xX n (false::l)=if 0<n then(n:Int)::xX 0 l else xX 0 l:=rfl
variable{g:kI (kI Int)}
def Nb.rch{bG:kI Bool}{s a b:Int}(h:kV g bG s a)(hab:Nb g a b)(hi:eP bG b=true):kV g bG s b:=by
 obtain⟨l,h0,h1,h2⟩:=hab;exact .step h h1 h2 hi
variable{mk mk':kI Bool}{n:Nat}{s:kI Int}
def aeH(hN:wC n g)(hmk:∀c,0<=c->c<(n:Int)->eP mk' (aB s c)=eP mk c)(hnb:∀a b,Nb g a b->Nb g (aB s a) (aB s b)){a b:Int}(ha:0<=a/\a<(n:Int))(h:kV g mk a b):(0<=b/\b<(n:Int))/\kV g mk' (aB s a) (aB s b):=by
 induction h with
 |refl=>exact⟨ha,.refl⟩
 |step h hl hn hi ih=>
  rename_i i m l;have hab:Nb g i m:=⟨l,ih.1.1,hl,hn⟩
  have hr:=hab.fG hN;exact⟨hr.2,(hnb _ _ hab).rch ih.2 (by rw[hmk _ hr.2.1 hr.2.2];exact hi)⟩
def Joined(g:kI (kI Int))(mk:kI Bool):Prop:=∀a b:Nat,a<g.length->b<g.length->eP mk a=true->eP mk b=true->kV g mk a b
def NK{mk:kI Bool}:∀(n a:Nat),a<n->eP mk a=true->∃f,f<n/\eP mk (f:Nat)=true/\∀j,j<f->eP mk (j:Nat)=false
 |0,a,h,_=>by omega
 |n+1,a,h,hm=>by
  by_cases hex:∃a',a'<n/\eP mk (a':Nat)=true
  .obtain⟨a',h1,h2⟩:=hex;obtain⟨f,h3,h4⟩:=NK n a' h1 h2;exact⟨f,z7,h4⟩
  .have hno:∀j,j<n->eP mk (j:Nat)=false:=λj hj=>by
    exact td
   have:a=n:=by
    apply Classical.byContradiction;intro hne;rw[hno a z7]at hm;cases hm
   subst this;exact⟨a,z7,hm,hno⟩
def JD{g:kI (kI Int)}{mk:kI Bool}:∀k,(∀j,j<k->eP mk (j:Nat)=false)->cnt g mk k=0
 |0,_=>rfl
 |k+1,h=>by rw[cnt,JD k (λj hj=>h j z7),if_neg (λq=>by rw[h k z7]at q;cases q.1)]
def cnt_mono{g:kI (kI Int)}{mk:kI Bool}:∀k d,cnt g mk k<=cnt g mk (k+d)
 |k,0=>bT _
 |k,d+1=>by have:=cnt_mono (g:=g) (mk:=mk) k d;rw[<- qw,cnt];omega
def UY{f:Nat}(hf:f<g.length)(hin:eP mk f=true)(xI:∀j,j<f->eP mk (j:Nat)=false):1<=cnt g mk g.length:=by
 have h1:cnt g mk (f+1)=1:=by
  rw[cnt,JD f xI,if_pos ⟨hin,λ⟨j,h1,h2,_⟩=>by rw[xI j h1]at h2;cases h2⟩]
 have:=cnt_mono (g:=g) (mk:=mk) (f+1) (g.length - (f+1));rw[show f+1+(g.length - (f+1))=g.length by omega]at this;omega
def UZ(hS:Gph.mU g):(lF g mk g.length).2=0↔∀a,a<g.length->eP mk (a:Nat)=false:=by
 rw[M9 hS.rg _ (bT _)];constructor
 .intro h a ha;cases he:eP mk (a:Nat)with
  |false=>rfl
  |true=>
   obtain⟨f,h1,h2,h3⟩:=NK g.length a ha he;have:=UY h1 h2 h3;omega
 .exact JD _
def U0(hS:Gph.mU g):(lF g mk g.length).2<=1↔Joined g mk:=by
 rw[M9 hS.rg _ (bT _)];by_cases hex:∃a,a<g.length/\eP mk (a:Nat)=true
 .obtain⟨a,ha,hm⟩:=hex;obtain⟨f,h1,h2,h3⟩:=NK g.length a ha hm;have hp:=UY h1 h2 h3;have h4:=adL hS h1 h2 h3;constructor
  .intro h x y hx hy mx my;have h5:=h4.1 z7;exact((h5 x hx mx).symm hS ⟨z7,z7⟩ h2).trans (h5 y hy my)
  .intro h;have:=h4.2 λi hi mi=>h f i h1 hi h2 mi;omega
 .have h0:∀j,j<g.length->eP mk (j:Nat)=false:=λj hj=>by
   exact td
  rw[JD _ h0];exact⟨λ_ x y hx _ mx _=>(by rw[h0 x hx]at mx;cases mx),λ_=>bR _⟩
def U4(hN:wC n g)(hs:dF n s)(hmk:∀c,0<=c->c<(n:Int)->eP mk' (aB s c)=eP mk c)(hnb:∀a b,Nb g a b->Nb g (aB s a) (aB s b))(h:Joined g mk):Joined g mk':=by
 intro a b ha hb ma mb;have hn:=hN.1;obtain⟨c,c0,c1,hc⟩:=hs.onto (y:=(a:Int)) z7 z7;obtain⟨d,d0,d1,hd⟩:=hs.onto (y:=(b:Int)) z7 z7;rw[<- hc,hmk c c0 c1]at ma;rw[<- hd,hmk d d0 d1]at mb;obtain⟨cn,rfl⟩:=jA c0;obtain⟨dn,rfl⟩:=jA d0;have:=(aeH hN hmk hnb ⟨c0,c1⟩ (h cn dn z7 z7 ma mb)).2;rw[hc,hd]at this;exact this
structure vo(n:Nat)(g:List (List Int))(s:List Int)(mk mk':List Bool):Prop where
 oJ:Gph.mU g
 aQ:wC n g
 nd:∀l∈g,l.Nodup
 ps:dF n s
 marks:∀c,0<=c->c<(n:Int)->eP mk' (aB s c)=eP mk c
 keep:∀a b,Nb g a b->Nb g (aB s a) (aB s b)
def vo.back(h:vo n g s mk mk'):vo n g (kG s) mk' mk:=by
 refine⟨h.oJ,h.aQ,h.nd,h.ps.inv,λc c0 c1=>?_,λa b hab=>?_⟩
 .have:=h.ps.inv.at_ c0 c1;rw[<- h.marks _ this.1 this.2,h.ps.Ju c0 c1]
 .obtain⟨c,d,hcd,rfl,rfl⟩:=UX h.aQ h.ps h.keep hab;have hr:=hcd.fG h.aQ;rw[h.ps.uY hr.1.1 hr.1.2,h.ps.uY hr.2.1 hr.2.2];exact hcd
def vo.few(h:vo n g s mk mk'):(lF g mk g.length).2<=1↔(lF g mk' g.length).2<=1:=by
 rw[U0 h.oJ,U0 h.oJ];exact⟨U4 h.aQ h.ps h.marks h.keep,U4 h.back.aQ h.back.ps h.back.marks h.back.keep⟩
def vo.U5(h:vo n g s mk mk')(h0:∀a,a<g.length->eP mk' (a:Nat)=false):∀a,a<g.length->eP mk (a:Nat)=false:=by
 intro a ha;have hn:=h.aQ.1;have hr:=h.ps.at_ (c:=(a:Int)) z7 z7;rw[<- h.marks (a:Int) z7 z7];have:=h0 (aB s a).toNat z7
 rwa [vM hr.1]at this
def vo.zero(h:vo n g s mk mk'):(lF g mk g.length).2=0↔(lF g mk' g.length).2=0:=by
 rw[UZ h.oJ,UZ h.oJ];exact⟨h.back.U5,h.U5⟩
def aeI{a b:kI Int}(ha:a.Nodup)(hb:b.Nodup)(h:∀x,x∈a↔x∈b):a.Perm b:=by
 refine List.perm_iff_count.2 λx=>?_;have h1:=List.nodup_iff_count.1 ha x;have h2:=List.nodup_iff_count.1 hb x;have h3:=List.count_pos_iff (a:=x) (l:=a);have h4:=List.count_pos_iff (a:=x) (l:=b);have h5:=h x;by_cases hx:x∈a
 .have:=h3.2 hx;have:=h4.2 (h5.1 hx);omega
 .have k1:¬0<List.count x a:=λq=>hx (h3.1 q);have k2:¬0<List.count x b:=λq=>hx (h5.2 (h4.1 q));omega
def NL{n:Nat}{s:kI Int}{p q:Int->Bool}:∀{l:kI Int},iP n l->(∀c,0<=c->c<(n:Int)->q (aB s c)=p c)->((img s l).filter q).length=(l.filter p).length
 |[],_,_=>rfl
 |c::l,hl,h=>by
  have hc:=hl c (cB ..);have ih:=NL (l:=l) (λx hx=>hl x (cO _ hx)) h;unfold img at ih⊢;rw[agO,Gd,Gd,h c hc.1 hc.2];split
  .rw[oP,oP,ih]
  .exact ih
def U6(mk:kI Bool)(n:Nat):Jb mk n=((upTo' n).filter (eP mk)).length:=by
 unfold Jb upTo';rw[List.filter_map,bY];rfl
def vo.size(h:vo n g s mk mk'):Jb mk g.length=Jb mk' g.length:=by
 have hn:=h.aQ.1;rw[hn,U6,U6];have hid:=dF.ident n;have hin:iP n (upTo' n):=λc hc=>hid.fG c hc;have h1:=NL (n:=n) (s:=s) (p:=eP mk) (q:=eP mk') hin h.marks;have h2:(img s (upTo' n)).Perm (upTo' n):=aeI (aeC h.ps hin hid.nd) hid.nd λx=>by
  constructor
  .intro hx;have:=(iP.img h.ps hin) x hx;exact hid.mem this.1 this.2
  .intro hx;have:=hid.fG x hx;obtain⟨c,c0,c1,rfl⟩:=h.ps.onto this.1 this.2;exact eT.2 ⟨c,hid.mem c0 c1,rfl⟩
 rw[<- h1,(h2.filter (eP mk')).length_eq]
end Kd
namespace Kd
open Go Go.Ideal Canon
variable{L:kI (kI Int)}
def U7(hn:L.Nodup)(hs:∀l∈L,l.Pairwise (·<·)):zq L:=by
 intro i j a b ha hb hp;have e:a=b:=List.Perm.eq_of_pairwise (λx y _ _ h1 h2=>by omega) (hs a (aZ ha)) (hs b (aZ hb)) hp;subst e;exact C9 hn ha hb
def aeJ{α:Type}{K:kI α}{F:α->kI Int}(hn:K.Nodup)(h:∀a∈K,∀b∈K,(F a).Perm (F b)->a=b):zq (K.map F):=by
 intro i j a b ha hb hp;rw[dm]at ha hb;obtain⟨x,hx,rfl⟩:=kg.1 ha;obtain⟨y,hy,rfl⟩:=kg.1 hb;have:=h x (aZ hx) y (aZ hy) hp;subst this;exact C9 hn hx hy
variable{g:bz}
def NM(hg:fE g)(kf:Int×Int->Int×Bool):zq (jd g kf):=by
 obtain⟨h1,h2⟩:=UL kf _ (bB g) rfl;unfold jd;refine aeJ (aed h1) λa ha b hb hp=>?_;rw[uU]at ha hb;rw[(h2 a).2,(h2 b).2]at hp;have hne:=(h2 a).1.1 ha;cases hl:nN kf (bB g) a with
 |nil=>exact absurd hl hne
 |cons c l=>
  have hc:c∈nN kf (bB g) a:=by rw[hl];exact cB ..
  have hc':=hp.mem_iff.1 hc;unfold nN at hc hc';obtain⟨p,hp1,hp2⟩:=eT.1 hc;obtain⟨q,hq1,hq2⟩:=eT.1 hc';obtain⟨p3,p4⟩:=sP.1 hp1;obtain⟨q3,q4⟩:=sP.1 hq1;have e:=Fw hg p3 q3 (.inl (hp2.trans hq2.symm));subst e;rw[afD,lM]at p4 q4;exact p4.2.symm.trans q4.2
def Dc(h:L.length<=1):zq L:=by
 intro i j a b ha hb _;have h1:=(bq.1 ha).1;have h2:=(bq.1 hb).1;omega
def aeK(hg:fE g):zq (lY g):=by
 unfold lY;split
 .exact NM hg _
 split
 .rw[Jt,Jt];generalize hA:dP g.cells.length (λb=>decide ((aic g b).1=(aic g b).2))=A;generalize hB:dP g.cells.length (λb=>decide ((aic g b).1+(aic g b).2=g.w - 1))=B;have iA:A.Pairwise (·<·):=by rw[<- hA];exact Jr _ _
  have iB:B.Pairwise (·<·):=by rw[<- hB];exact Jr _ _
  by_cases a0:A=[]
  .rw[if_pos a0];by_cases b0:B=[]
   .rw[if_pos b0];exact Dc (by simp[jO])
   .rw[if_neg b0];exact Dc (by simp[jO,uf])
  .rw[if_neg a0];by_cases b0:B=[]
   .rw[if_pos b0];exact Dc (by simp[jO])
   .rw[if_neg b0];by_cases e:A=B
    .refine Dc ?_;simp[jO,uf,e]
    .have:jO [A] [B]=[A,B]:=by simp[jO,uf,e]
     rw[this];refine U7 B9 λl hl=>?_;simp only[dx,Kj,or_false]at hl;rcases hl with rfl|rfl
     .exact iA
     .exact iB
 .exact Dc An
def aeL(hg:fE g):zq (ik (bJ g)):=by
 refine U7 ?_ λl hl=>?_
 .unfold ik;unfold List.Nodup;rw[List.pairwise_flatMap];refine⟨λx hx=>?_,?_⟩
  .have hx:=aZ (zU.1 (show(x.1,x.2)∈_ from hx));unfold jh;rw[wS];obtain⟨p,_,hp⟩:=eT.1 (show x.1∈bJ g from hx);have hnd:x.1.Nodup:=by rw[<- hp];exact aec hg p
   exact(List.Pairwise.filter _ hnd).imp λ{a b} hne e=>hne (by injection e with _ e;injection e)
  .have hz:∀(l:kI (kI Int)) (n:Nat),(l.zipIdx n).Pairwise λa b=>a.2<b.2:=by
    intro l;induction l with
    |nil=>intro n;exact List.Pairwise.nil
    |cons a l ih=>
     intro n;rw[List.zipIdx_cons,qx];refine⟨λx hx=>?_,ih (n+1)⟩;have:=List.le_snd_of_mem_zipIdx hx;show n<x.2;omega
   refine(hz (bJ g) 0).imp λ{a b} h x hx y hy e=>?_;unfold jh at hx hy;obtain⟨u,_,rfl⟩:=eT.1 hx;obtain⟨v,_,rfl⟩:=eT.1 hy;injection e with e _;omega
 .obtain⟨i,x,j,_,_,h,rfl⟩:=aee hl;simp[h]
def aeM(hg:fE g)(k:Int):pJ g.cells.length (dM g k) k:=by
 refine⟨λl hl=>(ad3 hg k l hl).2,λhb=>?_,λhb=>?_⟩
 .unfold u7 at hb;simp only[vG,lM]at hb;rcases hb with(rfl|rfl)|rfl
  .show(kW g.cells.length).length=_;exact Jj _
  .show(bJ g).length=_;exact wm g
  .show(l5 (bJ g)).length=_;rw[Nk];exact wm g
 .unfold u7 at hb;simp only[Bool.or_eq_false_iff,decide_eq_false_iff_not]at hb;unfold dM;rw[if_neg hb.1.1];split
  .exact NM hg _
  split
  .exact NM hg _
  split
  .exact aeK hg
  rw[if_neg hb.1.2,if_neg hb.2];split
  .exact aeL hg
  .exact Dc An
def aeN(hg:fE g){rs:kI (kI Int)}(hr:CZ g rs)(hn:(rs.map bW).Nodup)(k:Int)(hk:u7 k=false):pJ g.cells.length (dW g rs) k:=by
 refine⟨λl hl=>(ad4 hg hr l hl).2,(λhb=>by rw[hk]at hb;cases hb),λ_=>?_⟩;intro i j a b ha hb hp;unfold dW at ha hb;rw[dm]at ha hb;obtain⟨x,hx,rfl⟩:=kg.1 ha;obtain⟨y,hy,rfl⟩:=kg.1 hb;have back:∀z∈rs,(eZ g z).map (λn=>g.cells.getD n.toNat 0)=z:=λz hz=>by
  unfold eZ;rw[wR];conv=>rhs;rw[<- alU z]
  refine sN λc hc=>?_;have hm:=(hr.all z hz).mem c hc;have l6:g.cells.Pairwise (·<·):=DM
  obtain⟨m,hm2⟩:=jS hm;show g.cells.getD ((ww c g.cells:Nat):Int).toNat 0=c;rw[kJ,Jk l6 hm2];exact j5 hm2
 have h1:=hp.map (λn=>g.cells.getD n.toNat 0);rw[back x (aZ hx),back y (aZ hy)]at h1;have h2:=JC.2 h1;have h3:(rs.map bW)[i]? =some (bW x):=by rw[dm,hx];rfl
 have h4:(rs.map bW)[j]? =some (bW x):=by rw[dm,hy,h2];rfl
 exact C9 hn h3 h4
def aeO{d:bF}(hg:fE (aT d))(hr:∀r∈d.regions,CZ (aT d) r.lists/\(r.lists.map bW).Nodup){f:Nat}{L:kI (kI Int)}(h:(oI d)[f]? =some L):pJ (aT d).cells.length L (f:Int):=by
 unfold oI at h;by_cases hf:f<8
 .rw[qp (by rw[bY,uu];exact hf),dm,pU hf]at h;cases h;exact aeM hg _
 .rw[pR (by rw[bY,uu];omega),dm]at h;obtain⟨r,hr2,rfl⟩:=kg.1 h;have:=hr r (aZ hr2);refine aeN hg this.1 this.2 _ ?_;unfold u7;simp only[Bool.or_eq_false_iff,decide_eq_false_iff_not];omega
end Kd
namespace Kd
open Go Go.Ideal Canon
structure Grp(n:Nat)(G:List (List Int)):Prop where
 perm:∀a∈G,dF n a
 one:upTo' n∈G
 comp:∀a∈G,∀b∈G,iK a b∈G
 inv:∀a∈G,kG a∈G
section
variable {n:Nat} {a b c:kI Int}
def dF.inr(h:dF n a):iP n a:=h.fG
def aaC(hb:dF n b)(hc:dF n c):iK (iK a b) c=iK a (iK b c):=by
 show img (iK a b) c=img a (img b c);exact Jz (by rw[hb.len];exact hc.inr)
def akU(h:dF n a):iK a (upTo' n)=a:=by
 apply iY;intro i;show((upTo' n).map (aB a))[i]? =_;rw[dm];by_cases hi:i<n
 .have h1:=rW (p:=upTo' n) (c:=(i:Int)) z7 B1;have h2:=rW (p:=a) (c:=(i:Int)) z7 DP;rw[kJ]at h1 h2;rw[h1,h2,zn z7 z7];rfl
 .rw[fO B1,fO DP];rfl
def akT(h:dF n a):iK (upTo' n) a=a:=by
 show a.map (aB (upTo' n))=a;conv=>rhs;rw[<- alU a]
 exact sN λx hx=>zn (h.fG x hx).1 (h.fG x hx).2
def af6(h:dF n a):iK a (kG a)=upTo' n:=by
 apply iY;intro i;show((kG a).map (aB a))[i]? =_;rw[dm];have hl:(kG a).length=n:=h.inv.len;by_cases hi:i<n
 .have h1:=rW (p:=upTo' n) (c:=(i:Int)) z7 B1;have h2:=rW (p:=kG a) (c:=(i:Int)) z7 z7;rw[kJ]at h1 h2;rw[h1,h2,zn z7 z7];show some (aB a (aB (kG a) (i:Int)))=_;rw[h.Ju z7 z7]
 .rw[fO (by rw[hl];omega),fO B1];rfl
def af7(h:dF n a):iK (kG a) a=upTo' n:=by
 apply iY;intro i;show(a.map (aB (kG a)))[i]? =_;rw[dm];by_cases hi:i<n
 .have h1:=rW (p:=upTo' n) (c:=(i:Int)) z7 B1;have h2:=rW (p:=a) (c:=(i:Int)) z7 DP;rw[kJ]at h1 h2;rw[h1,h2,zn z7 z7];show some (aB (kG a) (aB a (i:Int)))=_;rw[h.uY z7 z7]
 .rw[fO DP,fO B1];rfl
def abt(ha:dF n a)(hb:dF n b)(hc:dF n c)(e:iK a b=iK a c):b=c:=by
 have h1:iK (kG a) (iK a b)=iK (kG a) (iK a c):=A1
 rwa [<- aaC ha hb,<- aaC ha hc,af7 ha,akT hb,akT hc]at h1
end
structure aay(n:Nat)(aas l:List (List Int))(k:Nat):Prop where
 gp:∀g∈aas,dF n g
 nd:l.Nodup
 first:l[0]? =some (upTo' n)
 der:∀(i:Nat) p,l[i]? =some p->i=0\/∃(j:Nat) (g q:List Int),j<i/\g∈aas/\l[j]? =some q/\p=iK g q
 done:∀(i:Nat) q,i<k->l[i]? =some q->∀g∈aas,iK g q∈l
variable{n k:Nat}{l aas:kI (kI Int)}
def aay.perm(h:aay n aas l k):∀(i:Nat) p,l[i]? =some p->dF n p:=by
 intro i;induction i using Nat.strongRecOn with
 |_ i ih=>
  intro p hp;rcases h.der i p hp with e|⟨j,g,q,hj,hg,hq,rfl⟩
  .subst e;rw[h.first]at hp;cases hp;exact dF.ident n
  .exact(h.gp g hg).comp (ih j hj q hq)
def aay.all(h:aay n aas l k){P:kI Int->Prop}(h1:P (upTo' n))(h2:∀g∈aas,∀q,dF n q->P q->P (iK g q)):∀p∈l,P p:=by
 have key:∀(i:Nat) p,l[i]? =some p->P p:=by
  intro i;induction i using Nat.strongRecOn with
  |_ i ih=>
   intro p hp;rcases h.der i p hp with e|⟨j,g,q,hj,hg,hq,rfl⟩
   .subst e;rw[h.first]at hp;cases hp;exact h1
   .exact h2 g hg q (h.perm j q hq) (ih j hj q hq)
 intro p hp;obtain⟨i,hi⟩:=jS hp;exact key i p hi
def aay.mul(h:aay n aas l l.length){b:kI Int}(hb:b∈l):∀(i:Nat) a,l[i]? =some a->iK a b∈l:=by
 obtain⟨jb,hjb⟩:=jS hb;have hbp:=h.perm jb b hjb;intro i;induction i using Nat.strongRecOn with
 |_ i ih=>
  intro a ha;rcases h.der i a ha with e|⟨j,g,q,hj,hg,hq,rfl⟩
  .subst e;rw[h.first]at ha;cases ha;rw[akT hbp];exact hb
  .rw[aaC (h.perm j q hq) hbp];obtain⟨m,hm⟩:=jS (ih j hj q hq);exact h.done m _ (bq.1 hm).1 hm g hg
def af8(hp:∀a∈l,dF n a)(h1:upTo' n∈l)(hm:∀a∈l,∀b∈l,iK a b∈l){a:kI Int}(ha:a∈l):kG a∈l:=by
 have hap:=hp a ha;have hmem:∀i,i<l.length->l.getD i []∈l:=λi hi=>by
  rw[j5 (bP hi)];exact vF _
 have hc:∀i,∃i',i<l.length->l[i']? =some (iK a (l.getD i [])):=λi=>by
  by_cases hi:i<l.length
  .obtain⟨i',h⟩:=jS (hm a ha _ (hmem i hi));exact⟨i',λ_=>h⟩
  .exact⟨0,λh=>absurd h hi⟩
 obtain⟨j,hj⟩:=jS h1;obtain⟨i,hi,e⟩:=UR (m:=l.length) (L:=λi:Nat=>l.getD i []) (S:=λb=>iK a b) (R:=λx y=>x=y) (D:=λb=>dF n b) (f:=λi=>Classical.choose (hc i))
  (λi hi=>hp _ (hmem i hi)) (λb hb=>hap.comp hb) (λ_=>rfl) (λ_ _ e=>e.symm) (λ_ _ _ e e'=>e.trans e')
  (λx y hx hy=>⟨λe=>abt hap hx hy e,λe=>by rw[e]⟩)
  (λi hi=>by
    exact xf) (bq.1 hj).1
 rw[j5 hj]at e;have hb:=hmem i hi;have:kG a=l.getD i []:=by
  refine abt hap hap.inv (hp _ hb) ?_;rw[af6 hap,e]
 rw[this];exact hb
def aay.grp(h:aay n aas l l.length):Grp n l:=by
 have hp:∀a∈l,dF n a:=λa ha=>by
  obtain⟨i,hi⟩:=jS ha;exact h.perm i a hi
 have h1:upTo' n∈l:=aZ h.first
 have hm:∀a∈l,∀b∈l,iK a b∈l:=λa ha b hb=>by
  obtain⟨i,hi⟩:=jS ha;exact h.mul hb i a hi
 exact⟨hp,h1,hm,λa ha=>af8 hp h1 hm ha⟩
def Grp.aej{G H:kI (kI Int)}(h:Grp n G)(e:∀a,a∈H↔a∈G):Grp n H:=
 ⟨λa ha=>h.perm a ((e a).1 ha),(e _).2 h.one,λa ha b hb=>(e _).2 (h.comp a ((e a).1 ha) b ((e b).1 hb)),λa ha=>(e _).2 (h.inv a ((e a).1 ha))⟩
end Kd
namespace Kd
open Go Go.Ideal Canon
structure akC(m:Nat)(cl:List Int):Prop where
 len:cl.length=m
 NN:∀i:Nat,i<m->0<=aB cl (i:Int)/\aB cl (i:Int)<=(i:Int)/\aB cl (aB cl (i:Int))=aB cl (i:Int)
structure lI(m:Nat)(cl t:List Int):Prop where
 p:dF m t
 c:∀v:Int,0<=v->v<(m:Int)->aB cl (aB t v)=aB cl v
def ug(cl sy:kI Int)(s:Int):x8 Nat:=(List.range cl.length).find? λt:Nat=>decide (aB cl (t:Int)=aB cl s)&&!decide ((t:Int)∈sy)
def pK(cl sy:kI Int)(s:Int):kI Int:=if 0<=aB sy s then sy else match ug cl sy s with
 |none=>sy
 |some t=>sy.set s.toNat (t:Int)
def fH(cl seq:kI Int):kI Int:=seq.foldl (pK cl) (List.replicate cl.length (-1))
structure GInv(m:Nat)(cl sy:List Int):Prop where
 len:sy.length=m
 val:∀s:Int,0<=s->s<(m:Int)->aB sy s= -1\/(0<=aB sy s/\aB sy s<(m:Int)/\aB cl (aB sy s)=aB cl s)
 inj:∀s u:Int,0<=s->s<(m:Int)->0<=u->u<(m:Int)->aB sy s=aB sy u->0<=aB sy s->s=u
variable{s:Int}
def FB{l:kI Int}{x u:Int}(s0:0<=s)(s1:s<l.length)(u0:0<=u):aB (l.set s.toNat x) u=if u=s then x else aB l u:=by
 unfold aB;by_cases e:u=s
 .subst e;rw[if_pos rfl];have hl:u.toNat<l.length:=by omega
  simp[List.getD,oQ,hl]
 .rw[if_neg e];simp only[List.getD,oQ];rw[if_neg z7]
variable{cl sy:kI Int}{m:Nat}
def GInv.mem(h:GInv m cl sy){t:Int}(t0:0<=t)(ht:t∈sy):∃u:Int,0<=u/\u<(m:Int)/\aB sy u=t/\aB cl t=aB cl u/\t<(m:Int):=by
 obtain⟨i,hi⟩:=jS ht;have hl:=(bq.1 hi).1;have hlen:=h.len;have e:=ji hi;refine⟨(i:Int),z7,z7,e,?_⟩;rcases h.val (i:Int) z7 (z7)with h1|h1
 .omega
 .rw[e]at h1;exact⟨h1.2.2,h1.2.1⟩
def GInv.room(hc:cl.length=m)(h:GInv m cl sy){s:Int}(s0:0<=s)(s1:s<(m:Int))(hs:aB sy s= -1):∃t,ug cl sy s=some t:=by
 cases hf:ug cl sy s with
 |some t=>exact⟨t,rfl⟩
 |none=>
  exfalso
  unfold ug at hf;rw[anG]at hf;have hall:∀t:Int,0<=t->t<(m:Int)->aB cl t=aB cl s->t∈sy:=λt t0 t1 hcl=>by
   have:=hf t.toNat (ol.2 z7)
   rw[vM t0]at this;simp[hcl]at this;exact this
  have hC:∀t,t∈(upTo' m).filter (λt=>decide (aB cl t=aB cl s))↔(0<=t/\t<(m:Int))/\aB cl t=aB cl s:=λt=>by
   rw[sP,lM];refine and_congr_left λ_=>⟨λq=>(dF.ident m).fG t q,λq=>(dF.ident m).mem q.1 q.2⟩
  have hnd:((upTo' m).filter (λt=>decide (aB cl t=aB cl s))).Nodup:=(UC m).filter _;generalize(upTo' m).filter (λt=>decide (aB cl t=aB cl s))=C at hC hnd;have hidx:∀t∈C,sy.idxOf t<sy.length/\aB sy (sy.idxOf t:Nat)=t:=λt ht=>by
   have h1:=(hC t).1 ht;have hl:=List.idxOf_lt_length_iff.2 (hall t h1.1.1 h1.1.2 h1.2);refine⟨hl,ji ?_⟩;rw[bP hl,List.getElem_idxOf]
  have U8:s∈C:=(hC s).2 ⟨⟨s0,s1⟩,rfl⟩;have h1:=Nz (l:=C.map λt=>((sy.idxOf t:Nat):Int)) (m:=C.erase s) (NF hnd λa ha b hb e=>by
   have e1:=(hidx a ha).2;have e2:=(hidx b hb).2;rw[<- e1,<- e2,e]) (λx hx=>by
   obtain⟨t,ht,rfl⟩:=eT.1 hx;obtain⟨k1,k2⟩:=hidx t ht;have k3:=(hC t).1 ht;have hlen:=h.len;have hne:((sy.idxOf t:Nat):Int)≠s:=λe=>by rw[e,hs]at k2;omega
   refine(PW hne).2 ((hC _).2 ⟨⟨z7,z7⟩,?_⟩);rcases h.val ((sy.idxOf t:Nat):Int) z7 (z7)with q|q
   .omega
   .rw[<- q.2.2,k2];exact k3.2)
  have h2:=PU U8;have h3:0<C.length:=PV U8;rw[bY]at h1;omega
def U9{t:Nat}(h:ug cl sy s=some t):t<cl.length/\aB cl (t:Int)=aB cl s/\(t:Int)∉sy/\∀u:Nat,u<t->aB cl (u:Int)=aB cl s->(u:Int)∈sy:=by
 unfold ug at h;have h1:=List.find?_some h;have h2:=anH h;simp at h1;refine⟨ol.1 h2,h1.1,h1.2,λu hu hcl=>?_⟩;obtain⟨h3,a,b,e,h4⟩:=List.find?_eq_some_iff_append.1 h;have hat:a=List.range t:=by
  have hlt:=ol.1 h2;have e1:List.range cl.length=List.range t++t::(List.range' (t+1) (cl.length - t - 1)):=by
   rw[List.range_eq_range',List.range_eq_range',show cl.length=t+(1+(cl.length - t - 1))by omega,<- List.range'_append_1,<- List.range'_append_1];simp
  have l1:a.length=t:=by
   have hg:(List.range cl.length)[a.length]? =some t:=by rw[e,pR (bT _),vK];rfl
   have:=(bq.1 hg).2;rw[List.getElem_range]at this;exact this
  have:a=(List.range cl.length).take t:=by rw[e,<- l1,List.take_left'];rfl
  rw[this,List.take_range,DF z7]
 have:=h4 u (by rw[hat];exact ol.2 hu);simp[hcl]at this;exact this
def GInv.step(hc:cl.length=m)(h:GInv m cl sy){s:Int}(s0:0<=s)(s1:s<(m:Int)):GInv m cl (pK cl sy s)/\0<=aB (pK cl sy s) s/\∀u:Int,0<=u->u≠s->aB (pK cl sy s) u=aB sy u:=by
 unfold pK;by_cases h0:0<=aB sy s
 .rw[if_pos h0];exact⟨h,h0,λ_ _ _=>rfl⟩
 rw[if_neg h0];have hs:aB sy s= -1:=by
  rcases h.val s s0 s1 with q|q
  .exact q
  .omega
 obtain⟨t,ht⟩:=h.room hc s0 s1 hs;rw[ht];dsimp only;obtain⟨k1,k2,k3,_⟩:=U9 ht;have hlen:=h.len;have hg:∀u:Int,0<=u->aB (sy.set s.toNat (t:Int)) u=if u=s then(t:Int)else aB sy u:=λu u0=>FB s0 z7 u0
 have hno:∀u:Int,0<=u->u<(m:Int)->aB sy u≠(t:Int):=λu u0 u1 e=>k3 (e▸NE u0 z7);refine⟨⟨by rw[pV];exact hlen,λu u0 u1=>?_,λu w u0 u1 w0 w1 e he=>?_⟩,?_,λu u0 hne=>?_⟩
 .rw[hg u u0];split
  .rename_i e;refine .inr ⟨z7,z7,by rw[e];exact k2⟩
  .exact h.val u u0 u1
 .rw[hg u u0,hg w w0]at e;rw[hg u u0]at he;split at e
  .rename_i e1;split at e
   .rename_i e2;omega
   .exact absurd e.symm (hno w w0 w1)
  .rename_i e1;rw[if_neg e1]at he;split at e
   .exact absurd e (hno u u0 u1)
   .exact h.inj u w u0 u1 w0 w1 e he
 .rw[hg s s0,if_pos rfl];omega
 .rw[hg u u0,if_neg hne]
def NP(cl:kI Int):fH cl []=List.replicate cl.length (-1):=rfl
def wD(cl seq:kI Int)(v:Int):fH cl (seq++[v])=pK cl (fH cl seq) v:=by unfold fH;rw[DI];rfl
def NQ(n:Nat)(c:Int)(c0:0<=c)(c1:c<(n:Int)):aB (List.replicate n (-1)) c= -1:=by
 unfold aB;simp only[List.getD,PO];rw[if_pos z7];rfl
def ak0(hc:cl.length=m):∀(n:Nat) (seq:kI Int),seq.length=n->iP m seq->GInv m cl (fH cl seq)/\∀s:Int,0<=s->s<(m:Int)->(0<=aB (fH cl seq) s↔s∈seq):=by
 intro n;induction n with
 |zero=>
  intro seq hl _;rw[jy.1 hl,NP,hc];refine⟨⟨Gn,λs s0 s1=>.inl (NQ m s s0 s1),λs u s0 s1 _ _ _ he=>?_⟩,λs s0 s1=>?_⟩
  .rw[NQ m s s0 s1]at he;omega
  .rw[NQ m s s0 s1];simp
 |succ n ih=>
  intro seq hl hr;obtain⟨qs,v,rfl⟩:∃qs v,seq=qs++[v]:=⟨seq.dropLast,seq.getLast HW,(yF _).symm⟩
  obtain⟨h1,h2⟩:=ih qs Fo (λx hx=>hr x (je _ hx));have hv:=hr v An;rw[wD];obtain⟨k1,k2,k3⟩:=h1.step hc hv.1 hv.2;refine⟨k1,λs s0 s1=>?_⟩;by_cases e:s=v
  .subst e;exact⟨λ_=>by simp,λ_=>k2⟩
  .rw[k3 s s0 e,h2 s s0 s1,dX,bM];exact⟨.inl,λq=>q.resolve_right e⟩
def NR(hc:cl.length=m)(pr:kI Int)(hp:iP m pr){s:Int}(hs:s∈pr):∀(n:Nat) (rest:kI Int),rest.length=n->iP m rest->aB (fH cl (pr++rest)) s=aB (fH cl pr) s:=by
 intro n;induction n with
 |zero=>intro rest hl _;rw[jy.1 hl,gU]
 |succ n ih=>
  intro rest hl hr;obtain⟨qs,v,rfl⟩:∃qs v,rest=qs++[v]:=⟨rest.dropLast,rest.getLast HW,(yF _).symm⟩
  have hq:iP m qs:=λx hx=>hr x (je _ hx);have h0:=ih qs Fo hq;have hs':=hp s hs;have hpq:iP m (pr++qs):=λx hx=>(dX.1 hx).elim (hp x) (hq x);obtain⟨h1,h2⟩:=ak0 hc _ (pr++qs) rfl hpq;have hv:=hr v An;rw[<- List.append_assoc,wD];by_cases e:s=v
  .subst e;have:=(h2 s hs'.1 hs'.2).2 (je _ hs);unfold pK;rw[if_pos this];exact h0
  .rw[(h1.step hc hv.1 hv.2).2.2 s hs'.1 e];exact h0
def aeP(hc:cl.length=m){seq:kI Int}(hr:iP m seq):lI m cl (fH cl (seq++upTo' m)):=by
 have hid:=dF.ident m;have hin:iP m (seq++upTo' m):=λx hx=>(dX.1 hx).elim (hr x) (hid.fG x);obtain⟨h1,h2⟩:=ak0 hc _ _ rfl hin;have hpos:∀s:Int,0<=s->s<(m:Int)->0<=aB (fH cl (seq++upTo' m)) s:=λs s0 s1=>(h2 s s0 s1).2 (nA _ (hid.mem s0 s1));have hval:∀s:Int,0<=s->s<(m:Int)->(0<=aB (fH cl (seq++upTo' m)) s/\aB (fH cl (seq++upTo' m)) s<(m:Int))/\aB cl (aB (fH cl (seq++upTo' m)) s)=aB cl s:=λs s0 s1=>by
  have:=hpos s s0 s1;rcases h1.val s s0 s1 with q|q
  .omega
  .exact⟨⟨q.1,q.2.1⟩,q.2.2⟩
 refine⟨⟨h1.len,λx hx=>?_,?_⟩,λv v0 v1=>(hval v v0 v1).2⟩
 .obtain⟨i,hi⟩:=jS hx;have hl:=(bq.1 hi).1;have:=(hval (i:Int) z7 (by have:=h1.len;omega)).1;rw[ji hi]at this;exact this
 .unfold List.Nodup;rw[wT];intro i j hi hj hij e;have hlen:=h1.len;have e1:=ji (bP hi);have e2:=ji (bP hj);have:=h1.inj (i:Int) (j:Int) z7 z7 z7 z7 (by rw[e1,e2,e]) (hpos _ z7 z7);omega
end Kd
namespace Kd
open Go Go.Ideal Canon
def iQ(sy:Int->Bool)(t:kI Int)(g:Clue):Clue:=⟨g.adJ,g.at_,if sy g.adJ then img t g.values else g.values⟩
def bK(sy:Int->Bool)(t:kI Int)(p:kI Clue):kI Clue:=p.map (iQ sy t)
def oK(sy:Int->Bool)(m:Nat)(p:kI Clue):Prop:=∀g∈p,sy g.adJ=true->∃v,g.values=[v]/\0<=v/\v<(m:Int)
def ed(sy:Int->Bool)(p:kI Clue):kI Int:=p.flatMap λg=>if sy g.adJ then g.values else[]
def dz(sy:Int->Bool)(cl:kI Int)(p:kI Clue):kI Int:=fH cl (ed sy p++upTo' cl.length)
variable{sy:Int->Bool}{m:Nat}{p:kI Clue}
def wE(h:oK sy m p):iP m (ed sy p):=by
 intro v hv;unfold ed at hv;obtain⟨g,hg,hv⟩:=List.mem_flatMap.1 hv;split at hv
 .rename_i hs;obtain⟨w,e,h0,h1⟩:=h g hg hs;rw[e]at hv;rw[bM.1 hv];exact⟨h0,h1⟩
 .cases hv
def oK.tail{g:Clue}(h:oK sy m (g::p)):oK sy m p:=λx hx=>h x (cO _ hx)
section
variable {sy:Int->Bool} {m:Nat} {cl t t2:kI Int} {p:kI Clue}
def FC(hc:cl.length=m)(hp:oK sy m p):lI m cl (dz sy cl p):=by
 unfold dz;rw[hc];exact aeP hc (wE hp)
def lI.comp(h:lI m cl t)(h2:lI m cl t2):lI m cl (iK t2 t):=by
 refine⟨h2.p.comp h.p,λv v0 v1=>?_⟩;have r:=h.p.at_ v0 v1;rw[wB v0 (by rw[h.p.len];exact v1),h2.c _ r.1 r.2,h.c v v0 v1]
def lI.inv(h:lI m cl t):lI m cl (kG t):=by
 refine⟨h.p.inv,λv v0 v1=>?_⟩;have r:=h.p.inv.at_ v0 v1;rw[<- h.c _ r.1 r.2,h.p.Ju v0 v1]
def lI.ident(cl:kI Int)(m:Nat):lI m cl (upTo' m):=⟨dF.ident m,λv v0 v1=>by rw[zn v0 v1]⟩
def Vd{a b:kI Clue}(h1:¬qG a b<0)(h2:¬qG b a<0):a=b:=by
 have h3:=Hu.neg b a;refine(Hu.zero a b).1 ?_;have h4:¬0<qG a b:=λq=>h2 (h3.2 q);omega
end
