/-
  Part PlainAW.
-/
import Derived.Test.YtfakljdleblkoaaGreatDictW
set_option linter.all false
namespace Gph
def ed(l:List Bool)(n:Int):Bool:=l.getD n.toNat false
def inner(bH:List Bool):List Int->List Bool->List Int->List Bool×List Int
 |[],met,q=>(met,q)
 |n::ns,met,q=>if ed bH n&&!ed met n then inner bH ns (met.set n.toNat true) (q++[n])else inner bH ns met q
def vG(g:List (List Int))(bH:List Bool):Nat->List Bool->List Int->List Int
 |0,_,_=>[]
 |_+1,_,[]=>[]
 |f+1,met,q::qs=>q::vG g bH f (inner bH (g.getD q.toNat []) met (q::qs)).1 (inner bH (g.getD q.toNat []) met (q::qs)).2.tail
def Ae(m:Nat)(s:Int):List Bool:=(List.replicate m false).set s.toNat true
def Ir(g:List (List Int))(bH:List Bool)(s:Int):List Int:=vG g bH (g.length+1) (Ae g.length s) [s]
def left(met:List Bool):Nat:=(met.filter (!·)).length
variable{met:List Bool}
theorem acQ{n:Nat}(h:met[n]? =some false):left (met.set n true)+1=left met:=by
 induction met generalizing n with
 |nil=>cases h
 |cons b met ih=>
  cases n with
  |zero=>cases h;simp[left]
  |succ n=>
   have:=ih (n:=n) wq;simp only[left,List.set_cons_succ,List.filter_cons]at this⊢;cases b<;>simp at this⊢<;>omega
variable{a n:Int}
theorem Iu(ha:0<=a)(hn:0<=n)(h:a<met.length):ed (met.set a.toNat true) n=(decide (n=a)||ed met n):=by
 unfold ed;obtain⟨a,rfl⟩:=Int.eq_ofNat_of_zero_le ha;obtain⟨n,rfl⟩:=Int.eq_ofNat_of_zero_le hn;simp only[Int.toNat_natCast,List.getD_eq_getElem?_getD,List.getElem?_set];by_cases e:a=n
 ·subst e;have:a<met.length:=by omega
  simp[this]
 ·have e2:¬((n:Int)=(a:Int)):=by omega
  simp[e,e2]
def Rg(g:List (List Int))(n:Int):Prop:=0<=n/\n<g.length
theorem MC{g:List (List Int)}{bH:List Bool}:∀(ns:List Int) (met:List Bool) (q:List Int),met.length=g.length->(∀n∈ns,Rg g n)->
 (inner bH ns met q).1.length=g.length/\(∀n,0<=n->(ed (inner bH ns met q).1 n=true↔ed met n=true\/(n∈ns/\ed bH n=true)))/\
 left (inner bH ns met q).1+(inner bH ns met q).2.length=left met+q.length/\∃t,(inner bH ns met q).2=q++t/\∀n,(n∈t↔n∈ns/\ed bH n=true/\ed met n=false)
 |[],met,q,hm,hr=>by simp[inner,hm]
 |a::ns,met,q,hm,hr=>by
  have ha:=hr a vm;have hr':∀n∈ns,Rg g n:=λn hn=>hr n (by simp[hn]);unfold Rg at ha;rw[inner];by_cases hc:(ed bH a&&!ed met a)=true
  ·rw[if_pos hc];simp only[Bool.and_eq_true,Bool.not_eq_true']at hc;obtain⟨h1,h2,h4,t,h5,h3⟩:=MC (g:=g) (bH:=bH) ns (met.set a.toNat true) (q++[a]) (by simpa using hm) hr';refine⟨h1,λn hn=>?_,?_,a::t,by rw[h5];simp,λn=>?_⟩
   ·rw[h2 n hn,Iu ha.1 hn vj];simp only[Bool.or_eq_true,decide_eq_true_eq,List.mem_cons];constructor
    ·rintro((rfl|h)|h)
     ·exact .inr ⟨.inl rfl,hc.1⟩
     ·exact .inl h
     ·exact .inr ⟨.inr h.1,h.2⟩
    ·rintro(h|⟨rfl|h,h'⟩)
     ·exact .inl (.inr h)
     ·exact .inl (.inl rfl)
     ·exact .inr ⟨h,h'⟩
   ·have hs:met[a.toNat]? =some false:=by
     have:ed met a=false:=hc.2;unfold ed at this;rw[List.getD_eq_getElem?_getD]at this;have hl:a.toNat<met.length:=vj
     rw[List.getElem?_eq_getElem hl]at this⊢;simpa using this
    have:=acQ hs;rw[h4,List.length_append,List.length_singleton];omega
   ·rw[List.mem_cons,h3 n];simp only[List.mem_cons];constructor
    ·rintro(rfl|⟨h,h',h''⟩)
     ·exact⟨.inl rfl,hc⟩
     ·have hn:=(hr' n h).1;rw[Iu ha.1 hn vj]at h'';simp only[Bool.or_eq_false_iff]at h'';exact⟨.inr h,h',h''.2⟩
    ·rintro⟨rfl|h,h',h''⟩
     ·exact .inl rfl
     ·by_cases e:n=a
      ·exact .inl e
      ·refine .inr ⟨h,h',?_⟩;rw[Iu ha.1 (hr' n h).1 vj];simp[e,h'']
  ·rw[if_neg hc];obtain⟨h1,h2,h4,t,h5,h3⟩:=MC (g:=g) (bH:=bH) ns met q hm hr';simp only[Bool.and_eq_true,Bool.not_eq_true',not_and,Bool.not_eq_false]at hc;refine⟨h1,λn hn=>?_,h4,t,h5,λn=>?_⟩
   ·rw[h2 n hn];simp only[List.mem_cons];constructor
    ·rintro(h|⟨h,h'⟩)
     ·exact .inl h
     ·exact .inr ⟨.inr h,h'⟩
    ·rintro(h|⟨rfl|h,h'⟩)
     ·exact .inl h
     ·exact .inl (hc h')
     ·exact .inr ⟨h,h'⟩
   ·rw[h3 n];simp only[List.mem_cons];constructor
    ·rintro⟨h,h'⟩;exact⟨.inr h,h'⟩
    ·rintro⟨rfl|h,h',h''⟩
     ·rw[hc h']at h'';cases h''
     ·exact⟨h,h',h''⟩
inductive kJ(g:List (List Int))(bH:List Bool)(s:Int):Int->Prop
 |refl:kJ g bH s s
 |step {i n:Int} {l:List Int} (h:kJ g bH s i) (hl:g[i.toNat]? =some l) (hn:n∈l) (hi:ed bH n=true):kJ g bH s n
variable{g:List (List Int)}{bH:List Bool}
theorem kJ.trans{b c:Int}(h:kJ g bH a b)(h2:kJ g bH b c):kJ g bH a c:=by
 induction h2 with
 |refl=>exact h
 |step _ hl hn hi ih=>exact .step ih hl hn hi
theorem gz(h:Rg g n):g[n.toNat]? =some (g.getD n.toNat []):=by
 have hl:n.toNat<g.length:=by unfold Rg at h;omega
 rw[List.getD_eq_getElem?_getD,List.getElem?_eq_getElem hl];rfl
theorem SV{g:List (List Int)}{bH:List Bool}(hg:∀l∈g,∀n∈l,Rg g n):∀(f:Nat) (met:List Bool) (queue V:List Int),met.length=g.length->(∀n∈queue,Rg g n)->
 (∀n,0<=n->(ed met n=true↔n∈V\/n∈queue))->(∀v∈V,∀l,g[v.toNat]? =some l->∀n∈l,ed bH n=true->n∈V\/n∈queue)->left met+queue.length<=f->
 (∀v,v∈V\/v∈vG g bH f met queue->∀l,g[v.toNat]? =some l->∀n∈l,ed bH n=true->n∈V\/n∈vG g bH f met queue)/\(∀n∈queue,n∈vG g bH f met queue)/\
 (∀n∈vG g bH f met queue,∃q∈queue,kJ g bH q n)/\∀n∈vG g bH f met queue,Rg g n
 |0,met,queue,V,hm,hq,hM,hcl,hf=>by
  have:queue=[]:=List.length_eq_zero_iff.1 vj;subst this;exact od
 |f+1,met,[],V,hm,hq,hM,hcl,hf=>by
  exact od
 |f+1,met,q::qs,V,hm,hq,hM,hcl,hf=>by
  have hq0:=hq q vm;have hgd:=gz hq0;have hns:∀n∈g.getD q.toNat [],Rg g n:=hg _ (List.mem_of_getElem? hgd);obtain⟨h1,h2,h4,t,h5,h3⟩:=MC (g:=g) (bH:=bH) (g.getD q.toNat []) met (q::qs) hm hns;rw[vG];generalize hin:inner bH (g.getD q.toNat []) met (q::qs)=r at h1 h2 h4 h5;obtain⟨met',q'⟩:=r;dsimp only at h1 h2 h4 h5⊢;subst h5;rw[List.cons_append,List.tail_cons];have hqt:∀n∈qs++t,Rg g n:=λn hn=>by
   rcases List.mem_append.1 hn with h|h
   ·exact hq n x7
   ·exact hns n ((h3 n).1 h).1
  obtain⟨c1,c2,c3,c4⟩:=SV hg f met' (qs++t) (q::V) h1 hqt (λn hn=>by
   rw[h2 n hn,hM n hn];simp only[List.mem_cons,List.mem_append,h3 n];constructor
   ·rintro((h|rfl|h)|⟨h,h'⟩)
    ·exact .inl (.inr h)
    ·exact .inl (.inl rfl)
    ·exact .inr (.inl h)
    ·cases hme:ed met n with
     |true=>
      rcases(hM n hn).1 hme with h''|h''
      ·exact .inl (.inr h'')
      ·rcases List.mem_cons.1 h'' with rfl|h''
       ·exact .inl (.inl rfl)
       ·exact .inr (.inl h'')
     |false=>exact .inr (.inr ⟨h,h',rfl⟩)
   ·rintro((rfl|h)|h|⟨h,h',_⟩)
    ·exact .inl (.inr (.inl rfl))
    ·exact .inl (.inl h)
    ·exact .inl (.inr (.inr h))
    ·exact .inr ⟨h,h'⟩) (λv hv l hl n hn hi=>by
   rcases List.mem_cons.1 hv with rfl|hv
   ·rw[hgd]at hl;cases hl;have hn0:=(hns n hn).1;cases hme:ed met n with
    |true=>
     rcases(hM n hn0).1 hme with h''|h''
     ·exact .inl (by simp[h''])
     ·rcases List.mem_cons.1 h'' with rfl|h''
      ·exact .inl vm
      ·exact .inr (by simp[h''])
    |false=>exact .inr (List.mem_append_right _ ((h3 n).2 ⟨hn,hi,hme⟩))
   ·rcases hcl v hv l hl n hn hi with h|h
    ·exact .inl x7
    ·rcases List.mem_cons.1 h with rfl|h
     ·exact .inl vm
     ·exact .inr x7) (by
   simp only[List.cons_append,List.length_cons,List.length_append]at h4 hf⊢;omega)
  refine⟨λv hv l hl n hn hi=>?_,λn hn=>?_,λn hn=>?_,λn hn=>?_⟩
  ·have:=c1 v (by
    rcases hv with h|h
    ·exact .inl x7
    ·rcases List.mem_cons.1 h with rfl|h
     ·exact .inl vm
     ·exact .inr h) l hl n hn hi
   rcases this with h|h
   ·rcases List.mem_cons.1 h with rfl|h
    ·exact .inr vm
    ·exact .inl h
   ·exact .inr x7
  ·rcases List.mem_cons.1 hn with rfl|hn
   ·simp
   ·exact List.mem_cons_of_mem _ (c2 n (by simp[hn]))
  ·rcases List.mem_cons.1 hn with rfl|hn
   ·exact⟨n,vm,.refl⟩
   ·obtain⟨p,hp,hr⟩:=c3 n hn;rcases List.mem_append.1 hp with hp|hp
    ·exact⟨p,by simp[hp],hr⟩
    ·obtain⟨h,h',_⟩:=(h3 p).1 hp;exact⟨q,vm,(kJ.step .refl hgd h h').trans hr⟩
  ·rcases List.mem_cons.1 hn with rfl|hn
   ·exact hq0
   ·exact c4 n hn
theorem SX(m:Nat)(s:Int):(Ae m s).length=m:=by rw[Ae,List.length_set,List.length_replicate]
theorem ME(hg:∀l∈g,∀n∈l,Rg g n){s:Int}(hs:Rg g s)(n:Int):n∈Ir g bH s↔kJ g bH s n:=by
 have hs':=hs;unfold Rg at hs';obtain⟨c1,c2,c3,_⟩:=SV (g:=g) (bH:=bH) hg (g.length+1) (Ae g.length s) [s] [] (SX _ _) (λn hn=>by rw[List.mem_singleton.1 hn];exact hs) (λn hn=>by
  rw[Ae,Iu hs'.1 hn (by rw[List.length_replicate];omega)];have:ed (List.replicate g.length false) n=false:=by
   unfold ed;rw[List.getD_eq_getElem?_getD,List.getElem?_replicate];split<;>rfl
  simp[this]) vm (by
  have:left (Ae g.length s)<=(Ae g.length s).length:=List.length_filter_le _ _;rw[SX]at this;simp;omega)
 constructor
 ·intro h;obtain⟨q,hq,hr⟩:=c3 n h;rw[List.mem_singleton.1 hq]at hr;exact hr
 ·intro h;induction h with
  |refl=>exact c2 s vm
  |step _ hl hn hi ih=>exact(c1 _ (.inr ih) _ hl _ hn hi).resolve_left vm
theorem acS(hg:∀l∈g,∀n∈l,Rg g n){s:Int}(hs:Rg g s):∀n∈Ir g bH s,Rg g n:=λn hn=>by
 have h:=(ME hg hs n).1 hn;cases h with
 |refl=>exact hs
 |step _ hl hn _=>exact hg _ (List.mem_of_getElem? hl) n hn
def yL(part:List Int)(ns:List Int)(m:Int):List Int:=ns.foldl (λp n=>p.set n.toNat m) part
theorem SY:∀(ns part:List Int) (m:Int),(yL part ns m).length=part.length
 |[],part,m=>rfl
 |n::ns,part,m=>by
  show(yL (part.set n.toNat m) ns m).length=_;rw[SY ns,List.length_set]
def EB(g:List (List Int))(bH:List Bool)(x:List Int×Nat)(i:Nat):List Int×Nat:=
 if ed bH i=true/\x.1.getD i 0<=0 then(yL x.1 (Ir g bH i) (x.2+1:Nat),x.2+1)else x
def kZ(g:List (List Int))(bH:List Bool)(k:Nat):List Int×Nat:=(List.range k).foldl (EB g bH) (List.replicate g.length 0,0)
theorem MF(g:List (List Int))(bH:List Bool)(k:Nat):kZ g bH (k+1)=EB g bH (kZ g bH k) k:=by
 rw[kZ,List.range_succ,List.foldl_append];rfl
theorem S9(g:List (List Int))(bH:List Bool):∀k,(kZ g bH k).1.length=g.length/\(kZ g bH k).2<=k/\∀p∈(kZ g bH k).1,0<=p/\p<=(kZ g bH k).2
 |0=>by
  refine⟨by simp[kZ],by simp[kZ],λp hp=>?_⟩;simp[kZ]at hp⊢;omega
 |k+1=>by
  obtain⟨h1,h2,h3⟩:=S9 g bH k;rw[MF,EB];split
  ·refine⟨by rw[SY];exact h1,by show _+1<=_;omega,?_⟩;have:∀(ns part:List Int) (m:Nat),(∀p∈part,0<=p/\p<=(m:Int))->∀p∈yL part ns (m:Nat),0<=p/\p<=(m:Int):=by
    intro ns;induction ns with
    |nil=>intro part m h;exact h
    |cons n ns ih=>
     intro part m h;refine ih _ m λp hp=>?_;rcases List.mem_or_eq_of_mem_set hp with hp|rfl
     ·exact h p hp
     ·omega
   exact this _ _ _ λp hp=>by have:=h3 p hp;omega
  ·exact⟨h1,vj,h3⟩
end Gph
namespace Gph
def Iw(bH:List Bool)(k:Nat):Nat:=((List.range k).filter λi=>ed bH (i:Nat)).length
end Gph
namespace Gph
variable {g:List (List Int)} {bH:List Bool}
theorem Ta:∀(ns part:List Int) (m:Int) (n:Nat),(∀x∈ns,0<=x/\x<part.length)->(yL part ns m).getD n 0=if(n:Int)∈ns then m else part.getD n 0
 |[],part,m,n,_=>by simp[yL]
 |a::ns,part,m,n,h=>by
  have ha:=h a vm;have h2:=Ta ns (part.set a.toNat m) m n (λx hx=>by rw[List.length_set];exact h x (by simp[hx]));show(yL (part.set a.toNat m) ns m).getD n 0=_;rw[h2];obtain⟨a,rfl⟩:=Int.eq_ofNat_of_zero_le ha.1;by_cases e1:(n:Int)∈ns
  ·rw[if_pos e1,if_pos (List.mem_cons_of_mem _ e1)]
  ·rw[if_neg e1];by_cases e2:n=a
   ·subst e2;rw[if_pos vm,Int.toNat_natCast,List.getD_eq_getElem?_getD,List.getElem?_set];have:n<part.length:=by omega
    simp[this]
   ·rw[if_neg (by simp only[List.mem_cons,not_or];exact⟨vj,e1⟩),Int.toNat_natCast,List.getD_eq_getElem?_getD,List.getElem?_set,if_neg (λe=>e2 e.symm),List.getD_eq_getElem?_getD]
def MG(g:List (List Int))(bH:List Bool)(k n:Nat):Prop:=∃j,j<k/\ed bH j=true/\kJ g bH j n
theorem Tc(hg:∀l∈g,∀n∈l,Rg g n):∀k,k<=g.length->∀n:Nat,n<g.length->(0<(kZ g bH k).1.getD n 0↔MG g bH k n)
 |0,_,n,hn=>by
  constructor
  ·intro h;simp[kZ,List.getD_eq_getElem?_getD,List.getElem?_replicate,hn]at h
  ·rintro⟨j,hj,_⟩;omega
 |k+1,hk,n,hn=>by
  have ih:=Tc hg k vj;have hlen:=(S9 g bH k).1;have hkr:Rg g (k:Int):=⟨vj,vj⟩
  rw[MF,EB];by_cases hc:ed bH k=true/\(kZ g bH k).1.getD k 0<=0
  ·rw[if_pos hc];show 0<(yL _ _ _).getD n 0↔_;rw[Ta _ _ _ _ (λx hx=>by rw[hlen];exact acS hg hkr x hx)];by_cases hr:(n:Int)∈Ir g bH k
   ·rw[if_pos hr];have:=(ME hg hkr n).1 hr;exact⟨λ_=>⟨k,vj,hc.1,this⟩,λ_=>by omega⟩
   ·rw[if_neg hr,ih n hn];rw[ME hg hkr]at hr;constructor
    ·rintro⟨j,h1,h2,h3⟩;exact tP
    ·rintro⟨j,h1,h2,h3⟩;by_cases e:j=k
     ·subst e;exact absurd h3 hr
     ·exact tP
  ·rw[if_neg hc,ih n hn];constructor
   ·rintro⟨j,h1,h2,h3⟩;exact tP
   ·rintro⟨j,h1,h2,h3⟩;by_cases e:j=k
    ·subst e;have:0<(kZ g bH j).1.getD j 0:=by
      apply Classical.byContradiction;intro hno;exact hc ⟨h2,vj⟩
     obtain⟨i,q1,q2,q3⟩:=(ih j vj).1 this;exact⟨i,q1,q2,q3.trans h3⟩
    ·exact tP
open Classical in
noncomputable def cnt(g:List (List Int))(bH:List Bool):Nat->Nat
 |0=>0
 |k+1=>cnt g bH k+if ed bH k=true/\¬MG g bH k k then 1 else 0
theorem MH(hg:∀l∈g,∀n∈l,Rg g n):∀k,k<=g.length->(kZ g bH k).2=cnt g bH k
 |0,_=>by simp[kZ,cnt]
 |k+1,hk=>by
  have ih:=MH hg k vj;have hs:=Tc (bH:=bH) hg k vj k vj;rw[MF,EB,cnt];by_cases hc:ed bH k=true/\(kZ g bH k).1.getD k 0<=0
  ·rw[if_pos hc,if_pos ⟨hc.1,λh=>by have:=hs.2 h;omega⟩,<- ih]
  ·rw[if_neg hc,if_neg (λh=>hc ⟨h.1,by
    apply Classical.byContradiction;intro hno;exact h.2 (hs.1 vj)⟩),Nat.add_zero,ih]
def lY(g:List (List Int)):Prop:=∀(i:Nat) l,g[i]? =some l->∀n∈l,Rg g n/\∀l',g[n.toNat]? =some l'->(i:Int)∈l'
theorem lY.rg(h:lY g):∀l∈g,∀n∈l,Rg g n:=λl hl n hn=>by
 obtain⟨i,hi⟩:=List.getElem?_of_mem hl;exact(h i l hi n hn).1
theorem kJ.rg(h:lY g){a b:Int}(ha:Rg g a)(r:kJ g bH a b):Rg g b:=by
 cases r with
 |refl=>exact ha
 |step _ hl hn _=>exact h.rg _ (List.mem_of_getElem? hl) _ hn
theorem kJ.symm(h:lY g){a b:Int}(ha:Rg g a)(hi:ed bH a=true)(r:kJ g bH a b):kJ g bH b a:=by
 induction r with
 |refl=>exact .refl
 |step r0 hl hn hin ih=>
  rename_i i n l;have yM:=kJ.rg h ha r0;have acT:ed bH i=true:=by
   cases r0 with
   |refl=>exact hi
   |step _ _ _ q=>exact q
  obtain⟨q1,q2⟩:=h i.toNat l hl n hn;have:=q2 _ (gz q1);have hc:((i.toNat:Nat):Int)=i:=by unfold Rg at yM;omega
  rw[hc]at this;exact(kJ.step .refl (gz q1) this acT).trans ih
theorem acU(h:lY g){f:Nat}(hf:f<g.length)(hin:ed bH f=true)(wW:∀j,j<f->ed bH (j:Nat)=false):
 cnt g bH g.length=1↔∀i:Nat,i<g.length->ed bH i=true->kJ g bH f i:=by
 have base:∀k,k<=f->cnt g bH k=0:=by
  intro k;induction k with
  |zero=>intro _;rfl
  |succ k ih=>
   intro hk;rw[cnt,ih vj,if_neg (λq=>by rw[wW k vj]at q;cases q.1)]
 have sO:cnt g bH (f+1)=1:=by
  rw[cnt,base f (Nat.le_refl _),if_pos ⟨hin,λ⟨j,h1,h2,_⟩=>by rw[wW j h1]at h2;cases h2⟩]
 have mono:∀k d,cnt g bH k<=cnt g bH (k+d):=by
  intro k d;induction d with
  |zero=>exact Nat.le_refl _
  |succ d ih=>rw[<- Nat.add_assoc,cnt];omega
 constructor
 ·intro h1 i;induction i using Nat.strongRecOn with
  |_ i ih=>
   intro hi hii;by_cases e:i=f
   ·subst e;exact .refl
   have hfi:f<i:=by
    apply Classical.byContradiction;intro hno;rw[wW i vj]at hii;cases hii
   have ho:MG g bH i i:=by
    apply Classical.byContradiction;intro hno;have e1:cnt g bH (i+1)=cnt g bH i+1:=by rw[cnt,if_pos ⟨hii,hno⟩]
    have e2:=mono (f+1) (i - (f+1));have e3:=mono (i+1) (g.length - (i+1));rw[show f+1+(i - (f+1))=i by omega]at e2;rw[show i+1+(g.length - (i+1))=g.length by omega]at e3;omega
   obtain⟨j,q1,q2,q3⟩:=ho;exact(ih j q1 vj q2).trans q3
 ·intro hall;have:∀d,f+1+d<=g.length->cnt g bH (f+1+d)=1:=by
   intro d;induction d with
   |zero=>intro _;exact sO
   |succ d ih=>
    intro hd;rw[<- Nat.add_assoc,cnt,ih vj,if_neg (λq=>q.2 ⟨f,vj,hin,hall _ vj q.1⟩)]
  have:=this (g.length - (f+1)) vj
  rwa [show f+1+(g.length - (f+1))=g.length by omega]at this
end Gph
namespace Gph
structure EC where
 kind:Int
 cells:List Int
 set:Int
 other:Int
 lo:Int
 hi:Int
 runs:List Int
 rule:Int
 at_:Int
structure MI where
 cells:Int
 symbols:Int
 values:List Int
 aD:List (List Int)
 cons:List EC
structure MJ(cells symbols:Int)(c:EC):Prop where
 cell:∀(i:Nat) x,c.cells[i]? =some x->0<=x/\x<cells/\(8<=c.kind->x=i)
 nd:c.cells.Nodup
 kind:1<=c.kind/\c.kind<=9
 two:c.kind=6\/c.kind=7->c.cells.length=2
 all:8<=c.kind->(c.cells.length:Int)=cells
 set:0<=c.set/\c.set<(2^symbols.toNat:Nat)
 other:0<=c.other/\c.other<(2^symbols.toNat:Nat)
 lo:0<=c.lo/\c.lo<=65536
 hi:0<=c.hi/\c.hi<=65536
 ajg:c.runs.length<=8
 runs:∀x∈c.runs,1<=x/\x<=256
theorem MJ.len{cells symbols:Int}{c:EC}(h:MJ cells symbols c):(c.cells.length:Int)<=cells\/c.cells=[]:=by
 -- distinct numbers below 'cells'
 by_cases hn:c.cells=[]
 ·exact .inr hn
 left;have hb:∀x∈c.cells,0<=x/\x<cells:=λx hx=>by
  obtain⟨i,hi⟩:=List.getElem?_of_mem hx;have:=h.cell i x hi;exact⟨this.1,this.2.1⟩
 have:∀(m:Nat) (l:List Int),l.Nodup->(∀x∈l,0<=x/\x<(m:Int))->l.length<=m:=by
  intro m;induction m with
  |zero=>
   intro l _ hl;cases l with
   |nil=>simp
   |cons a l=>have:=hl a vm;omega
  |succ m ih=>
   intro l hd hl;by_cases hm:(m:Int)∈l
   ·have h1:=List.length_erase_of_mem hm;have h2:=ih (l.erase (m:Int)) (hd.erase _) (λx hx=>by
     have hne:x≠(m:Int):=λe=>by
      subst e;exact(List.Nodup.mem_erase_iff hd).1 hx|>.1 rfl
     have:=hl x (List.mem_of_mem_erase hx);omega)
    omega
   ·have:=ih l hd (λx hx=>by
     have hne:x≠(m:Int):=λe=>hm (e▸hx);have:=hl x hx;omega)
    omega
 have h0:0<=cells:=by
  obtain⟨a,ha⟩:=List.exists_mem_of_ne_nil _ hn;have:=hb a ha;omega
 have:=this cells.toNat c.cells h.nd (λx hx=>by have:=hb x hx;omega);omega
