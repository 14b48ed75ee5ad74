/-
  Graphs, in plain lists: the nodes that are reached, the parts, rings.
-/
set_option linter.all false
namespace Gph
def cz(l:List Bool)(n:Int):Bool:=l.getD n.toNat false
def inner(aC:List Bool):List Int->List Bool->List Int->List Bool×List Int
 |[],met,q=>(met,q)
 |n::ns,met,q=>if cz aC n&&!cz met n then inner aC ns (met.set n.toNat true) (q++[n])else inner aC ns met q
def qR(g:List (List Int))(aC:List Bool):Nat->List Bool->List Int->List Int
 |0,_,_=>[]
 |_+1,_,[]=>[]
 |f+1,met,q::qs=>q::qR g aC f (inner aC (g.getD q.toNat []) met (q::qs)).1 (inner aC (g.getD q.toNat []) met (q::qs)).2.tail
def oM(m:Nat)(s:Int):List Bool:=(List.replicate m false).set s.toNat true
def xU(g:List (List Int))(aC:List Bool)(s:Int):List Int:=qR g aC (g.length+1) (oM g.length s) [s]
def left(met:List Bool):Nat:=(met.filter (!·)).length
theorem VL{met:List Bool}{n:Nat}(h:met[n]? =some false):left (met.set n true)+1=left met:=by
 induction met generalizing n with
 |nil=>cases h
 |cons b met ih=>
  cases n with
  |zero=>cases h;simp[left]
  |succ n=>
   have:=ih (n:=n) (by simpa using h);simp only[left,List.set_cons_succ,List.filter_cons]at this⊢;cases b<;>simp at this⊢<;>omega
theorem JQ{met:List Bool}{a n:Int}(ha:0<=a)(hn:0<=n)(h:a<met.length):cz (met.set a.toNat true) n=(decide (n=a)||cz met n):=by
 unfold cz;obtain⟨a,rfl⟩:=Int.eq_ofNat_of_zero_le ha;obtain⟨n,rfl⟩:=Int.eq_ofNat_of_zero_le hn;simp only[Int.toNat_natCast,List.getD_eq_getElem?_getD,List.getElem?_set];by_cases e:a=n
 ·subst e;have:a<met.length:=by omega
  simp[this]
 ·have e2:¬((n:Int)=(a:Int)):=by omega
  simp[e,e2]
def Rg(g:List (List Int))(n:Int):Prop:=0<=n/\n<g.length
theorem JR{g:List (List Int)}{aC:List Bool}:∀(ns:List Int) (met:List Bool) (q:List Int),met.length=g.length->(∀n∈ns,Rg g n)->
 (inner aC ns met q).1.length=g.length/\(∀n,0<=n->(cz (inner aC ns met q).1 n=true↔cz met n=true\/(n∈ns/\cz aC n=true)))/\
 left (inner aC ns met q).1+(inner aC ns met q).2.length=left met+q.length/\∃t,(inner aC ns met q).2=q++t/\∀n,(n∈t↔n∈ns/\cz aC n=true/\cz met n=false)
 |[],met,q,hm,hr=>by simp[inner,hm]
 |a::ns,met,q,hm,hr=>by
  have ha:=hr a (by simp);have hr':∀n∈ns,Rg g n:=λn hn=>hr n (by simp[hn]);unfold Rg at ha;rw[inner];by_cases hc:(cz aC a&&!cz met a)=true
  ·rw[if_pos hc];simp only[Bool.and_eq_true,Bool.not_eq_true']at hc;obtain⟨h1,h2,h4,t,h5,h3⟩:=JR (g:=g) (aC:=aC) ns (met.set a.toNat true) (q++[a]) (by simpa using hm) hr';refine⟨h1,λn hn=>?_,?_,a::t,by rw[h5];simp,λn=>?_⟩
   ·rw[h2 n hn,JQ ha.1 hn (by omega)];simp only[Bool.or_eq_true,decide_eq_true_eq,List.mem_cons];constructor
    ·rintro((rfl|h)|h)
     ·exact .inr ⟨.inl rfl,hc.1⟩
     ·exact .inl h
     ·exact .inr ⟨.inr h.1,h.2⟩
    ·rintro(h|⟨rfl|h,h'⟩)
     ·exact .inl (.inr h)
     ·exact .inl (.inl rfl)
     ·exact .inr ⟨h,h'⟩
   ·have hs:met[a.toNat]? =some false:=by
     have:cz met a=false:=hc.2;unfold cz at this;rw[List.getD_eq_getElem?_getD]at this;have hl:a.toNat<met.length:=by omega
     rw[List.getElem?_eq_getElem hl]at this⊢;simpa using this
    have:=VL hs;rw[h4,List.length_append,List.length_singleton];omega
   ·rw[List.mem_cons,h3 n];simp only[List.mem_cons];constructor
    ·rintro(rfl|⟨h,h',h''⟩)
     ·exact⟨.inl rfl,hc⟩
     ·have hn:=(hr' n h).1;rw[JQ ha.1 hn (by omega)]at h'';simp only[Bool.or_eq_false_iff]at h'';exact⟨.inr h,h',h''.2⟩
    ·rintro⟨rfl|h,h',h''⟩
     ·exact .inl rfl
     ·by_cases e:n=a
      ·exact .inl e
      ·refine .inr ⟨h,h',?_⟩;rw[JQ ha.1 (hr' n h).1 (by omega)];simp[e,h'']
  ·rw[if_neg hc];obtain⟨h1,h2,h4,t,h5,h3⟩:=JR (g:=g) (aC:=aC) ns met q hm hr';simp only[Bool.and_eq_true,Bool.not_eq_true',not_and,Bool.not_eq_false]at hc;refine⟨h1,λn hn=>?_,h4,t,h5,λn=>?_⟩
   ·rw[h2 n hn];simp only[List.mem_cons];constructor
    ·rintro(h|⟨h,h'⟩)
     ·exact .inl h
     ·exact .inr ⟨.inr h,h'⟩
    ·rintro(h|⟨rfl|h,h'⟩)
     ·exact .inl h
     ·exact .inl (hc h')
     ·exact .inr ⟨h,h'⟩
   ·rw[h3 n];simp only[List.mem_cons];constructor
    ·rintro⟨h,h'⟩;exact⟨.inr h,h'⟩
    ·rintro⟨rfl|h,h',h''⟩
     ·rw[hc h']at h'';cases h''
     ·exact⟨h,h',h''⟩
inductive kV(g:List (List Int))(aC:List Bool)(s:Int):Int->Prop
 |refl:kV g aC s s
 |step {i n:Int} {l:List Int} (h:kV g aC s i) (hl:g[i.toNat]? =some l) (hn:n∈l) (hi:cz aC n=true):kV g aC s n
theorem kV.trans{g:List (List Int)}{aC:List Bool}{a b c:Int}(h:kV g aC a b)(h2:kV g aC b c):kV g aC a c:=by
 induction h2 with
 |refl=>exact h
 |step _ hl hn hi ih=>exact .step ih hl hn hi
theorem fC{g:List (List Int)}{n:Int}(h:Rg g n):g[n.toNat]? =some (g.getD n.toNat []):=by
 have hl:n.toNat<g.length:=by unfold Rg at h;omega
 rw[List.getD_eq_getElem?_getD,List.getElem?_eq_getElem hl];rfl
theorem VM{g:List (List Int)}{aC:List Bool}(hg:∀l∈g,∀n∈l,Rg g n):∀(f:Nat) (met:List Bool) (queue V:List Int),met.length=g.length->(∀n∈queue,Rg g n)->
 (∀n,0<=n->(cz met n=true↔n∈V\/n∈queue))->(∀v∈V,∀l,g[v.toNat]? =some l->∀n∈l,cz aC n=true->n∈V\/n∈queue)->left met+queue.length<=f->
 (∀v,v∈V\/v∈qR g aC f met queue->∀l,g[v.toNat]? =some l->∀n∈l,cz aC n=true->n∈V\/n∈qR g aC f met queue)/\(∀n∈queue,n∈qR g aC f met queue)/\
 (∀n∈qR g aC f met queue,∃q∈queue,kV g aC q n)/\∀n∈qR g aC f met queue,Rg g n
 |0,met,queue,V,hm,hq,hM,hcl,hf=>by
  have:queue=[]:=List.length_eq_zero_iff.1 (by omega);subst this;simp only[qR];exact⟨λv hv l hl n hn hi=>hcl v (by simpa using hv) l hl n hn hi,(by simp),(by simp),(by simp)⟩
 |f+1,met,[],V,hm,hq,hM,hcl,hf=>by
  simp only[qR];exact⟨λv hv l hl n hn hi=>hcl v (by simpa using hv) l hl n hn hi,(by simp),(by simp),(by simp)⟩
 |f+1,met,q::qs,V,hm,hq,hM,hcl,hf=>by
  have hq0:=hq q (by simp);have hgd:=fC hq0;have hns:∀n∈g.getD q.toNat [],Rg g n:=hg _ (List.mem_of_getElem? hgd);obtain⟨h1,h2,h4,t,h5,h3⟩:=JR (g:=g) (aC:=aC) (g.getD q.toNat []) met (q::qs) hm hns;rw[qR];generalize hin:inner aC (g.getD q.toNat []) met (q::qs)=r at h1 h2 h4 h5;obtain⟨met',q'⟩:=r;dsimp only at h1 h2 h4 h5⊢;subst h5;rw[List.cons_append,List.tail_cons];have hqt:∀n∈qs++t,Rg g n:=λn hn=>by
   rcases List.mem_append.1 hn with h|h
   ·exact hq n (by simp[h])
   ·exact hns n ((h3 n).1 h).1
  obtain⟨c1,c2,c3,c4⟩:=VM hg f met' (qs++t) (q::V) h1 hqt (λn hn=>by
   rw[h2 n hn,hM n hn];simp only[List.mem_cons,List.mem_append,h3 n];constructor
   ·rintro((h|rfl|h)|⟨h,h'⟩)
    ·exact .inl (.inr h)
    ·exact .inl (.inl rfl)
    ·exact .inr (.inl h)
    ·cases hme:cz met n with
     |true=>
      rcases(hM n hn).1 hme with h''|h''
      ·exact .inl (.inr h'')
      ·rcases List.mem_cons.1 h'' with rfl|h''
       ·exact .inl (.inl rfl)
       ·exact .inr (.inl h'')
     |false=>exact .inr (.inr ⟨h,h',rfl⟩)
   ·rintro((rfl|h)|h|⟨h,h',_⟩)
    ·exact .inl (.inr (.inl rfl))
    ·exact .inl (.inl h)
    ·exact .inl (.inr (.inr h))
    ·exact .inr ⟨h,h'⟩) (λv hv l hl n hn hi=>by
   rcases List.mem_cons.1 hv with rfl|hv
   ·rw[hgd]at hl;cases hl;have hn0:=(hns n hn).1;cases hme:cz met n with
    |true=>
     rcases(hM n hn0).1 hme with h''|h''
     ·exact .inl (by simp[h''])
     ·rcases List.mem_cons.1 h'' with rfl|h''
      ·exact .inl (by simp)
      ·exact .inr (by simp[h''])
    |false=>exact .inr (List.mem_append_right _ ((h3 n).2 ⟨hn,hi,hme⟩))
   ·rcases hcl v hv l hl n hn hi with h|h
    ·exact .inl (by simp[h])
    ·rcases List.mem_cons.1 h with rfl|h
     ·exact .inl (by simp)
     ·exact .inr (by simp[h])) (by
   simp only[List.cons_append,List.length_cons,List.length_append]at h4 hf⊢;omega)
  refine⟨λv hv l hl n hn hi=>?_,λn hn=>?_,λn hn=>?_,λn hn=>?_⟩
  ·have:=c1 v (by
    rcases hv with h|h
    ·exact .inl (by simp[h])
    ·rcases List.mem_cons.1 h with rfl|h
     ·exact .inl (by simp)
     ·exact .inr h) l hl n hn hi
   rcases this with h|h
   ·rcases List.mem_cons.1 h with rfl|h
    ·exact .inr (by simp)
    ·exact .inl h
   ·exact .inr (by simp[h])
  ·rcases List.mem_cons.1 hn with rfl|hn
   ·simp
   ·exact List.mem_cons_of_mem _ (c2 n (by simp[hn]))
  ·rcases List.mem_cons.1 hn with rfl|hn
   ·exact⟨n,by simp,.refl⟩
   ·obtain⟨p,hp,hr⟩:=c3 n hn;rcases List.mem_append.1 hp with hp|hp
    ·exact⟨p,by simp[hp],hr⟩
    ·obtain⟨h,h',_⟩:=(h3 p).1 hp;exact⟨q,by simp,(kV.step .refl hgd h h').trans hr⟩
  ·rcases List.mem_cons.1 hn with rfl|hn
   ·exact hq0
   ·exact c4 n hn
theorem VN(m:Nat)(s:Int):(oM m s).length=m:=by rw[oM,List.length_set,List.length_replicate]
theorem OD{g:List (List Int)}{aC:List Bool}(hg:∀l∈g,∀n∈l,Rg g n){s:Int}(hs:Rg g s)(n:Int):n∈xU g aC s↔kV g aC s n:=by
 have hs':=hs;unfold Rg at hs';obtain⟨c1,c2,c3,_⟩:=VM (g:=g) (aC:=aC) hg (g.length+1) (oM g.length s) [s] [] (VN _ _) (λn hn=>by rw[List.mem_singleton.1 hn];exact hs) (λn hn=>by
  rw[oM,JQ hs'.1 hn (by rw[List.length_replicate];omega)];have:cz (List.replicate g.length false) n=false:=by
   unfold cz;rw[List.getD_eq_getElem?_getD,List.getElem?_replicate];split<;>rfl
  simp[this]) (by simp) (by
  have:left (oM g.length s)<=(oM g.length s).length:=List.length_filter_le _ _;rw[VN]at this;simp;omega)
 constructor
 ·intro h;obtain⟨q,hq,hr⟩:=c3 n h;rw[List.mem_singleton.1 hq]at hr;exact hr
 ·intro h;induction h with
  |refl=>exact c2 s (by simp)
  |step _ hl hn hi ih=>exact(c1 _ (.inr ih) _ hl _ hn hi).resolve_left (by simp)
theorem VO{g:List (List Int)}{aC:List Bool}(hg:∀l∈g,∀n∈l,Rg g n){s:Int}(hs:Rg g s):∀n∈xU g aC s,Rg g n:=λn hn=>by
 have h:=(OD hg hs n).1 hn;cases h with
 |refl=>exact hs
 |step _ hl hn _=>exact hg _ (List.mem_of_getElem? hl) n hn
def xV(part:List Int)(ns:List Int)(m:Int):List Int:=ns.foldl (λp n=>p.set n.toNat m) part
theorem VP:∀(ns part:List Int) (m:Int),(xV part ns m).length=part.length
 |[],part,m=>rfl
 |n::ns,part,m=>by
  show(xV (part.set n.toNat m) ns m).length=_;rw[VP ns,List.length_set]
def Bo(g:List (List Int))(aC:List Bool)(x:List Int×Nat)(i:Nat):List Int×Nat:=
 if cz aC i=true/\x.1.getD i 0<=0 then(xV x.1 (xU g aC i) (x.2+1:Nat),x.2+1)else x
def eF(g:List (List Int))(aC:List Bool)(k:Nat):List Int×Nat:=(List.range k).foldl (Bo g aC) (List.replicate g.length 0,0)
theorem JS(g:List (List Int))(aC:List Bool)(k:Nat):eF g aC (k+1)=Bo g aC (eF g aC k) k:=by
 rw[eF,List.range_succ,List.foldl_append];rfl
theorem JU(g:List (List Int))(aC:List Bool):∀k,(eF g aC k).1.length=g.length/\(eF g aC k).2<=k/\∀p∈(eF g aC k).1,0<=p/\p<=(eF g aC k).2
 |0=>by
  refine⟨by simp[eF],by simp[eF],λp hp=>?_⟩;simp[eF]at hp⊢;omega
 |k+1=>by
  obtain⟨h1,h2,h3⟩:=JU g aC k;rw[JS,Bo];split
  ·refine⟨by rw[VP];exact h1,by show _+1<=_;omega,?_⟩;have:∀(ns part:List Int) (m:Nat),(∀p∈part,0<=p/\p<=(m:Int))->∀p∈xV part ns (m:Nat),0<=p/\p<=(m:Int):=by
    intro ns;induction ns with
    |nil=>intro part m h;exact h
    |cons n ns ih=>
     intro part m h;refine ih _ m λp hp=>?_;rcases List.mem_or_eq_of_mem_set hp with hp|rfl
     ·exact h p hp
     ·omega
   exact this _ _ _ λp hp=>by have:=h3 p hp;omega
  ·exact⟨h1,by omega,h3⟩
end Gph
namespace Gph
def xW(aC:List Bool)(l:List Int):Nat:=(l.filter (cz aC)).length
def si(aC:List Bool)(k:Nat):Nat:=((List.range k).filter λi=>cz aC (i:Nat)).length
def xX(g:List (List Int))(aC:List Bool)(k:Nat):Prop:=∀i:Nat,i<k->cz aC i=true->xW aC (g.getD i [])=2
open Classical in
noncomputable def Bp(g:List (List Int))(aC:List Bool):Bool:=decide (xX g aC g.length/\3<=si aC g.length/\(eF g aC g.length).2=1)
theorem afW(aC:List Bool)(k:Nat):si aC (k+1)=si aC k+if cz aC (k:Nat)then 1 else 0:=by
 rw[si,List.range_succ,List.filter_append,List.length_append,<- si];congr 1;simp only[List.filter_cons,List.filter_nil];split<;>rfl
theorem afX(aC:List Bool)(k:Nat):si aC k<=k:=by
 have:=List.length_filter_le (λi=>cz aC ((i:Nat):Int)) (List.range k);rw[List.length_range]at this;exact this
open Classical in
theorem JV{g:List (List Int)}{aC:List Bool}:Bp g aC=true↔xX g aC g.length/\3<=si aC g.length/\(eF g aC g.length).2=1:=by
 unfold Bp;exact decide_eq_true_iff
theorem VQ{g:List (List Int)}{aC:List Bool}(h:¬(xX g aC g.length/\3<=si aC g.length/\(eF g aC g.length).2=1)):Bp g aC=false:=Bool.eq_false_iff.2 λe=>h (JV.1 e)
end Gph
namespace Gph
variable {g:List (List Int)} {aC:List Bool}
theorem VS:∀(ns part:List Int) (m:Int) (n:Nat),(∀x∈ns,0<=x/\x<part.length)->(xV part ns m).getD n 0=if(n:Int)∈ns then m else part.getD n 0
 |[],part,m,n,_=>by simp[xV]
 |a::ns,part,m,n,h=>by
  have ha:=h a (by simp);have h2:=VS ns (part.set a.toNat m) m n (λx hx=>by rw[List.length_set];exact h x (by simp[hx]));show(xV (part.set a.toNat m) ns m).getD n 0=_;rw[h2];obtain⟨a,rfl⟩:=Int.eq_ofNat_of_zero_le ha.1;by_cases e1:(n:Int)∈ns
  ·rw[if_pos e1,if_pos (List.mem_cons_of_mem _ e1)]
  ·rw[if_neg e1];by_cases e2:n=a
   ·subst e2;rw[if_pos (by simp),Int.toNat_natCast,List.getD_eq_getElem?_getD,List.getElem?_set];have:n<part.length:=by omega
    simp[this]
   ·rw[if_neg (by simp only[List.mem_cons,not_or];exact⟨by omega,e1⟩),Int.toNat_natCast,List.getD_eq_getElem?_getD,List.getElem?_set,if_neg (λe=>e2 e.symm),List.getD_eq_getElem?_getD]
def OE(g:List (List Int))(aC:List Bool)(k n:Nat):Prop:=∃j,j<k/\cz aC j=true/\kV g aC j n
theorem VT(hg:∀l∈g,∀n∈l,Rg g n):∀k,k<=g.length->∀n:Nat,n<g.length->(0<(eF g aC k).1.getD n 0↔OE g aC k n)
 |0,_,n,hn=>by
  constructor
  ·intro h;simp[eF,List.getD_eq_getElem?_getD,List.getElem?_replicate,hn]at h
  ·rintro⟨j,hj,_⟩;omega
 |k+1,hk,n,hn=>by
  have ih:=VT hg k (by omega);have hlen:=(JU g aC k).1;have hkr:Rg g (k:Int):=⟨by omega,by omega⟩
  rw[JS,Bo];by_cases hc:cz aC k=true/\(eF g aC k).1.getD k 0<=0
  ·rw[if_pos hc];show 0<(xV _ _ _).getD n 0↔_;rw[VS _ _ _ _ (λx hx=>by rw[hlen];exact VO hg hkr x hx)];by_cases hr:(n:Int)∈xU g aC k
   ·rw[if_pos hr];have:=(OD hg hkr n).1 hr;exact⟨λ_=>⟨k,by omega,hc.1,this⟩,λ_=>by omega⟩
   ·rw[if_neg hr,ih n hn];rw[OD hg hkr]at hr;constructor
    ·rintro⟨j,h1,h2,h3⟩;exact⟨j,by omega,h2,h3⟩
    ·rintro⟨j,h1,h2,h3⟩;by_cases e:j=k
     ·subst e;exact absurd h3 hr
     ·exact⟨j,by omega,h2,h3⟩
  ·rw[if_neg hc,ih n hn];constructor
   ·rintro⟨j,h1,h2,h3⟩;exact⟨j,by omega,h2,h3⟩
   ·rintro⟨j,h1,h2,h3⟩;by_cases e:j=k
    ·subst e;have:0<(eF g aC j).1.getD j 0:=by
      apply Classical.byContradiction;intro hno;exact hc ⟨h2,by omega⟩
     obtain⟨i,q1,q2,q3⟩:=(ih j (by omega)).1 this;exact⟨i,q1,q2,q3.trans h3⟩
    ·exact⟨j,by omega,h2,h3⟩
open Classical in
noncomputable def cnt(g:List (List Int))(aC:List Bool):Nat->Nat
 |0=>0
 |k+1=>cnt g aC k+if cz aC k=true/\¬OE g aC k k then 1 else 0
theorem OG(hg:∀l∈g,∀n∈l,Rg g n):∀k,k<=g.length->(eF g aC k).2=cnt g aC k
 |0,_=>by simp[eF,cnt]
 |k+1,hk=>by
  have ih:=OG hg k (by omega);have hs:=VT (aC:=aC) hg k (by omega) k (by omega);rw[JS,Bo,cnt];by_cases hc:cz aC k=true/\(eF g aC k).1.getD k 0<=0
  ·rw[if_pos hc,if_pos ⟨hc.1,λh=>by have:=hs.2 h;omega⟩,<- ih]
  ·rw[if_neg hc,if_neg (λh=>hc ⟨h.1,by
    apply Classical.byContradiction;intro hno;exact h.2 (hs.1 (by omega))⟩),Nat.add_zero,ih]
def lG(g:List (List Int)):Prop:=∀(i:Nat) l,g[i]? =some l->∀n∈l,Rg g n/\∀l',g[n.toNat]? =some l'->(i:Int)∈l'
theorem lG.rg(h:lG g):∀l∈g,∀n∈l,Rg g n:=λl hl n hn=>by
 obtain⟨i,hi⟩:=List.getElem?_of_mem hl;exact(h i l hi n hn).1
theorem kV.rg(h:lG g){a b:Int}(ha:Rg g a)(r:kV g aC a b):Rg g b:=by
 cases r with
 |refl=>exact ha
 |step _ hl hn _=>exact h.rg _ (List.mem_of_getElem? hl) _ hn
theorem kV.symm(h:lG g){a b:Int}(ha:Rg g a)(hi:cz aC a=true)(r:kV g aC a b):kV g aC b a:=by
 induction r with
 |refl=>exact .refl
 |step r0 hl hn hin ih=>
  rename_i i n l;have hri:=kV.rg h ha r0;have afZ:cz aC i=true:=by
   cases r0 with
   |refl=>exact hi
   |step _ _ _ q=>exact q
  obtain⟨q1,q2⟩:=h i.toNat l hl n hn;have:=q2 _ (fC q1);have hc:((i.toNat:Nat):Int)=i:=by unfold Rg at hri;omega
  rw[hc]at this;exact(kV.step .refl (fC q1) this afZ).trans ih
theorem af0(h:lG g){f:Nat}(hf:f<g.length)(hin:cz aC f=true)(xM:∀j,j<f->cz aC (j:Nat)=false):
 cnt g aC g.length=1↔∀i:Nat,i<g.length->cz aC i=true->kV g aC f i:=by
 have base:∀k,k<=f->cnt g aC k=0:=by
  intro k;induction k with
  |zero=>intro _;rfl
  |succ k ih=>
   intro hk;rw[cnt,ih (by omega),if_neg (λq=>by rw[xM k (by omega)]at q;cases q.1)]
 have uY:cnt g aC (f+1)=1:=by
  rw[cnt,base f (Nat.le_refl _),if_pos ⟨hin,λ⟨j,h1,h2,_⟩=>by rw[xM j h1]at h2;cases h2⟩]
 have mono:∀k d,cnt g aC k<=cnt g aC (k+d):=by
  intro k d;induction d with
  |zero=>exact Nat.le_refl _
  |succ d ih=>rw[<- Nat.add_assoc,cnt];omega
 constructor
 ·intro h1 i;induction i using Nat.strongRecOn with
  |_ i ih=>
   intro hi hii;by_cases e:i=f
   ·subst e;exact .refl
   have hfi:f<i:=by
    apply Classical.byContradiction;intro hno;rw[xM i (by omega)]at hii;cases hii
   have ho:OE g aC i i:=by
    apply Classical.byContradiction;intro hno;have e1:cnt g aC (i+1)=cnt g aC i+1:=by rw[cnt,if_pos ⟨hii,hno⟩]
    have e2:=mono (f+1) (i - (f+1));have e3:=mono (i+1) (g.length - (i+1));rw[show f+1+(i - (f+1))=i by omega]at e2;rw[show i+1+(g.length - (i+1))=g.length by omega]at e3;omega
   obtain⟨j,q1,q2,q3⟩:=ho;exact(ih j q1 (by omega) q2).trans q3
 ·intro hall;have:∀d,f+1+d<=g.length->cnt g aC (f+1+d)=1:=by
   intro d;induction d with
   |zero=>intro _;exact uY
   |succ d ih=>
    intro hd;rw[<- Nat.add_assoc,cnt,ih (by omega),if_neg (λq=>q.2 ⟨f,by omega,hin,hall _ (by omega) q.1⟩)]
  have:=this (g.length - (f+1)) (by omega)
  rwa [show f+1+(g.length - (f+1))=g.length by omega]at this
end Gph
namespace Gph
structure JW where
 kind:Int
 cells:List Int
 set:Int
 other:Int
 lo:Int
 hi:Int
 runs:List Int
 rule:Int
 at_:Int
structure VU where
 cells:Int
 symbols:Int
 values:List Int
 aA:List (List Int)
 cons:List JW
structure OH(cells symbols:Int)(c:JW):Prop where
 cell:∀(i:Nat) x,c.cells[i]? =some x->0<=x/\x<cells/\(8<=c.kind->x=i)
 nd:c.cells.Nodup
 kind:1<=c.kind/\c.kind<=9
 two:c.kind=6\/c.kind=7->c.cells.length=2
 all:8<=c.kind->(c.cells.length:Int)=cells
 set:0<=c.set/\c.set<(2^symbols.toNat:Nat)
 other:0<=c.other/\c.other<(2^symbols.toNat:Nat)
 lo:0<=c.lo/\c.lo<=65536
 hi:0<=c.hi/\c.hi<=65536
 amY:c.runs.length<=8
 runs:∀x∈c.runs,1<=x/\x<=256
theorem OH.len{cells symbols:Int}{c:JW}(h:OH cells symbols c):(c.cells.length:Int)<=cells\/c.cells=[]:=by
 -- distinct numbers below 'cells'
 by_cases hn:c.cells=[]
 ·exact .inr hn
 left;have hb:∀x∈c.cells,0<=x/\x<cells:=λx hx=>by
  obtain⟨i,hi⟩:=List.getElem?_of_mem hx;have:=h.cell i x hi;exact⟨this.1,this.2.1⟩
 have:∀(m:Nat) (l:List Int),l.Nodup->(∀x∈l,0<=x/\x<(m:Int))->l.length<=m:=by
  intro m;induction m with
  |zero=>
   intro l _ hl;cases l with
   |nil=>simp
   |cons a l=>have:=hl a (by simp);omega
  |succ m ih=>
   intro l hd hl;by_cases hm:(m:Int)∈l
   ·have h1:=List.length_erase_of_mem hm;have h2:=ih (l.erase (m:Int)) (hd.erase _) (λx hx=>by
     have hne:x≠(m:Int):=λe=>by
      subst e;exact(List.Nodup.mem_erase_iff hd).1 hx|>.1 rfl
     have:=hl x (List.mem_of_mem_erase hx);omega)
    omega
   ·have:=ih l hd (λx hx=>by
     have hne:x≠(m:Int):=λe=>hm (e▸hx);have:=hl x hx;omega)
    omega
 have h0:0<=cells:=by
  obtain⟨a,ha⟩:=List.exists_mem_of_ne_nil _ hn;have:=hb a ha;omega
 have:=this cells.toNat c.cells h.nd (λx hx=>by have:=hb x hx;omega);omega
