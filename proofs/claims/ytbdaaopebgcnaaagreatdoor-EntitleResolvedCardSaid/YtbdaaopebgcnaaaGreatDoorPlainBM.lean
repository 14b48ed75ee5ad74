/-
  All totals that are possible: lists in increasing order, without doubles.
-/
import Derived.Test.YtbdaaopebgcnaaaGreatDoorPlainAM
set_option linter.all false
namespace Rk
def jr:List Int->List Int->Bool
 |a::ps,b::bs=>if a≠b then decide (a<b)else jr ps bs
 |_,_=>false
theorem JN:∀xs:List Int,jr xs xs=false
 |[]=>rfl
 |a::ps=>by unfold jr;rw[if_neg (λe=>e rfl)];exact JN ps
theorem Fp{a b:Int}{xs ys:List Int}:jr (a::xs) (b::ys)=true↔a<b\/a=b/\jr xs ys=true:=by
 rw[jr];split
 ·rw[decide_eq_true_iff];constructor
  ·exact .inl
  ·rintro(h|⟨h,_⟩)
   ·exact h
   ·contradiction
 ·rename_i h;have h:=Decidable.not_not.1 h;constructor
  ·exact λk=>.inr ⟨h,k⟩
  ·rintro(k|⟨_,k⟩)
   ·omega
   ·exact k
theorem JO:∀{xs ys zs:List Int},jr xs ys=true->jr ys zs=true->jr xs zs=true
 |a::xs,b::ys,c::zs,h1,h2=>by
  rw[Fp]at h1 h2⊢;rcases h1 with h1|⟨h1,h3⟩<;>rcases h2 with h2|⟨h2,h4⟩
  ·left;omega
  ·left;omega
  ·left;omega
  ·right;exact⟨by omega,JO h3 h4⟩
 |[],_,_,h1,_=>by simp[jr]at h1
 |_::_,[],_,h1,_=>by simp[jr]at h1
 |_::_,_::_,[],_,h2=>by simp[jr]at h2
theorem aa1{xs ys:List Int}(h:jr xs ys=true):jr ys xs=false:=by
 cases e:jr ys xs with
 |false=>rfl
 |true=>have:=JO h e;rw[JN]at this;cases this
theorem JP:∀{xs ys:List Int},xs.length=ys.length->jr xs ys=false->xs≠ys->jr ys xs=true
 |[],[],_,_,h=>absurd rfl h
 |a::xs,b::ys,hl,h,hne=>by
  rw[Fp];rw[Bool.eq_false_iff,Ne,Fp,not_or]at h;by_cases e:a=b
  ·subst e;refine .inr ⟨rfl,JP (by simpa using hl) ?_ (λk=>hne (by rw[k]))⟩;rw[Bool.eq_false_iff];exact λk=>h.2 ⟨rfl,k⟩
  ·left;have:=h.1;omega
 |[],_::_,hl,_,_=>by simp at hl
 |_::_,[],hl,_,_=>by simp at hl
def uf(l:List (List Int)):Prop:=l.Pairwise λa b=>jr a b=true
theorem uf.nodup{l:List (List Int)}(h:uf l):l.Nodup:=List.Pairwise.imp (λ{a b} hab e=>by subst e;rw[JN]at hab;cases hab) h
theorem aa2{a b:List (List Int)}(ha:uf a)(hb:uf b)(h:∀x,x∈a↔x∈b):a=b:=by
 have hp:a.Perm b:=(List.perm_ext_iff_of_nodup ha.nodup hb.nodup).2 h;exact List.Perm.eq_of_pairwise (le:=λa b=>jr a b=true) (λx y _ _ h1 h2=>by rw[aa1 h1]at h2;cases h2) ha hb hp
def ug(x:List Int):List (List Int)->List (List Int)
 |[]=>[x]
 |y::ys=>if jr y x then y::ug x ys else if y=x then y::ys else x::y::ys
theorem JQ{x t:List Int}:∀{l:List (List Int)},t∈ug x l↔t=x\/t∈l
 |[]=>by simp[ug]
 |y::ys=>by
  rw[ug];split
  ·rw[List.mem_cons,JQ,List.mem_cons];constructor
   ·rintro(h|h|h)
    ·exact .inr (.inl h)
    ·exact .inl h
    ·exact .inr (.inr h)
   ·rintro(h|h|h)
    ·exact .inr (.inl h)
    ·exact .inl h
    ·exact .inr (.inr h)
  ·split
   ·rename_i e;subst e;rw[List.mem_cons];constructor
    ·exact .inr
    ·rintro(h|h)
     ·exact .inl h
     ·exact h
   ·rw[List.mem_cons,List.mem_cons]
theorem Qh{x:List Int}{c:Nat}(hx:x.length=c):∀{l:List (List Int)},(∀t∈l,t.length=c)->uf l->uf (ug x l)
 |[],_,_=>by rw[ug];exact List.pairwise_singleton _ _
 |y::ys,hl,h=>by
  obtain⟨h1,h2⟩:=List.pairwise_cons.1 h;rw[ug];split
  ·rename_i hlt;refine List.pairwise_cons.2 ⟨λt ht=>?_,Qh hx (λt ht=>hl t (List.mem_cons_of_mem _ ht)) h2⟩;rcases JQ.1 ht with rfl|ht
   ·exact hlt
   ·exact h1 t ht
  ·rename_i hlt;split
   ·exact h
   ·rename_i hne;have hxy:=JP (by rw[hl y (List.mem_cons_self ..),hx]) (Bool.eq_false_iff.2 hlt) hne;refine List.pairwise_cons.2 ⟨λt ht=>?_,h⟩;rcases List.mem_cons.1 ht with rfl|ht
    ·exact hxy
    ·exact JO hxy (h1 t ht)
def si(xs:List (List Int)):List (List Int):=xs.foldl (λm x=>ug x m) []
theorem Qi(xs:List (List Int))(x:List Int):si (xs++[x])=ug x (si xs):=by unfold si;rw[List.foldl_append];rfl
theorem JR{α:Type}{p:List α->Prop}(h0:p [])(h1:∀xs x,p xs->p (xs++[x])):∀(n:Nat) (xs:List α),xs.length=n->p xs
 |0,xs,h=>by rw[List.length_eq_zero_iff.1 h];exact h0
 |n+1,xs,h=>by
  have e:=List.dropLast_concat_getLast (l:=xs) (by intro e;rw[e]at h;cases h);rw[<- e];exact h1 _ _ (JR h0 h1 n _ (by rw[List.length_dropLast,h];rfl))
theorem Qj{t:List Int}(xs:List (List Int)):t∈si xs↔t∈xs:=
 JR (p:=λxs=>t∈si xs↔t∈xs) (by simp[si]) (λxs x ih=>by rw[Qi,JQ,ih,List.mem_append,List.mem_singleton,or_comm]) _ xs rfl
theorem aa3{c:Nat}(xs:List (List Int)):(∀t∈xs,t.length=c)->uf (si xs):=
 JR (p:=λxs=>(∀t∈xs,t.length=c)->uf (si xs)) (λ_=>List.Pairwise.nil) (λxs x ih h=>by
  rw[Qi];exact Qh (h x (by simp)) (λt ht=>h t (List.mem_append_left _ ((Qj xs).1 ht))) (ih λt ht=>h t (List.mem_append_left _ ht))) _ xs rfl
theorem aa4{α:Type}[DecidableEq α]{a b:List α}(ha:a.Nodup)(hb:b.Nodup)(h:∀x,x∈a↔x∈b):a.length=b.length:=
 Nat.le_antisymm (xq ha λx hx=>(h x).1 hx) (xq hb λx hx=>(h x).2 hx)
def wl(l:List aA)(p:Int):List (Int×Int):=(cz l p).map λi=>((l.getD i dR).lo,(l.getD i dR).hi)
theorem uh(l:List aA)(p:Int):(wl l p).length=(cz l p).length:=List.length_map ..
theorem Fq{l:List aA}{p:Int}{k i:Nat}(h:(cz l p)[k]? =some i):(wl l p)[k]? =some ((l.getD i dR).lo,(l.getD i dR).hi):=by unfold wl;rw[List.getElem?_map,h];rfl
theorem vN{s:aJ}{l:List aA}(h:∀x∈l,iq s x){p:Int}{i:Nat}(hi:i<(wl l p).length):0<=lo (wl l p) i/\lo (wl l p) i<=Rk.hi (wl l p) i/\Rk.hi (wl l p) i<=oG:=by
 rw[uh]at hi;have hg:=Fq (l:=l) (p:=p) (List.getElem?_eq_getElem hi);have hok:=(Ff h hi).2;rw[show(cz l p).getD i 0=(cz l p)[i]by rw[List.getD_eq_getElem?_getD,List.getElem?_eq_getElem hi];rfl]at hok;unfold lo Rk.hi;rw[List.getD_eq_getElem?_getD,hg];exact⟨hok.lo,hok.le,hok.hi⟩
def dS(s:aJ)(l:List aA):Nat->List (List Int)
 |0=>[List.replicate s.c.toNat 0]
 |p+1=>si ((dS s l p).flatMap λt=>(jJ (wl l p)).map λaU=>iL s l p aU t)
theorem xA{s:aJ}{l:List aA}{p:Nat}{u:List Int}:u∈dS s l (p+1)↔∃t∈dS s l p,∃aU∈jJ (wl l p),u=iL s l p aU t:=by
 rw[dS,Qj,List.mem_flatMap];constructor
 ·rintro⟨t,h1,h2⟩;obtain⟨aU,h3,rfl⟩:=List.mem_map.1 h2;exact⟨t,h1,aU,h3,rfl⟩
 ·rintro⟨t,h1,aU,h3,rfl⟩;exact⟨t,h1,List.mem_map_of_mem h3⟩
theorem qX(s:aJ)(l:List aA)(p:Nat)(aU t:List Int):(iL s l p aU t).length=t.length:=Fe ..
theorem kV{s:aJ}{l:List aA}:∀{p:Nat} {t:List Int},t∈dS s l p->t.length=s.c.toNat
 |0,t,h=>by rw[List.mem_singleton.1 h,List.length_replicate]
 |p+1,u,h=>by
  obtain⟨t,h1,aU,_,rfl⟩:=xA.1 h;rw[qX,kV h1]
theorem Fs(s:aJ)(l:List aA):∀p,uf (dS s l p)
 |0=>List.pairwise_singleton _ _
 |p+1=>aa3 (c:=s.c.toNat) _ λu hu=>by
  obtain⟨t,h1,h2⟩:=List.mem_flatMap.1 hu;obtain⟨aU,h3,rfl⟩:=List.mem_map.1 h2;rw[qX,kV h1]
theorem aa5{W:List (Int×Int)}(htop:∀i,i<W.length->hi W i<=oG){ps:List Int}(h:ps∈jJ W):ps.length=W.length:=((BG _ (BH htop 0) (by omega)).1 h).len
theorem aa6{W:List (Int×Int)}(htop:∀i,i<W.length->hi W i<=oG)(h0:∀i,i<W.length->0<=lo W i){ps:List Int}(h:ps∈jJ W){x:Int}(hx:x∈ps):1<=x/\x<=1+W.length:=by
 obtain⟨ts,h1,rfl⟩:=(E8 htop h0).1 h;have:=aaV hx;rw[h1.1]at this;exact this
theorem aa7{W:List (Int×Int)}(h:∀i,i<W.length->0<=lo W i/\lo W i<=hi W i/\hi W i<=oG):jJ W≠[]:=λe=>by
 have hm:=(E8 (ps:=places (W.map (·.1))) (λi hi=>(h i hi).2.2) (λi hi=>(h i hi).1)).2 ⟨W.map (·.1),⟨List.length_map ..,λi hi=>?_⟩,rfl⟩
 ·rw[e]at hm;cases hm
 ·have:=h i hi;have hg:(W.map (·.1)).getD i 0=lo W i:=by
   unfold lo;rw[List.getD_eq_getElem?_getD,List.getElem?_map,List.getD_eq_getElem?_getD,List.getElem?_eq_getElem hi];rfl
  rw[hg];omega
theorem JS{s:aJ}{l:List aA}(h:∀x∈l,iq s x):∀p,dS s l p≠[]
 |0=>by rw[dS];simp
 |p+1=>λe=>by
  obtain⟨t,ht⟩:=List.exists_mem_of_ne_nil _ (JS h p);obtain⟨aU,hp⟩:=List.exists_mem_of_ne_nil _ (aa7 (W:=wl l p) λi hi=>vN h hi);have:=xA.2 ⟨t,ht,aU,hp,rfl⟩;rw[e]at this;cases this
theorem Qk{s:aJ}{l:List aA}(hl:l.length<=32):∀(p:Nat) {t:List Int},t∈dS s l p->∀x∈t,0<=x/\x<=(p:Int)*33554432
 |0,t,h,x,hx=>by rw[List.mem_singleton.1 h]at hx;rw[List.eq_of_mem_replicate hx];omega
 |p+1,u,h,x,hx=>by
  obtain⟨t,h1,aU,_,rfl⟩:=xA.1 h;have h2:=JI (Qk hl p h1) (by omega) _ x hx;have:=Qb l (p:Int);have h3:((cz l p).length:Int)*1048576<=32*1048576:=Int.mul_le_mul_of_nonneg_right (by omega) (by decide);omega
def jv(s:aJ)(l:List aA):Prop:=∃p,p<s.p.toNat/\4096<(dS s l (p+1)).length
open Classical in
noncomputable def qY(s:aJ)(l:List aA):Int:=if eZ s l≠0 then eZ s l else if jv s l then 2 else 0
open Classical in
noncomputable def qZ(s:aJ)(l:List aA):List (List Int):=if qY s l=0 then dS s l s.p.toNat else[]
theorem Ql{s:aJ}{l:List aA}(h:eZ s l≠0):qY s l=eZ s l/\qZ s l=[]:=by
 have e:qY s l=eZ s l:=by unfold qY;rw[if_pos h]
 exact⟨e,by unfold qZ;rw[if_neg (by rw[e];exact h)]⟩
theorem Qm{s:aJ}{l:List aA}(h:eZ s l=0)(h2:jv s l):qY s l=2/\qZ s l=[]:=by
 have e:qY s l=2:=by unfold qY;rw[if_neg (by omega),if_pos h2]
 exact⟨e,by unfold qZ;rw[if_neg (by omega)]⟩
theorem Fu{s:aJ}{l:List aA}(h:eZ s l=0)(h2:¬jv s l):qY s l=0/\qZ s l=dS s l s.p.toNat:=by
 have e:qY s l=0:=by unfold qY;rw[if_neg (by omega),if_neg h2]
 exact⟨e,by unfold qZ;rw[if_pos e]⟩
theorem Qn{s:aJ}{l:List aA}{p:Nat}(hp:p<s.p.toNat){m:List (List Int)}(hn:m.Nodup)(hs:∀u∈m,u∈dS s l (p+1))(h:4096<m.length):jv s l:=
 ⟨p,hp,Nat.lt_of_lt_of_le h (xq hn hs)⟩
end Rk
namespace Rk
section
variable {W:List (Int×Int)}
def Cnd(W:List (Int×Int))(i:Nat)(x:Int):Prop:=aaL W x/\lo W i<=x/\x<=hi W i
structure Cut(W:List (Int×Int))(i:Nat)(ts:List Int):Prop where
 len:ts.length=i
 ok:∀j,j<i->Cnd W j (ts.getD j 0)
end
end Rk
namespace Rk
end Rk
namespace Rk
def iU(l:List aA)(R:List (Int×Int)):List aA:=List.zipWith (λx r=>{x with lo:=r.1,hi:=r.2}) l R
theorem Fv{l:List aA}{R:List (Int×Int)}(h:R.length=l.length):(iU l R).length=l.length:=by unfold iU;rw[List.length_zipWith,h,Nat.min_self]
theorem JU{l:List aA}{R:List (Int×Int)}{i:Nat}{x:aA}{r:Int×Int}(h1:l[i]? =some x)(h2:R[i]? =some r):(iU l R)[i]? =some {x with lo:=r.1,hi:=r.2}:=by unfold iU;rw[List.getElem?_zipWith,h1,h2]
theorem aa9{l:List aA}{R:List (Int×Int)}(n:Nat):(iU l R).take n=iU (l.take n) (R.take n):=by unfold iU;rw[List.take_zipWith]
theorem aba{l:List aA}{R:List (Int×Int)}(h:R.length=l.length)(f:aA->Bool)(hf:∀x (r:Int×Int),f {x with lo:=r.1,hi:=r.2}=f x):(iU l R).any f=l.any f:=by
 induction l generalizing R with
 |nil=>rfl
 |cons x l ih=>
  cases R with
  |nil=>simp at h
  |cons r R=>
   show(f _||(iU l R).any f)=(f x||l.any f)
   rw[hf,ih (by simpa using h)]
theorem abb{l:List aA}{R:List (Int×Int)}(h:R.length=l.length)(p:Int)(i:Nat):kR (iU l R) p i=kR l p i:=by
 unfold kR;cases hx:l[i]? with
 |none=>
  have:(iU l R)[i]? =none:=by rw[List.getElem?_eq_none_iff]at hx⊢;rw[Fv h];exact hx
  rw[this]
 |some x=>
  have hi:=(List.getElem?_eq_some_iff.1 hx).1;have hr:R[i]? =some (R[i]'(by omega)):=List.getElem?_eq_getElem _;rw[JU hx hr,aa9];dsimp only;rw[aba (by rw[List.length_take,List.length_take,h]) _ (λ_ _=>rfl)]
theorem Fw{l:List aA}{R:List (Int×Int)}(h:R.length=l.length)(p:Int):cz (iU l R) p=cz l p:=by
 unfold cz;rw[Fv h];exact List.filter_congr λi _=>abb h p i
theorem Qo{l:List aA}{R:List (Int×Int)}(h:R.length=l.length){i:Nat}(hi:i<l.length):(iU l R).getD i dR={l.getD i dR with lo:=(R.getD i (0,0)).1,hi:=(R.getD i (0,0)).2}:=by
 have hx:l[i]? =some l[i]:=List.getElem?_eq_getElem hi;have hr:R[i]? =some (R[i]'(by omega)):=List.getElem?_eq_getElem _;rw[List.getD_eq_getElem?_getD,JU hx hr,List.getD_eq_getElem?_getD,hx,List.getD_eq_getElem?_getD,hr];rfl
theorem abd{s:aJ}{l:List aA}{R:List (Int×Int)}(h:R.length=l.length){p:Nat}{own:List Nat}{aU t:List Int}{n:Nat}(hn:own.getD n 0<l.length):add1 s (iU l R) p own aU t n=add1 s l p own aU t n:=by
 unfold add1;rw[Qo h hn]
theorem Qp{s:aJ}{l:List aA}{R:List (Int×Int)}(h:R.length=l.length){p:Nat}{own:List Nat}{aU t:List Int}:∀{n:Nat},(∀i,i<n->own.getD i 0<l.length)->addN s (iU l R) p own aU t n=addN s l p own aU t n
 |0,_=>rfl
 |n+1,hn=>by rw[addN,addN,Qp h λi hi=>hn i (by omega),abd h (hn n (by omega))]
theorem abe{s:aJ}{l:List aA}{R:List (Int×Int)}(h:R.length=l.length){p:Nat}{aU t:List Int}:iL s (iU l R) p aU t=iL s l p aU t:=by
 unfold iL;rw[Fw h];refine Qp h λi hi=>?_;rw[List.getD_eq_getElem?_getD,List.getElem?_eq_getElem hi];exact Fh (List.getElem?_eq_getElem hi)
structure Less(l:List aA)(R:List (Int×Int)):Prop where
 len:R.length=l.length
 ok:∀(i:Nat) x r,l[i]? =some x->R[i]? =some r->x.lo<=r.1/\r.1<=r.2/\r.2<=x.hi
theorem Less.Qq{s:aJ}{l:List aA}{R:List (Int×Int)}(h:Less l R)(hok:∀x∈l,iq s x):∀x∈iU l R,iq s x:=λx hxm=>by
 obtain⟨i,hi⟩:=List.getElem?_of_mem hxm;have hlt:=(List.getElem?_eq_some_iff.1 hi).1;rw[Fv h.len]at hlt;have hx:l[i]? =some l[i]:=List.getElem?_eq_getElem hlt;have hr:R[i]? =some (R[i]'(by have:=h.len;omega)):=List.getElem?_eq_getElem _;have a:=hok _ (List.mem_of_getElem? hx);rw[JU hx hr]at hi;cases hi;have b:=h.ok i _ _ hx hr;have a1:=a.lo;have a2:=a.hi;exact⟨a.c0,a.c1,a.p0,a.p1,a.t0,a.t1,by dsimp only;omega,b.2.1,by dsimp only;omega⟩
theorem Less.qP{s:aJ}{l:List aA}{R:List (Int×Int)}(h:Less l R)(hc:eZ s l=0):eZ s (iU l R)=0:=by
 have hok:=pY hc;exact JG ⟨by rw[Fv h.len];exact hok.len,hok.pg,hok.sh,h.Qq hok.rs⟩
theorem Less.wl{s:aJ}{l:List aA}{R:List (Int×Int)}(h:Less l R)(hok:∀x∈l,iq s x){p:Int}{ts:List Int}(hi:BI (wl (iU l R) p) ts):BI (Rk.wl l p) ts:=by
 refine⟨by rw[hi.1,uh,uh,Fw h.len],λi hil=>?_⟩;have h2:=hi.2 i (by rw[uh,Fw h.len,<- uh];exact hil);rw[uh]at hil;have e1:=Fq (l:=l) (p:=p) (List.getElem?_eq_getElem hil);have e2:=Fq (l:=iU l R) (p:=p) (k:=i) (i:=(cz l p)[i]) (by rw[Fw h.len];exact List.getElem?_eq_getElem hil);have hlt:=Fh (List.getElem?_eq_getElem hil);generalize(cz l p)[i]=k at e1 e2 hlt;rw[Qo h.len hlt]at e2;have hx:l[k]? =some l[k]:=List.getElem?_eq_getElem hlt;have hr:R[k]? =some (R[k]'(by have:=h.len;omega)):=List.getElem?_eq_getElem _;have hb:=h.ok k _ _ hx hr;rw[show R.getD k (0,0)=R[k]'(by have:=h.len;omega)by rw[List.getD_eq_getElem?_getD,hr];rfl]at e2;rw[show l.getD k dR=l[k]by rw[List.getD_eq_getElem?_getD,hx];rfl]at e1;unfold lo Rk.hi at h2⊢;rw[List.getD_eq_getElem?_getD,e2]at h2;rw[List.getD_eq_getElem?_getD,e1];simp only[Option.getD_some]at h2 hb⊢;exact⟨Int.le_trans hb.1 h2.1,Int.le_trans h2.2 hb.2.2⟩
theorem Less.pos{s:aJ}{l:List aA}{R:List (Int×Int)}(h:Less l R)(hok:∀x∈l,iq s x){p:Int}{ps:List Int}(hp:ps∈jJ (Rk.wl (iU l R) p)):ps∈jJ (Rk.wl l p):=by
 have hok2:=h.Qq hok;obtain⟨ts,h1,rfl⟩:=(E8 (λi hi=>(vN hok2 hi).2.2) (λi hi=>(vN hok2 hi).1)).1 hp;exact(E8 (λi hi=>(vN hok hi).2.2) (λi hi=>(vN hok hi).1)).2 ⟨ts,h.wl hok h1,rfl⟩
theorem Less.dS{s:aJ}{l:List aA}{R:List (Int×Int)}(h:Less l R)(hok:∀x∈l,iq s x):∀(n:Nat) {u:List Int},u∈dS s (iU l R) n->u∈Rk.dS s l n
 |0,_,hu=>hu
 |n+1,u,hu=>by
  obtain⟨t,h1,aU,h2,rfl⟩:=xA.1 hu;exact xA.2 ⟨t,Less.dS h hok n h1,aU,h.pos hok h2,abe h.len⟩
theorem Less.lim{s:aJ}{l:List aA}{R:List (Int×Int)}(h:Less l R)(hok:∀x∈l,iq s x)(hl:¬jv s l):¬jv s (iU l R):=by
 rintro⟨p,hp,hlen⟩;exact hl (Qn hp (Fs ..).nodup (λu hu=>h.dS hok _ hu) hlen)
theorem Less.qZ{s:aJ}{l:List aA}{R:List (Int×Int)}(h:Less l R)(hc:eZ s l=0)(hl:¬jv s l){u:List Int}(hu:u∈qZ s (iU l R)):u∈Rk.qZ s l:=by
 have hok:=(pY hc).rs;rw[(Fu (h.qP hc) (h.lim hok hl)).2]at hu;rw[(Fu hc hl).2];exact h.dS hok _ hu
end Rk
namespace Rk
section
variable {W:List (Int×Int)} {pl:List Int} {fr:Int} {dn g:Nat}
def vO(W:List (Int×Int))(f:Nat)(pl:List Int)(fr:Int)(dn g:Nat):List (List Int):=
 if lY W pl fr g then(if late W pl fr g then[]else lZ W f (gF pl dn g) (jo W fr g+1) (dn+many W g))else[]
def q9(W:List (Int×Int))(f:Nat)(pl:List Int)(fr:Int)(dn g:Nat):List (List Int):=(List.range' 1 (g - 1)).flatMap (vO W f pl fr dn)
theorem abf{f:Nat}:q9 W f pl fr dn 1=[]:=rfl
theorem Qr{f:Nat}(hg:1<=g):q9 W f pl fr dn (g+1)=q9 W f pl fr dn g++vO W f pl fr dn g:=by
 unfold q9;obtain⟨k,rfl⟩:∃k,g=k+1:=⟨g - 1,by omega⟩
 rw[Nat.add_sub_cancel,Nat.add_sub_cancel,List.range'_concat,List.flatMap_append,Nat.one_mul,Nat.add_comm 1 k];simp
theorem abg{f:Nat}(h:dn≠W.length):lZ W (f+1) pl fr dn=q9 W f pl fr dn (2^W.length):=by
 rw[lZ,if_neg h];rfl
theorem Qs{f:Nat}(h:dn=W.length):lZ W f pl fr dn=[pl]:=by
 cases f with
 |zero=>rfl
 |succ f=>rw[lZ,if_pos h]
theorem Qt{f:Nat}:∀{k:Nat},1<=g->(q9 W f pl fr dn g).length<=(q9 W f pl fr dn (g+k)).length
 |0,_=>Nat.le_refl _
 |k+1,h=>by
  have:=Qt (f:=f) (k:=k) h;rw[<- Nat.add_assoc,Qr (by omega),List.length_append];omega
theorem abh{f g':Nat}(h:1<=g)(h2:g<=g'):(q9 W f pl fr dn g).length<=(q9 W f pl fr dn g').length:=by
 obtain⟨k,rfl⟩:=Nat.exists_eq_add_of_le h2;exact Qt h
theorem JV{i:Nat}:clash pl g (i+1)=(clash pl g i||(g.testBit i&&!eY pl i)):=by
 unfold clash;rw[List.range_succ,List.any_append];simp
theorem abj{i n:Nat}(hi:i<=n)(h:clash pl g i=true):clash pl g n=true:=by
 unfold clash at h⊢;rw[List.any_eq_true]at h⊢;obtain⟨k,h1,h2⟩:=h;exact⟨k,List.mem_range.2 (by have:=List.mem_range.1 h1;omega),h2⟩
def BM(W:List (Int×Int))(pl:List Int)(v:Int)(g i:Nat):Bool:=(List.range i).any λi=>!g.testBit i&&eY pl i&&decide (hi W i<=v)
theorem abk{v:Int}{i:Nat}:BM W pl v g (i+1)=(BM W pl v g i||(!g.testBit i&&eY pl i&&decide (hi W i<=v))):=by
 unfold BM;rw[List.range_succ,List.any_append];simp
def jV(pl:List Int)(dn g i:Nat):List Int:=gF (pl.take i) dn g++pl.drop i
theorem abl:jV pl dn g 0=pl:=by simp[jV,gF]
theorem abm:jV pl dn g pl.length=gF pl dn g:=by simp[jV]
theorem Qu{x:Int}{l:List Int}:gF (l++[x]) dn g=gF l dn g++[if g.testBit l.length then(dn:Int)+1 else x]:=by
 unfold gF;rw[List.mapIdx_append];simp
theorem abn{i:Nat}:(jV pl dn g i).length=pl.length:=by
 unfold jV;rw[List.length_append,qW,List.length_take,List.length_drop];omega
theorem abo{i:Nat}(hi:i<pl.length):(jV pl dn g i)[i]? =some pl[i]:=by
 unfold jV;have hl:(gF (pl.take i) dn g).length=i:=by rw[qW,List.length_take];omega
 rw[List.getElem?_append_right (by omega),hl,Nat.sub_self,List.getElem?_drop,Nat.add_zero,List.getElem?_eq_getElem hi]
theorem abp{i:Nat}(hi:i<pl.length)(hb:g.testBit i=true):(jV pl dn g i).set i ((dn:Int)+1)=jV pl dn g (i+1):=by
 unfold jV;have hl:(gF (pl.take i) dn g).length=i:=by rw[qW,List.length_take];omega
 have hx:pl[i]? =some pl[i]:=List.getElem?_eq_getElem hi;rw[List.set_append_right _ _ (by omega),hl,Nat.sub_self,fG hx,Qu,List.drop_eq_getElem_cons hi];have:(pl.take i).length=i:=by rw[List.length_take];omega
 rw[this,hb,List.append_assoc];rfl
theorem abq{i:Nat}(hi:i<pl.length)(hb:g.testBit i=false):jV pl dn g (i+1)=jV pl dn g i:=by
 unfold jV;have hx:pl[i]? =some pl[i]:=List.getElem?_eq_getElem hi;have:(pl.take i).length=i:=by rw[List.length_take];omega
 rw[fG hx,Qu,this,hb,List.append_assoc];show _++(pl[i]::pl.drop (i+1))=_;rw[<- List.drop_eq_getElem_cons hi]
def kW(pl:List Int)(dn g i:Nat):List Int:=pl.take i++(gF pl dn g).drop i
theorem Qv:kW pl dn g 0=gF pl dn g:=by simp[kW]
theorem Qw:kW pl dn g pl.length=pl:=by unfold kW;rw[List.take_length,List.drop_eq_nil_of_le (by rw[qW];omega),List.append_nil]
theorem Qx{i:Nat}:(kW pl dn g i).length=pl.length:=by
 unfold kW;rw[List.length_append,List.length_drop,qW,List.length_take];omega
theorem Qy{i:Nat}(hi:i<pl.length)(h0:pl[i]=0):(kW pl dn g i).set i 0=kW pl dn g (i+1):=by
 unfold kW;have hl:(pl.take i).length=i:=by rw[List.length_take];omega
 have hx:pl[i]? =some pl[i]:=List.getElem?_eq_getElem hi;rw[List.set_append_right _ _ (by omega),hl,Nat.sub_self,fG hx,h0,List.drop_eq_getElem_cons (by rw[qW];exact hi),List.append_assoc];rfl
theorem Qz{i:Nat}(hi:i<pl.length)(hb:g.testBit i=false):kW pl dn g (i+1)=kW pl dn g i:=by
 unfold kW;have hx:pl[i]? =some pl[i]:=List.getElem?_eq_getElem hi;have hs:(gF pl dn g)[i]'(by rw[qW];exact hi)=pl[i]:=by
  have h1:=zo (dn:=dn) (g:=g) hi;rw[hb]at h1;simp only[Bool.false_eq_true,if_false]at h1
  rwa [List.getD_eq_getElem?_getD,List.getElem?_eq_getElem (by rw[qW];exact hi),List.getD_eq_getElem?_getD,hx]at h1
 rw[fG hx,List.append_assoc];show _++(pl[i]::(gF pl dn g).drop (i+1))=_;rw[<- hs,<- List.drop_eq_getElem_cons (by rw[qW];exact hi)]
theorem Fx(m n:Nat):decide (((m>>>n&&&1:Nat):Int)=1)=m.testBit n:=by
 rw[Nat.testBit,Nat.and_comm,Nat.one_and_eq_mod_two];have:m>>>n%2=0\/m>>>n%2=1:=by omega
 rcases this with h|h<;>simp[h]
theorem abr(m n:Nat):decide (((m>>>n&&&1:Nat):Int)=0)=!m.testBit n:=by
 rw[Nat.testBit,Nat.and_comm,Nat.one_and_eq_mod_two];have:m>>>n%2=0\/m>>>n%2=1:=by omega
 rcases this with h|h<;>simp[h]
theorem QA{i:Nat}:jS W fr g (i+1)=if g.testBit i then max (jS W fr g i) (lo W i)else jS W fr g i:=rfl
theorem JW{i:Nat}:j6 W g (i+1)=if g.testBit i then min (j6 W g i) (hi W i)else j6 W g i:=rfl
theorem abt{i:Nat}:j6 W g i<=oG:=by
 induction i with
 |zero=>exact Int.le_refl _
 |succ i ih=>rw[JW];split<;>omega
end
end Rk
namespace Rk
theorem QB(l:List aA)(p:Int):∀n,n<=l.length->(je l p n).Nodup
 |0,_=>by simp[je,jd]
 |n+1,hn=>by
  have ih:=QB l p n (by omega);have hx:l[n]? =some (l[n]'(by omega)):=List.getElem?_eq_getElem _;have hg:l.getD n dR=l[n]'(by omega):=by rw[List.getD_eq_getElem?_getD,hx];rfl
  have hf:=Qd (p:=p) hx;generalize l[n]'(by omega)=x at hx hg hf;rw[JJ,hg];split
  ·rename_i h;rw[h]at hf;have hm:x.c∉je l p n:=by
    intro hm;rw[decide_eq_true hm]at hf;simp at hf
   rw[List.nodup_append];exact⟨ih,by simp,λa ha b hb e=>hm (by rw[<- List.mem_singleton.1 hb,<- e];exact ha)⟩
  ·exact ih
theorem abu{s:aJ}{l:List aA}(h:∀x∈l,iq s x)(p:Int):(cz l p).length<=s.c.toNat:=by
 have h1:=xq (a:=je l p l.length) (b:=ints (List.range s.c.toNat)) (QB l p l.length (Nat.le_refl _)) λc hc=>by
  obtain⟨i,hi,rfl⟩:=List.mem_map.1 hc;have hlt:=(JH hi).1;have hx:l[i]? =some l[i]:=List.getElem?_eq_getElem hlt;have hok:=h _ (List.getElem_mem hlt);rw[List.getD_eq_getElem?_getD,hx,Option.getD_some];have:=hok.c0;have:=hok.c1;exact List.mem_map.2 ⟨l[i].c.toNat,List.mem_range.2 (by omega),by omega⟩
 rw[xy,List.length_range]at h1;unfold je at h1;rw[List.length_map]at h1;exact h1
end Rk
namespace Rk
