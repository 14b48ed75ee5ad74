/-
  All totals that are possible: lists in increasing order, without doubles.
-/
import Derived.Test.YtbdaaopebgcnaaaGreatDoorPlainAM
set_option linter.all false
namespace Rk
def jY:List Int->List Int->Bool
 |a::ps,b::bs=>if a≠b then decide (a<b)else jY ps bs
 |_,_=>false
theorem Mx:∀xs:List Int,jY xs xs=false
 |[]=>rfl
 |a::ps=>by unfold jY;rw[if_neg (λe=>e rfl)];exact Mx ps
theorem Ib{a b:Int}{xs ys:List Int}:jY (a::xs) (b::ys)=true↔a<b\/a=b/\jY xs ys=true:=by
 rw[jY];split
 ·rw[decide_eq_true_iff];constructor
  ·exact .inl
  ·rintro(h|⟨h,_⟩)
   ·exact h
   ·contradiction
 ·rename_i h;have h:=Decidable.not_not.1 h;constructor
  ·exact λk=>.inr ⟨h,k⟩
  ·rintro(k|⟨_,k⟩)
   ·omega
   ·exact k
theorem MB:∀{xs ys zs:List Int},jY xs ys=true->jY ys zs=true->jY xs zs=true
 |a::xs,b::ys,c::zs,h1,h2=>by
  rw[Ib]at h1 h2⊢;rcases h1 with h1|⟨h1,h3⟩<;>rcases h2 with h2|⟨h2,h4⟩
  ·left;omega
  ·left;omega
  ·left;omega
  ·right;exact⟨by omega,MB h3 h4⟩
 |[],_,_,h1,_=>by simp[jY]at h1
 |_::_,[],_,h1,_=>by simp[jY]at h1
 |_::_,_::_,[],_,h2=>by simp[jY]at h2
theorem adJ{xs ys:List Int}(h:jY xs ys=true):jY ys xs=false:=by
 cases e:jY ys xs with
 |false=>rfl
 |true=>have:=MB h e;rw[Mx]at this;cases this
theorem MC:∀{xs ys:List Int},xs.length=ys.length->jY xs ys=false->xs≠ys->jY ys xs=true
 |[],[],_,_,h=>absurd rfl h
 |a::xs,b::ys,hl,h,hne=>by
  rw[Ib];rw[Bool.eq_false_iff,Ne,Ib,not_or]at h;by_cases e:a=b
  ·subst e;refine .inr ⟨rfl,MC (by simpa using hl) ?_ (λk=>hne (by rw[k]))⟩;rw[Bool.eq_false_iff];exact λk=>h.2 ⟨rfl,k⟩
  ·left;have:=h.1;omega
 |[],_::_,hl,_,_=>by simp at hl
 |_::_,[],hl,_,_=>by simp at hl
def vU(l:List (List Int)):Prop:=l.Pairwise λa b=>jY a b=true
theorem vU.nodup{l:List (List Int)}(h:vU l):l.Nodup:=List.Pairwise.imp (λ{a b} hab e=>by subst e;rw[Mx]at hab;cases hab) h
theorem Tj{a b:List (List Int)}(ha:vU a)(hb:vU b)(h:∀x,x∈a↔x∈b):a=b:=by
 have hp:a.Perm b:=(List.perm_ext_iff_of_nodup ha.nodup hb.nodup).2 h;exact List.Perm.eq_of_pairwise (le:=λa b=>jY a b=true) (λx y _ _ h1 h2=>by rw[adJ h1]at h2;cases h2) ha hb hp
def vV(x:List Int):List (List Int)->List (List Int)
 |[]=>[x]
 |y::ys=>if jY y x then y::vV x ys else if y=x then y::ys else x::y::ys
theorem ME{x t:List Int}:∀{l:List (List Int)},t∈vV x l↔t=x\/t∈l
 |[]=>by simp[vV]
 |y::ys=>by
  rw[vV];split
  ·rw[List.mem_cons,ME,List.mem_cons];constructor
   ·rintro(h|h|h)
    ·exact .inr (.inl h)
    ·exact .inl h
    ·exact .inr (.inr h)
   ·rintro(h|h|h)
    ·exact .inr (.inl h)
    ·exact .inl h
    ·exact .inr (.inr h)
  ·split
   ·rename_i e;subst e;rw[List.mem_cons];constructor
    ·exact .inr
    ·rintro(h|h)
     ·exact .inl h
     ·exact h
   ·rw[List.mem_cons,List.mem_cons]
theorem Tk{x:List Int}{c:Nat}(hx:x.length=c):∀{l:List (List Int)},(∀t∈l,t.length=c)->vU l->vU (vV x l)
 |[],_,_=>by rw[vV];exact List.pairwise_singleton _ _
 |y::ys,hl,h=>by
  obtain⟨h1,h2⟩:=List.pairwise_cons.1 h;rw[vV];split
  ·rename_i hlt;refine List.pairwise_cons.2 ⟨λt ht=>?_,Tk hx (λt ht=>hl t (List.mem_cons_of_mem _ ht)) h2⟩;rcases ME.1 ht with rfl|ht
   ·exact hlt
   ·exact h1 t ht
  ·rename_i hlt;split
   ·exact h
   ·rename_i hne;have hxy:=MC (by rw[hl y (List.mem_cons_self ..),hx]) (Bool.eq_false_iff.2 hlt) hne;refine List.pairwise_cons.2 ⟨λt ht=>?_,h⟩;rcases List.mem_cons.1 ht with rfl|ht
    ·exact hxy
    ·exact MB hxy (h1 t ht)
def uH(xs:List (List Int)):List (List Int):=xs.foldl (λm x=>vV x m) []
theorem Tm(xs:List (List Int))(x:List Int):uH (xs++[x])=vV x (uH xs):=by unfold uH;rw[List.foldl_append];rfl
theorem MF{α:Type}{p:List α->Prop}(h0:p [])(h1:∀xs x,p xs->p (xs++[x])):∀(n:Nat) (xs:List α),xs.length=n->p xs
 |0,xs,h=>by rw[List.length_eq_zero_iff.1 h];exact h0
 |n+1,xs,h=>by
  have e:=List.dropLast_concat_getLast (l:=xs) (by intro e;rw[e]at h;cases h);rw[<- e];exact h1 _ _ (MF h0 h1 n _ (by rw[List.length_dropLast,h];rfl))
theorem Tn{t:List Int}(xs:List (List Int)):t∈uH xs↔t∈xs:=
 MF (p:=λxs=>t∈uH xs↔t∈xs) (by simp[uH]) (λxs x ih=>by rw[Tm,ME,ih,List.mem_append,List.mem_singleton,or_comm]) _ xs rfl
theorem adK{c:Nat}(xs:List (List Int)):(∀t∈xs,t.length=c)->vU (uH xs):=
 MF (p:=λxs=>(∀t∈xs,t.length=c)->vU (uH xs)) (λ_=>List.Pairwise.nil) (λxs x ih h=>by
  rw[Tm];exact Tk (h x (by simp)) (λt ht=>h t (List.mem_append_left _ ((Tn xs).1 ht))) (ih λt ht=>h t (List.mem_append_left _ ht))) _ xs rfl
theorem adL{α:Type}[DecidableEq α]{a b:List α}(ha:a.Nodup)(hb:b.Nodup)(h:∀x,x∈a↔x∈b):a.length=b.length:=
 Nat.le_antisymm (yT ha λx hx=>(h x).1 hx) (yT hb λx hx=>(h x).2 hx)
def wl(l:List ak)(p:Int):List (Int×Int):=(aO l p).map λi=>((l.getD i dR).lo,(l.getD i dR).hi)
theorem qy(l:List ak)(p:Int):(wl l p).length=(aO l p).length:=List.length_map ..
theorem Bh{l:List ak}{p:Int}{k i:Nat}(h:(aO l p)[k]? =some i):(wl l p)[k]? =some ((l.getD i dR).lo,(l.getD i dR).hi):=by unfold wl;rw[List.getElem?_map,h];rfl
theorem rU{s:aK}{l:List ak}(h:∀x∈l,iq s x){p:Int}{i:Nat}(hi:i<(wl l p).length):0<=lo (wl l p) i/\lo (wl l p) i<=Rk.hi (wl l p) i/\Rk.hi (wl l p) i<=qw:=by
 rw[qy]at hi;have hg:=Bh (l:=l) (p:=p) (List.getElem?_eq_getElem hi);have hok:=(Dy h hi).2;rw[show(aO l p).getD i 0=(aO l p)[i]by rw[List.getD_eq_getElem?_getD,List.getElem?_eq_getElem hi];rfl]at hok;unfold lo Rk.hi;rw[List.getD_eq_getElem?_getD,hg];exact⟨hok.lo,hok.le,hok.hi⟩
def dJ(s:aK)(l:List ak):Nat->List (List Int)
 |0=>[List.replicate s.c.toNat 0]
 |p+1=>uH ((dJ s l p).flatMap λt=>(kw (wl l p)).map λaF=>iw s l p aF t)
theorem vW{s:aK}{l:List ak}{p:Nat}{u:List Int}:u∈dJ s l (p+1)↔∃t∈dJ s l p,∃aF∈kw (wl l p),u=iw s l p aF t:=by
 rw[dJ,Tn,List.mem_flatMap];constructor
 ·rintro⟨t,h1,h2⟩;obtain⟨aF,h3,rfl⟩:=List.mem_map.1 h2;exact⟨t,h1,aF,h3,rfl⟩
 ·rintro⟨t,h1,aF,h3,rfl⟩;exact⟨t,h1,List.mem_map_of_mem h3⟩
theorem tK(s:aK)(l:List ak)(p:Nat)(aF t:List Int):(iw s l p aF t).length=t.length:=Be ..
theorem lF{s:aK}{l:List ak}:∀{p:Nat} {t:List Int},t∈dJ s l p->t.length=s.c.toNat
 |0,t,h=>by rw[List.mem_singleton.1 h,List.length_replicate]
 |p+1,u,h=>by
  obtain⟨t,h1,aF,_,rfl⟩:=vW.1 h;rw[tK,lF h1]
theorem DI(s:aK)(l:List ak):∀p,vU (dJ s l p)
 |0=>List.pairwise_singleton _ _
 |p+1=>adK (c:=s.c.toNat) _ λu hu=>by
  obtain⟨t,h1,h2⟩:=List.mem_flatMap.1 hu;obtain⟨aF,h3,rfl⟩:=List.mem_map.1 h2;rw[tK,lF h1]
theorem adM{W:List (Int×Int)}(htop:∀i,i<W.length->hi W i<=qw){ps:List Int}(h:ps∈kw W):ps.length=W.length:=((Dt _ (Du htop 0) (by omega)).1 h).len
theorem adN{W:List (Int×Int)}(htop:∀i,i<W.length->hi W i<=qw)(h0:∀i,i<W.length->0<=lo W i){ps:List Int}(h:ps∈kw W){x:Int}(hx:x∈ps):1<=x/\x<=1+W.length:=by
 obtain⟨ts,h1,rfl⟩:=(Bd htop h0).1 h;have:=Mt hx;rw[h1.1]at this;exact this
theorem adO{W:List (Int×Int)}(h:∀i,i<W.length->0<=lo W i/\lo W i<=hi W i/\hi W i<=qw):kw W≠[]:=λe=>by
 have hm:=(Bd (ps:=places (W.map (·.1))) (λi hi=>(h i hi).2.2) (λi hi=>(h i hi).1)).2 ⟨W.map (·.1),⟨List.length_map ..,λi hi=>?_⟩,rfl⟩
 ·rw[e]at hm;cases hm
 ·have:=h i hi;have hg:(W.map (·.1)).getD i 0=lo W i:=by
   unfold lo;rw[List.getD_eq_getElem?_getD,List.getElem?_map,List.getD_eq_getElem?_getD,List.getElem?_eq_getElem hi];rfl
  rw[hg];omega
theorem MG{s:aK}{l:List ak}(h:∀x∈l,iq s x):∀p,dJ s l p≠[]
 |0=>by rw[dJ];simp
 |p+1=>λe=>by
  obtain⟨t,ht⟩:=List.exists_mem_of_ne_nil _ (MG h p);obtain⟨aF,hp⟩:=List.exists_mem_of_ne_nil _ (adO (W:=wl l p) λi hi=>rU h hi);have:=vW.2 ⟨t,ht,aF,hp,rfl⟩;rw[e]at this;cases this
theorem Tp{s:aK}{l:List ak}(hl:l.length<=32):∀(p:Nat) {t:List Int},t∈dJ s l p->∀x∈t,0<=x/\x<=(p:Int)*33554432
 |0,t,h,x,hx=>by rw[List.mem_singleton.1 h]at hx;rw[List.eq_of_mem_replicate hx];omega
 |p+1,u,h,x,hx=>by
  obtain⟨t,h1,aF,_,rfl⟩:=vW.1 h;have h2:=Dx (Tp hl p h1) (by omega) _ x hx;have:=Bf l (p:Int);have h3:((aO l p).length:Int)*1048576<=32*1048576:=Int.mul_le_mul_of_nonneg_right (by omega) (by decide);omega
def jm(s:aK)(l:List ak):Prop:=∃p,p<s.p.toNat/\4096<(dJ s l (p+1)).length
open Classical in
noncomputable def rV(s:aK)(l:List ak):Int:=if dL s l≠0 then dL s l else if jm s l then 2 else 0
open Classical in
noncomputable def rW(s:aK)(l:List ak):List (List Int):=if rV s l=0 then dJ s l s.p.toNat else[]
theorem Tq{s:aK}{l:List ak}(h:dL s l≠0):rV s l=dL s l/\rW s l=[]:=by
 have e:rV s l=dL s l:=by unfold rV;rw[if_pos h]
 exact⟨e,by unfold rW;rw[if_neg (by rw[e];exact h)]⟩
theorem MH{s:aK}{l:List ak}(h:dL s l=0)(h2:jm s l):rV s l=2/\rW s l=[]:=by
 have e:rV s l=2:=by unfold rV;rw[if_neg (by omega),if_pos h2]
 exact⟨e,by unfold rW;rw[if_neg (by omega)]⟩
theorem yY{s:aK}{l:List ak}(h:dL s l=0)(h2:¬jm s l):rV s l=0/\rW s l=dJ s l s.p.toNat:=by
 have e:rV s l=0:=by unfold rV;rw[if_neg (by omega),if_neg h2]
 exact⟨e,by unfold rW;rw[if_pos e]⟩
theorem Tt{s:aK}{l:List ak}{p:Nat}(hp:p<s.p.toNat){m:List (List Int)}(hn:m.Nodup)(hs:∀u∈m,u∈dJ s l (p+1))(h:4096<m.length):jm s l:=
 ⟨p,hp,Nat.lt_of_lt_of_le h (yT hn hs)⟩
end Rk
namespace Rk
section
variable {W:List (Int×Int)}
def Cnd(W:List (Int×Int))(i:Nat)(x:Int):Prop:=adx W x/\lo W i<=x/\x<=hi W i
structure Cut(W:List (Int×Int))(i:Nat)(ts:List Int):Prop where
 len:ts.length=i
 ok:∀j,j<i->Cnd W j (ts.getD j 0)
end
end Rk
namespace Rk
end Rk
namespace Rk
theorem adQ{s:aK}{l:List ak}{ts:List Int}(h:∀x∈l,iq s x)(ht:jV l ts)(p:Int):Bc (wl l p) (fT l ts p):=by
 refine⟨by rw[H8,qy],λi hi=>?_⟩;rw[qy]at hi;have hg:=Bh (l:=l) (p:=p) (List.getElem?_eq_getElem hi);have ho:=DD (ts:=ts) (List.getElem?_eq_getElem hi);have hlt:=vT (List.getElem?_eq_getElem hi);generalize(aO l p)[i]=k at hg ho hlt;have hx:l[k]? =some l[k]:=List.getElem?_eq_getElem hlt;have htk:ts[k]? =some (ts[k]'(by rw[ht.1];exact hlt)):=List.getElem?_eq_getElem _;have:=ht.2 k _ _ hx htk;rw[show l.getD k dR=l[k]by rw[List.getD_eq_getElem?_getD,hx];rfl]at hg;rw[show ts.getD k 0=ts[k]'(by rw[ht.1];exact hlt)by rw[List.getD_eq_getElem?_getD,htk];rfl]at ho;unfold lo Rk.hi;rw[List.getD_eq_getElem?_getD,hg,List.getD_eq_getElem?_getD,ho];exact this
theorem Tu{s:aK}{l:List ak}{ts:List Int}(h:∀x∈l,iq s x)(ht:jV l ts):∀n,gT s l ts (List.replicate s.c.toNat 0) n∈dJ s l n
 |0=>List.mem_singleton.2 rfl
 |n+1=>vW.2 ⟨_,Tu h ht n,places (fT l ts n),(Bd (λi hi=>(rU h hi).2.2) (λi hi=>(rU h hi).1)).2 ⟨_,adQ h ht n,rfl⟩,rfl⟩
def dK(l:List ak)(R:List (Int×Int)):List ak:=List.zipWith (λx r=>{x with lo:=r.1,hi:=r.2}) l R
theorem tL{l:List ak}{R:List (Int×Int)}(h:R.length=l.length):(dK l R).length=l.length:=by unfold dK;rw[List.length_zipWith,h,Nat.min_self]
theorem Ic{l:List ak}{R:List (Int×Int)}{i:Nat}{x:ak}{r:Int×Int}(h1:l[i]? =some x)(h2:R[i]? =some r):(dK l R)[i]? =some {x with lo:=r.1,hi:=r.2}:=by unfold dK;rw[List.getElem?_zipWith,h1,h2]
theorem adR{l:List ak}{R:List (Int×Int)}(n:Nat):(dK l R).take n=dK (l.take n) (R.take n):=by unfold dK;rw[List.take_zipWith]
theorem adS{l:List ak}{R:List (Int×Int)}(h:R.length=l.length)(f:ak->Bool)(hf:∀x (r:Int×Int),f {x with lo:=r.1,hi:=r.2}=f x):(dK l R).any f=l.any f:=by
 induction l generalizing R with
 |nil=>rfl
 |cons x l ih=>
  cases R with
  |nil=>simp at h
  |cons r R=>
   show(f _||(dK l R).any f)=(f x||l.any f)
   rw[hf,ih (by simpa using h)]
theorem adT{l:List ak}{R:List (Int×Int)}(h:R.length=l.length)(p:Int)(i:Nat):jU (dK l R) p i=jU l p i:=by
 unfold jU;cases hx:l[i]? with
 |none=>
  have:(dK l R)[i]? =none:=by rw[List.getElem?_eq_none_iff]at hx⊢;rw[tL h];exact hx
  rw[this]
 |some x=>
  have hi:=(List.getElem?_eq_some_iff.1 hx).1;have hr:R[i]? =some (R[i]'(by omega)):=List.getElem?_eq_getElem _;rw[Ic hx hr,adR];dsimp only;rw[adS (by rw[List.length_take,List.length_take,h]) _ (λ_ _=>rfl)]
theorem xJ{l:List ak}{R:List (Int×Int)}(h:R.length=l.length)(p:Int):aO (dK l R) p=aO l p:=by
 unfold aO;rw[tL h];exact List.filter_congr λi _=>adT h p i
theorem MI{l:List ak}{R:List (Int×Int)}(h:R.length=l.length){i:Nat}(hi:i<l.length):(dK l R).getD i dR={l.getD i dR with lo:=(R.getD i (0,0)).1,hi:=(R.getD i (0,0)).2}:=by
 have hx:l[i]? =some l[i]:=List.getElem?_eq_getElem hi;have hr:R[i]? =some (R[i]'(by omega)):=List.getElem?_eq_getElem _;rw[List.getD_eq_getElem?_getD,Ic hx hr,List.getD_eq_getElem?_getD,hx,List.getD_eq_getElem?_getD,hr];rfl
theorem adU{s:aK}{l:List ak}{R:List (Int×Int)}(h:R.length=l.length){p:Nat}{own:List Nat}{aF t:List Int}{n:Nat}(hn:own.getD n 0<l.length):add1 s (dK l R) p own aF t n=add1 s l p own aF t n:=by
 unfold add1;rw[MI h hn]
theorem Tv{s:aK}{l:List ak}{R:List (Int×Int)}(h:R.length=l.length){p:Nat}{own:List Nat}{aF t:List Int}:∀{n:Nat},(∀i,i<n->own.getD i 0<l.length)->addN s (dK l R) p own aF t n=addN s l p own aF t n
 |0,_=>rfl
 |n+1,hn=>by rw[addN,addN,Tv h λi hi=>hn i (by omega),adU h (hn n (by omega))]
theorem MJ{s:aK}{l:List ak}{R:List (Int×Int)}(h:R.length=l.length){p:Nat}{aF t:List Int}:iw s (dK l R) p aF t=iw s l p aF t:=by
 unfold iw;rw[xJ h];refine Tv h λi hi=>?_;rw[List.getD_eq_getElem?_getD,List.getElem?_eq_getElem hi];exact vT (List.getElem?_eq_getElem hi)
theorem MK{s:aK}{l:List ak}{R:List (Int×Int)}(h:R.length=l.length){ts t:List Int}:∀n,gT s (dK l R) ts t n=gT s l ts t n
 |0=>rfl
 |n+1=>by rw[gT,gT,MK h n,MJ h,xJ h]
structure Less(l:List ak)(R:List (Int×Int)):Prop where
 len:R.length=l.length
 ok:∀(i:Nat) x r,l[i]? =some x->R[i]? =some r->x.lo<=r.1/\r.1<=r.2/\r.2<=x.hi
theorem Less.Ie{s:aK}{l:List ak}{R:List (Int×Int)}(h:Less l R)(hok:∀x∈l,iq s x):∀x∈dK l R,iq s x:=λx hxm=>by
 obtain⟨i,hi⟩:=List.getElem?_of_mem hxm;have hlt:=(List.getElem?_eq_some_iff.1 hi).1;rw[tL h.len]at hlt;have hx:l[i]? =some l[i]:=List.getElem?_eq_getElem hlt;have hr:R[i]? =some (R[i]'(by have:=h.len;omega)):=List.getElem?_eq_getElem _;have a:=hok _ (List.mem_of_getElem? hx);rw[Ic hx hr]at hi;cases hi;have b:=h.ok i _ _ hx hr;have a1:=a.lo;have a2:=a.hi;exact⟨a.c0,a.c1,a.p0,a.p1,a.t0,a.t1,by dsimp only;omega,b.2.1,by dsimp only;omega⟩
theorem Less.mR{s:aK}{l:List ak}{R:List (Int×Int)}(h:Less l R)(hc:dL s l=0):dL s (dK l R)=0:=by
 have hok:=l7 hc;exact Mm ⟨by rw[tL h.len];exact hok.len,hok.pg,hok.sh,h.Ie hok.rs⟩
theorem Less.wl{s:aK}{l:List ak}{R:List (Int×Int)}(h:Less l R)(hok:∀x∈l,iq s x){p:Int}{ts:List Int}(hi:Bc (wl (dK l R) p) ts):Bc (Rk.wl l p) ts:=by
 refine⟨by rw[hi.1,qy,qy,xJ h.len],λi hil=>?_⟩;have h2:=hi.2 i (by rw[qy,xJ h.len,<- qy];exact hil);rw[qy]at hil;have e1:=Bh (l:=l) (p:=p) (List.getElem?_eq_getElem hil);have e2:=Bh (l:=dK l R) (p:=p) (k:=i) (i:=(aO l p)[i]) (by rw[xJ h.len];exact List.getElem?_eq_getElem hil);have hlt:=vT (List.getElem?_eq_getElem hil);generalize(aO l p)[i]=k at e1 e2 hlt;rw[MI h.len hlt]at e2;have hx:l[k]? =some l[k]:=List.getElem?_eq_getElem hlt;have hr:R[k]? =some (R[k]'(by have:=h.len;omega)):=List.getElem?_eq_getElem _;have hb:=h.ok k _ _ hx hr;rw[show R.getD k (0,0)=R[k]'(by have:=h.len;omega)by rw[List.getD_eq_getElem?_getD,hr];rfl]at e2;rw[show l.getD k dR=l[k]by rw[List.getD_eq_getElem?_getD,hx];rfl]at e1;unfold lo Rk.hi at h2⊢;rw[List.getD_eq_getElem?_getD,e2]at h2;rw[List.getD_eq_getElem?_getD,e1];simp only[Option.getD_some]at h2 hb⊢;exact⟨Int.le_trans hb.1 h2.1,Int.le_trans h2.2 hb.2.2⟩
theorem Less.pos{s:aK}{l:List ak}{R:List (Int×Int)}(h:Less l R)(hok:∀x∈l,iq s x){p:Int}{ps:List Int}(hp:ps∈kw (Rk.wl (dK l R) p)):ps∈kw (Rk.wl l p):=by
 have hok2:=h.Ie hok;obtain⟨ts,h1,rfl⟩:=(Bd (λi hi=>(rU hok2 hi).2.2) (λi hi=>(rU hok2 hi).1)).1 hp;exact(Bd (λi hi=>(rU hok hi).2.2) (λi hi=>(rU hok hi).1)).2 ⟨ts,h.wl hok h1,rfl⟩
theorem Less.dJ{s:aK}{l:List ak}{R:List (Int×Int)}(h:Less l R)(hok:∀x∈l,iq s x):∀(n:Nat) {u:List Int},u∈dJ s (dK l R) n->u∈Rk.dJ s l n
 |0,_,hu=>hu
 |n+1,u,hu=>by
  obtain⟨t,h1,aF,h2,rfl⟩:=vW.1 hu;exact vW.2 ⟨t,Less.dJ h hok n h1,aF,h.pos hok h2,MJ h.len⟩
theorem Less.lim{s:aK}{l:List ak}{R:List (Int×Int)}(h:Less l R)(hok:∀x∈l,iq s x)(hl:¬jm s l):¬jm s (dK l R):=by
 rintro⟨p,hp,hlen⟩;exact hl (Tt hp (DI ..).nodup (λu hu=>h.dJ hok _ hu) hlen)
theorem Less.rW{s:aK}{l:List ak}{R:List (Int×Int)}(h:Less l R)(hc:dL s l=0)(hl:¬jm s l){u:List Int}(hu:u∈rW s (dK l R)):u∈Rk.rW s l:=by
 have hok:=(l7 hc).rs;rw[(yY (h.mR hc) (h.lim hok hl)).2]at hu;rw[(yY hc hl).2];exact h.dJ hok _ hu
def dW(ts:List Int):List (Int×Int):=ts.map λt=>(t,t)
theorem yZ{l:List ak}{ts:List Int}(h:jV l ts):Less l (dW ts):=by
 refine⟨by unfold dW;rw[List.length_map];exact h.1,λi x r hx hr=>?_⟩;unfold dW at hr;rw[List.getElem?_map]at hr;cases ht:ts[i]? with
 |none=>rw[ht]at hr;cases hr
 |some t=>
  rw[ht]at hr;cases hr;have:=h.2 i x t hx ht;exact⟨this.1,Int.le_refl _,this.2⟩
theorem Tw{l:List ak}{ts:List Int}(h:jV l ts):jV (dK l (dW ts)) ts:=by
 have hl:=(yZ h).len;refine⟨by rw[tL hl];exact h.1,λi x t hx ht=>?_⟩;have hlt:=(List.getElem?_eq_some_iff.1 hx).1;rw[tL hl]at hlt;have hx0:l[i]? =some l[i]:=List.getElem?_eq_getElem hlt;rw[Ic hx0 (r:=(t,t)) (by unfold dW;rw[List.getElem?_map,ht];rfl)]at hx;cases hx;exact⟨Int.le_refl _,Int.le_refl _⟩
theorem Tx{s:aK}{l:List ak}{ts:List Int}(h:jV l ts)(hok:∀x∈l,iq s x):∀(n:Nat) {u:List Int},u∈dJ s (dK l (dW ts)) n->u=gT s l ts (List.replicate s.c.toNat 0) n
 |0,u,hu=>List.mem_singleton.1 hu
 |n+1,u,hu=>by
  have hL:=yZ h;have hok2:=hL.Ie hok;obtain⟨t,h1,aF,h2,rfl⟩:=vW.1 hu;have:=Tx h hok n h1;subst this;obtain⟨us,h3,rfl⟩:=(Bd (λi hi=>(rU hok2 hi).2.2) (λi hi=>(rU hok2 hi).1)).1 h2;have hus:us=fT l ts n:=by
   have hl:=h3.1;rw[qy,xJ hL.len]at hl;refine SI (by rw[H8,hl]) λi hi=>?_;rw[hl]at hi;have h4:=h3.2 i (by rw[qy,xJ hL.len];exact hi);have e2:=Bh (l:=dK l (dW ts)) (p:=n) (k:=i) (i:=(aO l n)[i]) (by rw[xJ hL.len];exact List.getElem?_eq_getElem hi);have ho:=DD (ts:=ts) (List.getElem?_eq_getElem hi);have hlt:=vT (List.getElem?_eq_getElem hi);generalize(aO l n)[i]=k at e2 ho hlt;rw[MI hL.len hlt]at e2;have ht:ts[k]? =some (ts[k]'(by rw[h.1];exact hlt)):=List.getElem?_eq_getElem _;have hg:(dW ts).getD k (0,0)=(ts.getD k 0,ts.getD k 0):=by
    unfold dW;rw[List.getD_eq_getElem?_getD,List.getElem?_map,List.getD_eq_getElem?_getD,ht];rfl
   rw[hg]at e2;unfold lo Rk.hi at h4;rw[List.getD_eq_getElem?_getD,e2]at h4;rw[List.getD_eq_getElem?_getD (l:=fT l ts n),ho];simp only[Option.getD_some]at h4⊢;omega
  rw[hus,MJ hL.len];rfl
theorem adW{s:aK}{l:List ak}{ts:List Int}(h:jV l ts)(hc:dL s l=0):rV s (dK l (dW ts))=0/\rW s (dK l (dW ts))=[l9 s l ts]:=by
 have hok:=(l7 hc).rs;have hL:=yZ h;have hone:∀n,dJ s (dK l (dW ts)) n=[gT s l ts (List.replicate s.c.toNat 0) n]:=λn=>
  Tj (DI ..) (List.pairwise_singleton _ _) λu=>by
   rw[List.mem_singleton];refine⟨Tx h hok n,?_⟩;rintro rfl;have:=Tu (hL.Ie hok) (Tw h) n
   rwa [MK hL.len]at this
 have hlim:¬jm s (dK l (dW ts)):=by
  rintro⟨p,_,h⟩;rw[hone]at h;simp at h
 obtain⟨e1,e2⟩:=yY (hL.mR hc) hlim;exact⟨e1,by rw[e2,hone];rfl⟩
end Rk
namespace Rk
section
variable {W:List (Int×Int)} {pl:List Int} {fr:Int} {dn g:Nat}
def xK(W:List (Int×Int))(f:Nat)(pl:List Int)(fr:Int)(dn g:Nat):List (List Int):=
 if nE W pl fr g then(if late W pl fr g then[]else nG W f (iF pl dn g) (jT W fr g+1) (dn+many W g))else[]
def tN(W:List (Int×Int))(f:Nat)(pl:List Int)(fr:Int)(dn g:Nat):List (List Int):=(List.range' 1 (g - 1)).flatMap (xK W f pl fr dn)
theorem adX{f:Nat}:tN W f pl fr dn 1=[]:=rfl
theorem Ty{f:Nat}(hg:1<=g):tN W f pl fr dn (g+1)=tN W f pl fr dn g++xK W f pl fr dn g:=by
 unfold tN;obtain⟨k,rfl⟩:∃k,g=k+1:=⟨g - 1,by omega⟩
 rw[Nat.add_sub_cancel,Nat.add_sub_cancel,List.range'_concat,List.flatMap_append,Nat.one_mul,Nat.add_comm 1 k];simp
theorem adY{f:Nat}(h:dn≠W.length):nG W (f+1) pl fr dn=tN W f pl fr dn (2^W.length):=by
 rw[nG,if_neg h];rfl
theorem Tz{f:Nat}(h:dn=W.length):nG W f pl fr dn=[pl]:=by
 cases f with
 |zero=>rfl
 |succ f=>rw[nG,if_pos h]
theorem TA{f:Nat}:∀{k:Nat},1<=g->(tN W f pl fr dn g).length<=(tN W f pl fr dn (g+k)).length
 |0,_=>Nat.le_refl _
 |k+1,h=>by
  have:=TA (f:=f) (k:=k) h;rw[<- Nat.add_assoc,Ty (by omega),List.length_append];omega
theorem adZ{f g':Nat}(h:1<=g)(h2:g<=g'):(tN W f pl fr dn g).length<=(tN W f pl fr dn g').length:=by
 obtain⟨k,rfl⟩:=Nat.exists_eq_add_of_le h2;exact TA h
theorem ML{i:Nat}:clash pl g (i+1)=(clash pl g i||(g.testBit i&&!fH pl i)):=by
 unfold clash;rw[List.range_succ,List.any_append];simp
theorem ad1{i n:Nat}(hi:i<=n)(h:clash pl g i=true):clash pl g n=true:=by
 unfold clash at h⊢;rw[List.any_eq_true]at h⊢;obtain⟨k,h1,h2⟩:=h;exact⟨k,List.mem_range.2 (by have:=List.mem_range.1 h1;omega),h2⟩
def DJ(W:List (Int×Int))(pl:List Int)(v:Int)(g i:Nat):Bool:=(List.range i).any λi=>!g.testBit i&&fH pl i&&decide (hi W i<=v)
theorem ad2{v:Int}{i:Nat}:DJ W pl v g (i+1)=(DJ W pl v g i||(!g.testBit i&&fH pl i&&decide (hi W i<=v))):=by
 unfold DJ;rw[List.range_succ,List.any_append];simp
def kU(pl:List Int)(dn g i:Nat):List Int:=iF (pl.take i) dn g++pl.drop i
theorem ad3:kU pl dn g 0=pl:=by simp[kU,iF]
theorem ad4:kU pl dn g pl.length=iF pl dn g:=by simp[kU]
theorem TB{x:Int}{l:List Int}:iF (l++[x]) dn g=iF l dn g++[if g.testBit l.length then(dn:Int)+1 else x]:=by
 unfold iF;rw[List.mapIdx_append];simp
theorem ad5{i:Nat}:(kU pl dn g i).length=pl.length:=by
 unfold kU;rw[List.length_append,tJ,List.length_take,List.length_drop];omega
theorem ad6{i:Nat}(hi:i<pl.length):(kU pl dn g i)[i]? =some pl[i]:=by
 unfold kU;have hl:(iF (pl.take i) dn g).length=i:=by rw[tJ,List.length_take];omega
 rw[List.getElem?_append_right (by omega),hl,Nat.sub_self,List.getElem?_drop,Nat.add_zero,List.getElem?_eq_getElem hi]
theorem ad7{i:Nat}(hi:i<pl.length)(hb:g.testBit i=true):(kU pl dn g i).set i ((dn:Int)+1)=kU pl dn g (i+1):=by
 unfold kU;have hl:(iF (pl.take i) dn g).length=i:=by rw[tJ,List.length_take];omega
 have hx:pl[i]? =some pl[i]:=List.getElem?_eq_getElem hi;rw[List.set_append_right _ _ (by omega),hl,Nat.sub_self,eD hx,TB,List.drop_eq_getElem_cons hi];have:(pl.take i).length=i:=by rw[List.length_take];omega
 rw[this,hb,List.append_assoc];rfl
theorem ad8{i:Nat}(hi:i<pl.length)(hb:g.testBit i=false):kU pl dn g (i+1)=kU pl dn g i:=by
 unfold kU;have hx:pl[i]? =some pl[i]:=List.getElem?_eq_getElem hi;have:(pl.take i).length=i:=by rw[List.length_take];omega
 rw[eD hx,TB,this,hb,List.append_assoc];show _++(pl[i]::pl.drop (i+1))=_;rw[<- List.drop_eq_getElem_cons hi]
def mh(pl:List Int)(dn g i:Nat):List Int:=pl.take i++(iF pl dn g).drop i
theorem TC:mh pl dn g 0=iF pl dn g:=by simp[mh]
theorem TD:mh pl dn g pl.length=pl:=by unfold mh;rw[List.take_length,List.drop_eq_nil_of_le (by rw[tJ];omega),List.append_nil]
theorem TE{i:Nat}:(mh pl dn g i).length=pl.length:=by
 unfold mh;rw[List.length_append,List.length_drop,tJ,List.length_take];omega
theorem TF{i:Nat}(hi:i<pl.length)(h0:pl[i]=0):(mh pl dn g i).set i 0=mh pl dn g (i+1):=by
 unfold mh;have hl:(pl.take i).length=i:=by rw[List.length_take];omega
 have hx:pl[i]? =some pl[i]:=List.getElem?_eq_getElem hi;rw[List.set_append_right _ _ (by omega),hl,Nat.sub_self,eD hx,h0,List.drop_eq_getElem_cons (by rw[tJ];exact hi),List.append_assoc];rfl
theorem TG{i:Nat}(hi:i<pl.length)(hb:g.testBit i=false):mh pl dn g (i+1)=mh pl dn g i:=by
 unfold mh;have hx:pl[i]? =some pl[i]:=List.getElem?_eq_getElem hi;have hs:(iF pl dn g)[i]'(by rw[tJ];exact hi)=pl[i]:=by
  have h1:=A9 (dn:=dn) (g:=g) hi;rw[hb]at h1;simp only[Bool.false_eq_true,if_false]at h1
  rwa [List.getD_eq_getElem?_getD,List.getElem?_eq_getElem (by rw[tJ];exact hi),List.getD_eq_getElem?_getD,hx]at h1
 rw[eD hx,List.append_assoc];show _++(pl[i]::(iF pl dn g).drop (i+1))=_;rw[<- hs,<- List.drop_eq_getElem_cons (by rw[tJ];exact hi)]
theorem DK(m n:Nat):decide (((m>>>n&&&1:Nat):Int)=1)=m.testBit n:=by
 rw[Nat.testBit,Nat.and_comm,Nat.one_and_eq_mod_two];have:m>>>n%2=0\/m>>>n%2=1:=by omega
 rcases this with h|h<;>simp[h]
theorem ad9(m n:Nat):decide (((m>>>n&&&1:Nat):Int)=0)=!m.testBit n:=by
 rw[Nat.testBit,Nat.and_comm,Nat.one_and_eq_mod_two];have:m>>>n%2=0\/m>>>n%2=1:=by omega
 rcases this with h|h<;>simp[h]
theorem TH{i:Nat}:kR W fr g (i+1)=if g.testBit i then max (kR W fr g i) (lo W i)else kR W fr g i:=rfl
theorem MM{i:Nat}:lq W g (i+1)=if g.testBit i then min (lq W g i) (hi W i)else lq W g i:=rfl
theorem aea{i:Nat}:lq W g i<=qw:=by
 induction i with
 |zero=>exact Int.le_refl _
 |succ i ih=>rw[MM];split<;>omega
end
end Rk
namespace Rk
theorem TI(l:List ak)(p:Int):∀n,n<=l.length->(jK l p n).Nodup
 |0,_=>by simp[jK,fK]
 |n+1,hn=>by
  have ih:=TI l p n (by omega);have hx:l[n]? =some (l[n]'(by omega)):=List.getElem?_eq_getElem _;have hg:l.getD n dR=l[n]'(by omega):=by rw[List.getD_eq_getElem?_getD,hx];rfl
  have hf:=Td (p:=p) hx;generalize l[n]'(by omega)=x at hx hg hf;rw[Mv,hg];split
  ·rename_i h;rw[h]at hf;have hm:x.c∉jK l p n:=by
    intro hm;rw[decide_eq_true hm]at hf;simp at hf
   rw[List.nodup_append];exact⟨ih,by simp,λa ha b hb e=>hm (by rw[<- List.mem_singleton.1 hb,<- e];exact ha)⟩
  ·exact ih
theorem aeb{s:aK}{l:List ak}(h:∀x∈l,iq s x)(p:Int):(aO l p).length<=s.c.toNat:=by
 have h1:=yT (a:=jK l p l.length) (b:=ints (List.range s.c.toNat)) (TI l p l.length (Nat.le_refl _)) λc hc=>by
  obtain⟨i,hi,rfl⟩:=List.mem_map.1 hc;have hlt:=(Mq hi).1;have hx:l[i]? =some l[i]:=List.getElem?_eq_getElem hlt;have hok:=h _ (List.getElem_mem hlt);rw[List.getD_eq_getElem?_getD,hx,Option.getD_some];have:=hok.c0;have:=hok.c1;exact List.mem_map.2 ⟨l[i].c.toNat,List.mem_range.2 (by omega),by omega⟩
 rw[om,List.length_range]at h1;unfold jK at h1;rw[List.length_map]at h1;exact h1
end Rk
namespace Rk
