/-
  All totals that are possible: lists in increasing order, without doubles.
-/
import Derived.Test.YtjmgkllpcidhjaaGreatDoorPlainAN
set_option linter.all false
namespace Rk
def gZ:List Int->List Int->Bool
 |a::ps,b::bs=>if a≠b then decide (a<b)else gZ ps bs
 |_,_=>false
theorem L9:∀(k:Nat) {xs ys:List Int} {x y:Int},xs.take k=ys.take k->xs[k]? =some x->ys[k]? =some y->x≠y->gZ xs ys=decide (x<y)
 |0,a::ps,b::bs,x,y,_,h1,h2,h3=>by
  simp at h1 h2;subst h1 h2;unfold gZ;rw[if_pos h3]
 |k+1,a::ps,b::bs,x,y,h,h1,h2,h3=>by
  simp at h h1 h2;unfold gZ;rw[if_neg (λe=>e h.1)];exact L9 k h.2 h1 h2 h3
 |_,[],_,x,y,_,h1,_,_=>by simp at h1
 |_,_::_,[],x,y,_,_,h2,_=>by simp at h2
theorem Dt:∀xs:List Int,gZ xs xs=false
 |[]=>rfl
 |a::ps=>by unfold gZ;rw[if_neg (λe=>e rfl)];exact Dt ps
theorem Gs{a b:Int}{xs ys:List Int}:gZ (a::xs) (b::ys)=true↔a<b\/a=b/\gZ xs ys=true:=by
 rw[gZ];split
 ·rw[decide_eq_true_iff];constructor
  ·exact .inl
  ·rintro(h|⟨h,_⟩)
   ·exact h
   ·contradiction
 ·rename_i h;have h:=Decidable.not_not.1 h;constructor
  ·exact λk=>.inr ⟨h,k⟩
  ·rintro(k|⟨_,k⟩)
   ·omega
   ·exact k
theorem Ma:∀{xs ys zs:List Int},gZ xs ys=true->gZ ys zs=true->gZ xs zs=true
 |a::xs,b::ys,c::zs,h1,h2=>by
  rw[Gs]at h1 h2⊢;rcases h1 with h1|⟨h1,h3⟩<;>rcases h2 with h2|⟨h2,h4⟩
  ·left;omega
  ·left;omega
  ·left;omega
  ·right;exact⟨by omega,Ma h3 h4⟩
 |[],_,_,h1,_=>by simp[gZ]at h1
 |_::_,[],_,h1,_=>by simp[gZ]at h1
 |_::_,_::_,[],_,h2=>by simp[gZ]at h2
theorem ada{xs ys:List Int}(h:gZ xs ys=true):gZ ys xs=false:=by
 cases e:gZ ys xs with
 |false=>rfl
 |true=>have:=Ma h e;rw[Dt]at this;cases this
theorem Mc:∀{xs ys:List Int},xs.length=ys.length->gZ xs ys=false->xs≠ys->gZ ys xs=true
 |[],[],_,_,h=>absurd rfl h
 |a::xs,b::ys,hl,h,hne=>by
  rw[Gs];rw[Bool.eq_false_iff,Ne,Gs,not_or]at h;by_cases e:a=b
  ·subst e;refine .inr ⟨rfl,Mc (by simpa using hl) ?_ (λk=>hne (by rw[k]))⟩;rw[Bool.eq_false_iff];exact λk=>h.2 ⟨rfl,k⟩
  ·left;have:=h.1;omega
 |[],_::_,hl,_,_=>by simp at hl
 |_::_,[],hl,_,_=>by simp at hl
def rY(l:List (List Int)):Prop:=l.Pairwise λa b=>gZ a b=true
theorem rY.nodup{l:List (List Int)}(h:rY l):l.Nodup:=List.Pairwise.imp (λ{a b} hab e=>by subst e;rw[Dt]at hab;cases hab) h
theorem Gt{a b:List (List Int)}(ha:rY a)(hb:rY b)(h:∀x,x∈a↔x∈b):a=b:=by
 have hp:a.Perm b:=(List.perm_ext_iff_of_nodup ha.nodup hb.nodup).2 h;exact List.Perm.eq_of_pairwise (le:=λa b=>gZ a b=true) (λx y _ _ h1 h2=>by rw[ada h1]at h2;cases h2) ha hb hp
def kV(x:List Int):List (List Int)->List (List Int)
 |[]=>[x]
 |y::ys=>if gZ y x then y::kV x ys else if y=x then y::ys else x::y::ys
theorem Md{x t:List Int}:∀{l:List (List Int)},t∈kV x l↔t=x\/t∈l
 |[]=>by simp[kV]
 |y::ys=>by
  rw[kV];split
  ·rw[List.mem_cons,Md,List.mem_cons];constructor
   ·rintro(h|h|h)
    ·exact .inr (.inl h)
    ·exact .inl h
    ·exact .inr (.inr h)
   ·rintro(h|h|h)
    ·exact .inr (.inl h)
    ·exact .inl h
    ·exact .inr (.inr h)
  ·split
   ·rename_i e;subst e;rw[List.mem_cons];constructor
    ·exact .inr
    ·rintro(h|h)
     ·exact .inl h
     ·exact h
   ·rw[List.mem_cons,List.mem_cons]
theorem Sn{x:List Int}{c:Nat}(hx:x.length=c):∀{l:List (List Int)},(∀t∈l,t.length=c)->rY l->rY (kV x l)
 |[],_,_=>by rw[kV];exact List.pairwise_singleton _ _
 |y::ys,hl,h=>by
  obtain⟨h1,h2⟩:=List.pairwise_cons.1 h;rw[kV];split
  ·rename_i hlt;refine List.pairwise_cons.2 ⟨λt ht=>?_,Sn hx (λt ht=>hl t (List.mem_cons_of_mem _ ht)) h2⟩;rcases Md.1 ht with rfl|ht
   ·exact hlt
   ·exact h1 t ht
  ·rename_i hlt;split
   ·exact h
   ·rename_i hne;have hxy:=Mc (by rw[hl y (List.mem_cons_self ..),hx]) (Bool.eq_false_iff.2 hlt) hne;refine List.pairwise_cons.2 ⟨λt ht=>?_,h⟩;rcases List.mem_cons.1 ht with rfl|ht
    ·exact hxy
    ·exact Ma hxy (h1 t ht)
theorem Me{x:List Int}:∀{k:Nat} {l:List (List Int)},(∀i y,i<k->l[i]? =some y->gZ y x=true)->k<=l.length->(∀y,l[k]? =some y->gZ y x=false)->
 kV x l=if l[k]? =some x then l else l.take k++x::l.drop k
 |0,[],_,_,_=>rfl
 |0,y::ys,_,_,h=>by
  have:=h y rfl;rw[kV,if_neg (by rw[this];simp)];by_cases e:y=x
  ·rw[if_pos e,if_pos (by rw[e];rfl)]
  ·rw[if_neg e,if_neg (λk=>e (by simpa using k))];rfl
 |k+1,[],_,hk,_=>by simp at hk
 |k+1,y::ys,h1,hk,h2=>by
  have ih:=Me (x:=x) (k:=k) (l:=ys) (λi z hi hz=>h1 (i+1) z (by omega) (by simpa using hz)) (by simpa using hk) (λz hz=>h2 z (by simpa using hz))
  rw[kV,if_pos (h1 0 y (by omega) rfl),ih];simp only[List.getElem?_cons_succ,List.take_succ_cons,List.drop_succ_cons,List.cons_append];split<;>rfl
theorem Sq{x:List Int}:∀{l:List (List Int)},(kV x l).length<=l.length+1/\l.length<=(kV x l).length
 |[]=>by simp[kV]
 |y::ys=>by
  have:=Sq (x:=x) (l:=ys);rw[kV];split
  ·simp;omega
  ·split<;>simp
def gI(xs:List (List Int)):List (List Int):=xs.foldl (λm x=>kV x m) []
theorem Du(xs:List (List Int))(x:List Int):gI (xs++[x])=kV x (gI xs):=by unfold gI;rw[List.foldl_append];rfl
theorem Gu{α:Type}{p:List α->Prop}(h0:p [])(h1:∀xs x,p xs->p (xs++[x])):∀(n:Nat) (xs:List α),xs.length=n->p xs
 |0,xs,h=>by rw[List.length_eq_zero_iff.1 h];exact h0
 |n+1,xs,h=>by
  have e:=List.dropLast_concat_getLast (l:=xs) (by intro e;rw[e]at h;cases h);rw[<- e];exact h1 _ _ (Gu h0 h1 n _ (by rw[List.length_dropLast,h];rfl))
theorem uV{t:List Int}(xs:List (List Int)):t∈gI xs↔t∈xs:=
 Gu (p:=λxs=>t∈gI xs↔t∈xs) (by simp[gI]) (λxs x ih=>by rw[Du,Md,ih,List.mem_append,List.mem_singleton,or_comm]) _ xs rfl
theorem AA{c:Nat}(xs:List (List Int)):(∀t∈xs,t.length=c)->rY (gI xs):=
 Gu (p:=λxs=>(∀t∈xs,t.length=c)->rY (gI xs)) (λ_=>List.Pairwise.nil) (λxs x ih h=>by
  rw[Du];exact Sn (h x (by simp)) (λt ht=>h t (List.mem_append_left _ ((uV xs).1 ht))) (ih λt ht=>h t (List.mem_append_left _ ht))) _ xs rfl
theorem Sr{α:Type}[DecidableEq α]{a b:List α}(ha:a.Nodup)(hb:b.Nodup)(h:∀x,x∈a↔x∈b):a.length=b.length:=
 Nat.le_antisymm (wL ha λx hx=>(h x).1 hx) (wL hb λx hx=>(h x).2 hx)
def wl(l:List aG)(p:Int):List (Int×Int):=(aL l p).map λi=>((l.getD i dR).lo,(l.getD i dR).hi)
theorem mY(l:List aG)(p:Int):(wl l p).length=(aL l p).length:=List.length_map ..
theorem AB{l:List aG}{p:Int}{k i:Nat}(h:(aL l p)[k]? =some i):(wl l p)[k]? =some ((l.getD i dR).lo,(l.getD i dR).hi):=by unfold wl;rw[List.getElem?_map,h];rfl
theorem mZ{s:aT}{l:List aG}(h:∀x∈l,iW s x){p:Int}{i:Nat}(hi:i<(wl l p).length):0<=lo (wl l p) i/\lo (wl l p) i<=Rk.hi (wl l p) i/\Rk.hi (wl l p) i<=kv:=by
 rw[mY]at hi;have hg:=AB (l:=l) (p:=p) (List.getElem?_eq_getElem hi);have hok:=(Dq h hi).2;rw[show(aL l p).getD i 0=(aL l p)[i]by rw[List.getD_eq_getElem?_getD,List.getElem?_eq_getElem hi];rfl]at hok;unfold lo Rk.hi;rw[List.getD_eq_getElem?_getD,hg];exact⟨hok.lo,hok.le,hok.hi⟩
def bW(s:aT)(l:List aG):Nat->List (List Int)
 |0=>[List.replicate s.c.toNat 0]
 |p+1=>gI ((bW s l p).flatMap λt=>(jd (wl l p)).map λaF=>fO s l p aF t)
theorem rZ{s:aT}{l:List aG}{p:Nat}{u:List Int}:u∈bW s l (p+1)↔∃t∈bW s l p,∃aF∈jd (wl l p),u=fO s l p aF t:=by
 rw[bW,uV,List.mem_flatMap];constructor
 ·rintro⟨t,h1,h2⟩;obtain⟨aF,h3,rfl⟩:=List.mem_map.1 h2;exact⟨t,h1,aF,h3,rfl⟩
 ·rintro⟨t,h1,aF,h3,rfl⟩;exact⟨t,h1,List.mem_map_of_mem h3⟩
theorem qP(s:aT)(l:List aG)(p:Nat)(aF t:List Int):(fO s l p aF t).length=t.length:=Aw ..
theorem kW{s:aT}{l:List aG}:∀{p:Nat} {t:List Int},t∈bW s l p->t.length=s.c.toNat
 |0,t,h=>by rw[List.mem_singleton.1 h,List.length_replicate]
 |p+1,u,h=>by
  obtain⟨t,h1,aF,_,rfl⟩:=rZ.1 h;rw[qP,kW h1]
theorem yJ(s:aT)(l:List aG):∀p,rY (bW s l p)
 |0=>List.pairwise_singleton _ _
 |p+1=>AA (c:=s.c.toNat) _ λu hu=>by
  obtain⟨t,h1,h2⟩:=List.mem_flatMap.1 hu;obtain⟨aF,h3,rfl⟩:=List.mem_map.1 h2;rw[qP,kW h1]
theorem Mf{W:List (Int×Int)}(htop:∀i,i<W.length->hi W i<=kv){ps:List Int}(h:ps∈jd W):ps.length=W.length:=((Dl _ (Au htop 0) (by omega)).1 h).len
theorem Su{W:List (Int×Int)}(htop:∀i,i<W.length->hi W i<=kv)(h0:∀i,i<W.length->0<=lo W i){ps:List Int}(h:ps∈jd W){x:Int}(hx:x∈ps):1<=x/\x<=1+W.length:=by
 obtain⟨ts,h1,rfl⟩:=(yE htop h0).1 h;have:=Sd hx;rw[h1.1]at this;exact this
theorem adb{W:List (Int×Int)}(h:∀i,i<W.length->0<=lo W i/\lo W i<=hi W i/\hi W i<=kv):jd W≠[]:=λe=>by
 have hm:=(yE (ps:=places (W.map (·.1))) (λi hi=>(h i hi).2.2) (λi hi=>(h i hi).1)).2 ⟨W.map (·.1),⟨List.length_map ..,λi hi=>?_⟩,rfl⟩
 ·rw[e]at hm;cases hm
 ·have:=h i hi;have hg:(W.map (·.1)).getD i 0=lo W i:=by
   unfold lo;rw[List.getD_eq_getElem?_getD,List.getElem?_map,List.getD_eq_getElem?_getD,List.getElem?_eq_getElem hi];rfl
  rw[hg];omega
theorem Mg{s:aT}{l:List aG}(h:∀x∈l,iW s x):∀p,bW s l p≠[]
 |0=>by rw[bW];simp
 |p+1=>λe=>by
  obtain⟨t,ht⟩:=List.exists_mem_of_ne_nil _ (Mg h p);obtain⟨aF,hp⟩:=List.exists_mem_of_ne_nil _ (adb (W:=wl l p) λi hi=>mZ h hi);have:=rZ.2 ⟨t,ht,aF,hp,rfl⟩;rw[e]at this;cases this
theorem Mh{s:aT}{l:List aG}(hl:l.length<=32):∀(p:Nat) {t:List Int},t∈bW s l p->∀x∈t,0<=x/\x<=(p:Int)*33554432
 |0,t,h,x,hx=>by rw[List.mem_singleton.1 h]at hx;rw[List.eq_of_mem_replicate hx];omega
 |p+1,u,h,x,hx=>by
  obtain⟨t,h1,aF,_,rfl⟩:=rZ.1 h;have h2:=Dp (Mh hl p h1) (by omega) _ x hx;have:=Dr l (p:Int);have h3:((aL l p).length:Int)*1048576<=32*1048576:=Int.mul_le_mul_of_nonneg_right (by omega) (by decide);omega
def mG(s:aT)(l:List aG):Prop:=∃p,p<s.p.toNat/\4096<(bW s l (p+1)).length
open Classical in
noncomputable def gJ(s:aT)(l:List aG):Int:=if eU s l≠0 then eU s l else if mG s l then 2 else 0
open Classical in
noncomputable def dV(s:aT)(l:List aG):List (List Int):=if gJ s l=0 then bW s l s.p.toNat else[]
theorem Dv{s:aT}{l:List aG}(h:eU s l≠0):gJ s l=eU s l/\dV s l=[]:=by
 have e:gJ s l=eU s l:=by unfold gJ;rw[if_pos h]
 exact⟨e,by unfold dV;rw[if_neg (by rw[e];exact h)]⟩
theorem Dw{s:aT}{l:List aG}(h:eU s l=0)(h2:mG s l):gJ s l=2/\dV s l=[]:=by
 have e:gJ s l=2:=by unfold gJ;rw[if_neg (by omega),if_pos h2]
 exact⟨e,by unfold dV;rw[if_neg (by omega)]⟩
theorem qQ{s:aT}{l:List aG}(h:eU s l=0)(h2:¬mG s l):gJ s l=0/\dV s l=bW s l s.p.toNat:=by
 have e:gJ s l=0:=by unfold gJ;rw[if_neg (by omega),if_neg h2]
 exact⟨e,by unfold dV;rw[if_pos e]⟩
theorem Mi{s:aT}{l:List aG}{p:Nat}(hp:p<s.p.toNat){m:List (List Int)}(hn:m.Nodup)(hs:∀u∈m,u∈bW s l (p+1))(h:4096<m.length):mG s l:=
 ⟨p,hp,Nat.lt_of_lt_of_le h (wL hn hs)⟩
end Rk
namespace Rk
section
variable {W:List (Int×Int)}
def Dx(W:List (Int×Int))(i:Nat)(x:Int):Prop:=Gl W x/\lo W i<=x/\x<=hi W i
structure Cut(W:List (Int×Int))(i:Nat)(ts:List Int):Prop where
 len:ts.length=i
 ok:∀j,j<i->Dx W j (ts.getD j 0)
theorem ade{ts:List Int}:ts∈[([]:List Int)]↔Cut W 0 ts:=by
 rw[List.mem_singleton];constructor
 ·rintro rfl;exact⟨rfl,λj hj=>by omega⟩
 ·intro h;exact List.length_eq_zero_iff.1 h.len
theorem adf{i:Nat}{ts:List Int}:Cut W (i+1) ts↔∃us x,Cut W i us/\Dx W i x/\ts=us++[x]:=by
 constructor
 ·intro h;have hl:=h.len;have hx:ts[i]? =some (ts[i]'(by omega)):=List.getElem?_eq_getElem _;generalize ts[i]'(by omega)=x at hx;have ht:=dx hx;rw[List.take_of_length_le (by omega)]at ht;refine⟨ts.take i,x,⟨by rw[List.length_take];omega,λj hj=>?_⟩,?_,ht⟩
  ·have:=h.ok j (by omega);rw[List.getD_eq_getElem?_getD]at this⊢;rw[List.getElem?_take,if_pos hj];exact this
  ·have:=h.ok i (by omega);rw[List.getD_eq_getElem?_getD,hx]at this;exact this
 ·rintro⟨us,x,h,hx,rfl⟩;have hl:=h.len;refine⟨by simp[hl],λj hj=>?_⟩;rw[List.getD_eq_getElem?_getD];by_cases hj2:j<i
  ·rw[List.getElem?_append_left (by omega)];have:=h.ok j hj2
   rwa [List.getD_eq_getElem?_getD]at this
  ·rw[List.getElem?_append_right (by omega),show j - us.length=0 by omega,show j=i by omega];exact hx
theorem Sv(htop:∀i,i<W.length->hi W i<=kv)(h0:∀i,i<W.length->0<=lo W i){ps:List Int}:ps∈jd W↔∃ts,Cut W W.length ts/\ps=places ts:=by
 rw[yE htop h0];constructor
 ·rintro⟨ts,h,rfl⟩;obtain⟨us,h1,h2,h3⟩:=ac2 htop h0 h;exact⟨us,⟨h1.1,λj hj=>⟨h3 j hj,h1.2 j hj⟩⟩,h2.symm⟩
 ·rintro⟨ts,h,rfl⟩;exact⟨ts,⟨h.len,λj hj=>(h.ok j hj).2⟩,rfl⟩
def tQ(W:List (Int×Int))(i k d:Nat)(x:Int):Prop:=(∃k' d',(k'<k/\d'<W.length\/k'=k/\d'<d)/\x=lo W k'+((d':Nat):Int))/\lo W i<=x/\x<=hi W i
theorem adg{i:Nat}{x:Int}:¬tQ W i 0 0 x:=λ⟨⟨k',d',h,_⟩,_⟩=>by omega
theorem adh{i k d:Nat}{x:Int}:tQ W i k (d+1) x↔tQ W i k d x\/(x=lo W k+((d:Nat):Int)/\lo W i<=x/\x<=hi W i):=by
 constructor
 ·rintro⟨⟨k',d',h,e⟩,h2⟩;by_cases hd:k'=k/\d'=d
  ·obtain⟨rfl,rfl⟩:=hd;exact .inr ⟨e,h2⟩
  ·exact .inl ⟨⟨k',d',by omega,e⟩,h2⟩
 ·rintro(⟨⟨k',d',h,e⟩,h2⟩|⟨e,h2⟩)
  ·exact⟨⟨k',d',by omega,e⟩,h2⟩
  ·exact⟨⟨k,d,.inr ⟨rfl,by omega⟩,e⟩,h2⟩
theorem adi{i k:Nat}{x:Int}:tQ W i k W.length x↔tQ W i (k+1) 0 x:=by
 constructor
 ·rintro⟨⟨k',d',h,e⟩,h2⟩;exact⟨⟨k',d',by omega,e⟩,h2⟩
 ·rintro⟨⟨k',d',h,e⟩,h2⟩;refine⟨⟨k',d',?_,e⟩,h2⟩;rcases h with h|h
  ·by_cases hk:k'=k
   ·exact .inr ⟨hk,h.2⟩
   ·exact .inl ⟨by omega,h.2⟩
  ·omega
theorem adj{i:Nat}{x:Int}:tQ W i W.length 0 x↔Dx W i x:=by
 constructor
 ·rintro⟨⟨k',d',h,e⟩,h2⟩;exact⟨⟨k',d',by omega,by omega,e⟩,h2⟩
 ·rintro⟨⟨k',d',h,h1,e⟩,h2⟩;exact⟨⟨k',d',by omega,e⟩,h2⟩
end
def qd(all:List (List Int))(may:List Int)(k:Nat):List (List Int):=(all.take k).flatMap λu=>may.map λx=>u++[x]
def r9(all:List (List Int))(may:List Int)(u:List Int)(k j:Nat):List (List Int):=qd all may k++(may.take j).map λx=>u++[x]
theorem adk(all:List (List Int))(may u:List Int)(k:Nat):r9 all may u k 0=qd all may k:=by unfold r9;simp
theorem adl{all:List (List Int)}{may u:List Int}{k j:Nat}{x:Int}(h:may[j]? =some x):r9 all may u k (j+1)=r9 all may u k j++[u++[x]]:=by
 unfold r9;rw[dx h,List.map_append,List.append_assoc];rfl
theorem adm{all:List (List Int)}{may u:List Int}{k:Nat}(h:all[k]? =some u):r9 all may u k may.length=qd all may (k+1):=by
 unfold r9 qd;rw[dx h,List.flatMap_append,List.take_length];simp
theorem adn(all:List (List Int))(may:List Int)(k:Nat):(qd all may k).length<=k*may.length:=by
 unfold qd;have:∀l:List (List Int),(l.flatMap λu=>may.map λx=>u++[x]).length=l.length*may.length:=by
  intro l;induction l with
  |nil=>simp
  |cons u l ih=>rw[List.flatMap_cons,List.length_append,ih,List.length_map,List.length_cons,Nat.add_mul];omega
 rw[this];exact Nat.mul_le_mul_right _ (by rw[List.length_take];omega)
theorem ado{W:List (Int×Int)}{i:Nat}{all:List (List Int)}{may:List Int}(h1:∀ts,ts∈all↔Cut W i ts)(h2:∀x,x∈may↔Dx W i x)(ts:List Int):ts∈qd all may all.length↔Cut W (i+1) ts:=by
 unfold qd;rw[List.take_length,List.mem_flatMap,adf];constructor
 ·rintro⟨u,hu,h⟩;obtain⟨x,hx,rfl⟩:=List.mem_map.1 h;exact⟨u,x,(h1 u).1 hu,(h2 x).1 hx,rfl⟩
 ·rintro⟨u,x,hu,hx,rfl⟩;exact⟨u,(h1 u).2 hu,List.mem_map_of_mem ((h2 x).2 hx)⟩
def jv(W:List (Int×Int)):List (List Int):=gI (jd W)
theorem AC{W:List (Int×Int)}{ps:List Int}:ps∈jv W↔ps∈jd W:=uV _
theorem adp{W:List (Int×Int)}(htop:∀i,i<W.length->hi W i<=kv)(h0:∀i,i<W.length->0<=lo W i){all:List (List Int)}(h:∀ts,ts∈all↔Cut W W.length ts):gI (all.map places)=jv W:=by
 have hl:∀t∈all.map places,t.length=W.length:=λt ht=>by
  obtain⟨u,hu,rfl⟩:=List.mem_map.1 ht;rw[yD,((h u).1 hu).len]
 refine Gt (AA _ hl) (AA (c:=W.length) _ λt ht=>Mf htop ht) λx=>?_;rw[uV,AC,List.mem_map,Sv htop h0];constructor
 ·rintro⟨u,hu,rfl⟩;exact⟨u,(h u).1 hu,rfl⟩
 ·rintro⟨u,hu,rfl⟩;exact⟨u,(h u).2 hu,rfl⟩
theorem adq(xs:List (List Int)):(gI xs).length<=xs.length:=
 Gu (p:=λxs=>(gI xs).length<=xs.length) (Nat.le_refl _) (λxs x ih=>by
  rw[Du,List.length_append];have:=(Sq (x:=x) (l:=gI xs)).1;simp;omega) _ xs rfl
theorem adr{W:List (Int×Int)}(htop:∀i,i<W.length->hi W i<=kv)(hn:W.length<=4):(jv W).length<=256:=
 Nat.le_trans (adq _) (Gj htop hn)
def tT(s:aT)(l:List aG)(p:Nat)(out pos:List (List Int))(i:Nat):List (List Int):=(out.take i).flatMap λt=>pos.map λaF=>fO s l p aF t
def nM(s:aT)(l:List aG)(p:Nat)(out pos:List (List Int))(t:List Int)(i k:Nat):List (List Int):=tT s l p out pos i++(pos.take k).map λaF=>fO s l p aF t
theorem Sw{s:aT}{l:List aG}{p:Nat}{out pos:List (List Int)}{t:List Int}{i:Nat}:nM s l p out pos t i 0=tT s l p out pos i:=by unfold nM;simp
theorem ads{s:aT}{l:List aG}{p:Nat}{out pos:List (List Int)}{t aF:List Int}{i k:Nat}(h:pos[k]? =some aF):nM s l p out pos t i (k+1)=nM s l p out pos t i k++[fO s l p aF t]:=by
 unfold nM;rw[dx h,List.map_append,List.append_assoc];rfl
theorem adt{s:aT}{l:List aG}{p:Nat}{out pos:List (List Int)}{t:List Int}{i:Nat}(h:out[i]? =some t):nM s l p out pos t i pos.length=tT s l p out pos (i+1):=by
 unfold nM tT;rw[dx h,List.flatMap_append,List.take_length];simp
theorem Mj{s:aT}{l:List aG}{p:Nat}{t u:List Int}{i k:Nat}(ht:t∈bW s l p)(h:u∈nM s l p (bW s l p) (jv (wl l p)) t i k):u∈bW s l (p+1):=by
 rw[rZ];rcases List.mem_append.1 h with h|h
 ·obtain⟨v,hv,h⟩:=List.mem_flatMap.1 h;obtain⟨aF,hp,rfl⟩:=List.mem_map.1 h;exact⟨v,List.mem_of_mem_take hv,aF,AC.1 hp,rfl⟩
 ·obtain⟨aF,hp,rfl⟩:=List.mem_map.1 h;exact⟨t,ht,aF,AC.1 (List.mem_of_mem_take hp),rfl⟩
theorem adu{s:aT}{l:List aG}{p:Nat}:gI (tT s l p (bW s l p) (jv (wl l p)) (bW s l p).length)=bW s l (p+1):=by
 have hm:∀u,u∈tT s l p (bW s l p) (jv (wl l p)) (bW s l p).length↔u∈bW s l (p+1):=λu=>by
  rw[rZ];unfold tT;rw[List.take_length,List.mem_flatMap];constructor
  ·rintro⟨t,ht,h⟩;obtain⟨aF,hp,rfl⟩:=List.mem_map.1 h;exact⟨t,ht,aF,AC.1 hp,rfl⟩
  ·rintro⟨t,ht,aF,hp,rfl⟩;exact⟨t,ht,List.mem_map_of_mem (AC.2 hp)⟩
 refine Gt (AA (c:=s.c.toNat) _ λt ht=>kW ((hm t).1 ht)) (yJ s l (p+1)) λu=>?_;rw[uV,hm]
end Rk
namespace Rk
def fG(a b:Int):Int:=if a=b then 0 else if a<b then -1 else 1
def jl(X:List (List Int))(b0:List Int)(n:Nat):List Int:=(X.take n).foldl (λb x=>List.zipWith min b (aQ x)) b0
def jm(X:List (List Int))(b0:List Int)(n:Nat):List Int:=(X.take n).foldl (λb x=>List.zipWith max b (aQ x)) b0
def eF(X:List (List Int)):List Int:=jl X (aQ (X.headD [])) X.length
def iJ(X:List (List Int)):List Int:=jm X (aQ (X.headD [])) X.length
theorem Gv{X:List (List Int)}{b0 x:List Int}{n:Nat}(h:X[n]? =some x):jl X b0 (n+1)=List.zipWith min (jl X b0 n) (aQ x):=by unfold jl;rw[dx h,List.foldl_append];rfl
theorem Gw{X:List (List Int)}{b0 x:List Int}{n:Nat}(h:X[n]? =some x):jm X b0 (n+1)=List.zipWith max (jm X b0 n) (aQ x):=by unfold jm;rw[dx h,List.foldl_append];rfl
theorem oQ(xs:List Int):(aQ xs).length=xs.length:=List.length_map ..
theorem Dy{X:List (List Int)}{b0:List Int}{c:Nat}(h0:b0.length=c)(h:∀x∈X,x.length=c):∀n,n<=X.length->(jl X b0 n).length=c
 |0,_=>by simpa[jl]using h0
 |n+1,hn=>by
  have hx:X[n]? =some (X[n]'(by omega)):=List.getElem?_eq_getElem _;rw[Gv hx,List.length_zipWith,Dy h0 h n (by omega),oQ,h _ (List.getElem_mem ..),Nat.min_self]
theorem Dz{X:List (List Int)}{b0:List Int}{c:Nat}(h0:b0.length=c)(h:∀x∈X,x.length=c):∀n,n<=X.length->(jm X b0 n).length=c
 |0,_=>by simpa[jm]using h0
 |n+1,hn=>by
  have hx:X[n]? =some (X[n]'(by omega)):=List.getElem?_eq_getElem _;rw[Gw hx,List.length_zipWith,Dz h0 h n (by omega),oQ,h _ (List.getElem_mem ..),Nat.min_self]
def iR(f:Int->Int->Int)(b r:List Int)(n:Nat):List Int:=(List.zipWith f b r).take n++b.drop n
theorem Gx{f:Int->Int->Int}{b r:List Int}:iR f b r 0=b:=by simp[iR]
theorem Gy{f:Int->Int->Int}{b r:List Int}(h:b.length=r.length):iR f b r r.length=List.zipWith f b r:=by
 unfold iR;rw[List.take_of_length_le (by rw[List.length_zipWith];omega),List.drop_eq_nil_of_le (by omega),List.append_nil]
theorem Gz{f:Int->Int->Int}{b r:List Int}(h:b.length=r.length){n:Nat}(hn:n<=r.length):(iR f b r n).length=r.length:=by
 unfold iR;rw[List.length_append,List.length_take,List.length_zipWith,List.length_drop];omega
theorem GA{f:Int->Int->Int}{b r:List Int}(h:b.length=r.length){n:Nat}(hn:n<r.length):(iR f b r n)[n]? =b[n]?:=by
 unfold iR;have hl:((List.zipWith f b r).take n).length=n:=by rw[List.length_take,List.length_zipWith];omega
 rw[List.getElem?_append_right (by omega),hl,Nat.sub_self,List.getElem?_drop,Nat.add_zero]
theorem GD{f:Int->Int->Int}{b r:List Int}(h:b.length=r.length){n:Nat}{x y:Int}(hx:b[n]? =some x)(hy:r[n]? =some y):(iR f b r n).set n (f x y)=iR f b r (n+1):=by
 have hn:=(List.getElem?_eq_some_iff.1 hx).1;have hl:((List.zipWith f b r).take n).length=n:=by rw[List.length_take,List.length_zipWith];omega
 have hz:(List.zipWith f b r)[n]? =some (f x y):=by rw[List.getElem?_zipWith,hx,hy]
 unfold iR;rw[List.set_append_right _ _ (by omega),hl,Nat.sub_self,dx hz,List.append_assoc,List.drop_eq_getElem_cons hn];rfl
def jI(X:List (List Int))(a b:Nat):Bool:=X.any λt=>decide (fG (t.getD a 0) (t.getD b 0)≠fG ((X.headD []).getD a 0) ((X.headD []).getD b 0))
def kX(X:List (List Int))(a b:Nat):List (Int×Int):=((List.range b).filter λb=>decide (a<b)&&jI X a b).map λ(b:Nat)=>((a:Int),(b:Int))
def jJ(X:List (List Int))(c n:Nat):List (Int×Int):=(List.range n).flatMap λa=>kX X a c
def und(X:List (List Int))(c:Nat):List (Int×Int):=jJ X c c
theorem Mk{X:List (List Int)}{a:Nat}:kX X a (a+1)=[]:=by
 unfold kX;rw[List.filter_eq_nil_iff.2 λb hb=>?_]
 ·rfl
 ·have:=List.mem_range.1 hb;simp;intro h;omega
theorem DC{X:List (List Int)}{a b:Nat}(h:a<b):kX X a (b+1)=if jI X a b then kX X a b++[((a:Int),(b:Int))]else kX X a b:=by
 unfold kX;rw[List.range_succ,List.filter_append];by_cases hd:jI X a b=true
 ·rw[if_pos hd,List.filter_cons_of_pos (by simp[h,hd]),List.filter_nil,List.map_append];rfl
 ·rw[if_neg hd,List.filter_cons_of_neg (by simp[hd]),List.filter_nil,List.append_nil]
theorem AJ{X:List (List Int)}{c n:Nat}:jJ X c (n+1)=jJ X c n++kX X n c:=by
 unfold jJ;rw[List.range_succ,List.flatMap_append];simp
theorem GG(X:List (List Int))(a b:Nat):(kX X a b).length<=b:=by
 unfold kX;rw[List.length_map];have:=List.length_filter_le (λb=>decide (a<b)&&jI X a b) (List.range b)
 rwa [List.length_range]at this
theorem wP(X:List (List Int))(c:Nat):∀n,(jJ X c n).length<=n*c
 |0=>by simp[jJ]
 |n+1=>by
  rw[AJ,List.length_append,Nat.add_mul,Nat.one_mul];have:=wP X c n;have:=GG X n c;omega
theorem GH{X:List (List Int)}{c:Nat}{p:Int×Int}:p∈und X c↔∃a b:Nat,a<b/\b<c/\jI X a b=true/\p=((a:Int),(b:Int)):=by
 unfold und jJ kX;rw[List.mem_flatMap];constructor
 ·rintro⟨a,ha,h⟩;obtain⟨b,hb,rfl⟩:=List.mem_map.1 h;obtain⟨h1,h2⟩:=List.mem_filter.1 hb;simp only[Bool.and_eq_true,decide_eq_true_iff]at h2;exact⟨a,b,h2.1,List.mem_range.1 h1,h2.2,rfl⟩
 ·rintro⟨a,b,h1,h2,h3,rfl⟩;exact⟨a,List.mem_range.2 (by omega),List.mem_map.2 ⟨b,List.mem_filter.2 ⟨List.mem_range.2 h2,by simp[h1,h3]⟩,rfl⟩⟩
def wQ(X:List (List Int))(a b n:Nat):Bool:=(X.take n).any λt=>decide (fG (t.getD a 0) (t.getD b 0)≠fG ((X.headD []).getD a 0) ((X.headD []).getD b 0))
theorem adv(X:List (List Int))(a b:Nat):wQ X a b X.length=jI X a b:=by unfold wQ jI;rw[List.take_length]
theorem adw{X:List (List Int)}{a b n:Nat}{t:List Int}(h:X[n]? =some t):wQ X a b (n+1)=(wQ X a b n||decide (fG (t.getD a 0) (t.getD b 0)≠fG ((X.headD []).getD a 0) ((X.headD []).getD b 0))):=by
 unfold wQ;rw[dx h,List.any_append];simp
end Rk
namespace Rk
theorem adx{s:aT}{l:List aG}{ts:List Int}(h:∀x∈l,iW s x)(ht:lH l ts)(p:Int):wN (wl l p) (iQ l ts p):=by
 refine⟨by rw[L8,mY],λi hi=>?_⟩;rw[mY]at hi;have hg:=AB (l:=l) (p:=p) (List.getElem?_eq_getElem hi);have ho:=Gr (ts:=ts) (List.getElem?_eq_getElem hi);have hlt:=rX (List.getElem?_eq_getElem hi);generalize(aL l p)[i]=k at hg ho hlt;have hx:l[k]? =some l[k]:=List.getElem?_eq_getElem hlt;have htk:ts[k]? =some (ts[k]'(by rw[ht.1];exact hlt)):=List.getElem?_eq_getElem _;have:=ht.2 k _ _ hx htk;rw[show l.getD k dR=l[k]by rw[List.getD_eq_getElem?_getD,hx];rfl]at hg;rw[show ts.getD k 0=ts[k]'(by rw[ht.1];exact hlt)by rw[List.getD_eq_getElem?_getD,htk];rfl]at ho;unfold lo Rk.hi;rw[List.getD_eq_getElem?_getD,hg,List.getD_eq_getElem?_getD,ho];exact this
theorem Ml{s:aT}{l:List aG}{ts:List Int}(h:∀x∈l,iW s x)(ht:lH l ts):∀n,iP s l ts (List.replicate s.c.toNat 0) n∈bW s l n
 |0=>List.mem_singleton.2 rfl
 |n+1=>rZ.2 ⟨_,Ml h ht n,places (iQ l ts n),(yE (λi hi=>(mZ h hi).2.2) (λi hi=>(mZ h hi).1)).2 ⟨_,adx h ht n,rfl⟩,rfl⟩
theorem Sy{s:aT}{l:List aG}{ts:List Int}(hc:eU s l=0)(hl:¬mG s l)(ht:lH l ts):mF s l ts∈dV s l:=by
 rw[(qQ hc hl).2];exact Ml (mX hc).rs ht _
theorem yK{s:aT}{l:List aG}(hc:eU s l=0)(hl:¬mG s l):dV s l≠[]:=by
 rw[(qQ hc hl).2];exact Mg (mX hc).rs _
theorem uW{s:aT}{l:List aG}{t:List Int}(h:t∈dV s l):t.length=s.c.toNat:=by
 unfold dV at h;split at h
 ·exact kW h
 ·cases h
theorem ady(s:aT)(l:List aG):rY (dV s l):=by
 unfold dV;split
 ·exact yJ ..
 ·exact List.Pairwise.nil
theorem Sz{X:List (List Int)}{b0:List Int}{k c:Nat}(h0:b0.length=c)(h:∀x∈X,x.length=c)(hk:k<c):∀n,n<=X.length->
 ((jl X b0 n).getD k 0<=b0.getD k 0/\(∀i t,i<n->X[i]? =some t->(jl X b0 n).getD k 0<=(aQ t).getD k 0))/\((jl X b0 n).getD k 0=b0.getD k 0\/∃i t,i<n/\X[i]? =some t/\(jl X b0 n).getD k 0=(aQ t).getD k 0)
 |0,_=>⟨⟨by simp[jl],λi t hi=>by omega⟩,.inl (by simp[jl])⟩
 |n+1,hn=>by
  obtain⟨⟨i1,i2⟩,i3⟩:=Sz h0 h hk n (by omega);have hx:X[n]? =some (X[n]'(by omega)):=List.getElem?_eq_getElem _;have hxl:=h _ (List.getElem_mem (l:=X) (n:=n) (by omega));generalize X[n]'(by omega)=x at hx hxl;have hl:=Dy h0 h n (by omega);have hz:(jl X b0 (n+1)).getD k 0=min ((jl X b0 n).getD k 0) ((aQ x).getD k 0):=by
   rw[Gv hx,List.getD_eq_getElem?_getD,List.getElem?_zipWith,List.getD_eq_getElem?_getD,List.getD_eq_getElem?_getD,List.getElem?_eq_getElem (show k<(jl X b0 n).length by omega),List.getElem?_eq_getElem (show k<(aQ x).length by rw[oQ];omega)];rfl
  rw[hz];refine⟨⟨by omega,λi t hi ht=>?_⟩,?_⟩
  ·by_cases e:i=n
   ·subst e;rw[hx]at ht;cases ht;omega
   ·have:=i2 i t (by omega) ht;omega
  ·by_cases hle:(jl X b0 n).getD k 0<=(aQ x).getD k 0
   ·rw[Int.min_eq_left hle];rcases i3 with i3|⟨i,t,q1,q2,q3⟩
    ·exact .inl i3
    ·exact .inr ⟨i,t,by omega,q2,q3⟩
   ·rw[Int.min_eq_right (by omega)];exact .inr ⟨n,x,by omega,hx,rfl⟩
theorem SA{X:List (List Int)}{b0:List Int}{k c:Nat}(h0:b0.length=c)(h:∀x∈X,x.length=c)(hk:k<c):∀n,n<=X.length->
 (b0.getD k 0<=(jm X b0 n).getD k 0/\(∀i t,i<n->X[i]? =some t->(aQ t).getD k 0<=(jm X b0 n).getD k 0))/\((jm X b0 n).getD k 0=b0.getD k 0\/∃i t,i<n/\X[i]? =some t/\(jm X b0 n).getD k 0=(aQ t).getD k 0)
 |0,_=>⟨⟨by simp[jm],λi t hi=>by omega⟩,.inl (by simp[jm])⟩
 |n+1,hn=>by
  obtain⟨⟨i1,i2⟩,i3⟩:=SA h0 h hk n (by omega);have hx:X[n]? =some (X[n]'(by omega)):=List.getElem?_eq_getElem _;have hxl:=h _ (List.getElem_mem (l:=X) (n:=n) (by omega));generalize X[n]'(by omega)=x at hx hxl;have hl:=Dz h0 h n (by omega);have hz:(jm X b0 (n+1)).getD k 0=max ((jm X b0 n).getD k 0) ((aQ x).getD k 0):=by
   rw[Gw hx,List.getD_eq_getElem?_getD,List.getElem?_zipWith,List.getD_eq_getElem?_getD,List.getD_eq_getElem?_getD,List.getElem?_eq_getElem (show k<(jm X b0 n).length by omega),List.getElem?_eq_getElem (show k<(aQ x).length by rw[oQ];omega)];rfl
  rw[hz];refine⟨⟨by omega,λi t hi ht=>?_⟩,?_⟩
  ·by_cases e:i=n
   ·subst e;rw[hx]at ht;cases ht;omega
   ·have:=i2 i t (by omega) ht;omega
  ·by_cases hle:(aQ x).getD k 0<=(jm X b0 n).getD k 0
   ·rw[Int.max_eq_left hle];rcases i3 with i3|⟨i,t,q1,q2,q3⟩
    ·exact .inl i3
    ·exact .inr ⟨i,t,by omega,q2,q3⟩
   ·rw[Int.max_eq_right (by omega)];exact .inr ⟨n,x,by omega,hx,rfl⟩
theorem GI{X:List (List Int)}{k c:Nat}(hne:X≠[])(h:∀x∈X,x.length=c)(hk:k<c):(∀t∈X,(eF X).getD k 0<=(aQ t).getD k 0)/\∃t∈X,(eF X).getD k 0=(aQ t).getD k 0:=by
 obtain⟨x0,X',rfl⟩:=List.exists_cons_of_ne_nil hne;obtain⟨⟨_,h2⟩,h3⟩:=Sz (b0:=aQ x0) (by rw[oQ];exact h x0 (List.mem_cons_self ..)) h hk (x0::X').length (Nat.le_refl _);refine⟨λt ht=>?_,?_⟩
 ·obtain⟨i,hi⟩:=List.getElem?_of_mem ht;exact h2 i t (List.getElem?_eq_some_iff.1 hi).1 hi
 ·rcases h3 with h3|⟨i,t,q1,q2,q3⟩
  ·exact⟨x0,List.mem_cons_self ..,h3⟩
  ·exact⟨t,List.mem_of_getElem? q2,q3⟩
theorem GJ{X:List (List Int)}{k c:Nat}(hne:X≠[])(h:∀x∈X,x.length=c)(hk:k<c):(∀t∈X,(aQ t).getD k 0<=(iJ X).getD k 0)/\∃t∈X,(iJ X).getD k 0=(aQ t).getD k 0:=by
 obtain⟨x0,X',rfl⟩:=List.exists_cons_of_ne_nil hne;obtain⟨⟨_,h2⟩,h3⟩:=SA (b0:=aQ x0) (by rw[oQ];exact h x0 (List.mem_cons_self ..)) h hk (x0::X').length (Nat.le_refl _);refine⟨λt ht=>?_,?_⟩
 ·obtain⟨i,hi⟩:=List.getElem?_of_mem ht;exact h2 i t (List.getElem?_eq_some_iff.1 hi).1 hi
 ·rcases h3 with h3|⟨i,t,q1,q2,q3⟩
  ·exact⟨x0,List.mem_cons_self ..,h3⟩
  ·exact⟨t,List.mem_of_getElem? q2,q3⟩
theorem yL{X:List (List Int)}{c:Nat}(hne:X≠[])(h:∀x∈X,x.length=c):(eF X).length=c:=by
 obtain⟨x0,X',rfl⟩:=List.exists_cons_of_ne_nil hne;exact Dy (by rw[oQ];exact h x0 (List.mem_cons_self ..)) h _ (Nat.le_refl _)
theorem yM{X:List (List Int)}{c:Nat}(hne:X≠[])(h:∀x∈X,x.length=c):(iJ X).length=c:=by
 obtain⟨x0,X',rfl⟩:=List.exists_cons_of_ne_nil hne;exact Dz (by rw[oQ];exact h x0 (List.mem_cons_self ..)) h _ (Nat.le_refl _)
theorem AL{X:List (List Int)}{a b:Nat}:jI X a b=true↔∃t∈X,∃u∈X,fG (t.getD a 0) (t.getD b 0)≠fG (u.getD a 0) (u.getD b 0):=by
 cases X with
 |nil=>simp[jI]
 |cons x0 X=>
  unfold jI;rw[List.any_eq_true];constructor
  ·rintro⟨t,ht,h⟩;exact⟨t,ht,x0,List.mem_cons_self ..,of_decide_eq_true h⟩
  ·rintro⟨t,ht,u,hu,h⟩;by_cases e:fG (t.getD a 0) (t.getD b 0)=fG (x0.getD a 0) (x0.getD b 0)
   ·exact⟨u,hu,decide_eq_true λk=>h (e.trans k.symm)⟩
   ·exact⟨t,ht,decide_eq_true e⟩
theorem adz{X Y:List (List Int)}{a b:Nat}(h:∀t∈Y,t∈X)(hd:jI Y a b=true):jI X a b=true:=by
 obtain⟨t,ht,u,hu,e⟩:=AL.1 hd;exact AL.2 ⟨t,h t ht,u,h u hu,e⟩
theorem adA{X Y:List (List Int)}{c:Nat}(h:∀t∈Y,t∈X){p:Int×Int}(hp:p∈und Y c):p∈und X c:=by
 obtain⟨a,b,h1,h2,h3,h4⟩:=GH.1 hp;exact GH.2 ⟨a,b,h1,h2,adz h h3,h4⟩
theorem adB(x:List Int):eF [x]=aQ x:=by
 show List.zipWith min (aQ x) (aQ x)=aQ x;apply List.ext_getElem (by simp);intro i h1 h2;rw[List.getElem_zipWith,Int.min_self]
theorem adC(x:List Int):iJ [x]=aQ x:=by
 show List.zipWith max (aQ x) (aQ x)=aQ x;apply List.ext_getElem (by simp);intro i h1 h2;rw[List.getElem_zipWith,Int.max_self]
theorem adD(x:List Int)(c:Nat):und [x] c=[]:=by
 apply List.eq_nil_iff_forall_not_mem.2;intro p hp;obtain⟨a,b,_,_,h3,_⟩:=GH.1 hp;obtain⟨t,ht,u,hu,e⟩:=AL.1 h3;rw[List.mem_singleton.1 ht,List.mem_singleton.1 hu]at e;exact e rfl
def dP(l:List aG)(R:List (Int×Int)):List aG:=List.zipWith (λx r=>{x with lo:=r.1,hi:=r.2}) l R
theorem tV{l:List aG}{R:List (Int×Int)}(h:R.length=l.length):(dP l R).length=l.length:=by unfold dP;rw[List.length_zipWith,h,Nat.min_self]
theorem GK{l:List aG}{R:List (Int×Int)}{i:Nat}{x:aG}{r:Int×Int}(h1:l[i]? =some x)(h2:R[i]? =some r):(dP l R)[i]? =some {x with lo:=r.1,hi:=r.2}:=by unfold dP;rw[List.getElem?_zipWith,h1,h2]
theorem adE{l:List aG}{R:List (Int×Int)}(n:Nat):(dP l R).take n=dP (l.take n) (R.take n):=by unfold dP;rw[List.take_zipWith]
theorem adF{l:List aG}{R:List (Int×Int)}(h:R.length=l.length)(f:aG->Bool)(hf:∀x (r:Int×Int),f {x with lo:=r.1,hi:=r.2}=f x):(dP l R).any f=l.any f:=by
 induction l generalizing R with
 |nil=>rfl
 |cons x l ih=>
  cases R with
  |nil=>simp at h
  |cons r R=>
   show(f _||(dP l R).any f)=(f x||l.any f)
   rw[hf,ih (by simpa using h)]
theorem adG{l:List aG}{R:List (Int×Int)}(h:R.length=l.length)(p:Int)(i:Nat):jH (dP l R) p i=jH l p i:=by
 unfold jH;cases hx:l[i]? with
 |none=>
  have:(dP l R)[i]? =none:=by rw[List.getElem?_eq_none_iff]at hx⊢;rw[tV h];exact hx
  rw[this]
 |some x=>
  have hi:=(List.getElem?_eq_some_iff.1 hx).1;have hr:R[i]? =some (R[i]'(by omega)):=List.getElem?_eq_getElem _;rw[GK hx hr,adE];dsimp only;rw[adF (by rw[List.length_take,List.length_take,h]) _ (λ_ _=>rfl)]
theorem wR{l:List aG}{R:List (Int×Int)}(h:R.length=l.length)(p:Int):aL (dP l R) p=aL l p:=by
 unfold aL;rw[tV h];exact List.filter_congr λi _=>adG h p i
theorem Mm{l:List aG}{R:List (Int×Int)}(h:R.length=l.length){i:Nat}(hi:i<l.length):(dP l R).getD i dR={l.getD i dR with lo:=(R.getD i (0,0)).1,hi:=(R.getD i (0,0)).2}:=by
 have hx:l[i]? =some l[i]:=List.getElem?_eq_getElem hi;have hr:R[i]? =some (R[i]'(by omega)):=List.getElem?_eq_getElem _;rw[List.getD_eq_getElem?_getD,GK hx hr,List.getD_eq_getElem?_getD,hx,List.getD_eq_getElem?_getD,hr];rfl
theorem adH{s:aT}{l:List aG}{R:List (Int×Int)}(h:R.length=l.length){p:Nat}{own:List Nat}{aF t:List Int}{n:Nat}(hn:own.getD n 0<l.length):add1 s (dP l R) p own aF t n=add1 s l p own aF t n:=by
 unfold add1;rw[Mm h hn]
theorem SB{s:aT}{l:List aG}{R:List (Int×Int)}(h:R.length=l.length){p:Nat}{own:List Nat}{aF t:List Int}:∀{n:Nat},(∀i,i<n->own.getD i 0<l.length)->addN s (dP l R) p own aF t n=addN s l p own aF t n
 |0,_=>rfl
 |n+1,hn=>by rw[addN,addN,SB h λi hi=>hn i (by omega),adH h (hn n (by omega))]
theorem Mo{s:aT}{l:List aG}{R:List (Int×Int)}(h:R.length=l.length){p:Nat}{aF t:List Int}:fO s (dP l R) p aF t=fO s l p aF t:=by
 unfold fO;rw[wR h];refine SB h λi hi=>?_;rw[List.getD_eq_getElem?_getD,List.getElem?_eq_getElem hi];exact rX (List.getElem?_eq_getElem hi)
theorem Mq{s:aT}{l:List aG}{R:List (Int×Int)}(h:R.length=l.length){ts t:List Int}:∀n,iP s (dP l R) ts t n=iP s l ts t n
 |0=>rfl
 |n+1=>by rw[iP,iP,Mq h n,Mo h,wR h]
structure Less(l:List aG)(R:List (Int×Int)):Prop where
 len:R.length=l.length
 ok:∀(i:Nat) x r,l[i]? =some x->R[i]? =some r->x.lo<=r.1/\r.1<=r.2/\r.2<=x.hi
theorem Less.GL{s:aT}{l:List aG}{R:List (Int×Int)}(h:Less l R)(hok:∀x∈l,iW s x):∀x∈dP l R,iW s x:=λx hxm=>by
 obtain⟨i,hi⟩:=List.getElem?_of_mem hxm;have hlt:=(List.getElem?_eq_some_iff.1 hi).1;rw[tV h.len]at hlt;have hx:l[i]? =some l[i]:=List.getElem?_eq_getElem hlt;have hr:R[i]? =some (R[i]'(by have:=h.len;omega)):=List.getElem?_eq_getElem _;have a:=hok _ (List.mem_of_getElem? hx);rw[GK hx hr]at hi;cases hi;have b:=h.ok i _ _ hx hr;have a1:=a.lo;have a2:=a.hi;exact⟨a.c0,a.c1,a.p0,a.p1,a.t0,a.t1,by dsimp only;omega,b.2.1,by dsimp only;omega⟩
theorem Less.tF{s:aT}{l:List aG}{R:List (Int×Int)}(h:Less l R)(hc:eU s l=0):eU s (dP l R)=0:=by
 have hok:=mX hc;exact LV ⟨by rw[tV h.len];exact hok.len,hok.pg,hok.sh,h.GL hok.rs⟩
theorem Less.wl{s:aT}{l:List aG}{R:List (Int×Int)}(h:Less l R)(hok:∀x∈l,iW s x){p:Int}{ts:List Int}(hi:wN (wl (dP l R) p) ts):wN (Rk.wl l p) ts:=by
 refine⟨by rw[hi.1,mY,mY,wR h.len],λi hil=>?_⟩;have h2:=hi.2 i (by rw[mY,wR h.len,<- mY];exact hil);rw[mY]at hil;have e1:=AB (l:=l) (p:=p) (List.getElem?_eq_getElem hil);have e2:=AB (l:=dP l R) (p:=p) (k:=i) (i:=(aL l p)[i]) (by rw[wR h.len];exact List.getElem?_eq_getElem hil);have hlt:=rX (List.getElem?_eq_getElem hil);generalize(aL l p)[i]=k at e1 e2 hlt;rw[Mm h.len hlt]at e2;have hx:l[k]? =some l[k]:=List.getElem?_eq_getElem hlt;have hr:R[k]? =some (R[k]'(by have:=h.len;omega)):=List.getElem?_eq_getElem _;have hb:=h.ok k _ _ hx hr;rw[show R.getD k (0,0)=R[k]'(by have:=h.len;omega)by rw[List.getD_eq_getElem?_getD,hr];rfl]at e2;rw[show l.getD k dR=l[k]by rw[List.getD_eq_getElem?_getD,hx];rfl]at e1;unfold lo Rk.hi at h2⊢;rw[List.getD_eq_getElem?_getD,e2]at h2;rw[List.getD_eq_getElem?_getD,e1];simp only[Option.getD_some]at h2 hb⊢;exact⟨Int.le_trans hb.1 h2.1,Int.le_trans h2.2 hb.2.2⟩
theorem Less.pos{s:aT}{l:List aG}{R:List (Int×Int)}(h:Less l R)(hok:∀x∈l,iW s x){p:Int}{ps:List Int}(hp:ps∈jd (Rk.wl (dP l R) p)):ps∈jd (Rk.wl l p):=by
 have hok2:=h.GL hok;obtain⟨ts,h1,rfl⟩:=(yE (λi hi=>(mZ hok2 hi).2.2) (λi hi=>(mZ hok2 hi).1)).1 hp;exact(yE (λi hi=>(mZ hok hi).2.2) (λi hi=>(mZ hok hi).1)).2 ⟨ts,h.wl hok h1,rfl⟩
theorem Less.bW{s:aT}{l:List aG}{R:List (Int×Int)}(h:Less l R)(hok:∀x∈l,iW s x):∀(n:Nat) {u:List Int},u∈bW s (dP l R) n->u∈Rk.bW s l n
 |0,_,hu=>hu
 |n+1,u,hu=>by
  obtain⟨t,h1,aF,h2,rfl⟩:=rZ.1 hu;exact rZ.2 ⟨t,Less.bW h hok n h1,aF,h.pos hok h2,Mo h.len⟩
theorem Less.lim{s:aT}{l:List aG}{R:List (Int×Int)}(h:Less l R)(hok:∀x∈l,iW s x)(hl:¬mG s l):¬mG s (dP l R):=by
 rintro⟨p,hp,hlen⟩;exact hl (Mi hp (yJ ..).nodup (λu hu=>h.bW hok _ hu) hlen)
theorem Less.dV{s:aT}{l:List aG}{R:List (Int×Int)}(h:Less l R)(hc:eU s l=0)(hl:¬mG s l){u:List Int}(hu:u∈dV s (dP l R)):u∈Rk.dV s l:=by
 have hok:=(mX hc).rs;rw[(qQ (h.tF hc) (h.lim hok hl)).2]at hu;rw[(qQ hc hl).2];exact h.bW hok _ hu
def jK(ts:List Int):List (Int×Int):=ts.map λt=>(t,t)
theorem GM{l:List aG}{ts:List Int}(h:lH l ts):Less l (jK ts):=by
 refine⟨by unfold jK;rw[List.length_map];exact h.1,λi x r hx hr=>?_⟩;unfold jK at hr;rw[List.getElem?_map]at hr;cases ht:ts[i]? with
 |none=>rw[ht]at hr;cases hr
 |some t=>
  rw[ht]at hr;cases hr;have:=h.2 i x t hx ht;exact⟨this.1,Int.le_refl _,this.2⟩
theorem SC{l:List aG}{ts:List Int}(h:lH l ts):lH (dP l (jK ts)) ts:=by
 have hl:=(GM h).len;refine⟨by rw[tV hl];exact h.1,λi x t hx ht=>?_⟩;have hlt:=(List.getElem?_eq_some_iff.1 hx).1;rw[tV hl]at hlt;have hx0:l[i]? =some l[i]:=List.getElem?_eq_getElem hlt;rw[GK hx0 (r:=(t,t)) (by unfold jK;rw[List.getElem?_map,ht];rfl)]at hx;cases hx;exact⟨Int.le_refl _,Int.le_refl _⟩
theorem SE{s:aT}{l:List aG}{ts:List Int}(h:lH l ts)(hok:∀x∈l,iW s x):∀(n:Nat) {u:List Int},u∈bW s (dP l (jK ts)) n->u=iP s l ts (List.replicate s.c.toNat 0) n
 |0,u,hu=>List.mem_singleton.1 hu
 |n+1,u,hu=>by
  have hL:=GM h;have hok2:=hL.GL hok;obtain⟨t,h1,aF,h2,rfl⟩:=rZ.1 hu;have:=SE h hok n h1;subst this;obtain⟨us,h3,rfl⟩:=(yE (λi hi=>(mZ hok2 hi).2.2) (λi hi=>(mZ hok2 hi).1)).1 h2;have DD:us=iQ l ts n:=by
   have hl:=h3.1;rw[mY,wR hL.len]at hl;refine RU (by rw[L8,hl]) λi hi=>?_;rw[hl]at hi;have h4:=h3.2 i (by rw[mY,wR hL.len];exact hi);have e2:=AB (l:=dP l (jK ts)) (p:=n) (k:=i) (i:=(aL l n)[i]) (by rw[wR hL.len];exact List.getElem?_eq_getElem hi);have ho:=Gr (ts:=ts) (List.getElem?_eq_getElem hi);have hlt:=rX (List.getElem?_eq_getElem hi);generalize(aL l n)[i]=k at e2 ho hlt;rw[Mm hL.len hlt]at e2;have ht:ts[k]? =some (ts[k]'(by rw[h.1];exact hlt)):=List.getElem?_eq_getElem _;have hg:(jK ts).getD k (0,0)=(ts.getD k 0,ts.getD k 0):=by
    unfold jK;rw[List.getD_eq_getElem?_getD,List.getElem?_map,List.getD_eq_getElem?_getD,ht];rfl
   rw[hg]at e2;unfold lo Rk.hi at h4;rw[List.getD_eq_getElem?_getD,e2]at h4;rw[List.getD_eq_getElem?_getD (l:=iQ l ts n),ho];simp only[Option.getD_some]at h4⊢;omega
  rw[DD,Mo hL.len];rfl
theorem adI{s:aT}{l:List aG}{ts:List Int}(h:lH l ts)(hc:eU s l=0):gJ s (dP l (jK ts))=0/\dV s (dP l (jK ts))=[mF s l ts]:=by
 have hok:=(mX hc).rs;have hL:=GM h;have hone:∀n,bW s (dP l (jK ts)) n=[iP s l ts (List.replicate s.c.toNat 0) n]:=λn=>
  Gt (yJ ..) (List.pairwise_singleton _ _) λu=>by
   rw[List.mem_singleton];refine⟨SE h hok n,?_⟩;rintro rfl;have:=Ml (hL.GL hok) (SC h) n
   rwa [Mq hL.len]at this
 have hlim:¬mG s (dP l (jK ts)):=by
  rintro⟨p,_,h⟩;rw[hone]at h;simp at h
 obtain⟨e1,e2⟩:=qQ (hL.tF hc) hlim;exact⟨e1,by rw[e2,hone];rfl⟩
end Rk
namespace Rk
section
variable {W:List (Int×Int)} {pl:List Int} {fr:Int} {dn g:Nat}
def wS(W:List (Int×Int))(f:Nat)(pl:List Int)(fr:Int)(dn g:Nat):List (List Int):=
 if mq W pl fr g then(if late W pl fr g then[]else mW W f (gP pl dn g) (jk W fr g+1) (dn+many W g))else[]
def si(W:List (Int×Int))(f:Nat)(pl:List Int)(fr:Int)(dn g:Nat):List (List Int):=(List.range' 1 (g - 1)).flatMap (wS W f pl fr dn)
theorem adJ{f:Nat}:si W f pl fr dn 1=[]:=rfl
theorem SF{f:Nat}(hg:1<=g):si W f pl fr dn (g+1)=si W f pl fr dn g++wS W f pl fr dn g:=by
 unfold si;obtain⟨k,rfl⟩:∃k,g=k+1:=⟨g - 1,by omega⟩
 rw[Nat.add_sub_cancel,Nat.add_sub_cancel,List.range'_concat,List.flatMap_append,Nat.one_mul,Nat.add_comm 1 k];simp
theorem adK{f:Nat}(h:dn≠W.length):mW W (f+1) pl fr dn=si W f pl fr dn (2^W.length):=by
 rw[mW,if_neg h];rfl
theorem SG{f:Nat}(h:dn=W.length):mW W f pl fr dn=[pl]:=by
 cases f with
 |zero=>rfl
 |succ f=>rw[mW,if_pos h]
theorem SH{f:Nat}:∀{k:Nat},1<=g->(si W f pl fr dn g).length<=(si W f pl fr dn (g+k)).length
 |0,_=>Nat.le_refl _
 |k+1,h=>by
  have:=SH (f:=f) (k:=k) h;rw[<- Nat.add_assoc,SF (by omega),List.length_append];omega
theorem adL{f g':Nat}(h:1<=g)(h2:g<=g'):(si W f pl fr dn g).length<=(si W f pl fr dn g').length:=by
 obtain⟨k,rfl⟩:=Nat.exists_eq_add_of_le h2;exact SH h
theorem Mr{i:Nat}:clash pl g (i+1)=(clash pl g i||(g.testBit i&&!eT pl i)):=by
 unfold clash;rw[List.range_succ,List.any_append];simp
theorem adM{i n:Nat}(hi:i<=n)(h:clash pl g i=true):clash pl g n=true:=by
 unfold clash at h⊢;rw[List.any_eq_true]at h⊢;obtain⟨k,h1,h2⟩:=h;exact⟨k,List.mem_range.2 (by have:=List.mem_range.1 h1;omega),h2⟩
def DF(W:List (Int×Int))(pl:List Int)(v:Int)(g i:Nat):Bool:=(List.range i).any λi=>!g.testBit i&&eT pl i&&decide (hi W i<=v)
theorem adN{v:Int}{i:Nat}:DF W pl v g (i+1)=(DF W pl v g i||(!g.testBit i&&eT pl i&&decide (hi W i<=v))):=by
 unfold DF;rw[List.range_succ,List.any_append];simp
def kw(pl:List Int)(dn g i:Nat):List Int:=gP (pl.take i) dn g++pl.drop i
theorem adO:kw pl dn g 0=pl:=by simp[kw,gP]
theorem adP:kw pl dn g pl.length=gP pl dn g:=by simp[kw]
theorem SI{x:Int}{l:List Int}:gP (l++[x]) dn g=gP l dn g++[if g.testBit l.length then(dn:Int)+1 else x]:=by
 unfold gP;rw[List.mapIdx_append];simp
theorem adQ{i:Nat}:(kw pl dn g i).length=pl.length:=by
 unfold kw;rw[List.length_append,rV,List.length_take,List.length_drop];omega
theorem adR{i:Nat}(hi:i<pl.length):(kw pl dn g i)[i]? =some pl[i]:=by
 unfold kw;have hl:(gP (pl.take i) dn g).length=i:=by rw[rV,List.length_take];omega
 rw[List.getElem?_append_right (by omega),hl,Nat.sub_self,List.getElem?_drop,Nat.add_zero,List.getElem?_eq_getElem hi]
theorem adS{i:Nat}(hi:i<pl.length)(hb:g.testBit i=true):(kw pl dn g i).set i ((dn:Int)+1)=kw pl dn g (i+1):=by
 unfold kw;have hl:(gP (pl.take i) dn g).length=i:=by rw[rV,List.length_take];omega
 have hx:pl[i]? =some pl[i]:=List.getElem?_eq_getElem hi;rw[List.set_append_right _ _ (by omega),hl,Nat.sub_self,dx hx,SI,List.drop_eq_getElem_cons hi];have:(pl.take i).length=i:=by rw[List.length_take];omega
 rw[this,hb,List.append_assoc];rfl
theorem adT{i:Nat}(hi:i<pl.length)(hb:g.testBit i=false):kw pl dn g (i+1)=kw pl dn g i:=by
 unfold kw;have hx:pl[i]? =some pl[i]:=List.getElem?_eq_getElem hi;have:(pl.take i).length=i:=by rw[List.length_take];omega
 rw[dx hx,SI,this,hb,List.append_assoc];show _++(pl[i]::pl.drop (i+1))=_;rw[<- List.drop_eq_getElem_cons hi]
def lJ(pl:List Int)(dn g i:Nat):List Int:=pl.take i++(gP pl dn g).drop i
theorem SK:lJ pl dn g 0=gP pl dn g:=by simp[lJ]
theorem SL:lJ pl dn g pl.length=pl:=by unfold lJ;rw[List.take_length,List.drop_eq_nil_of_le (by rw[rV];omega),List.append_nil]
theorem SN{i:Nat}:(lJ pl dn g i).length=pl.length:=by
 unfold lJ;rw[List.length_append,List.length_drop,rV,List.length_take];omega
theorem SQ{i:Nat}(hi:i<pl.length)(h0:pl[i]=0):(lJ pl dn g i).set i 0=lJ pl dn g (i+1):=by
 unfold lJ;have hl:(pl.take i).length=i:=by rw[List.length_take];omega
 have hx:pl[i]? =some pl[i]:=List.getElem?_eq_getElem hi;rw[List.set_append_right _ _ (by omega),hl,Nat.sub_self,dx hx,h0,List.drop_eq_getElem_cons (by rw[rV];exact hi),List.append_assoc];rfl
theorem SS{i:Nat}(hi:i<pl.length)(hb:g.testBit i=false):lJ pl dn g (i+1)=lJ pl dn g i:=by
 unfold lJ;have hx:pl[i]? =some pl[i]:=List.getElem?_eq_getElem hi;have hs:(gP pl dn g)[i]'(by rw[rV];exact hi)=pl[i]:=by
  have h1:=Aq (dn:=dn) (g:=g) hi;rw[hb]at h1;simp only[Bool.false_eq_true,if_false]at h1
  rwa [List.getD_eq_getElem?_getD,List.getElem?_eq_getElem (by rw[rV];exact hi),List.getD_eq_getElem?_getD,hx]at h1
 rw[dx hx,List.append_assoc];show _++(pl[i]::(gP pl dn g).drop (i+1))=_;rw[<- hs,<- List.drop_eq_getElem_cons (by rw[rV];exact hi)]
theorem Ms(m n:Nat):decide (((m>>>n&&&1:Nat):Int)=1)=m.testBit n:=by
 rw[Nat.testBit,Nat.and_comm,Nat.one_and_eq_mod_two];have:m>>>n%2=0\/m>>>n%2=1:=by omega
 rcases this with h|h<;>simp[h]
theorem adU(m n:Nat):decide (((m>>>n&&&1:Nat):Int)=0)=!m.testBit n:=by
 rw[Nat.testBit,Nat.and_comm,Nat.one_and_eq_mod_two];have:m>>>n%2=0\/m>>>n%2=1:=by omega
 rcases this with h|h<;>simp[h]
theorem SV{i:Nat}:iO W fr g (i+1)=if g.testBit i then max (iO W fr g i) (lo W i)else iO W fr g i:=rfl
theorem Mt{i:Nat}:kQ W g (i+1)=if g.testBit i then min (kQ W g i) (hi W i)else kQ W g i:=rfl
theorem adV{i:Nat}:kQ W g i<=kv:=by
 induction i with
 |zero=>exact Int.le_refl _
 |succ i ih=>rw[Mt];split<;>omega
end
end Rk
namespace Rk
theorem SX(l:List aG)(p:Int):∀n,n<=l.length->(jr l p n).Nodup
 |0,_=>by simp[jr,fq]
 |n+1,hn=>by
  have ih:=SX l p n (by omega);have hx:l[n]? =some (l[n]'(by omega)):=List.getElem?_eq_getElem _;have hg:l.getD n dR=l[n]'(by omega):=by rw[List.getD_eq_getElem?_getD,hx];rfl
  have hf:=Si (p:=p) hx;generalize l[n]'(by omega)=x at hx hg hf;rw[LZ,hg];split
  ·rename_i h;rw[h]at hf;have hm:x.c∉jr l p n:=by
    intro hm;rw[decide_eq_true hm]at hf;simp at hf
   rw[List.nodup_append];exact⟨ih,by simp,λa ha b hb e=>hm (by rw[<- List.mem_singleton.1 hb,<- e];exact ha)⟩
  ·exact ih
theorem SY{s:aT}{l:List aG}(h:∀x∈l,iW s x)(p:Int):(aL l p).length<=s.c.toNat:=by
 have h1:=wL (a:=jr l p l.length) (b:=ints (List.range s.c.toNat)) (SX l p l.length (Nat.le_refl _)) λc hc=>by
  obtain⟨i,hi,rfl⟩:=List.mem_map.1 hc;have hlt:=(LX hi).1;have hx:l[i]? =some l[i]:=List.getElem?_eq_getElem hlt;have hok:=h _ (List.getElem_mem hlt);rw[List.getD_eq_getElem?_getD,hx,Option.getD_some];have:=hok.c0;have:=hok.c1;exact List.mem_map.2 ⟨l[i].c.toNat,List.mem_range.2 (by omega),by omega⟩
 rw[tN,List.length_range]at h1;unfold jr at h1;rw[List.length_map]at h1;exact h1
end Rk
namespace Rk
def uX(X:List (List Int))(a n:Nat):Int:=(X.take n).foldl (λm x=>min m ((aQ x).getD a 0)) 100
def uY(X:List (List Int))(a n:Nat):Int:=(X.take n).foldl (λm x=>max m ((aQ x).getD a 0)) 0
theorem S9{X:List (List Int)}{a n:Nat}{x:List Int}(h:X[n]? =some x):uX X a (n+1)=min (uX X a n) ((aQ x).getD a 0):=by unfold uX;rw[dx h,List.foldl_append];rfl
theorem Ta{X:List (List Int)}{a n:Nat}{x:List Int}(h:X[n]? =some x):uY X a (n+1)=max (uY X a n) ((aQ x).getD a 0):=by unfold uY;rw[dx h,List.foldl_append];rfl
theorem Tc{X:List (List Int)}{a:Nat}:∀n,n<=X.length->(∀i t,i<n->X[i]? =some t->uX X a n<=(aQ t).getD a 0)/\(uX X a n=100\/∃i t,i<n/\X[i]? =some t/\uX X a n=(aQ t).getD a 0)
 |0,_=>⟨λi t hi=>by omega,.inl rfl⟩
 |n+1,hn=>by
  obtain⟨h1,h2⟩:=Tc (X:=X) (a:=a) n (by omega);have hx:X[n]? =some (X[n]'(by omega)):=List.getElem?_eq_getElem _;generalize X[n]'(by omega)=x at hx;rw[S9 hx];refine⟨λi t hi ht=>?_,?_⟩
  ·by_cases e:i=n
   ·subst e;rw[hx]at ht;cases ht;omega
   ·have:=h1 i t (by omega) ht;omega
  ·by_cases hle:uX X a n<=(aQ x).getD a 0
   ·rw[Int.min_eq_left hle];rcases h2 with h2|⟨i,t,q1,q2,q3⟩
    ·exact .inl h2
    ·exact .inr ⟨i,t,by omega,q2,q3⟩
   ·rw[Int.min_eq_right (by omega)];exact .inr ⟨n,x,by omega,hx,rfl⟩
theorem Td{X:List (List Int)}{a:Nat}:∀n,n<=X.length->(∀i t,i<n->X[i]? =some t->(aQ t).getD a 0<=uY X a n)/\(uY X a n=0\/∃i t,i<n/\X[i]? =some t/\uY X a n=(aQ t).getD a 0)
 |0,_=>⟨λi t hi=>by omega,.inl rfl⟩
 |n+1,hn=>by
  obtain⟨h1,h2⟩:=Td (X:=X) (a:=a) n (by omega);have hx:X[n]? =some (X[n]'(by omega)):=List.getElem?_eq_getElem _;generalize X[n]'(by omega)=x at hx;rw[Ta hx];refine⟨λi t hi ht=>?_,?_⟩
  ·by_cases e:i=n
   ·subst e;rw[hx]at ht;cases ht;omega
   ·have:=h1 i t (by omega) ht;omega
  ·by_cases hle:(aQ x).getD a 0<=uY X a n
   ·rw[Int.max_eq_left hle];rcases h2 with h2|⟨i,t,q1,q2,q3⟩
    ·exact .inl h2
    ·exact .inr ⟨i,t,by omega,q2,q3⟩
   ·rw[Int.max_eq_right (by omega)];exact .inr ⟨n,x,by omega,hx,rfl⟩
theorem Te{xs:List Int}{k:Nat}{x:Int}(h:xs[k]? =some x):(aQ xs).getD k 0=1+((xs.countP λm=>decide (x<m):Nat):Int):=by
 unfold aQ;rw[List.getD_eq_getElem?_getD,List.getElem?_map,h];rfl
theorem Tf{xs:List Int}{k:Nat}(hk:k<xs.length):1<=(aQ xs).getD k 0/\(aQ xs).getD k 0<=1+xs.length:=by
 rw[Te (List.getElem?_eq_getElem hk)];have:=List.countP_le_length (p:=λm=>decide (xs[k]<m)) (l:=xs);omega
theorem adW{X:List (List Int)}{a c:Nat}(hne:X≠[])(h:∀x∈X,x.length=c)(ha:a<c)(hc:c<=8):uX X a X.length=(eF X).getD a 0:=by
 obtain⟨h1,h2⟩:=Tc (X:=X) (a:=a) X.length (Nat.le_refl _);obtain⟨b1,t,ht,b2⟩:=GI (k:=a) hne h ha;obtain⟨i,hi⟩:=List.getElem?_of_mem ht;have h3:=h1 i t (List.getElem?_eq_some_iff.1 hi).1 hi;have h4:=Tf (xs:=t) (k:=a) (by rw[h t ht];exact ha);rw[h t ht]at h4;rcases h2 with h2|⟨j,u,_,q2,q3⟩
 ·omega
 ·have:=b1 u (List.mem_of_getElem? q2);omega
theorem adX{X:List (List Int)}{a c:Nat}(hne:X≠[])(h:∀x∈X,x.length=c)(ha:a<c):uY X a X.length=(iJ X).getD a 0:=by
 obtain⟨h1,h2⟩:=Td (X:=X) (a:=a) X.length (Nat.le_refl _);obtain⟨b1,t,ht,b2⟩:=GJ (k:=a) hne h ha;obtain⟨i,hi⟩:=List.getElem?_of_mem ht;have h3:=h1 i t (List.getElem?_eq_some_iff.1 hi).1 hi;have h4:=Tf (xs:=t) (k:=a) (by rw[h t ht];exact ha);rcases h2 with h2|⟨j,u,_,q2,q3⟩
 ·omega
 ·have:=b1 u (List.mem_of_getElem? q2);omega
theorem Tg{X:List (List Int)}{a b:Nat}(h:a<b):∀k,∃r,kX X a (b+k)=kX X a b++r
 |0=>⟨[],by simp⟩
 |k+1=>by
  obtain⟨r,hr⟩:=Tg (X:=X) h k;rw[<- Nat.add_assoc,DC (by omega),hr];split
  ·exact⟨r++[_],by rw[List.append_assoc]⟩
  ·exact⟨r,rfl⟩
theorem Ti{X:List (List Int)}{c a:Nat}:∀k,∃r,jJ X c (a+k)=jJ X c a++r
 |0=>⟨[],by simp⟩
 |k+1=>by
  obtain⟨r,hr⟩:=Ti (X:=X) (c:=c) (a:=a) k;rw[<- Nat.add_assoc,AJ,hr];exact⟨r++_,by rw[List.append_assoc]⟩
theorem adY{X:List (List Int)}{c a b:Nat}(hab:a<b)(hbc:b<c)(hd:jI X a b=true):(und X c)[(jJ X c a).length+(kX X a b).length]? =some ((a:Int),(b:Int)):=by
 obtain⟨r1,h1⟩:=Ti (X:=X) (c:=c) (a:=a+1) (c - (a+1));obtain⟨r2,h2⟩:=Tg (X:=X) (a:=a) (b:=b+1) (by omega) (c - (b+1));rw[show a+1+(c - (a+1))=c by omega,AJ]at h1;rw[show b+1+(c - (b+1))=c by omega,DC hab,if_pos hd]at h2;show(jJ X c c)[_]? =_;rw[h1,h2,List.append_assoc,List.getElem?_append_right (by omega),Nat.add_sub_cancel_left,List.append_assoc,List.append_assoc,List.getElem?_append_right (by omega),Nat.sub_self];rfl
theorem adZ{X:List (List Int)}{a b:Nat}{ks:List Int}(hne:X≠[])(hn:ks.Nodup)(h:∀z,z∈ks↔∃t∈X,z=fG (t.getD a 0) (t.getD b 0)):ks.length=1↔jI X a b=false:=by
 obtain⟨t0,ht0⟩:=List.exists_mem_of_ne_nil _ hne;have h0:=(h _).2 ⟨t0,ht0,rfl⟩;constructor
 ·intro hl;obtain⟨z,rfl⟩:=List.length_eq_one_iff.1 hl;apply Bool.eq_false_iff.2;intro hd;obtain⟨t,ht,u,hu,e⟩:=AL.1 hd;have h1:=List.mem_singleton.1 ((h _).2 ⟨t,ht,rfl⟩);have h2:=List.mem_singleton.1 ((h _).2 ⟨u,hu,rfl⟩);exact e (h1.trans h2.symm)
 ·intro hd;have:=Sr (b:=[fG (t0.getD a 0) (t0.getD b 0)]) hn (by simp) λz=>by
   rw[List.mem_singleton];constructor
   ·intro hz;obtain⟨t,ht,rfl⟩:=(h z).1 hz;apply Classical.byContradiction;intro e;rw[AL.2 ⟨t,ht,t0,ht0,e⟩]at hd;cases hd
   ·rintro rfl;exact h0
  rw[this];rfl
