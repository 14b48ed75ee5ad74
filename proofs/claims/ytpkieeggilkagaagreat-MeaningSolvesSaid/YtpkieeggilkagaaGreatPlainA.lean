/-
  Graphs, in plain lists: the nodes that are reached, the parts, rings.
-/
set_option linter.unusedSimpArgs false
set_option linter.unusedVariables false
namespace Gph
def inB(l:List Bool)(n:Int):Bool:=l.getD n.toNat false
def inner(inn:List Bool):List Int→List Bool→List Int→List Bool×List Int
 |[],met,q=>(met,q)
 |n::ns,met,q=>if inB inn n&&!inB met n then inner inn ns (met.set n.toNat true) (q++[n])else inner inn ns met q
def bfs(g:List (List Int))(inn:List Bool):Nat→List Bool→List Int→List Int
 |0,_,_=>[]
 |_+1,_,[]=>[]
 |f+1,met,q::qs=>q::bfs g inn f (inner inn (g.getD q.toNat []) met (q::qs)).1 (inner inn (g.getD q.toNat []) met (q::qs)).2.tail
def zAs(m:Nat)(s:Int):List Bool:=(List.replicate m false).set s.toNat true
def reachL(g:List (List Int))(inn:List Bool)(s:Int):List Int:=bfs g inn (g.length+1) (zAs g.length s) [s]
def left(met:List Bool):Nat:=(met.filter (!·)).length
theorem zJR{met:List Bool}{n:Nat}(h:met[n]? =some false):left (met.set n true)+1=left met:=by
 induction met generalizing n with
 |nil=>cases h
 |cons b met ih=>
  cases n with
  |zero=>cases h;simp[left]
  |succ n=>
   have:=ih (n:=n) (by simpa using h);simp only[left,List.set_cons_succ,List.filter_cons]at this⊢;cases b<;>simp at this⊢<;>omega
theorem zGc{met:List Bool}{a n:Int}(ha:0≤a)(hn:0≤n)(h:a<met.length):inB (met.set a.toNat true) n=(decide (n=a)||inB met n):=by
 unfold inB;obtain⟨a,rfl⟩:=Int.eq_ofNat_of_zero_le ha;obtain⟨n,rfl⟩:=Int.eq_ofNat_of_zero_le hn;simp only[Int.toNat_natCast,List.getD_eq_getElem?_getD,List.getElem?_set];by_cases e:a=n
 ·subst e;have:a<met.length:=by omega
  simp[this]
 ·have e2:¬((n:Int)=(a:Int)):=by omega
  simp[e,e2]
def Rg(g:List (List Int))(n:Int):Prop:=0≤n∧n<g.length
theorem zCb{g:List (List Int)}{inn:List Bool}:∀(ns:List Int) (met:List Bool) (q:List Int),met.length=g.length→(∀n∈ns,Rg g n)→
 (inner inn ns met q).1.length=g.length∧(∀n,0≤n→(inB (inner inn ns met q).1 n=true↔inB met n=true∨(n∈ns∧inB inn n=true)))∧
 left (inner inn ns met q).1+(inner inn ns met q).2.length=left met+q.length∧∃t,(inner inn ns met q).2=q++t∧∀n,(n∈t↔n∈ns∧inB inn n=true∧inB met n=false)
 |[],met,q,hm,hr=>by simp[inner,hm]
 |a::ns,met,q,hm,hr=>by
  have ha:=hr a (by simp);have hr':∀n∈ns,Rg g n:=fun n hn=>hr n (by simp[hn]);unfold Rg at ha;rw[inner];by_cases hc:(inB inn a&&!inB met a)=true
  ·rw[if_pos hc];simp only[Bool.and_eq_true,Bool.not_eq_true']at hc;obtain⟨h1,h2,h4,t,h5,h3⟩:=zCb (g:=g) (inn:=inn) ns (met.set a.toNat true) (q++[a]) (by simpa using hm) hr';refine⟨h1,fun n hn=>?_,?_,a::t,by rw[h5];simp,fun n=>?_⟩
   ·rw[h2 n hn,zGc ha.1 hn (by omega)];simp only[Bool.or_eq_true,decide_eq_true_eq,List.mem_cons];constructor
    ·rintro((rfl|h)|h)
     ·exact .inr ⟨.inl rfl,hc.1⟩
     ·exact .inl h
     ·exact .inr ⟨.inr h.1,h.2⟩
    ·rintro(h|⟨rfl|h,h'⟩)
     ·exact .inl (.inr h)
     ·exact .inl (.inl rfl)
     ·exact .inr ⟨h,h'⟩
   ·have hs:met[a.toNat]? =some false:=by
     have:inB met a=false:=hc.2;unfold inB at this;rw[List.getD_eq_getElem?_getD]at this;have hl:a.toNat<met.length:=by omega
     rw[List.getElem?_eq_getElem hl]at this⊢;simpa using this
    have:=zJR hs;rw[h4,List.length_append,List.length_singleton];omega
   ·rw[List.mem_cons,h3 n];simp only[List.mem_cons];constructor
    ·rintro(rfl|⟨h,h',h''⟩)
     ·exact⟨.inl rfl,hc⟩
     ·have hn:=(hr' n h).1;rw[zGc ha.1 hn (by omega)]at h'';simp only[Bool.or_eq_false_iff]at h'';exact⟨.inr h,h',h''.2⟩
    ·rintro⟨rfl|h,h',h''⟩
     ·exact .inl rfl
     ·by_cases e:n=a
      ·exact .inl e
      ·refine .inr ⟨h,h',?_⟩;rw[zGc ha.1 (hr' n h).1 (by omega)];simp[e,h'']
  ·rw[if_neg hc];obtain⟨h1,h2,h4,t,h5,h3⟩:=zCb (g:=g) (inn:=inn) ns met q hm hr';simp only[Bool.and_eq_true,Bool.not_eq_true',not_and,Bool.not_eq_false]at hc;refine⟨h1,fun n hn=>?_,h4,t,h5,fun n=>?_⟩
   ·rw[h2 n hn];simp only[List.mem_cons];constructor
    ·rintro(h|⟨h,h'⟩)
     ·exact .inl h
     ·exact .inr ⟨.inr h,h'⟩
    ·rintro(h|⟨rfl|h,h'⟩)
     ·exact .inl h
     ·exact .inl (hc h')
     ·exact .inr ⟨h,h'⟩
   ·rw[h3 n];simp only[List.mem_cons];constructor
    ·rintro⟨h,h'⟩;exact⟨.inr h,h'⟩
    ·rintro⟨rfl|h,h',h''⟩
     ·rw[hc h']at h'';cases h''
     ·exact⟨h,h',h''⟩
inductive Rch(g:List (List Int))(inn:List Bool)(s:Int):Int→Prop
 |refl:Rch g inn s s
 |step {i n:Int} {l:List Int} (h:Rch g inn s i) (hl:g[i.toNat]? =some l) (hn:n∈l) (hi:inB inn n=true):Rch g inn s n
theorem Rch.trans{g:List (List Int)}{inn:List Bool}{a b c:Int}(h:Rch g inn a b)(h2:Rch g inn b c):Rch g inn a c:=by
 induction h2 with
 |refl=>exact h
 |step _ hl hn hi ih=>exact .step ih hl hn hi
theorem zAl{g:List (List Int)}{n:Int}(h:Rg g n):g[n.toNat]? =some (g.getD n.toNat []):=by
 have hl:n.toNat<g.length:=by unfold Rg at h;omega
 rw[List.getD_eq_getElem?_getD,List.getElem?_eq_getElem hl];rfl
theorem zJ8{g:List (List Int)}{inn:List Bool}(hg:∀l∈g,∀n∈l,Rg g n):∀(f:Nat) (met:List Bool) (queue V:List Int),met.length=g.length→(∀n∈queue,Rg g n)→
 (∀n,0≤n→(inB met n=true↔n∈V∨n∈queue))→(∀v∈V,∀l,g[v.toNat]? =some l→∀n∈l,inB inn n=true→n∈V∨n∈queue)→left met+queue.length≤f→
 (∀v,v∈V∨v∈bfs g inn f met queue→∀l,g[v.toNat]? =some l→∀n∈l,inB inn n=true→n∈V∨n∈bfs g inn f met queue)∧(∀n∈queue,n∈bfs g inn f met queue)∧
 (∀n∈bfs g inn f met queue,∃q∈queue,Rch g inn q n)∧∀n∈bfs g inn f met queue,Rg g n
 |0,met,queue,V,hm,hq,hM,hcl,hf=>by
  have:queue=[]:=List.length_eq_zero_iff.1 (by omega);subst this;simp only[bfs];exact⟨fun v hv l hl n hn hi=>hcl v (by simpa using hv) l hl n hn hi,(by simp),(by simp),(by simp)⟩
 |f+1,met,[],V,hm,hq,hM,hcl,hf=>by
  simp only[bfs];exact⟨fun v hv l hl n hn hi=>hcl v (by simpa using hv) l hl n hn hi,(by simp),(by simp),(by simp)⟩
 |f+1,met,q::qs,V,hm,hq,hM,hcl,hf=>by
  have hq0:=hq q (by simp);have hgd:=zAl hq0;have hns:∀n∈g.getD q.toNat [],Rg g n:=hg _ (List.mem_of_getElem? hgd);obtain⟨h1,h2,h4,t,h5,h3⟩:=zCb (g:=g) (inn:=inn) (g.getD q.toNat []) met (q::qs) hm hns;rw[bfs];generalize hin:inner inn (g.getD q.toNat []) met (q::qs)=r at h1 h2 h4 h5;obtain⟨met',q'⟩:=r;dsimp only at h1 h2 h4 h5⊢;subst h5;rw[List.cons_append,List.tail_cons];have hqt:∀n∈qs++t,Rg g n:=fun n hn=>by
   rcases List.mem_append.1 hn with h|h
   ·exact hq n (by simp[h])
   ·exact hns n ((h3 n).1 h).1
  obtain⟨c1,c2,c3,c4⟩:=zJ8 hg f met' (qs++t) (q::V) h1 hqt (fun n hn=>by
   rw[h2 n hn,hM n hn];simp only[List.mem_cons,List.mem_append,h3 n];constructor
   ·rintro((h|rfl|h)|⟨h,h'⟩)
    ·exact .inl (.inr h)
    ·exact .inl (.inl rfl)
    ·exact .inr (.inl h)
    ·cases hme:inB met n with
     |true=>
      rcases(hM n hn).1 hme with h''|h''
      ·exact .inl (.inr h'')
      ·rcases List.mem_cons.1 h'' with rfl|h''
       ·exact .inl (.inl rfl)
       ·exact .inr (.inl h'')
     |false=>exact .inr (.inr ⟨h,h',rfl⟩)
   ·rintro((rfl|h)|h|⟨h,h',_⟩)
    ·exact .inl (.inr (.inl rfl))
    ·exact .inl (.inl h)
    ·exact .inl (.inr (.inr h))
    ·exact .inr ⟨h,h'⟩) (fun v hv l hl n hn hi=>by
   rcases List.mem_cons.1 hv with rfl|hv
   ·rw[hgd]at hl;cases hl;have hn0:=(hns n hn).1;cases hme:inB met n with
    |true=>
     rcases(hM n hn0).1 hme with h''|h''
     ·exact .inl (by simp[h''])
     ·rcases List.mem_cons.1 h'' with rfl|h''
      ·exact .inl (by simp)
      ·exact .inr (by simp[h''])
    |false=>exact .inr (List.mem_append_right _ ((h3 n).2 ⟨hn,hi,hme⟩))
   ·rcases hcl v hv l hl n hn hi with h|h
    ·exact .inl (by simp[h])
    ·rcases List.mem_cons.1 h with rfl|h
     ·exact .inl (by simp)
     ·exact .inr (by simp[h])) (by
   simp only[List.cons_append,List.length_cons,List.length_append]at h4 hf⊢;omega)
  refine⟨fun v hv l hl n hn hi=>?_,fun n hn=>?_,fun n hn=>?_,fun n hn=>?_⟩
  ·have:=c1 v (by
    rcases hv with h|h
    ·exact .inl (by simp[h])
    ·rcases List.mem_cons.1 h with rfl|h
     ·exact .inl (by simp)
     ·exact .inr h) l hl n hn hi
   rcases this with h|h
   ·rcases List.mem_cons.1 h with rfl|h
    ·exact .inr (by simp)
    ·exact .inl h
   ·exact .inr (by simp[h])
  ·rcases List.mem_cons.1 hn with rfl|hn
   ·simp
   ·exact List.mem_cons_of_mem _ (c2 n (by simp[hn]))
  ·rcases List.mem_cons.1 hn with rfl|hn
   ·exact⟨n,by simp,.refl⟩
   ·obtain⟨p,hp,hr⟩:=c3 n hn;rcases List.mem_append.1 hp with hp|hp
    ·exact⟨p,by simp[hp],hr⟩
    ·obtain⟨h,h',_⟩:=(h3 p).1 hp;exact⟨q,by simp,(Rch.step .refl hgd h h').trans hr⟩
  ·rcases List.mem_cons.1 hn with rfl|hn
   ·exact hq0
   ·exact c4 n hn
theorem zGV(m:Nat)(s:Int):(zAs m s).length=m:=by rw[zAs,List.length_set,List.length_replicate]
theorem zKd{g:List (List Int)}{inn:List Bool}(hg:∀l∈g,∀n∈l,Rg g n){s:Int}(hs:Rg g s)(n:Int):n∈reachL g inn s↔Rch g inn s n:=by
 have hs':=hs;unfold Rg at hs';obtain⟨c1,c2,c3,_⟩:=zJ8 (g:=g) (inn:=inn) hg (g.length+1) (zAs g.length s) [s] [] (zGV _ _) (fun n hn=>by rw[List.mem_singleton.1 hn];exact hs) (fun n hn=>by
  rw[zAs,zGc hs'.1 hn (by rw[List.length_replicate];omega)];have:inB (List.replicate g.length false) n=false:=by
   unfold inB;rw[List.getD_eq_getElem?_getD,List.getElem?_replicate];split<;>rfl
  simp[this]) (by simp) (by
  have:left (zAs g.length s)≤(zAs g.length s).length:=List.length_filter_le _ _;rw[zGV]at this;simp;omega)
 constructor
 ·intro h;obtain⟨q,hq,hr⟩:=c3 n h;rw[List.mem_singleton.1 hq]at hr;exact hr
 ·intro h;induction h with
  |refl=>exact c2 s (by simp)
  |step _ hl hn hi ih=>exact(c1 _ (.inr ih) _ hl _ hn hi).resolve_left (by simp)
theorem zMU{g:List (List Int)}{inn:List Bool}(hg:∀l∈g,∀n∈l,Rg g n){s:Int}(hs:Rg g s):∀n∈reachL g inn s,Rg g n:=fun n hn=>by
 have h:=(zKd hg hs n).1 hn;cases h with
 |refl=>exact hs
 |step _ hl hn _=>exact hg _ (List.mem_of_getElem? hl) n hn
def paint(part:List Int)(ns:List Int)(m:Int):List Int:=ns.foldl (fun p n=>p.set n.toNat m) part
theorem zHX:∀(ns part:List Int) (m:Int),(paint part ns m).length=part.length
 |[],part,m=>rfl
 |n::ns,part,m=>by
  show(paint (part.set n.toNat m) ns m).length=_;rw[zHX ns,List.length_set]
def zDQ(g:List (List Int))(inn:List Bool)(x:List Int×Nat)(i:Nat):List Int×Nat:=
 if inB inn i=true∧x.1.getD i 0≤0 then(paint x.1 (reachL g inn i) (x.2+1:Nat),x.2+1)else x
def partsN(g:List (List Int))(inn:List Bool)(k:Nat):List Int×Nat:=(List.range k).foldl (zDQ g inn) (List.replicate g.length 0,0)
theorem zEm(g:List (List Int))(inn:List Bool)(k:Nat):partsN g inn (k+1)=zDQ g inn (partsN g inn k) k:=by
 rw[partsN,List.range_succ,List.foldl_append];rfl
theorem zFJ(g:List (List Int))(inn:List Bool):∀k,(partsN g inn k).1.length=g.length∧(partsN g inn k).2≤k∧∀p∈(partsN g inn k).1,0≤p∧p≤(partsN g inn k).2
 |0=>by
  refine⟨by simp[partsN],by simp[partsN],fun p hp=>?_⟩;simp[partsN]at hp⊢;omega
 |k+1=>by
  obtain⟨h1,h2,h3⟩:=zFJ g inn k;rw[zEm,zDQ];split
  ·refine⟨by rw[zHX];exact h1,by show _+1≤_;omega,?_⟩;have:∀(ns part:List Int) (m:Nat),(∀p∈part,0≤p∧p≤(m:Int))→∀p∈paint part ns (m:Nat),0≤p∧p≤(m:Int):=by
    intro ns;induction ns with
    |nil=>intro part m h;exact h
    |cons n ns ih=>
     intro part m h;refine ih _ m fun p hp=>?_;rcases List.mem_or_eq_of_mem_set hp with hp|rfl
     ·exact h p hp
     ·omega
   exact this _ _ _ fun p hp=>by have:=h3 p hp;omega
  ·exact⟨h1,by omega,h3⟩
end Gph
namespace Gph
def zQY(inn:List Bool)(l:List Int):Nat:=(l.filter (inB inn)).length
def sizeN(inn:List Bool)(k:Nat):Nat:=((List.range k).filter fun i=>inB inn (i:Nat)).length
def zTd(g:List (List Int))(inn:List Bool)(k:Nat):Prop:=∀i:Nat,i<k→inB inn i=true→zQY inn (g.getD i [])=2
open Classical in
noncomputable def zLb(g:List (List Int))(inn:List Bool):Bool:=decide (zTd g inn g.length∧3≤sizeN inn g.length∧(partsN g inn g.length).2=1)
theorem zKf(inn:List Bool)(k:Nat):sizeN inn (k+1)=sizeN inn k+if inB inn (k:Nat)then 1 else 0:=by
 rw[sizeN,List.range_succ,List.filter_append,List.length_append,← sizeN];congr 1;simp only[List.filter_cons,List.filter_nil];split<;>rfl
theorem zN7(inn:List Bool)(k:Nat):sizeN inn k≤k:=by
 have:=List.length_filter_le (fun i=>inB inn ((i:Nat):Int)) (List.range k);rw[List.length_range]at this;exact this
open Classical in
theorem zIB{g:List (List Int)}{inn:List Bool}:zLb g inn=true↔zTd g inn g.length∧3≤sizeN inn g.length∧(partsN g inn g.length).2=1:=by
 unfold zLb;exact decide_eq_true_iff
theorem zFf{g:List (List Int)}{inn:List Bool}(h:¬(zTd g inn g.length∧3≤sizeN inn g.length∧(partsN g inn g.length).2=1)):zLb g inn=false:=Bool.eq_false_iff.2 fun e=>h (zIB.1 e)
end Gph
namespace Gph
structure Con where
 kind:Int
 cells:List Int
 set:Int
 other:Int
 lo:Int
 hi:Int
 runs:List Int
 rule:Int
 at_:Int
structure zIT where
 cells:Int
 symbols:Int
 values:List Int
 nbs:List (List Int)
 cons:List Con
structure zDY(cells symbols:Int)(c:Con):Prop where
 cell:∀(i:Nat) x,c.cells[i]? =some x→0≤x∧x<cells∧(8≤c.kind→x=i)
 nd:c.cells.Nodup
 kind:1≤c.kind∧c.kind≤9
 two:c.kind=6∨c.kind=7→c.cells.length=2
 all:8≤c.kind→(c.cells.length:Int)=cells
 set:0≤c.set∧c.set<(2^symbols.toNat:Nat)
 other:0≤c.other∧c.other<(2^symbols.toNat:Nat)
 lo:0≤c.lo∧c.lo≤65536
 hi:0≤c.hi∧c.hi≤65536
 rlen:c.runs.length≤8
 runs:∀x∈c.runs,1≤x∧x≤256
theorem zDY.len{cells symbols:Int}{c:Con}(h:zDY cells symbols c):(c.cells.length:Int)≤cells∨c.cells=[]:=by
 -- distinct numbers below 'cells'
 by_cases hn:c.cells=[]
 ·exact .inr hn
 left;have hb:∀x∈c.cells,0≤x∧x<cells:=fun x hx=>by
  obtain⟨i,hi⟩:=List.getElem?_of_mem hx;have:=h.cell i x hi;exact⟨this.1,this.2.1⟩
 have:∀(m:Nat) (l:List Int),l.Nodup→(∀x∈l,0≤x∧x<(m:Int))→l.length≤m:=by
  intro m;induction m with
  |zero=>
   intro l _ hl;cases l with
   |nil=>simp
   |cons a l=>have:=hl a (by simp);omega
  |succ m ih=>
   intro l hd hl;by_cases hm:(m:Int)∈l
   ·have h1:=List.length_erase_of_mem hm;have h2:=ih (l.erase (m:Int)) (hd.erase _) (fun x hx=>by
     have hne:x≠(m:Int):=fun e=>by
      subst e;exact(List.Nodup.mem_erase_iff hd).1 hx|>.1 rfl
     have:=hl x (List.mem_of_mem_erase hx);omega)
    omega
   ·have:=ih l hd (fun x hx=>by
     have hne:x≠(m:Int):=fun e=>hm (e▸hx);have:=hl x hx;omega)
    omega
 have h0:0≤cells:=by
  obtain⟨a,ha⟩:=List.exists_mem_of_ne_nil _ hn;have:=hb a ha;omega
 have:=this cells.toNat c.cells h.nd (fun x hx=>by have:=hb x hx;omega);omega
end Gph
