/-
  Graphs, in plain lists: the nodes that are reached, the parts, rings.
-/
set_option linter.all false
namespace Gph
def D7(l:List Bool)(n:Int):Bool:=l.getD n.toNat false
def left(met:List Bool):Nat:=(met.filter (!·)).length
def Rg(g:List (List Int))(n:Int):Prop:=0<=n/\n<g.length
inductive oG(g:List (List Int))(lg:List Bool)(s:Int):Int->Prop
 |refl:oG g lg s s
 |step {i n:Int} {l:List Int} (h:oG g lg s i) (hl:g[i.toNat]? =some l) (hn:n∈l) (hi:D7 lg n=true):oG g lg s n
theorem oG.trans{g:List (List Int)}{lg:List Bool}{a b c:Int}(h:oG g lg a b)(h2:oG g lg b c):oG g lg a c:=by
 induction h2 with
 |refl=>exact h
 |step _ hl hn hi ih=>exact .step ih hl hn hi
theorem uu{g:List (List Int)}{n:Int}(h:Rg g n):g[n.toNat]? =some (g.getD n.toNat []):=by
 have hl:n.toNat<g.length:=by unfold Rg at h;omega
 rw[List.getD_eq_getElem?_getD,List.getElem?_eq_getElem hl];rfl
end Gph
namespace Gph
end Gph
namespace Gph
variable {g:List (List Int)} {lg:List Bool}
def Old(g:List (List Int))(lg:List Bool)(k n:Nat):Prop:=∃j,j<k/\D7 lg j=true/\oG g lg j n
open Classical in
noncomputable def cnt(g:List (List Int))(lg:List Bool):Nat->Nat
 |0=>0
 |k+1=>cnt g lg k+if D7 lg k=true/\¬Old g lg k k then 1 else 0
def nU(g:List (List Int)):Prop:=∀(i:Nat) l,g[i]? =some l->∀n∈l,Rg g n/\∀l',g[n.toNat]? =some l'->(i:Int)∈l'
theorem nU.rg(h:nU g):∀l∈g,∀n∈l,Rg g n:=λl hl n hn=>by
 obtain⟨i,hi⟩:=List.getElem?_of_mem hl;exact(h i l hi n hn).1
theorem oG.rg(h:nU g){a b:Int}(ha:Rg g a)(r:oG g lg a b):Rg g b:=by
 cases r with
 |refl=>exact ha
 |step _ hl hn _=>exact h.rg _ (List.mem_of_getElem? hl) _ hn
theorem oG.symm(h:nU g){a b:Int}(ha:Rg g a)(hi:D7 lg a=true)(r:oG g lg a b):oG g lg b a:=by
 induction r with
 |refl=>exact .refl
 |step r0 hl hn hin ih=>
  rename_i i n l;have hri:=oG.rg h ha r0;have abF:D7 lg i=true:=by
   cases r0 with
   |refl=>exact hi
   |step _ _ _ q=>exact q
  obtain⟨q1,q2⟩:=h i.toNat l hl n hn;have:=q2 _ (uu q1);have hc:((i.toNat:Nat):Int)=i:=by unfold Rg at hri;omega
  rw[hc]at this;exact(oG.step .refl (uu q1) this abF).trans ih
end Gph
namespace Gph
structure kM where
 kind:Int
 cells:List Int
 set:Int
 other:Int
 lo:Int
 hi:Int
 runs:List Int
 rule:Int
 at_:Int
structure Bz where
 cells:Int
 symbols:Int
 values:List Int
 bE:List (List Int)
 cons:List kM
structure LG(cells symbols:Int)(c:kM):Prop where
 cell:∀(i:Nat) x,c.cells[i]? =some x->0<=x/\x<cells/\(8<=c.kind->x=i)
 nd:c.cells.Nodup
 kind:1<=c.kind/\c.kind<=9
 two:c.kind=6\/c.kind=7->c.cells.length=2
 all:8<=c.kind->(c.cells.length:Int)=cells
 set:0<=c.set/\c.set<(2^symbols.toNat:Nat)
 other:0<=c.other/\c.other<(2^symbols.toNat:Nat)
 lo:0<=c.lo/\c.lo<=65536
 hi:0<=c.hi/\c.hi<=65536
 ah8:c.runs.length<=8
 runs:∀x∈c.runs,1<=x/\x<=256
theorem LG.len{cells symbols:Int}{c:kM}(h:LG cells symbols c):(c.cells.length:Int)<=cells\/c.cells=[]:=by
 -- distinct numbers below 'cells'
 by_cases hn:c.cells=[]
 ·exact .inr hn
 left;have hb:∀x∈c.cells,0<=x/\x<cells:=λx hx=>by
  obtain⟨i,hi⟩:=List.getElem?_of_mem hx;have:=h.cell i x hi;exact⟨this.1,this.2.1⟩
 have:∀(m:Nat) (l:List Int),l.Nodup->(∀x∈l,0<=x/\x<(m:Int))->l.length<=m:=by
  intro m;induction m with
  |zero=>
   intro l _ hl;cases l with
   |nil=>simp
   |cons a l=>have:=hl a (by simp);omega
  |succ m ih=>
   intro l hd hl;by_cases hm:(m:Int)∈l
   ·have h1:=List.length_erase_of_mem hm;have h2:=ih (l.erase (m:Int)) (hd.erase _) (λx hx=>by
     have hne:x≠(m:Int):=λe=>by
      subst e;exact(List.Nodup.mem_erase_iff hd).1 hx|>.1 rfl
     have:=hl x (List.mem_of_mem_erase hx);omega)
    omega
   ·have:=ih l hd (λx hx=>by
     have hne:x≠(m:Int):=λe=>hm (e▸hx);have:=hl x hx;omega)
    omega
 have h0:0<=cells:=by
  obtain⟨a,ha⟩:=List.exists_mem_of_ne_nil _ hn;have:=hb a ha;omega
 have:=this cells.toNat c.cells h.nd (λx hx=>by have:=hb x hx;omega);omega
