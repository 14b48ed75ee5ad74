/-
  Graphs, in plain lists: the nodes that are reached, the parts, rings.
-/
set_option linter.all false
namespace Gph
def Fh(l:List Bool)(n:Int):Bool:=l.getD n.toNat false
def left(met:List Bool):Nat:=(met.filter (!·)).length
def Rg(g:List (List Int))(n:Int):Prop:=0<=n/\n<g.length
inductive oV(g:List (List Int))(lM:List Bool)(s:Int):Int->Prop
 |refl:oV g lM s s
 |step {i n:Int} {l:List Int} (h:oV g lM s i) (hl:g[i.toNat]? =some l) (hn:n∈l) (hi:Fh lM n=true):oV g lM s n
theorem oV.trans{g:List (List Int)}{lM:List Bool}{a b c:Int}(h:oV g lM a b)(h2:oV g lM b c):oV g lM a c:=by
 induction h2 with
 |refl=>exact h
 |step _ hl hn hi ih=>exact .step ih hl hn hi
theorem uI{g:List (List Int)}{n:Int}(h:Rg g n):g[n.toNat]? =some (g.getD n.toNat []):=by
 have hl:n.toNat<g.length:=by unfold Rg at h;omega
 rw[List.getD_eq_getElem?_getD,List.getElem?_eq_getElem hl];rfl
end Gph
namespace Gph
end Gph
namespace Gph
variable {g:List (List Int)} {lM:List Bool}
def Old(g:List (List Int))(lM:List Bool)(k n:Nat):Prop:=∃j,j<k/\Fh lM j=true/\oV g lM j n
open Classical in
noncomputable def cnt(g:List (List Int))(lM:List Bool):Nat->Nat
 |0=>0
 |k+1=>cnt g lM k+if Fh lM k=true/\¬Old g lM k k then 1 else 0
def oz(g:List (List Int)):Prop:=∀(i:Nat) l,g[i]? =some l->∀n∈l,Rg g n/\∀l',g[n.toNat]? =some l'->(i:Int)∈l'
theorem oz.rg(h:oz g):∀l∈g,∀n∈l,Rg g n:=λl hl n hn=>by
 obtain⟨i,hi⟩:=List.getElem?_of_mem hl;exact(h i l hi n hn).1
theorem oV.rg(h:oz g){a b:Int}(ha:Rg g a)(r:oV g lM a b):Rg g b:=by
 cases r with
 |refl=>exact ha
 |step _ hl hn _=>exact h.rg _ (List.mem_of_getElem? hl) _ hn
theorem oV.symm(h:oz g){a b:Int}(ha:Rg g a)(hi:Fh lM a=true)(r:oV g lM a b):oV g lM b a:=by
 induction r with
 |refl=>exact .refl
 |step r0 hl hn hin ih=>
  rename_i i n l;have hri:=oV.rg h ha r0;have acA:Fh lM i=true:=by
   cases r0 with
   |refl=>exact hi
   |step _ _ _ q=>exact q
  obtain⟨q1,q2⟩:=h i.toNat l hl n hn;have:=q2 _ (uI q1);have hc:((i.toNat:Nat):Int)=i:=by unfold Rg at hri;omega
  rw[hc]at this;exact(oV.step .refl (uI q1) this acA).trans ih
end Gph
namespace Gph
structure iG where
 kind:Int
 cells:List Int
 set:Int
 other:Int
 lo:Int
 hi:Int
 runs:List Int
 rule:Int
 at_:Int
structure zW where
 cells:Int
 symbols:Int
 values:List Int
 bn:List (List Int)
 cons:List iG
structure Mr(cells symbols:Int)(c:iG):Prop where
 cell:∀(i:Nat) x,c.cells[i]? =some x->0<=x/\x<cells/\(8<=c.kind->x=i)
 nd:c.cells.Nodup
 kind:1<=c.kind/\c.kind<=9
 two:c.kind=6\/c.kind=7->c.cells.length=2
 all:8<=c.kind->(c.cells.length:Int)=cells
 set:0<=c.set/\c.set<(2^symbols.toNat:Nat)
 other:0<=c.other/\c.other<(2^symbols.toNat:Nat)
 lo:0<=c.lo/\c.lo<=65536
 hi:0<=c.hi/\c.hi<=65536
 ajp:c.runs.length<=8
 runs:∀x∈c.runs,1<=x/\x<=256
theorem Mr.len{cells symbols:Int}{c:iG}(h:Mr cells symbols c):(c.cells.length:Int)<=cells\/c.cells=[]:=by
 -- distinct numbers below 'cells'
 by_cases hn:c.cells=[]
 ·exact .inr hn
 left;have hb:∀x∈c.cells,0<=x/\x<cells:=λx hx=>by
  obtain⟨i,hi⟩:=List.getElem?_of_mem hx;have:=h.cell i x hi;exact⟨this.1,this.2.1⟩
 have:∀(m:Nat) (l:List Int),l.Nodup->(∀x∈l,0<=x/\x<(m:Int))->l.length<=m:=by
  intro m;induction m with
  |zero=>
   intro l _ hl;cases l with
   |nil=>simp
   |cons a l=>have:=hl a (by simp);omega
  |succ m ih=>
   intro l hd hl;by_cases hm:(m:Int)∈l
   ·have h1:=List.length_erase_of_mem hm;have h2:=ih (l.erase (m:Int)) (hd.erase _) (λx hx=>by
     have hne:x≠(m:Int):=λe=>by
      subst e;exact(List.Nodup.mem_erase_iff hd).1 hx|>.1 rfl
     have:=hl x (List.mem_of_mem_erase hx);omega)
    omega
   ·have:=ih l hd (λx hx=>by
     have hne:x≠(m:Int):=λe=>hm (e▸hx);have:=hl x hx;omega)
    omega
 have h0:0<=cells:=by
  obtain⟨a,ha⟩:=List.exists_mem_of_ne_nil _ hn;have:=hb a ha;omega
 have:=this cells.toNat c.cells h.nd (λx hx=>by have:=hb x hx;omega);omega
