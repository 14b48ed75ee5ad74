/-
  Puzzles, in plain lists: clues that are right.
-/
import Derived.Test.YtpkieeggilkagaaGreatPlainB
import Derived.Test.YtpkieeggilkagaaGreatIdealI
import Derived.Test.YtpkieeggilkagaaGreatPlainA
set_option linter.unusedSimpArgs false
set_option linter.unusedVariables false
namespace Kd
open Go Go.Ideal Canon
def gvnE:Enc zm:=⟨3,Value,fun g v=>[.int .i64 g.clue,.int .i64 g.at_,v],fun g v=>[fSl intE v g.values],fun _ _=>rfl⟩
abbrev zTb(g:zm)(v:Value):Value:=.agg ⟨[.int .i64 g.clue,.int .i64 g.at_,v]⟩
def zB6:List Int→Int
 |[]=>0
 |a::l=>if a≠0 then a else zB6 l
def plc(a b:zm):Int:=zB6 [zFq a.clue b.clue,zFq a.at_ b.at_]
theorem zCz{a b:zm}:plc a b<0↔a.clue<b.clue∨(a.clue=b.clue∧a.at_<b.at_):=by
 unfold plc zFq;simp only[zB6];split<;>split at *<;>(try split at *)<;>(try split at *)<;>(try split at *)<;>omega
theorem zEz{a b c:zm}(h1:plc a b<0)(h2:plc b c<0):plc a c<0:=by
 rw[zCz]at *;omega
def zCL(k:Knd)(g:zm):Prop:=∃(c:Clu) (l:List (List Int)),0≤g.clue∧k.decl.clues[g.clue.toNat]? =some c∧k.lists[c.family.toNat]? =some l∧0≤g.at_∧g.at_<l.length∧
 ((c.type=1∧g.values.length=1∧∀x∈g.values,0≤x∧x≤(k.decl.symbols.length:Int) - 1)∨(c.type=2∧g.values.length=1∧∀x∈g.values,c.lo≤x∧x≤c.hi)∨
   (c.type≠1∧c.type≠2∧g.values.length≤8∧∀x∈g.values,1≤x∧x≤256))
structure zAM(k:Knd)(p:List zm):Prop where
 len:p.length≤512
 right:∀g∈p,zCL k g
 sorted:∀(i:Nat) a b,p[i]? =some a→p[i+1]? =some b→plc a b<0
def zLv(k:Knd):Prop:=∀c∈k.decl.clues,0≤c.family∧c.family<k.lists.length
end Kd
namespace Kd
open Go Go.Ideal Canon
def clF(k:Knd)(i:Int):Int:=match k.decl.clues[i.toNat]? with|some c=>c.family|none=>0
def cellsAt(k:Knd)(g:zm):List Int:=(k.lists.getD (clF k g.clue).toNat []).getD g.at_.toNat []
def rlsOf(k:Knd)(p:List zm)(r:Rul):List (List Int×List Int):=
 if r.clue<0 then(k.lists.getD r.family.toNat []).map fun l=>(l,[r.n])else(p.filter fun g=>decide (g.clue=r.clue)).map fun g=>(cellsAt k g,g.values)
theorem zAl{α:Type}{l:List α}{n:Nat}{x d:α}(h:l[n]? =some x):l.getD n d=x:=by simp[List.getD,h]
theorem zCL.cells{k:Knd}{g:zm}(h:zCL k g):∃(c:Clu) (l:List (List Int)) (ps:List Int),k.decl.clues[g.clue.toNat]? =some c∧k.lists[c.family.toNat]? =some l∧l[g.at_.toNat]? =some ps∧0≤g.clue∧0≤g.at_∧g.at_<l.length∧cellsAt k g=ps:=by
 obtain⟨c,l,h1,h2,h3,h4,h5,_⟩:=h;have h6:l[g.at_.toNat]? =some (l[g.at_.toNat]'(by omega)):=List.getElem?_eq_getElem _;refine⟨c,l,_,h2,h3,h6,h1,h4,h5,?_⟩;unfold cellsAt clF;rw[h2];dsimp only;rw[zAl h3,zAl h6]
abbrev EA:=(List Int×Value)×(List Int×Value)
def prj(x:EA):List Int×List Int:=(x.1.1,x.2.1)
def eaV(x:EA):List Value:=[x.1.2,x.2.2]
def eaF(x:EA):List zJ:=[fSl intE x.1.2 x.1.1,fSl intE x.2.2 x.2.1]
def pad(l:List (List Int×List Int)):List EA:=l.map fun y=>((y.1,.nilFunc),(y.2,.nilFunc))
theorem zLZ(l:List (List Int×List Int)):(pad l).map prj=l:=by
 unfold pad;rw[List.map_map];have:prj∘(fun y:List Int×List Int=>(((y.1,Value.nilFunc),(y.2,Value.nilFunc)):EA))=id:=rfl;rw[this,List.map_id]
end Kd
namespace Kd
open Go Go.Ideal Canon
def gAt(grid:List Int)(c:Int):Int:=grid.getD c.toNat 0
theorem zIO{grid:List Int}{n:Nat}{x:Int}(h:grid[n]? =some x):gAt grid (n:Int)=x:=by unfold gAt;exact zAl h
def obB(n op b:Int):Bool:=(decide (op=1)&&decide (n=b))||(decide (op=2)&&decide (n≤b))||(decide (op=3)&&decide (b≤n))
def zGS(nbs:List (List Int))(grid:List Int)(c:Int→Int→Bool):Bool:=nbs.zipIdx.all fun p=>p.1.all fun b=>c (gAt grid (p.2:Int)) (gAt grid b)
theorem zNY{nbs:List (List Int)}{grid:List Int}{c:Int→Int→Bool}{j:Nat}{l:List Int}(h:nbs[j]? =some l):zGS (nbs.take (j+1)) grid c=(zGS (nbs.take j) grid c&&l.all fun b=>c (gAt grid (j:Int)) (gAt grid b)):=by
 have hj:=(List.getElem?_eq_some_iff.1 h).1;unfold zGS;rw[zP h,List.zipIdx_append,List.all_append,List.length_take,Nat.min_eq_left (by omega),Nat.zero_add,List.zipIdx_cons,List.zipIdx_nil,List.all_cons,List.all_nil,Bool.and_true]
theorem zKh{nbs:List (List Int)}{grid:List Int}{c:Int→Int→Bool}{j i:Nat}{l:List Int}{b:Int}(h:nbs[j]? =some l)(hb:l[i]? =some b)(hc:c (gAt grid (j:Int)) (gAt grid b)=false):zGS nbs grid c=false:=by
 unfold zGS;rw[List.all_eq_false];refine⟨(l,j),?_,?_⟩
 ·exact List.mk_mem_zipIdx_iff_getElem?.2 h
 ·simp only[Bool.not_eq_true,List.all_eq_false];exact⟨b,List.mem_of_getElem? hb,by simp[hc]⟩
end Kd
namespace Kd
open Go Go.Ideal
def InN(n:Nat)(l:List Int):Prop:=l.length≤4096∧∀c∈l,0≤c∧c<(n:Int)
theorem zGq{g:Grd}:∀p∈spotsL g,0≤p.1∧p.1<(g.cells.length:Int):=by
 intro p hp;obtain⟨k,hk⟩:=List.mem_iff_getElem?.1 hp;have hkl:=(List.getElem?_eq_some_iff.1 hk).1;rw[zf]at hkl;have:=zA4 hk;omega
theorem zO1(kf:Int×Int→Int×Bool)(n:Nat):∀ps:List (Int×(Int×Int)),ps.length=n→∀a,∀c∈(lkp a (linM kf ps)).getD [],∃p∈ps,p.1=c:=by
 induction n with
 |zero=>
  intro ps h a c hc;rw[List.length_eq_zero_iff.1 h]at hc;have hc:c∈([]:List Int):=hc;cases hc
 |succ n ih=>
  intro ps h a c hc;obtain⟨qs,p,rfl⟩:∃qs p,ps=qs++[p]:=⟨ps.dropLast,ps.getLast (by intro e;rw[e]at h;cases h),(List.dropLast_concat_getLast _).symm⟩
  have hq:qs.length=n:=by simpa using h
  have hih:∀a,∀c∈(lkp a (linM kf qs)).getD [],∃p'∈qs++[p],p'.1=c:=fun a c hc=>by
   obtain⟨q,h1,h2⟩:=ih qs hq a c hc;exact⟨q,List.mem_append_left _ h1,h2⟩
  rw[zB7]at hc;unfold zB4 at hc;cases hb:(kf p.2).2 with
  |false=>
   rw[hb]at hc;exact hih a c hc
  |true=>
   rw[hb]at hc;have hc:c∈(lkp a (upd (kf p.2).1 ((lkp (kf p.2).1 (linM kf qs)).getD []++[p.1]) (linM kf qs))).getD []:=hc;rw[zCa]at hc;by_cases e:a=(kf p.2).1
   ·rw[if_pos e,Option.getD_some]at hc;rcases List.mem_append.1 hc with hc|hc
    ·exact hih _ c hc
    ·exact⟨p,by simp,(List.mem_singleton.1 hc).symm⟩
   ·rw[if_neg e]at hc;exact hih a c hc
theorem zBm{g:Grd}(hg:zAB g)(kf:Int×Int→Int×Bool):∀l∈linesOf g kf,InN g.cells.length l:=by
 intro l hl;have hlen:=(zB0 hg kf).2 l hl;refine⟨by omega,fun c hc=>?_⟩;unfold linesOf at hl;obtain⟨n,_,rfl⟩:=List.mem_map.1 hl;obtain⟨p,hp,rfl⟩:=zO1 kf _ (spotsL g) rfl n c hc;exact zGq p hp
theorem zF9{a b:List (List Int)}{l:List Int}(h:l∈dgFold a b):l∈a∨l∈b:=by
 unfold dgFold at h;induction b generalizing a with
 |nil=>exact .inl h
 |cons x b ih=>
  rw[List.foldl_cons]at h;rcases ih h with h|h
  ·unfold zGA at h;split at h
   ·exact .inl h
   ·rcases List.mem_append.1 h with h|h
    ·exact .inl h
    ·exact .inr (by rw[List.mem_singleton.1 h];simp)
  ·exact .inr (List.mem_cons_of_mem _ h)
theorem zGD{o:Option Value}{n:Int}(h:numOf o=some n):o=some (.int .i64 n):=by
 unfold numOf at h;split at h
 ·cases h;rfl
 ·cases h
theorem zPh{g:Grd}{p:Int×(Int×Int)}:InN g.cells.length (zBc g p):=by
 unfold zBc;refine⟨?_,fun c hc=>?_⟩
 ·have h1:(sortZ (zj (atM (spotsL g)) p.2 (stepsL.take (manyOf g)))).length=(zj (atM (spotsL g)) p.2 (stepsL.take (manyOf g))).length:=(List.mergeSort_perm _ _).length_eq;have h2:=zDG (atM (spotsL g)) p.2 (stepsL.take (manyOf g));have h3:=zBJ g;rw[List.length_take]at h2;omega
 ·rw[zDM]at hc;unfold zj at hc;obtain⟨d,_,hd⟩:=List.mem_filterMap.1 hc;obtain⟨c',h1,q,hq,h2⟩:=zMx _ _ (zGD hd);injection h1 with _ h1;rw[h1,← h2];exact zGq q hq
theorem zGh{g:Grd}:∀l∈nbsOf g,InN g.cells.length l:=by
 intro l hl;obtain⟨p,_,rfl⟩:=List.mem_map.1 hl;exact zPh
theorem zIC(l:List Int):(sortZ l).length=l.length:=(List.mergeSort_perm l _).length_eq
theorem zOR{g:Grd}(hg:zAB g)(k:Int):∀l∈famOf g k,InN g.cells.length l:=by
 have hlen:=hg.len;have hnl:=zAZ g;have hnm:=zFZ (g:=g);intro l hl;unfold famOf at hl;split at hl
 ·unfold zGM at hl;obtain⟨i,hi,rfl⟩:=List.mem_map.1 hl;have:=List.mem_range.1 hi;exact⟨by simp,fun c hc=>by rw[List.mem_singleton.1 hc];omega⟩
 split at hl
 ·exact zBm hg _ l hl
 split at hl
 ·exact zBm hg _ l hl
 split at hl
 ·unfold zBK at hl;split at hl
  ·exact zBm hg _ l hl
  split at hl
  ·rcases zF9 hl with hl|hl
   ·exact zBm hg _ l hl
   ·exact zBm hg _ l hl
  ·cases hl
 split at hl
 ·exact zGh l hl
 split at hl
 ·unfold zIU at hl;obtain⟨⟨x,i⟩,hx,rfl⟩:=List.mem_map.1 hl;have hx:=List.mk_mem_zipIdx_iff_getElem?.1 hx;have hxm:=List.mem_of_getElem? hx;have hi:=(List.getElem?_eq_some_iff.1 hx).1;have h6:=hnm x hxm;refine⟨by rw[zIC];simp;omega,fun c hc=>?_⟩;rw[zDM]at hc;rcases List.mem_append.1 hc with hc|hc
  ·exact(zGh x hxm).2 c hc
  ·rw[List.mem_singleton.1 hc];dsimp only;omega
 split at hl
 ·unfold fam6 at hl;obtain⟨⟨x,i⟩,hx,hl⟩:=List.mem_flatMap.1 hl;have hx:=List.mk_mem_zipIdx_iff_getElem?.1 hx;have hxm:=List.mem_of_getElem? hx;have hi:=(List.getElem?_eq_some_iff.1 hx).1;unfold zBh at hl;obtain⟨j,hj,rfl⟩:=List.mem_map.1 hl;have hj:=(List.mem_filter.1 hj).1;refine⟨by simp,fun c hc=>?_⟩;simp only[List.mem_cons,List.not_mem_nil,or_false]at hc;rcases hc with rfl|rfl
  ·omega
  ·exact(zGh x hxm).2 _ hj
 ·rw[List.mem_singleton.1 hl];refine⟨by rw[zAr];omega,fun c hc=>?_⟩;unfold upTo' at hc;obtain⟨i,hi,rfl⟩:=List.mem_map.1 hc;have:=List.mem_range.1 hi;omega
theorem zM5{g:Grd}(hg:zAB g){rs:List (List Int)}(hr:zIY g rs):∀l∈regsOf g rs,InN g.cells.length l:=by
 intro l hl;obtain⟨ps,hps,rfl⟩:=List.mem_map.1 hl;have hP:=hr.all ps hps;have h1:=zFa hP.mem hP.nd;have h2:=hg.len;refine⟨by unfold zAO;rw[List.length_map];omega,fun c hc=>?_⟩;obtain⟨p,hp,rfl⟩:=List.mem_map.1 hc;have:=zIp (hP.mem p hp);omega
theorem zF4{d:Dcl}(hg:zAB (zI d))(hr:∀r∈d.regions,zIY (zI d) r.lists):∀l∈listsOf d,∀ps∈l,InN (zI d).cells.length ps:=by
 intro l hl ps hps;unfold listsOf at hl;rcases List.mem_append.1 hl with hl|hl
 ·obtain⟨f,_,rfl⟩:=List.mem_map.1 hl;exact zOR hg _ ps hps
 ·obtain⟨r,hrm,rfl⟩:=List.mem_map.1 hl;exact zM5 hg (hr r hrm) ps hps
theorem zK3{g:Grd}(hw:1≤g.w){x y:Int}(hx:0≤x)(hy:0≤y)(h:zBU g x=zBU g y):x=y:=by
 unfold zBU at h;have h1:=congrArg Prod.fst h;have h2:=congrArg Prod.snd h;dsimp only at h1 h2;rw[Int.tdiv_eq_ediv_of_nonneg hx,Int.tdiv_eq_ediv_of_nonneg hy]at h2;rw[Int.tdiv_eq_ediv_of_nonneg hx,Int.tdiv_eq_ediv_of_nonneg hy,Int.tmod_eq_emod_of_nonneg hx,Int.tmod_eq_emod_of_nonneg hy,h2]at h1;have h3:x%g.w=y%g.w:=by
  split at h1<;>omega
 have e1:=Int.emod_add_mul_ediv x g.w;have e2:=Int.emod_add_mul_ediv y g.w;rw[h2,h3]at e1;omega
theorem zDI{g:Grd}(hg:zAB g){p q:Int×(Int×Int)}(hp:p∈spotsL g)(hq:q∈spotsL g)(h:p.1=q.1∨p.2=q.2):p=q:=by
 obtain⟨k,hk⟩:=List.mem_iff_getElem?.1 hp;obtain⟨j,hj⟩:=List.mem_iff_getElem?.1 hq;have hkl:=(List.getElem?_eq_some_iff.1 hk).1;have hjl:=(List.getElem?_eq_some_iff.1 hj).1;rw[zf]at hkl hjl;rcases h with h|h
 ·have h1:=zA4 hk;have h2:=zA4 hj;have:k=j:=by omega
  subst this;rw[hk]at hj;exact Option.some.inj hj
 ·have hx:g.cells[k]? =some g.cells[k]:=List.getElem?_eq_getElem hkl;have hy:g.cells[j]? =some g.cells[j]:=List.getElem?_eq_getElem hjl;have hkk:=hk;have hjj:=hj;rw[zA5 hx]at hk;rw[zA5 hy]at hj;have hk:=Option.some.inj hk;have hj:=Option.some.inj hj;have hs:zBU g g.cells[k]=zBU g g.cells[j]:=by rw[← hk,← hj]at h;exact h
  have he:=zK3 (by have:=hg.make.wi;omega) (hg.cell _ (List.getElem_mem _)).1 (hg.cell _ (List.getElem_mem _)).1 hs;have hinc:g.cells.Pairwise (·<·):=by rw[hg.cells];exact zGC _ _
  have hkj:k=j:=by
   apply Classical.byContradiction;intro hne;have:=List.pairwise_iff_getElem.1 hinc;rcases Nat.lt_or_gt_of_ne hne with hl|hl
   ·have:=this k j hkl hjl hl;omega
   ·have:=this j k hjl hkl hl;omega
  subst hkj;rw[hkk]at hjj;exact Option.some.inj hjj
theorem zTO(n:Nat):∀xs:List (Int×(Int×Int)),xs.length=n→(∀p∈xs,∀q∈xs,p.2=q.2→p=q)→∀p∈xs,lkp p.2 (atM xs)=some (.int .i64 p.1):=by
 induction n with
 |zero=>intro xs h _ p hp;rw[List.length_eq_zero_iff.1 h]at hp;cases hp
 |succ n ih=>
  intro xs h hi p hp;obtain⟨ys,q,rfl⟩:∃ys q,xs=ys++[q]:=⟨xs.dropLast,xs.getLast (by intro e;rw[e]at h;cases h),(List.dropLast_concat_getLast _).symm⟩
  rw[zDq,zCa];by_cases e:p.2=q.2
  ·have:=hi p hp q (by simp) e;subst this;rw[if_pos rfl]
  ·rw[if_neg e];refine ih ys (by simpa using h) (fun a ha b hb=>hi a (List.mem_append_left _ ha) b (List.mem_append_left _ hb)) p ?_;rcases List.mem_append.1 hp with hp|hp
   ·exact hp
   ·rw[List.mem_singleton.1 hp]at e;exact absurd rfl e
theorem zSY(n:Nat):∀xs:List (Int×(Int×Int)),xs.length=n→∀a v,lkp a (atM xs)=some v→∃p∈xs,p.2=a∧v=.int .i64 p.1:=by
 induction n with
 |zero=>
  intro xs h a v hv;rw[List.length_eq_zero_iff.1 h]at hv;cases hv
 |succ n ih=>
  intro xs h a v hv;obtain⟨ys,q,rfl⟩:∃ys q,xs=ys++[q]:=⟨xs.dropLast,xs.getLast (by intro e;rw[e]at h;cases h),(List.dropLast_concat_getLast _).symm⟩
  rw[zDq,zCa]at hv;by_cases e:a=q.2
  ·rw[if_pos e]at hv;exact⟨q,by simp,e.symm,(Option.some.inj hv).symm⟩
  ·rw[if_neg e]at hv;obtain⟨p,h1,h2⟩:=ih ys (by simpa using h) a v hv;exact⟨p,List.mem_append_left _ h1,h2⟩
theorem zHL{g:Grd}(hg:zAB g){s:Int×Int}{d:Int×Int}{n:Int}:numOf (lkp (s.1+d.1,s.2+d.2) (atM (spotsL g)))=some n↔∃q∈spotsL g,q.2=(s.1+d.1,s.2+d.2)∧q.1=n:=by
 constructor
 ·intro h;obtain⟨q,hq,h1,h2⟩:=zSY _ (spotsL g) rfl _ _ (zGD h);injection h2 with _ h2;exact⟨q,hq,h1,h2.symm⟩
 ·rintro⟨q,hq,h1,h2⟩;rw[← h1,zTO _ (spotsL g) rfl (fun a ha b hb e=>zDI hg ha hb (.inr e)) q hq,← h2];rfl
theorem zP9{g:Grd}(hg:zAB g){p:Int×(Int×Int)}{n:Int}:n∈zBc g p↔∃d∈stepsL.take (manyOf g),∃q∈spotsL g,q.2=(p.2.1+d.1,p.2.2+d.2)∧q.1=n:=by
 unfold zBc;rw[zDM];unfold zj;rw[List.mem_filterMap];constructor
 ·rintro⟨d,hd,h⟩;exact⟨d,hd,(zHL hg).1 h⟩
 ·rintro⟨d,hd,h⟩;exact⟨d,hd,(zHL hg).2 h⟩
theorem zLq(g:Grd):manyOf g=4∨manyOf g=6:=by unfold manyOf;split<;>simp
theorem zNH{m:Nat}(hm:m=4∨m=6):∀d∈stepsL.take m,(-d.1, -d.2)∈stepsL.take m:=by
 rcases hm with rfl|rfl<;>decide
theorem zOo{m:Nat}:∀d∈stepsL.take m,¬(d.1=0∧d.2=0):=by
 intro d hd;have:=List.mem_of_mem_take hd;revert d;have:∀d∈stepsL,¬(d.1=0∧d.2=0):=by decide
 intro d _ hd;exact this d hd
theorem zO0{m:Nat}(hm:m=4∨m=6):(stepsL.take m).Nodup:=by
 rcases hm with rfl|rfl<;>decide
theorem zPa(l:List Int):(sortZ l).Pairwise (fun x y=>x≤y):=by
 have:=List.pairwise_mergeSort (le:=fun x y:Int=>decide (x≤y)) (fun a b c h1 h2=>by simp at h1 h2⊢;omega) (fun a b=>by simp;omega) l;exact this.imp (fun h=>by simpa using h)
theorem zJd{l:List Int}(h:l.Nodup):(sortZ l).Pairwise (·<·):=by
 have h1:=zPa l;have h2:(sortZ l).Nodup:=(List.mergeSort_perm l _).symm.nodup h;have h3:(sortZ l).Pairwise (fun x y=>x≤y∧x≠y):=List.Pairwise.and h1 h2;exact h3.imp (fun h=>by omega)
theorem zJw{g:Grd}(hg:zAB g)(p:Int×(Int×Int)):(zBc g p).Pairwise (·<·):=by
 unfold zBc;refine zJd ?_;unfold zj;refine List.Pairwise.filterMap _ ?_ (zO0 (zLq g));intro d1 d2 hne b hb b' hb' e;subst e;obtain⟨q1,h1,h2,h3⟩:=(zHL hg).1 hb;obtain⟨q2,k1,k2,k3⟩:=(zHL hg).1 hb';have:=zDI hg h1 k1 (.inl (by rw[h3,k3]));subst this;rw[h2]at k2;apply hne;have e1:=congrArg Prod.fst k2;have e2:=congrArg Prod.snd k2;dsimp only at e1 e2;exact Prod.ext (by omega) (by omega)
theorem zDO{g:Grd}(hg:zAB g)(i:Nat)(l:List Int)(hl:(nbsOf g)[i]? =some l)(k:Nat)(n:Int)(hn:l[k]? =some n):
 0≤n∧n<(nbsOf g).length∧n≠i∧(∀m,0<k→l[k - 1]? =some m→m<n)∧∀l',(nbsOf g)[n.toNat]? =some l'→(i:Int)∈l':=by
 have hnm:=zAZ g;unfold nbsOf at hl;rw[List.getElem?_map]at hl;obtain⟨p,hp,rfl⟩:=Option.map_eq_some_iff.1 hl;have hp1:=zA4 hp;have hpm:=List.mem_of_getElem? hp;obtain⟨d,hd,q,hq,hq2,hq1⟩:=(zP9 hg).1 (List.mem_of_getElem? hn);have hqi:=zGq q hq;refine⟨by omega,by omega,fun e=>?_,fun m hk hm=>?_,fun l' hl'=>?_⟩
 ·have:q=p:=zDI hg hq hpm (.inl (by omega));subst this;have e1:=congrArg Prod.fst hq2;have e2:=congrArg Prod.snd hq2;dsimp only at e1 e2;exact zOo d hd ⟨by omega,by omega⟩
 ·have hlt:=zJw hg p;obtain⟨a1,a2⟩:=List.getElem?_eq_some_iff.1 hm;obtain⟨b1,b2⟩:=List.getElem?_eq_some_iff.1 hn;have:=List.pairwise_iff_getElem.1 hlt (k - 1) k a1 b1 (by omega);rw[a2,b2]at this;exact this
 ·unfold nbsOf at hl';rw[List.getElem?_map]at hl';obtain⟨q',hq',rfl⟩:=Option.map_eq_some_iff.1 hl';have h1:=zA4 hq';have:q'=q:=zDI hg (List.mem_of_getElem? hq') hq (.inl (by omega));subst this;rw[zP9 hg];refine⟨(-d.1, -d.2),zNH (zLq g) d hd,p,hpm,?_,hp1⟩;rw[hq2];dsimp only;exact Prod.ext (by dsimp only;omega) (by dsimp only;omega)
end Kd
namespace Kd
open Go Go.Ideal Canon Gph
def numR(r:Rul)(vals:List Int):Int:=if r.by_=⟨⟨[]⟩⟩then r.n else vals.getD 0 0
def zCv(r:Rul)(vals:List Int)(most:Int):Int×Int:=if r.op=2 then(0,numR r vals)else if r.op=3 then(numR r vals,max (numR r vals) most)else(numR r vals,numR r vals)
def famR(r:Rul):Int:=if r.kind=6∨r.kind=7∨r.kind=8 then 6 else if r.kind=9∨r.kind=10 then 7 else if r.kind=11 then 0 else r.family
def leastR(r:Rul):Nat:=if r.kind=1∨r.kind=4 then 2 else 0
def z7(k:Int):Int:=if k=1 then 1 else if k=4 then 4 else if k=6 then 1 else if k=7 then 6 else if k=8 then 7 else if k=9 then 8 else 9
def zl(r:Rul)(cells vals:List Int):Con:=
 if r.kind=2 then⟨2,cells,r.set,0,(zCv r vals cells.length).1,(zCv r vals cells.length).2,[],0,0⟩
 else if r.kind=3 then⟨3,cells,0,0,(zCv r vals 65536).1,(zCv r vals 65536).2,[],0,0⟩
 else if r.kind=5 then⟨5,cells,r.set,0,0,0,vals,0,0⟩
 else if r.kind=11 then⟨2,cells,((1<<<(vals.getD 0 0).toNat:Nat):Int),0,1,1,[],0,0⟩
 else⟨z7 r.kind,cells,r.set,r.other,r.n,0,[],0,0⟩
end Kd
namespace Kd
open Go Go.Ideal Canon Gph
def zHF(p:List zm)(c:Int)(at_:Int):Option (List Int):=(p.find? fun g=>decide (g.clue=c∧g.at_=at_)).map (·.values)
def zFu(p:List zm)(r:Rul)(x:List Int×Nat):Option (Nat×List Int×List Int):=if r.clue<0 then some (x.2,x.1,[])else(zHF p r.clue (x.2:Int)).map fun v=>(x.2,x.1,v)
def linesR(p:List zm)(r:Rul)(ls:List (List Int)):List (Nat×List Int×List Int):=ls.zipIdx.filterMap (zFu p r)
theorem zIe{p:List zm}{r:Rul}{ls:List (List Int)}{j:Nat}{l:List Int}(h:ls[j]? =some l):linesR p r (ls.take (j+1))=linesR p r (ls.take j)++(zFu p r (l,j)).toList:=by
 have hk:=(List.getElem?_eq_some_iff.1 h).1;unfold linesR;rw[zP h,List.zipIdx_append,List.filterMap_append,List.length_take,Nat.min_eq_left (by omega)];congr 1;rw[List.zipIdx_cons,List.zipIdx_nil,Nat.zero_add,List.filterMap_cons,List.filterMap_nil];cases zFu p r (l,j)<;>rfl
abbrev LA:=Nat×(List Int×Value)×(List Int×Value)
def zIH(x:LA):Nat×List Int×List Int:=(x.1,x.2.1.1,x.2.2.1)
def laV(x:LA):List Value:=[.int .i64 (x.1:Int),.agg ⟨[x.2.1.2,x.2.2.2]⟩]
def laF(x:LA):List zJ:=[fSl intE x.2.1.2 x.2.1.1,fSl intE x.2.2.2 x.2.2.1]
def zQJ(l:List (Nat×List Int×List Int)):List LA:=l.map fun y=>(y.1,(y.2.1,.nilFunc),(y.2.2,.nilFunc))
theorem zJq(l:List (Nat×List Int×List Int)):(zQJ l).map zIH=l:=by
 unfold zQJ;rw[List.map_map];have:zIH∘(fun y:Nat×List Int×List Int=>((y.1,(y.2.1,Value.nilFunc),(y.2.2,Value.nilFunc)):LA))=id:=rfl;rw[this,List.map_id]
end Kd
namespace Kd
open Go Go.Ideal Canon Gph
theorem zOH(kf:Int×Int→Int×Bool)(n:Nat):∀ps:List (Int×(Int×Int)),ps.length=n→∀a,((lkp a (linM kf ps)).getD []).Sublist (ps.map (·.1)):=by
 induction n with
 |zero=>
  intro ps h a;rw[List.length_eq_zero_iff.1 h];exact List.Sublist.refl _
 |succ n ih=>
  intro ps h a;obtain⟨qs,p,rfl⟩:∃qs p,ps=qs++[p]:=⟨ps.dropLast,ps.getLast (by intro e;rw[e]at h;cases h),(List.dropLast_concat_getLast _).symm⟩
  have hq:qs.length=n:=by simpa using h
  have ih:=ih qs hq;rw[List.map_append,zB7];unfold zB4;cases hb:(kf p.2).2 with
  |false=>exact(ih a).trans (List.sublist_append_left _ _)
  |true=>
   show((lkp a (upd (kf p.2).1 ((lkp (kf p.2).1 (linM kf qs)).getD []++[p.1]) (linM kf qs))).getD []).Sublist _;rw[zCa];by_cases e:a=(kf p.2).1
   ·rw[if_pos e,Option.getD_some];exact(ih _).append (List.Sublist.refl _)
   ·rw[if_neg e];exact(ih a).trans (List.sublist_append_left _ _)
theorem zMF{g:Grd}:(spotsL g).map (·.1)=upTo' g.cells.length:=by
 apply List.ext_getElem?;intro i;unfold upTo';rw[List.getElem?_map,List.getElem?_map];by_cases h:i<g.cells.length
 ·rw[zA5 (List.getElem?_eq_getElem h),List.getElem?_range h];rfl
 ·rw[List.getElem?_eq_none (by rw[zf];omega),List.getElem?_eq_none (by rw[List.length_range];omega)];rfl
theorem zIx(n:Nat):(upTo' n).Nodup:=by
 unfold upTo';refine List.Pairwise.map _ (fun a b h=>?_) List.nodup_range;intro e;apply h;omega
theorem zN5{n i:Nat}{x:Int}(h:(upTo' n)[i]? =some x):x=i:=by
 unfold upTo' at h;rw[List.getElem?_map]at h;obtain⟨j,hj,rfl⟩:=Option.map_eq_some_iff.1 h;have:=List.getElem?_eq_some_iff.1 hj;obtain⟨h1,h2⟩:=this;rw[List.getElem_range]at h2;omega
theorem zBg{g:Grd}(kf:Int×Int→Int×Bool):∀l∈linesOf g kf,l.Nodup:=by
 intro l hl;unfold linesOf at hl;obtain⟨n,_,rfl⟩:=List.mem_map.1 hl;have:=zOH kf _ (spotsL g) rfl n;rw[zMF]at this;exact this.nodup (zIx _)
theorem zJ3{g:Grd}(hg:zAB g)(p:Int×(Int×Int)):(zBc g p).Nodup:=(zJw hg p).imp (fun h=>by omega)
theorem zOn{l:List Int}(h:l.Nodup):(sortZ l).Nodup:=(zJd h).imp (fun h=>by omega)
theorem zEl{nbs:List (List Int)}{l:List Int}(h:l∈fam6 nbs):∃(i:Nat) (x:List Int) (j:Int),nbs[i]? =some x∧j∈x∧(i:Int)<j∧l=[(i:Int),j]:=by
 unfold fam6 at h;obtain⟨⟨x,i⟩,hx,hl⟩:=List.mem_flatMap.1 h;unfold zBh at hl;obtain⟨j,hj,rfl⟩:=List.mem_map.1 hl;obtain⟨h1,h2⟩:=List.mem_filter.1 hj;exact⟨i,x,j,List.mk_mem_zipIdx_iff_getElem?.1 hx,h1,of_decide_eq_true h2,rfl⟩
theorem zJo{nbs:List (List Int)}{i:Nat}{x:List Int}{j:Int}(h:nbs[i]? =some x)(hj:j∈x)(hij:(i:Int)<j):[(i:Int),j]∈fam6 nbs:=by
 unfold fam6;refine List.mem_flatMap.2 ⟨(x,i),List.mk_mem_zipIdx_iff_getElem?.2 h,?_⟩;unfold zBh;exact List.mem_map.2 ⟨j,List.mem_filter.2 ⟨hj,decide_eq_true hij⟩,rfl⟩
theorem zPl{g:Grd}(hg:zAB g)(k:Int):∀l∈famOf g k,l.Nodup:=by
 intro l hl;unfold famOf at hl;split at hl
 ·unfold zGM at hl;obtain⟨i,hi,rfl⟩:=List.mem_map.1 hl;simp
 split at hl
 ·exact zBg _ l hl
 split at hl
 ·exact zBg _ l hl
 split at hl
 ·unfold zBK at hl;split at hl
  ·exact zBg _ l hl
  split at hl
  ·rcases zF9 hl with hl|hl
   ·exact zBg _ l hl
   ·exact zBg _ l hl
  ·cases hl
 split at hl
 ·unfold nbsOf at hl;obtain⟨p,_,rfl⟩:=List.mem_map.1 hl;exact zJ3 hg p
 split at hl
 ·unfold zIU at hl;obtain⟨⟨x,i⟩,hx,rfl⟩:=List.mem_map.1 hl;have hx:=List.mk_mem_zipIdx_iff_getElem?.1 hx;have hxm:=List.mem_of_getElem? hx;refine zOn ?_;rw[List.nodup_append];refine⟨?_,by simp,fun a ha b hb e=>?_⟩
  ·unfold nbsOf at hxm;obtain⟨p,_,rfl⟩:=List.mem_map.1 hxm;exact zJ3 hg p
  ·rw[List.mem_singleton.1 hb]at e;obtain⟨j,hj⟩:=List.getElem?_of_mem ha;exact(zDO hg i x hx j a hj).2.2.1 e
 split at hl
 ·obtain⟨i,x,j,h1,h2,h3,rfl⟩:=zEl hl;simp only[List.nodup_cons,List.mem_singleton,List.not_mem_nil,not_false_iff,List.nodup_nil,and_true];omega
 ·rw[List.mem_singleton.1 hl];exact zIx _
theorem zK9{d:Dcl}(hg:zAB (zI d))(hr:∀r∈d.regions,zIY (zI d) r.lists):∀l∈listsOf d,∀ps∈l,ps.Nodup:=by
 intro l hl ps hps;unfold listsOf at hl;rcases List.mem_append.1 hl with hl|hl
 ·obtain⟨f,_,rfl⟩:=List.mem_map.1 hl;exact zPl hg _ ps hps
 ·obtain⟨r,hrm,rfl⟩:=List.mem_map.1 hl;obtain⟨q,hq,rfl⟩:=List.mem_map.1 hps;exact((hr r hrm).all q hq).nd
theorem zLf{nbs:List (List Int)}{grid:List Int}{c:Int→Int→Bool}(hG:∀(i:Nat) l,nbs[i]? =some l→∀n∈l,0≤n∧n<nbs.length∧n≠i∧∀l',nbs[n.toNat]? =some l'→(i:Int)∈l'):
 zGS nbs grid c=true↔∀l∈fam6 nbs,∀a b,l=[a,b]→c (gAt grid a) (gAt grid b)=true∧c (gAt grid b) (gAt grid a)=true:=by
 unfold zGS;rw[List.all_eq_true];constructor
 ·intro h l hl a b e;obtain⟨i,x,j,h1,h2,h3,h4⟩:=zEl hl;rw[h4]at e;injection e with e1 e2;injection e2 with e2 _;subst e1 e2;have k1:=h (x,i) (List.mk_mem_zipIdx_iff_getElem?.2 h1);rw[List.all_eq_true]at k1;refine⟨k1 j h2,?_⟩;obtain⟨g1,g2,g3,g4⟩:=hG i x h1 j h2;have hl':nbs[j.toNat]? =some (nbs[j.toNat]'(by omega)):=List.getElem?_eq_getElem _;have k2:=h (_,j.toNat) (List.mk_mem_zipIdx_iff_getElem?.2 hl');rw[List.all_eq_true]at k2;have:=k2 i (g4 _ hl');rw[Int.toNat_of_nonneg g1]at this;exact this
 ·rintro h ⟨x,i⟩ hx;have hx:=List.mk_mem_zipIdx_iff_getElem?.1 hx;rw[List.all_eq_true];intro j hj;obtain⟨g1,g2,g3,g4⟩:=hG i x hx j hj;dsimp only;rcases Int.lt_or_gt_of_ne g3 with hlt|hlt
  ·have hl':nbs[j.toNat]? =some (nbs[j.toNat]'(by omega)):=List.getElem?_eq_getElem _;have:=h _ (zJo hl' (g4 _ hl') (by omega)) _ _ rfl;rw[Int.toNat_of_nonneg g1]at this;exact this.2
  ·exact(h _ (zJo hx hj (by omega)) _ _ rfl).1
end Kd
namespace Kd
open Go Go.Ideal Canon Gph
def rlnOf(k:Knd)(p:List zm)(r:Rul):List (Nat×List Int×List Int):=(linesR p r (k.lists.getD (famR r).toNat [])).filter fun x=>decide (leastR r≤x.2.1.length)
def mkC(r:Rul)(i:Nat)(x:Nat×List Int×List Int):Con:={zl r x.2.1 x.2.2 with rule:=(i:Int),at_:=(x.1:Int)}
def consR(k:Knd)(p:List zm)(r:Rul)(i:Nat):List Con:=(rlnOf k p r).map (mkC r i)
def consOf(k:Knd)(p:List zm):List Con:=k.decl.rules.zipIdx.flatMap fun x=>consR k p x.1 x.2
theorem zGx{k:Knd}{p:List zm}(h:zAM k p):∀(d i:Nat) a b,p[i]? =some a→p[i+1+d]? =some b→plc a b<0
 |0,i,a,b,ha,hb=>h.sorted i a b ha hb
 |d+1,i,a,b,ha,hb=>by
  have hlt:=(List.getElem?_eq_some_iff.1 hb).1;have hc:p[i+1+d]? =some (p[i+1+d]'(by omega)):=List.getElem?_eq_getElem _;exact zEz (zGx h d i a _ ha hc) (h.sorted (i+1+d) _ b hc hb)
theorem zTt{k:Knd}{p:List zm}(h:zAM k p){a b:zm}(ha:a∈p)(hb:b∈p)(h1:a.clue=b.clue)(h2:a.at_=b.at_):a=b:=by
 obtain⟨i,hi⟩:=List.getElem?_of_mem ha;obtain⟨j,hj⟩:=List.getElem?_of_mem hb;rcases Nat.lt_trichotomy i j with hl|hl|hl
 ·have:=zCz.1 (zGx h (j - (i+1)) i a b hi (by rw[show i+1+(j - (i+1))=j by omega];exact hj));omega
 ·subst hl;rw[hi]at hj;exact Option.some.inj hj
 ·have:=zCz.1 (zGx h (i - (j+1)) j b a hj (by rw[show j+1+(i - (j+1))=i by omega];exact hi));omega
theorem zFj{k:Knd}{p:List zm}(h:zAM k p){c a:Int}{v:List Int}:zHF p c a=some v↔∃g∈p,g.clue=c∧g.at_=a∧g.values=v:=by
 unfold zHF;constructor
 ·intro hf;obtain⟨g,hg,rfl⟩:=Option.map_eq_some_iff.1 hf;have h1':=List.find?_some hg;have h1:g.clue=c∧g.at_=a:=of_decide_eq_true h1';exact⟨g,List.mem_of_find?_eq_some hg,h1.1,h1.2,rfl⟩
 ·rintro⟨g,hg,h1,h2,rfl⟩;cases hf:p.find? (fun g=>decide (g.clue=c∧g.at_=a))with
  |none=>exact absurd (decide_eq_true ⟨h1,h2⟩) (List.find?_eq_none.1 hf g hg)
  |some g2=>
   have h3':=List.find?_some hf;have h3:g2.clue=c∧g2.at_=a:=of_decide_eq_true h3';rw[zTt h hg (List.mem_of_find?_eq_some hf) (by omega) (by omega)];rfl
theorem ze{p:List zm}{r:Rul}{ls:List (List Int)}{y:Nat×List Int×List Int}:y∈linesR p r ls↔ls[y.1]? =some y.2.1∧((r.clue<0∧y.2.2=[])∨(0≤r.clue∧zHF p r.clue (y.1:Int)=some y.2.2)):=by
 obtain⟨j,l,v⟩:=y;unfold linesR;rw[List.mem_filterMap];constructor
 ·rintro⟨⟨x,i⟩,hx,h⟩;have hx:=List.mk_mem_zipIdx_iff_getElem?.1 hx;unfold zFu at h;split at h
  ·rename_i hc;cases h;exact⟨hx,.inl ⟨hc,rfl⟩⟩
  ·rename_i hc;obtain⟨w,hw,e⟩:=Option.map_eq_some_iff.1 h;cases e;exact⟨hx,.inr ⟨by omega,hw⟩⟩
 ·rintro⟨h1,h2⟩;refine⟨(l,j),List.mk_mem_zipIdx_iff_getElem?.2 h1,?_⟩;unfold zFu;rcases h2 with⟨hc,e⟩|⟨hc,e⟩
  ·rw[if_pos hc];dsimp only at e;rw[e]
  ·rw[if_neg (by omega)];dsimp only at e⊢;rw[e];rfl
theorem zBo{k:Knd}{p:List zm}{r:Rul}{ls:List (List Int)}(hQ:zAM k p)(hls:k.lists[(famR r).toNat]? =some ls)(h0:r.clue<0→r.family=famR r)(h1:0≤r.clue→∃c,k.decl.clues[r.clue.toNat]? =some c∧c.family=famR r)
 (P:List Int→List Int→Prop):(∀x∈rlsOf k p r,P x.1 x.2)↔∀y∈linesR p r ls,P y.2.1 (if r.clue<0 then[r.n]else y.2.2):=by
 unfold rlsOf;by_cases hc:r.clue<0
 ·rw[if_pos hc,h0 hc,zAl hls];constructor
  ·intro h y hy;obtain⟨h2,_⟩:=ze.1 hy;rw[if_pos hc];exact h _ (List.mem_map.2 ⟨_,List.mem_of_getElem? h2,rfl⟩)
  ·intro h x hx;obtain⟨l,hl,rfl⟩:=List.mem_map.1 hx;obtain⟨j,hj⟩:=List.getElem?_of_mem hl;have:=h (j,l,[]) (ze.2 ⟨hj,.inl ⟨hc,rfl⟩⟩);rw[if_pos hc]at this;exact this
 ·rw[if_neg hc];obtain⟨c,hc1,hc2⟩:=h1 (by omega);have hcell:∀g∈p,g.clue=r.clue→∃(j:Nat) (ps:List Int),g.at_=(j:Int)∧ls[j]? =some ps∧cellsAt k g=ps:=fun g hg hgc=>by
   obtain⟨c',l,ps,a1,a2,a3,a4,a5,a6,a7⟩:=(hQ.right g hg).cells;rw[hgc,hc1]at a1;cases a1;rw[hc2,hls]at a2;cases a2;exact⟨g.at_.toNat,ps,by omega,a3,a7⟩
  constructor
  ·intro h y hy;obtain⟨h2,h3⟩:=ze.1 hy;rw[if_neg hc];rcases h3 with h3|h3
   ·exact absurd h3.1 hc
   obtain⟨g,g1,g2,g3,g4⟩:=(zFj hQ).1 h3.2;obtain⟨j,ps,b1,b2,b3⟩:=hcell g g1 g2;have hj:j=y.1:=by omega
   subst hj;rw[h2]at b2;cases b2;have:=h _ (List.mem_map.2 ⟨g,List.mem_filter.2 ⟨g1,decide_eq_true g2⟩,rfl⟩);dsimp only at this;rw[b3,g4]at this;exact this
  ·intro h x hx;obtain⟨g,hg,rfl⟩:=List.mem_map.1 hx;obtain⟨g1,g2⟩:=List.mem_filter.1 hg;have g2:g.clue=r.clue:=of_decide_eq_true g2;obtain⟨j,ps,b1,b2,b3⟩:=hcell g g1 g2;have:=h (j,ps,g.values) (ze.2 ⟨b2,.inr ⟨by omega,(zFj hQ).2 ⟨g,g1,g2,b1,rfl⟩⟩⟩);rw[if_neg hc]at this;dsimp only at this⊢;rw[b3];exact this
theorem zAe{k:Knd}{p:List zm}{r:Rul}{ls:List (List Int)}(hls:k.lists[(famR r).toNat]? =some ls){Q:Nat×List Int×List Int→Prop}(h:∀y,y.2.1.length<leastR r→Q y):(∀y∈linesR p r ls,Q y)↔∀y∈rlnOf k p r,Q y:=by
 unfold rlnOf;rw[zAl hls];constructor
 ·intro h1 y hy;exact h1 y (List.mem_filter.1 hy).1
 ·intro h1 y hy;by_cases hl:leastR r≤y.2.1.length
  ·exact h1 y (List.mem_filter.2 ⟨hy,decide_eq_true hl⟩)
  ·exact h y (by omega)
end Kd
namespace Kd
open Go Go.Ideal
theorem zP2:∀{l m:List Int},l.Nodup→(∀x∈l,x∈m)→l.length≤m.length
 |[],m,_,_=>Nat.zero_le _
 |a::l,m,hd,hs=>by
  have ha:=hs a (List.mem_cons_self ..);have h1:=List.length_erase_of_mem ha;have hp:0<m.length:=List.length_pos_of_mem ha;have:=zP2 (l:=l) (m:=m.erase a) (List.nodup_cons.1 hd).2 (fun x hx=>by
   have hne:x≠a:=fun e=>(List.nodup_cons.1 hd).1 (e▸hx);exact(List.mem_erase_of_ne hne).2 (hs x (List.mem_cons_of_mem _ hx)))
  rw[List.length_cons];omega
theorem zMX{g:Grd}(hg:zAB g):0<g.cells.length:=by
 apply Classical.byContradiction;intro h0;have he:g.cells=[]:=List.length_eq_zero_iff.1 (by omega);rw[hg.cells]at he;unfold zAJ zo at he;have hw:=zBk hg.make.wi hg.make.he;have hlen:=hg.make.len;have:=zP2 (l:=upTo' (g.w*g.h).toNat) (m:=g.holes) (zIx _) (fun x hx=>by
  have hx:x∈(List.range (g.w*g.h).toNat).map fun i:Nat=>(i:Int):=hx;have:=List.filter_eq_nil_iff.1 he x hx;simpa using this)
 rw[zAr]at this;omega
end Kd
namespace Kd
open Go Go.Ideal Canon Gph
theorem zNc{g:Grd}(hg:zAB g)(k:Int):(famOf g k).length≤2048:=by
 have hl:=hg.len;have hn:=zAZ g;have hL:=fun kf=>zB0 hg kf;unfold famOf;split
 ·unfold zGM;rw[List.length_map,List.length_range];omega
 split
 ·have:=(hL (fun s=>(s.2,true))).1;omega
 split
 ·have:=(hL (fun s=>(s.1,true))).1;omega
 split
 ·unfold zBK;split
  ·have:=(hL (fun s=>(s.1+s.2,true))).1;omega
  split
  ·have h1:=hL (fun s=>(0,decide (s.1=s.2)));have h2:=hL (fun s=>(0,decide (s.1+s.2=g.w - 1)));have:=(zDp h1.2 h2.2 (linesOf g (fun s=>(0,decide (s.1+s.2=g.w - 1)))).length).1;rw[List.take_length]at this;omega
  ·simp
 split
 ·omega
 split
 ·unfold zIU;rw[List.length_map,List.length_zipIdx];omega
 split
 ·have:=zGo (nbs:=nbsOf g) zFZ (nbsOf g).length (Nat.le_refl _);rw[List.take_length]at this;omega
 ·simp
theorem zI7{d:Dcl}(hg:zAB (zI d))(hr:∀r∈d.regions,zIY (zI d) r.lists):∀l∈listsOf d,l.length≤2048:=by
 intro l hl;unfold listsOf at hl;rcases List.mem_append.1 hl with hl|hl
 ·obtain⟨f,_,rfl⟩:=List.mem_map.1 hl;exact zNc hg _
 ·obtain⟨r,hrm,rfl⟩:=List.mem_map.1 hl;have:=(hr r hrm).len;unfold regsOf;rw[List.length_map];omega
def zBe(k:Knd)(p:List zm)(j:Nat):List Con:=(k.decl.rules.take j).zipIdx.flatMap fun x=>consR k p x.1 x.2
theorem zLt{k:Knd}{p:List zm}:zBe k p k.decl.rules.length=consOf k p:=by unfold zBe consOf;rw[List.take_length]
theorem zD9{k:Knd}{p:List zm}{j:Nat}{r:Rul}(h:k.decl.rules[j]? =some r):zBe k p (j+1)=zBe k p j++consR k p r j:=by
 have hk:=(List.getElem?_eq_some_iff.1 h).1;unfold zBe;rw[zP h,List.zipIdx_append,List.flatMap_append,List.length_take,Nat.min_eq_left (by omega)];simp
theorem zD5{p:List zm}{r:Rul}{ls:List (List Int)}:(linesR p r ls).length≤ls.length:=by
 unfold linesR;exact Nat.le_trans (List.length_filterMap_le _ _) (by rw[List.length_zipIdx];exact Nat.le_refl _)
theorem zNq{k:Knd}{p:List zm}{r:Rul}{j:Nat}(hl:∀l∈k.lists,l.length≤2048):(consR k p r j).length≤2048:=by
 unfold consR rlnOf;rw[List.length_map];refine Nat.le_trans (List.length_filter_le _ _) (Nat.le_trans zD5 ?_);rw[List.getD];cases h:k.lists[(famR r).toNat]? with
 |none=>simp
 |some l=>exact hl l (List.mem_of_getElem? h)
theorem zHz{k:Knd}{p:List zm}(hl:∀l∈k.lists,l.length≤2048):∀j,j≤k.decl.rules.length→(zBe k p j).length≤2048*j
 |0,_=>Nat.zero_le _
 |j+1,hj=>by
  have:=zHz (p:=p) hl j (by omega);rw[zD9 (List.getElem?_eq_getElem (by omega)),List.length_append];have:=zNq (p:=p) (r:=k.decl.rules[j]) (j:=j) hl;omega
end Kd
