/-
  A rule of a valid kind holds exactly if its constraints are met; the constraints are valid.
-/
import Derived.Test.YtpkieeggilkagaaGreatLibP
import Derived.Test.YtpkieeggilkagaaGreatLibC
import Derived.Test.YtpkieeggilkagaaGreatPlainC
import Derived.Test.YtpkieeggilkagaaGreatLibQ
set_option linter.unusedSimpArgs false
set_option linter.unusedVariables false
set_option maxRecDepth 10000
set_option maxHeartbeats 1000000
namespace Go.Proofs.YtpkieeggilkagaaGreat
open Go.Ideal Kd Canon Gph
structure RF(k:Knd)(r:Rul):Prop where
 kd:1≤r.kind∧r.kind≤11
 x:zSA (shpOf r.kind) k.decl.clues r
 by0:r.by_=zAp↔r.clue<0
 s1:∃n:Nat,r.set=(n:Int)∧n<2^k.decl.symbols.length
 s2:∃n:Nat,r.other=(n:Int)∧n<2^k.decl.symbols.length
 f0:0≤r.family∧r.family<k.lists.length
 cl:0≤r.clue→(r.kind=2∨r.kind=3∨r.kind=5∨r.kind=11)∧∃c,k.decl.clues[r.clue.toNat]? =some c∧c.family=famR r∧CluP c∧(r.kind=2∨r.kind=3→c.type=2)∧(r.kind=5→c.type=3)∧(r.kind=11→c.type=1)
 ncl:r.kind=5∨r.kind=11→0≤r.clue
 op:r.kind=2∨r.kind=3→1≤r.op∧r.op≤3
theorem zJ6{syms:List ByteArray}:∀(l:List ByteArray),(∀s∈l,s∈syms)→setN syms l<2^syms.length:=by
 have h:∀(l:List ByteArray) (m:Nat),m<2^syms.length→(∀s∈l,s∈syms)→l.foldl (fun m s=>m|||1<<<posn s syms) m<2^syms.length:=by
  intro l;induction l with
  |nil=>intro m hm _;exact hm
  |cons s l ih=>
   intro m hm hl;rw[List.foldl_cons];refine ih _ (Nat.or_lt_two_pow hm ?_) (fun t ht=>hl t (List.mem_cons_of_mem _ ht));have:=zCR (hl s (List.mem_cons_self ..));rw[Nat.one_shiftLeft];exact Nat.pow_lt_pow_right (by omega) (by omega)
 intro l hl;exact h l 0 (Nat.two_pow_pos _) hl
theorem zO.rf{k:Knd}(hK:zO k){r:Rul}(hr:r∈k.decl.rules):RF k r:=by
 have hty:=hK.typ;have hin:=hK.inr hr;obtain⟨q,hq,hre⟩:=hK.rul hr;have hro:=hK.b.rs.rul q hq;have hrx:=hty.form.ruls r hr;have hkd:1≤r.kind∧r.kind≤11:=by
  refine zJc ?_;have:=hty.read;unfold zBP at this;rw[List.filterMap_eq_nil_iff]at this;obtain⟨j,hj⟩:=List.getElem?_of_mem hr;have:=this (r,j) (List.mk_mem_zipIdx_iff_getElem?.2 hj);cases h:(shpOf r.kind).read with
  |true=>rfl
  |false=>simp[h]at this
 have hsl:(zBv k.decl).length=k.decl.symbols.length:=by unfold zBv;rw[List.length_map]
 have hb1:r.by_=q.by_:=by rw[hre];rfl
 have hb2:r.clue=if q.by_=zAp then(-1:Int)else(posn q.by_ (zEd k.decl):Int):=by rw[hre];rfl
 have hby:r.by_=zAp↔r.clue<0:=by
  rw[hb1,hb2];by_cases e:q.by_=zAp
  ·rw[if_pos e];exact⟨fun _=>by omega,fun _=>e⟩
  ·rw[if_neg e];exact⟨fun h=>absurd h e,fun h=>by omega⟩
 refine⟨hkd,hrx,hby,⟨setN (zBv k.decl) q.names,by rw[hre];rfl,by rw[← hsl];exact zJ6 _ hro.names⟩,⟨setN (zBv k.decl) q.others,by rw[hre];rfl,by rw[← hsl];exact zJ6 _ hro.others⟩,hin.fam,?_,?_,?_⟩
 ·intro hc;have hne:r.by_≠zAp:=fun e=>by have:=hby.1 e;omega
  rcases hrx.clu _ rfl with⟨_,a,_⟩|⟨a0,a1,a2,c,a3,a4,a5⟩
  ·exact absurd a hne
  have hcp:=(hty.form.clus _ c a3).2;have hk:r.kind=1∨r.kind=2∨r.kind=3∨r.kind=4∨r.kind=5∨r.kind=6∨r.kind=7∨r.kind=8∨r.kind=9∨r.kind=10∨r.kind=11:=by omega
  have hf:∀f:Int,famR r=f→c.family=f→c.family=famR r:=fun f h1 h2=>by omega
  rcases hk with e|e|e|e|e|e|e|e|e|e|e<;>rw[e]at a0 a4 a5<;>simp[shpOf,hne]at a0 a4 a5
  ·exact⟨by omega,c,a3,by unfold famR;rw[if_neg (by omega),if_neg (by omega),if_neg (by omega)];exact a5,hcp,by omega,by omega,by omega⟩
  ·exact⟨by omega,c,a3,by unfold famR;rw[if_neg (by omega),if_neg (by omega),if_neg (by omega)];exact a5,hcp,by omega,by omega,by omega⟩
  ·exact⟨by omega,c,a3,by unfold famR;rw[if_neg (by omega),if_neg (by omega),if_neg (by omega)];exact a5,hcp,by omega,by omega,by omega⟩
  ·refine⟨by omega,c,a3,?_,hcp,by omega,by omega,by omega⟩;unfold famR;rw[if_neg (by omega),if_neg (by omega),if_pos e];unfold CluP at hcp;omega
 ·intro h;rcases hrx.clu _ rfl with⟨a0,_,_⟩|⟨_,a1,_⟩
  ·rcases h with e|e<;>rw[e]at a0<;>simp[shpOf]at a0
  ·exact a1
 ·intro h;refine hrx.op.1 ?_;rcases h with e|e<;>rw[e]<;>rfl
def probOf(k:Knd)(p:List zm):zIT:=⟨k.grid.cells.length,k.decl.symbols.length,zh k,k.nbs,consOf k p⟩
theorem RF.list{k:Knd}{r:Rul}(hK:zO k)(h:RF k r):∃ls,k.lists[(famR r).toNat]? =some ls∧(∀l∈ls,InN k.grid.cells.length l∧l.Nodup)∧
 (r.kind=6∨r.kind=7∨r.kind=8→ls=fam6 k.nbs)∧(r.kind=9∨r.kind=10→ls=[upTo' k.grid.cells.length])∧(r.kind=11→ls=zGM k.grid.cells.length):=by
 have hl:=hK.llen;have hf:=h.f0;have h8:(famR r).toNat<k.lists.length:=by
  unfold famR;repeat' split
  all_goals omega
 have hg:=hK.gok;have hrg:∀r∈k.decl.regions,zIY (zI k.decl) r.lists:=fun r hr=>(hK.typ.rgn r hr).1.2;have hgc:k.grid.cells.length=(zI k.decl).cells.length:=by rw[hK.grid]
 have e:k.lists[(famR r).toNat]? =some (k.lists[(famR r).toNat]'h8):=List.getElem?_eq_getElem _;generalize k.lists[(famR r).toNat]'h8=ls at e;have hm:=List.mem_of_getElem? e;refine⟨ls,e,fun l hl=>⟨?_,?_⟩,fun hk=>?_,fun hk=>?_,fun hk=>?_⟩
 ·rw[hK.lists]at hm;rw[hgc];exact zF4 hg hrg _ hm l hl
 ·rw[hK.lists]at hm;exact zK9 hg hrg _ hm l hl
 ·have e6:famR r=6:=by unfold famR;rw[if_pos hk]
  have:k.lists[(famR r).toNat]? =some (fam6 k.nbs):=by rw[hK.lists,hK.nbs,e6];rfl
  rw[e]at this;exact Option.some.inj this
 ·have e7:famR r=7:=by unfold famR;rw[if_neg (by omega),if_pos hk]
  have:k.lists[(famR r).toNat]? =some [upTo' k.grid.cells.length]:=by rw[hgc,hK.lists,e7];rfl
  rw[e]at this;exact Option.some.inj this
 ·have e0:famR r=0:=by unfold famR;rw[if_neg (by omega),if_neg (by omega),if_pos hk]
  have:k.lists[(famR r).toNat]? =some (zGM k.grid.cells.length):=by rw[hgc,hK.lists,e0];rfl
  rw[e]at this;exact Option.some.inj this
theorem RF.vals{k:Knd}{p:List zm}{r:Rul}{ls:List (List Int)}(h:RF k r)(hQ:zAM k p){y:Nat×List Int×List Int}(hy:y∈linesR p r ls):
 (r.clue<0∧y.2.2=[])∨(0≤r.clue∧∃c,k.decl.clues[r.clue.toNat]? =some c∧CluP c∧((c.type=1∧r.kind=11∧y.2.2.length=1∧∀x∈y.2.2,0≤x∧x≤(k.decl.symbols.length:Int) - 1)∨(c.type=2∧(r.kind=2∨r.kind=3)∧y.2.2.length=1∧∀x∈y.2.2,0≤x∧x≤65536)∨
   (c.type=3∧r.kind=5∧y.2.2.length≤8∧∀x∈y.2.2,1≤x∧x≤256))):=by
 obtain⟨h1,h2⟩:=ze.1 hy;rcases h2 with h2|⟨h2,h3⟩
 ·exact .inl h2
 right;refine⟨h2,?_⟩;obtain⟨hk,c,c1,c2,c3,c4,c5,c6⟩:=h.cl h2;refine⟨c,c1,c3,?_⟩;obtain⟨g,g1,g2,g3,g4⟩:=(zFj hQ).1 h3;obtain⟨c',l,a1,a2,a3,a4,a5,a6⟩:=hQ.right g g1;rw[g2,c1]at a2;cases a2;rw[g4]at a6;have hcp:=c3;unfold CluP at hcp;have hn:∀x:Int,c.lo≤x∧x≤c.hi→c.type=2→0≤x∧x≤65536:=fun x hx ht=>by omega
 rcases a6 with⟨b1,b2,b3⟩|⟨b1,b2,b3⟩|⟨b1,b2,b3,b4⟩
 ·exact .inl ⟨b1,by omega,b2,b3⟩
 ·exact .inr (.inl ⟨b1,by omega,b2,fun x hx=>hn x (b3 x hx) b1⟩)
 ·exact .inr (.inr ⟨by omega,by omega,b3,b4⟩)
end Go.Proofs.YtpkieeggilkagaaGreat
namespace Go.Proofs.YtpkieeggilkagaaGreat
open Go.Ideal Kd Canon Gph
theorem zNw{grid cells:List Int}(h:cells.length<2):dif grid cells=true:=by
 unfold dif;match cells,h with
 |[],_=>simp
 |[a],_=>simp
theorem zMO{values grid cells:List Int}(h:cells.length<2):ris values grid cells=true:=by
 unfold ris;match cells,h with
 |[],_=>simp
 |[a],_=>simp
theorem zTE{values grid:List Int}(hv:∀v∈values,0≤v∧v≤99)(c:Int):0≤va values grid c∧va values grid c≤99:=by
 unfold va;rw[List.getD];cases h:values[sy grid c]? with
 |none=>simp
 |some v=>exact hv v (List.mem_of_getElem? h)
theorem zLY{values grid:List Int}(hv:∀v∈values,0≤v∧v≤99):∀cells:List Int,0≤smm values grid cells∧smm values grid cells≤99*(cells.length:Int)
 |[]=>by simp[smm]
 |c::cs=>by
  have h1:=zTE (grid:=grid) hv c;have h2:=zLY (grid:=grid) hv cs;have e:smm values grid (c::cs)=va values grid c+smm values grid cs:=by simp[smm]
  rw[e,List.length_cons];omega
theorem zQu(grid:List Int)(set:Nat)(cells:List Int):cnt grid set cells≤cells.length:=List.length_filter_le _ _
section
variable {k:Knd} {p:List zm} {grid:List Int} {r:Rul} {q:zIT} {i:Nat} {y:Nat×List Int×List Int}
theorem zQq(hk:r.kind=1∨r.kind=6):metB q (mkC r i y) grid=dif grid y.2.1:=by
 rcases hk with e|e<;>simp[mkC,zl,z7,metB,e]
theorem zUV(e:r.kind=2):metB q (mkC r i y) grid=decide ((zCv r y.2.2 y.2.1.length).1≤(cnt grid r.set.toNat y.2.1:Int)∧(cnt grid r.set.toNat y.2.1:Int)≤(zCv r y.2.2 y.2.1.length).2):=by
 simp[mkC,zl,z7,metB,e]
theorem zT4(e:r.kind=3):metB q (mkC r i y) grid=decide ((zCv r y.2.2 65536).1≤smm q.values grid y.2.1∧smm q.values grid y.2.1≤(zCv r y.2.2 65536).2):=by
 simp[mkC,zl,z7,metB,e]
theorem zSN(e:r.kind=4):metB q (mkC r i y) grid=ris q.values grid y.2.1:=by
 simp[mkC,zl,z7,metB,e]
theorem zUS(e:r.kind=5):metB q (mkC r i y) grid=decide (rn grid r.set.toNat 0 y.2.1=y.2.2):=by
 simp[mkC,zl,z7,metB,e]
theorem zUY(e:r.kind=7){a b:Int}(h:y.2.1=[a,b]):metB q (mkC r i y) grid=decide (r.n≤max (va q.values grid a - va q.values grid b) (va q.values grid b - va q.values grid a)):=by
 simp[mkC,zl,z7,metB,e,h]
theorem zUC(e:r.kind=8){a b:Int}(h:y.2.1=[a,b]):metB q (mkC r i y) grid=!((r.set.toNat.testBit (sy grid a)&&r.other.toNat.testBit (sy grid b))||(r.set.toNat.testBit (sy grid b)&&r.other.toNat.testBit (sy grid a))):=by
 simp[mkC,zl,z7,metB,e,h]
theorem zSr(e:r.kind=9):metB q (mkC r i y) grid=zD4 q.nbs (mkd grid r.set.toNat y.2.1) false:=by
 simp[mkC,zl,z7,metB,e]
theorem zP6(e:r.kind=10):metB q (mkC r i y) grid=zD4 q.nbs (mkd grid r.set.toNat y.2.1) true:=by
 simp[mkC,zl,z7,metB,e]
theorem zS1(e:r.kind=11):metB q (mkC r i y) grid=decide ((1:Int)≤(cnt grid (1<<<(y.2.2.getD 0 0).toNat) y.2.1:Int)∧(cnt grid (1<<<(y.2.2.getD 0 0).toNat) y.2.1:Int)≤1):=by
 have h:mkC r i y=⟨2,y.2.1,((1<<<(y.2.2.getD 0 0).toNat:Nat):Int),0,1,1,[],(i:Int),(y.1:Int)⟩:=by unfold mkC zl;rw[if_neg (by omega),if_neg (by omega),if_neg (by omega),if_pos e]
 rw[h];unfold metB;dsimp only;rw[if_neg (by decide),if_pos rfl,Int.toNat_natCast]
theorem zQX(h:RF k r):numR r y.2.2=(if r.clue<0 then[r.n]else y.2.2).getD 0 0:=by
 unfold numR;by_cases hc:r.clue<0
 ·rw[if_pos (h.by0.2 hc),if_pos hc];rfl
 ·rw[if_neg (fun e=>hc (h.by0.1 e)),if_neg hc]
theorem zRn{a b:Int}(h:sy grid a=sy grid b↔gAt grid a=gAt grid b):dif grid [a,b]=true↔gAt grid a≠gAt grid b:=by
 unfold dif;rw[decide_eq_true_iff];simp only[List.map_cons,List.map_nil,List.nodup_cons,List.mem_singleton,List.not_mem_nil,not_false_iff,List.nodup_nil,and_true];exact not_congr h
theorem zUF{grid:List Int}(hg:∀x∈grid,0≤x∧x<16)(a b:Int):sy grid a=sy grid b↔gAt grid a=gAt grid b:=by
 have h:∀c:Int,0≤gAt grid c:=fun c=>by
  unfold gAt;rw[List.getD];cases h:grid[c.toNat]? with
  |none=>simp
  |some v=>exact(hg v (List.mem_of_getElem? h)).1
 have ha:=h a;have hb:=h b;show(gAt grid a).toNat=(gAt grid b).toNat↔_;omega
theorem zIt{v c:Int}(hv:0≤v)(hc:0≤gAt grid c):((1:Int)≤(cnt grid (1<<<v.toNat) [c]:Int)∧(cnt grid (1<<<v.toNat) [c]:Int)≤1)↔gAt grid c=v:=by
 have hs:sy grid c=(gAt grid c).toNat:=rfl;have hb:(1<<<v.toNat:Nat).testBit (sy grid c)=decide (v.toNat=sy grid c):=by rw[Nat.one_shiftLeft,Nat.testBit_two_pow]
 unfold cnt;rw[List.filter_cons,List.filter_nil,hb];by_cases e:v.toNat=sy grid c
 ·rw[decide_eq_true e];simp only[↓reduceIte,List.length_cons,List.length_nil];omega
 ·rw[decide_eq_false e];simp;omega
theorem zMn(hK:zO k)(hQ:zAM k p)(hr:r∈k.decl.rules)(hA:zEL k p grid r r.set.toNat r.other.toNat)(hgl:grid.length=k.grid.cells.length)(hq1:q.values=zh k)(hq2:q.nbs=k.nbs):
 za k p grid r r.set.toNat r.other.toNat=true↔∀c∈consR k p r i,metB q c grid=true:=by
 have hf:=hK.rf hr;obtain⟨ls,hls,hin,h6,h9,h11⟩:=hf.list hK;have h1:0≤r.clue→∃c,k.decl.clues[r.clue.toNat]? =some c∧c.family=famR r:=fun h=>by
  obtain⟨_,c,c1,c2,_⟩:=hf.cl h;exact⟨c,c1,c2⟩
 have hne:∀n:Int,r.kind=n→¬(n=2∨n=3∨n=5∨n=11)→r.clue<0:=fun n e hn=>by
  apply Classical.byContradiction;intro hc;have:=(hf.cl (by omega)).1;omega
 have hfam:r.kind≤5→famR r=r.family:=fun h=>by unfold famR;rw[if_neg (by omega),if_neg (by omega),if_neg (by omega)]
 have hvals:=hA.vals.val;have hgs:=hA.gri.sym;have hg0:∀c,0≤gAt grid c:=fun c=>by
  unfold gAt;rw[List.getD];cases h:grid[c.toNat]? with
  |none=>simp
  |some v=>exact(hgs v (List.mem_of_getElem? h)).1
 have hmp:(∀c∈consR k p r i,metB q c grid=true)↔∀y∈rlnOf k p r,metB q (mkC r i y) grid=true:=by
  unfold consR;rw[List.forall_mem_map]
 rw[hmp];have hcn:k.grid.cells.length≤256:=by rw[hK.grid];exact hK.gok.len
 have hlen:∀y∈linesR p r ls,y.2.1.length≤256:=fun y hy=>by
  obtain⟨a,b⟩:=hin _ (List.mem_of_getElem? (ze.1 hy).1);have:=zHv k.grid.cells.length y.2.1 b (fun x hx=>a.2 x hx);omega
 have hl0:¬(r.kind=1∨r.kind=4)→leastR r=0:=fun h=>by unfold leastR;rw[if_neg h]
 have hkd:=hf.kd;have hk:r.kind=1∨r.kind=2∨r.kind=3∨r.kind=4∨r.kind=5∨r.kind=6∨r.kind=7∨r.kind=8∨r.kind=9∨r.kind=10∨r.kind=11:=by omega
 have hall:∀(ps:List Int) (a b:Int) (Q:Int→Int→Prop),True:=fun _ _ _ _=>trivial;have pairs:r.kind=6∨r.kind=7∨r.kind=8→∀{Q:Nat×List Int×List Int→Prop} {R:List Int→Prop},(∀y,Q y↔R y.2.1)→((∀y∈rlnOf k p r,Q y)↔∀l∈fam6 k.nbs,R l):=by
  intro hk Q R hQR;rw[← zAe hls (fun y hy=>by rw[hl0 (by omega)]at hy;omega),h6 hk];have hc:r.clue<0:=hne _ rfl (by omega);constructor
  ·intro h l hl;obtain⟨j,hj⟩:=List.getElem?_of_mem hl;exact(hQR _).1 (h (j,l,[]) (ze.2 ⟨hj,.inl ⟨hc,rfl⟩⟩))
  ·intro h y hy;exact(hQR _).2 (h _ (List.mem_of_getElem? (ze.1 hy).1))
 have bes:∀c:Int→Int→Bool,zGS k.nbs grid c=true↔∀l∈fam6 k.nbs,∀a b,l=[a,b]→c (gAt grid a) (gAt grid b)=true∧c (gAt grid b) (gAt grid a)=true:=fun c=>by
  refine zLf fun i l hl n hn=>?_;obtain⟨j,hj⟩:=List.getElem?_of_mem hn;rw[hK.nbs]at hl⊢;obtain⟨a1,a2,a3,_,a5⟩:=zDO hK.gok i l hl j n hj;exact⟨a1,a2,a3,a5⟩
 have two:∀l∈fam6 k.nbs,∃a b,l=[a,b]:=fun l hl=>by
  obtain⟨i,x,j,_,_,_,rfl⟩:=zEl hl;exact⟨_,_,rfl⟩
 rcases hk with e|e|e|e|e|e|e|e|e|e|e
 ·have hB:za k p grid r r.set.toNat r.other.toNat=(rlsOf k p r).all (cA grid):=by unfold za;rw[if_pos e]
  rw[hB,List.all_eq_true,← zAe hls (fun y hy=>by rw[zQq (.inl e)];unfold leastR at hy;rw[if_pos (.inl e)]at hy;exact zNw hy)];refine(zBo hQ hls (fun _=>(hfam (by omega)).symm) h1 (fun c v=>cA grid (c,v)=true)).trans ?_;refine forall_congr' fun y=>imp_congr_right fun hy=>?_;rw[zQq (.inl e)];rfl
 ·have hB:za k p grid r r.set.toNat r.other.toNat=(rlsOf k p r).all (cB grid r.set.toNat r.op):=by unfold za;rw[if_neg (by omega),if_pos e]
  rw[hB,List.all_eq_true,← zAe hls (fun y hy=>by rw[hl0 (by omega)]at hy;omega)];refine(zBo hQ hls (fun _=>(hfam (by omega)).symm) h1 (fun c v=>cB grid r.set.toNat r.op (c,v)=true)).trans ?_;refine forall_congr' fun y=>imp_congr_right fun hy=>?_;rw[zUV e,decide_eq_true_iff];have hn:=zQX (y:=y) hf;have hle:=zQu grid r.set.toNat y.2.1;have hop:=hf.op (.inl e);unfold cB;rw[← hn];unfold zCv obB;generalize numR r y.2.2=n;dsimp only;have ho:r.op=1∨r.op=2∨r.op=3:=by omega
  rcases ho with o|o|o
  ·simp[o]<;>omega
  ·simp[o]<;>omega
  ·simp[o]<;>omega
 ·have hB:za k p grid r r.set.toNat r.other.toNat=(rlsOf k p r).all (cC (zh k) grid r.op):=by unfold za;rw[if_neg (by omega),if_neg (by omega),if_pos e]
  rw[hB,List.all_eq_true,← zAe hls (fun y hy=>by rw[hl0 (by omega)]at hy;omega)];refine(zBo hQ hls (fun _=>(hfam (by omega)).symm) h1 (fun c v=>cC (zh k) grid r.op (c,v)=true)).trans ?_;refine forall_congr' fun y=>imp_congr_right fun hy=>?_;rw[zT4 e,decide_eq_true_iff,hq1];have hn:=zQX (y:=y) hf;have hle:=zLY (grid:=grid) hvals y.2.1;have hl2:=hlen y hy;have hop:=hf.op (.inr e);unfold cC;rw[← hn];unfold zCv obB;generalize numR r y.2.2=n;dsimp only;have ho:r.op=1∨r.op=2∨r.op=3:=by omega
  rcases ho with o|o|o
  ·simp[o]<;>omega
  ·simp[o]<;>omega
  ·simp[o]<;>omega
 ·have hB:za k p grid r r.set.toNat r.other.toNat=(rlsOf k p r).all (cD (zh k) grid):=by unfold za;rw[if_neg (by omega),if_neg (by omega),if_neg (by omega),if_pos e]
  rw[hB,List.all_eq_true,← zAe hls (fun y hy=>by rw[zSN e];unfold leastR at hy;rw[if_pos (.inr e)]at hy;exact zMO hy)];refine(zBo hQ hls (fun _=>(hfam (by omega)).symm) h1 (fun c v=>cD (zh k) grid (c,v)=true)).trans ?_;refine forall_congr' fun y=>imp_congr_right fun hy=>?_;rw[zSN e,hq1];rfl
 ·have hB:za k p grid r r.set.toNat r.other.toNat=(rlsOf k p r).all (cE grid r.set.toNat):=by unfold za;rw[if_neg (by omega),if_neg (by omega),if_neg (by omega),if_neg (by omega),if_pos e]
  rw[hB,List.all_eq_true,← zAe hls (fun y hy=>by rw[hl0 (by omega)]at hy;omega)];refine(zBo hQ hls (fun _=>(hfam (by omega)).symm) h1 (fun c v=>cE grid r.set.toNat (c,v)=true)).trans ?_;refine forall_congr' fun y=>imp_congr_right fun hy=>?_;have hc:=hf.ncl (.inl e);rw[zUS e,if_neg (by omega)];rfl
 ·have hB:za k p grid r r.set.toNat r.other.toNat=zGS k.nbs grid nF:=by unfold za;rw[if_neg (by omega),if_neg (by omega),if_neg (by omega),if_neg (by omega),if_neg (by omega),if_pos e]
  rw[hB,bes,pairs (.inl e) (R:=fun l=>dif grid l=true) (fun y=>by rw[zQq (.inr e)])];refine forall_congr' fun l=>imp_congr_right fun hl=>?_;obtain⟨a,b,rfl⟩:=two l hl;rw[zRn (zUF hgs a b)];unfold nF;constructor
  ·intro h;exact of_decide_eq_true (h a b rfl).1
  ·intro h a' b' e';injection e' with e1 e2;injection e2 with e2 _;subst e1 e2;exact⟨decide_eq_true h,decide_eq_true (Ne.symm h)⟩
 ·have hB:za k p grid r r.set.toNat r.other.toNat=zGS k.nbs grid (nG (zh k) r.n):=by unfold za;rw[if_neg (by omega),if_neg (by omega),if_neg (by omega),if_neg (by omega),if_neg (by omega),if_neg (by omega),if_pos e]
  rw[hB,bes];refine Iff.trans ?_ (pairs (.inr (.inl e)) (R:=fun l=>metB q (mkC r i (0,l,[])) grid=true) (fun y=>by simp[mkC,zl,z7,metB,e])).symm;refine forall_congr' fun l=>imp_congr_right fun hl=>?_;obtain⟨a,b,rfl⟩:=two l hl;rw[zUY e (a:=a) (b:=b) rfl,decide_eq_true_iff,hq1];unfold nG;constructor
  ·intro h;exact of_decide_eq_true (h a b rfl).1
  ·intro h a' b' e';injection e' with e1 e2;injection e2 with e2 _;subst e1 e2;refine⟨decide_eq_true h,decide_eq_true ?_⟩;have h:r.n≤max (gAt (zh k) (gAt grid a) - gAt (zh k) (gAt grid b)) (gAt (zh k) (gAt grid b) - gAt (zh k) (gAt grid a)):=h;omega
 ·have hB:za k p grid r r.set.toNat r.other.toNat=zGS k.nbs grid (nH r.set.toNat r.other.toNat):=by unfold za;rw[if_neg (by omega),if_neg (by omega),if_neg (by omega),if_neg (by omega),if_neg (by omega),if_neg (by omega),if_neg (by omega),if_pos e]
  rw[hB,bes];refine Iff.trans ?_ (pairs (.inr (.inr e)) (R:=fun l=>metB q (mkC r i (0,l,[])) grid=true) (fun y=>by simp[mkC,zl,z7,metB,e])).symm;refine forall_congr' fun l=>imp_congr_right fun hl=>?_;obtain⟨a,b,rfl⟩:=two l hl;rw[zUC e (a:=a) (b:=b) rfl];have hs:∀c,sy grid c=(gAt grid c).toNat:=fun c=>rfl;rw[hs,hs];unfold nH;constructor
  ·intro h;obtain⟨x1,x2⟩:=h a b rfl;revert x1 x2;cases r.set.toNat.testBit (gAt grid a).toNat<;>cases r.set.toNat.testBit (gAt grid b).toNat<;>cases r.other.toNat.testBit (gAt grid a).toNat<;>cases r.other.toNat.testBit (gAt grid b).toNat<;>simp
  ·intro h a' b' e';injection e' with e1 e2;injection e2 with e2 _;subst e1 e2;revert h;cases r.set.toNat.testBit (gAt grid a).toNat<;>cases r.set.toNat.testBit (gAt grid b).toNat<;>cases r.other.toNat.testBit (gAt grid a).toNat<;>cases r.other.toNat.testBit (gAt grid b).toNat<;>simp
 ·have hB:za k p grid r r.set.toNat r.other.toNat=zD4 k.nbs (mkd grid r.set.toNat (upTo' grid.length)) false:=by unfold za;rw[if_neg (by omega),if_neg (by omega),if_neg (by omega),if_neg (by omega),if_neg (by omega),if_neg (by omega),if_neg (by omega),if_neg (by omega),if_pos e]
  rw[hB,← zAe hls (fun y hy=>by rw[hl0 (by omega)]at hy;omega),h9 (.inl e),hgl];have hc:r.clue<0:=hne _ e (by omega);constructor
  ·intro h y hy;have:=(ze.1 hy).1;have:=List.mem_singleton.1 (List.mem_of_getElem? this);rw[zSr e,hq2,this];exact h
  ·intro h;have:=h (0,upTo' k.grid.cells.length,[]) (ze.2 ⟨rfl,.inl ⟨hc,rfl⟩⟩);rw[zSr e,hq2]at this;exact this
 ·have hB:za k p grid r r.set.toNat r.other.toNat=zD4 k.nbs (mkd grid r.set.toNat (upTo' grid.length)) true:=by unfold za;rw[if_neg (by omega),if_neg (by omega),if_neg (by omega),if_neg (by omega),if_neg (by omega),if_neg (by omega),if_neg (by omega),if_neg (by omega),if_neg (by omega),if_pos e]
  rw[hB,← zAe hls (fun y hy=>by rw[hl0 (by omega)]at hy;omega),h9 (.inr e),hgl];have hc:r.clue<0:=hne _ e (by omega);constructor
  ·intro h y hy;have:=(ze.1 hy).1;have:=List.mem_singleton.1 (List.mem_of_getElem? this);rw[zP6 e,hq2,this];exact h
  ·intro h;have:=h (0,upTo' k.grid.cells.length,[]) (ze.2 ⟨rfl,.inl ⟨hc,rfl⟩⟩);rw[zP6 e,hq2]at this;exact this
 ·have hB:za k p grid r r.set.toNat r.other.toNat=(rlsOf k p r).all (cK grid):=by unfold za;rw[if_neg (by omega),if_neg (by omega),if_neg (by omega),if_neg (by omega),if_neg (by omega),if_neg (by omega),if_neg (by omega),if_neg (by omega),if_neg (by omega),if_neg (by omega)]
  have hc:=hf.ncl (.inr e);rw[hB,List.all_eq_true,← zAe hls (fun y hy=>by rw[hl0 (by omega)]at hy;omega)];refine(zBo hQ hls (fun h=>by omega) h1 (fun c v=>cK grid (c,v)=true)).trans ?_;refine forall_congr' fun y=>imp_congr_right fun hy=>?_;rw[zS1 e,decide_eq_true_iff,if_neg (by omega)];have hv:0≤y.2.2.getD 0 0:=by
   rcases hf.vals hQ hy with h|⟨_,c,_,_,h|h|h⟩
   ·omega
   ·rw[List.getD];cases h2:y.2.2[0]? with
    |none=>simp
    |some v=>exact(h.2.2.2 v (List.mem_of_getElem? h2)).1
   ·omega
   ·omega
  have hl:=List.mem_of_getElem? (ze.1 hy).1;rw[h11 e]at hl;unfold zGM at hl;obtain⟨j,_,hj⟩:=List.mem_map.1 hl;rw[← hj,zIt hv (hg0 _)];unfold cK;rw[decide_eq_true_iff];rfl
end
end Go.Proofs.YtpkieeggilkagaaGreat
namespace Go.Proofs.YtpkieeggilkagaaGreat
open Go.Ideal Kd Canon Gph
theorem zBD{n s:Nat}{kd:Int}{l:List Int}{set other lo hi:Int}{runs:List Int}{ru at_:Int}(hl:InN n l)(hd:l.Nodup)(hk:(1≤kd∧kd≤5)∨((kd=6∨kd=7)∧l.length=2)∨((kd=8∨kd=9)∧l=upTo' n))
 (hs:0≤set∧set<(2^s:Nat)) (ho:0≤other∧other<(2^s:Nat)) (h1:0≤lo∧lo≤65536) (h2:0≤hi∧hi≤65536) (h3:runs.length≤8) (h4:∀x∈runs,1≤x∧x≤256):zDY (n:Int) (s:Int) ⟨kd,l,set,other,lo,hi,runs,ru,at_⟩:=by
 refine⟨fun i x hx=>?_,hd,?_,fun h=>?_,fun h=>?_,?_,?_,h1,h2,h3,h4⟩
 ·have:=hl.2 x (List.mem_of_getElem? hx);refine⟨this.1,this.2,fun h8=>?_⟩;have h8:8≤kd:=h8;rcases hk with hk|hk|hk
  ·omega
  ·omega
  ·have hx:l[i]? =some x:=hx;rw[hk.2]at hx;exact zN5 hx
 ·show 1≤kd∧kd≤9;omega
 ·have h:kd=6∨kd=7:=h;show l.length=2;rcases hk with hk|hk|hk
  ·omega
  ·exact hk.2
  ·omega
 ·have h:8≤kd:=h;show(l.length:Int)=n;rcases hk with hk|hk|hk
  ·omega
  ·omega
  ·rw[hk.2,zAr]
 ·rw[Int.toNat_natCast];exact hs
 ·rw[Int.toNat_natCast];exact ho
theorem zMJ{k:Knd}{p:List zm}{r:Rul}{i:Nat}{y:Nat×List Int×List Int}(hK:zO k)(hQ:zAM k p)(hr:r∈k.decl.rules)(hy:y∈rlnOf k p r):zDY (k.grid.cells.length:Int) (k.decl.symbols.length:Int) (mkC r i y):=by
 have hf:=hK.rf hr;obtain⟨ls,hls,hin,h6,h9,h11⟩:=hf.list hK;unfold rlnOf at hy;rw[zAl hls]at hy;have hy:=(List.mem_filter.1 hy).1;have hym:=List.mem_of_getElem? (ze.1 hy).1;obtain⟨hi1,hi2⟩:=hin _ hym;have hv:=hf.vals hQ hy;have hb:=hf.by0;obtain⟨s1,hs1,hs2⟩:=hf.s1;obtain⟨s2,ho1,ho2⟩:=hf.s2;have hs:0≤r.set∧r.set<(2^k.decl.symbols.length:Nat):=by omega
 have ho:0≤r.other∧r.other<(2^k.decl.symbols.length:Nat):=by omega
 have h0:0≤(0:Int)∧(0:Int)<(2^k.decl.symbols.length:Nat):=by have:=Nat.two_pow_pos k.decl.symbols.length;omega
 have hn:=hf.x.n;have hz:0≤(0:Int)∧(0:Int)≤65536:=by omega
 have hkd:=hf.kd;have hr0:([]:List Int).length≤8:=by simp
 have hr1:∀x∈([]:List Int),1≤x∧x≤256:=by simp
 have hnum:r.kind=2∨r.kind=3→0≤numR r y.2.2∧numR r y.2.2≤65536:=fun hk=>by
  unfold numR;by_cases e:r.by_=zAp
  ·rw[if_pos e];exact hn
  ·rw[if_neg e];rcases hv with h|⟨_,c,_,_,h|h|h⟩
   ·exact absurd (hb.2 h.1) e
   ·omega
   ·rw[List.getD];cases h2:y.2.2[0]? with
    |none=>simp
    |some v=>exact h.2.2.2 v (List.mem_of_getElem? h2)
   ·omega
 have hbnd:r.kind=2∨r.kind=3→∀m:Int,0≤m∧m≤65536→(0≤(zCv r y.2.2 m).1∧(zCv r y.2.2 m).1≤65536)∧(0≤(zCv r y.2.2 m).2∧(zCv r y.2.2 m).2≤65536):=fun hk m hm=>by
  have:=hnum hk;unfold zCv;split
  ·dsimp only;omega
  ·split
   ·dsimp only;omega
   ·dsimp only;omega
 have hk:r.kind=1∨r.kind=2∨r.kind=3∨r.kind=4∨r.kind=5∨r.kind=6∨r.kind=7∨r.kind=8∨r.kind=9∨r.kind=10∨r.kind=11:=by omega
 have two:r.kind=6∨r.kind=7∨r.kind=8→y.2.1.length=2:=fun h=>by
  rw[h6 h]at hym;obtain⟨_,_,_,_,_,_,e⟩:=zEl hym;rw[e];rfl
 have all:r.kind=9∨r.kind=10→y.2.1=upTo' k.grid.cells.length:=fun h=>by
  rw[h9 h]at hym;exact List.mem_singleton.1 hym
 have hlen:0≤(y.2.1.length:Int)∧(y.2.1.length:Int)≤65536:=by have:=hi1.1;omega
 have lit:∀{kd set other lo hi:Int} {runs:List Int},zl r y.2.1 y.2.2=⟨kd,y.2.1,set,other,lo,hi,runs,0,0⟩→mkC r i y=⟨kd,y.2.1,set,other,lo,hi,runs,(i:Int),(y.1:Int)⟩:=fun h=>by
  unfold mkC;rw[h]
 rcases hk with e|e|e|e|e|e|e|e|e|e|e
 ·rw[lit (kd:=1) (set:=r.set) (other:=r.other) (lo:=r.n) (hi:=0) (runs:=[]) (by simp[zl,z7,e])];exact zBD hi1 hi2 (by omega) hs ho hn hz hr0 hr1
 ·rw[lit (kd:=2) (set:=r.set) (other:=0) (lo:=(zCv r y.2.2 y.2.1.length).1) (hi:=(zCv r y.2.2 y.2.1.length).2) (runs:=[]) (by simp[zl,z7,e])];exact zBD hi1 hi2 (by omega) hs h0 (hbnd (.inl e) _ hlen).1 (hbnd (.inl e) _ hlen).2 hr0 hr1
 ·rw[lit (kd:=3) (set:=0) (other:=0) (lo:=(zCv r y.2.2 65536).1) (hi:=(zCv r y.2.2 65536).2) (runs:=[]) (by simp[zl,z7,e])];exact zBD hi1 hi2 (by omega) h0 h0 (hbnd (.inr e) _ (by omega)).1 (hbnd (.inr e) _ (by omega)).2 hr0 hr1
 ·rw[lit (kd:=4) (set:=r.set) (other:=r.other) (lo:=r.n) (hi:=0) (runs:=[]) (by simp[zl,z7,e])];exact zBD hi1 hi2 (by omega) hs ho hn hz hr0 hr1
 ·rw[lit (kd:=5) (set:=r.set) (other:=0) (lo:=0) (hi:=0) (runs:=y.2.2) (by simp[zl,z7,e])];have hvv:y.2.2.length≤8∧∀x∈y.2.2,1≤x∧x≤256:=by
   rcases hv with h|⟨_,c,_,_,h|h|h⟩
   ·rw[h.2];simp
   ·omega
   ·omega
   ·exact h.2.2
  exact zBD hi1 hi2 (by omega) hs h0 hz hz hvv.1 hvv.2
 ·rw[lit (kd:=1) (set:=r.set) (other:=r.other) (lo:=r.n) (hi:=0) (runs:=[]) (by simp[zl,z7,e])];exact zBD hi1 hi2 (by omega) hs ho hn hz hr0 hr1
 ·rw[lit (kd:=6) (set:=r.set) (other:=r.other) (lo:=r.n) (hi:=0) (runs:=[]) (by simp[zl,z7,e])];exact zBD hi1 hi2 (.inr (.inl ⟨by omega,two (by omega)⟩)) hs ho hn hz hr0 hr1
 ·rw[lit (kd:=7) (set:=r.set) (other:=r.other) (lo:=r.n) (hi:=0) (runs:=[]) (by simp[zl,z7,e])];exact zBD hi1 hi2 (.inr (.inl ⟨by omega,two (by omega)⟩)) hs ho hn hz hr0 hr1
 ·rw[lit (kd:=8) (set:=r.set) (other:=r.other) (lo:=r.n) (hi:=0) (runs:=[]) (by simp[zl,z7,e])];exact zBD hi1 hi2 (.inr (.inr ⟨by omega,all (by omega)⟩)) hs ho hn hz hr0 hr1
 ·rw[lit (kd:=9) (set:=r.set) (other:=r.other) (lo:=r.n) (hi:=0) (runs:=[]) (by simp[zl,z7,e])];exact zBD hi1 hi2 (.inr (.inr ⟨by omega,all (by omega)⟩)) hs ho hn hz hr0 hr1
 ·rw[lit (kd:=2) (set:=((1<<<(y.2.2.getD 0 0).toNat:Nat):Int)) (other:=0) (lo:=1) (hi:=1) (runs:=[]) (by simp[zl,z7,e])];have hvv:(y.2.2.getD 0 0).toNat<k.decl.symbols.length:=by
   have hc:=hf.ncl (.inr e);rcases hv with h|⟨_,c,_,_,h|h|h⟩
   ·omega
   ·rw[List.getD];have h2:y.2.2[0]? =some (y.2.2[0]'(by omega)):=List.getElem?_eq_getElem _;rw[h2];have:=h.2.2.2 _ (List.mem_of_getElem? h2);show(y.2.2[0]'_).toNat<_;omega
   ·omega
   ·omega
  refine zBD hi1 hi2 (by omega) ⟨Int.natCast_nonneg _,?_⟩ h0 (by omega) (by omega) hr0 hr1;rw[Nat.one_shiftLeft];exact Int.ofNat_lt.2 (Nat.pow_lt_pow_right (a:=2) (by omega) hvv)
theorem zCc{k:Knd}{p:List zm}{c:Con}:c∈consOf k p↔∃(i:Nat) (r:Rul),k.decl.rules[i]? =some r∧c∈consR k p r i:=by
 unfold consOf;rw[List.mem_flatMap];constructor
 ·rintro⟨⟨r,i⟩,h1,h2⟩;exact⟨i,r,List.mk_mem_zipIdx_iff_getElem?.1 h1,h2⟩
 ·rintro⟨i,r,h1,h2⟩;exact⟨(r,i),List.mk_mem_zipIdx_iff_getElem?.2 h1,h2⟩
theorem zDm{k:Knd}{p:List zm}{r:Rul}{i:Nat}{c:Con}(h:c∈consR k p r i):c.rule=(i:Int):=by
 unfold consR at h;obtain⟨y,_,rfl⟩:=List.mem_map.1 h;rfl
theorem zLp{k:Knd}{p:List zm}(hK:zO k)(hQ:zAM k p)(hm:(consOf k p).length≤4096):zAK (probOf k p):=by
 have hg:=hK.gok;have hgc:k.grid.cells.length=(zI k.decl).cells.length:=by rw[hK.grid]
 have h1:=hg.len;have h2:=hK.typ.lim.s0;have h3:=hK.typ.lim.s1;have h4:(zh k).length=k.decl.symbols.length:=by unfold zh;rw[List.length_map]
 refine⟨⟨?_,by show(k.grid.cells.length:Int)≤256;omega⟩,⟨by show 1≤(k.decl.symbols.length:Int);omega,by show(k.decl.symbols.length:Int)≤16;omega⟩,by show((zh k).length:Int)=k.decl.symbols.length;omega,fun v hv=>?_,?_,?_,hm,fun c hc=>?_⟩
 ·have:=hK.typ.mke;show 1≤(k.grid.cells.length:Int);have:=zMX hg;omega
 ·obtain⟨s,hs,rfl⟩:=List.mem_map.1 hv;exact hK.typ.form.syms s hs
 ·show(k.nbs.length:Int)=k.grid.cells.length;rw[hK.nbs,zAZ,hgc]
 ·show GOK k.nbs;rw[hK.nbs];refine⟨by rw[zAZ];exact hg.len,fun i l hl j n hn=>?_⟩;exact zDO hg i l hl j n hn
 ·obtain⟨i,r,h1,h2⟩:=zCc.1 hc;unfold consR at h2;obtain⟨y,hy,rfl⟩:=List.mem_map.1 h2;exact zMJ hK hQ (List.mem_of_getElem? h1) hy
end Go.Proofs.YtpkieeggilkagaaGreat
set_option maxHeartbeats 4000000
namespace Go.Proofs.YtpkieeggilkagaaGreat
open Go.Ideal Kd Canon Gph
theorem zDk{P:Program}{Y Z:Type}{fn:Fn}{args cap:List Value}{kl:List OA}{F:List zJ}{val:Y→Value}{val2:Z→Value}{kl':Y→List OA}{kl2:Z→List OA}{fs:Y→List zJ}{fs2:Z→List zJ}{pr:Y→Prop}{pr2:Z→Prop}(h:FnC P fn args cap kl F val kl' fs pr)(g:Y→Z)
 (hv:∀y,pr y→val y=val2 (g y)) (hk:∀y,kl' y=kl2 (g y)) (hf:∀y (w:Wd),pr y→(∀f∈F,f.p w)→(∀f∈fs y,f.p w)→∀f∈fs2 (g y),f.p w) (hp:∀y,pr y→pr2 (g y)):FnC P fn args cap kl F val2 kl2 fs2 pr2:=fun B w s=>by
 refine .conseq _ (h B w s) ?_;rintro r pm h' ⟨e,w',y,e1,st,er,hp'⟩;exact⟨e,w',g y,e1,⟨st.agree,st.le,st.zold,hk y▸st.own,hf y w' hp' (fun f hf=>f.mono st.le (s.facts f hf)) st.facts⟩,er.trans (congrArg Ret.ok (hv y hp')),hp y hp'⟩
abbrev zR7(fn:Fn)(cap:List Value)(F:List zJ)(r:Rul)(cells vals:List Int):Prop:=∀vc vv v1 v2:Value,
 FnC Tryz.prog fn [.agg ⟨zCG r v1 v2⟩,.agg ⟨[vc,vv]⟩] cap [] (fSl intE vc cells::fSl intE vv vals::F) (fun vr:Value=>zR4 (zl r cells vals).kind (zl r cells vals).set (zl r cells vals).other (zl r cells vals).lo (zl r cells vals).hi vr) (fun _=>[]) (fun vr=>[fSl intE vr (zl r cells vals).runs]) (fun _=>True)
def zSM(r:Rul)(vals:List Int):Prop:=(r.kind=2∨r.kind=3→r.by_≠zAp→0<vals.length)∧(r.kind=11→0<vals.length∧∀x∈vals,0≤x∧x<16)
theorem zTj(w:Wd):(fSl intE (.slice none 0 0) ([]:List Int)).p w:=.inl ⟨rfl,none,0,rfl,trivial⟩
theorem zCB{b:Nat}{F:List zJ}{r:Rul}{kd:Int}{cells vals:List Int}(hk:z7 r.kind=kd)(hn:r.kind≠2∧r.kind≠3∧r.kind≠5∧r.kind≠11)(hF:fRaw b 0 [.int .i64 kd]∈F):zR7 (.func 161) [ptr' b] F r cells vals:=by
 intro vc vv v1 v2;have e:zl r cells vals=⟨kd,cells,r.set,r.other,r.n,0,[],0,0⟩:=by simp[zl,hn,hk]
 rw[e];exact zDk ((zKo (b:=b) (k:=kd) (r:=r) (vc:=vc) (vv:=vv) (v1:=v1) (v2:=v2)).facts (fun f hf=>by rw[List.mem_singleton.1 hf];exact List.mem_cons_of_mem _ (List.mem_cons_of_mem _ hF))) (fun _=>Value.slice none 0 0) (fun _ _=>rfl) (fun _=>rfl) (fun _ w _ _ _ f hf=>by rw[List.mem_singleton.1 hf];exact zTj w) (fun _ _=>trivial)
theorem zPc{F:List zJ}{r:Rul}{cells vals:List Int}(hk:r.kind=2)(hp:zSM r vals):zR7 (.func 117) [] F r cells vals:=by
 intro vc vv v1 v2;have e:zl r cells vals=⟨2,cells,r.set,0,(zCv r vals cells.length).1,(zCv r vals cells.length).2,[],0,0⟩:=by simp[zl,hk]
 rw[e];exact zDk ((zM6 (r:=r) (cells:=cells) (vals:=vals) (vc:=vc) (vv:=vv) (v1:=v1) (v2:=v2) (hp.1 (.inl hk))).facts (fun f hf=>by simp only[List.mem_cons,List.not_mem_nil,or_false]at hf⊢;rcases hf with rfl|rfl<;>simp)) (fun _=>Value.slice none 0 0) (fun _ _=>rfl) (fun _=>rfl) (fun _ w _ _ _ f hf=>by rw[List.mem_singleton.1 hf];exact zTj w) (fun _ _=>trivial)
theorem zS5{F:List zJ}{r:Rul}{cells vals:List Int}(hk:r.kind=3)(hp:zSM r vals):zR7 (.func 118) [] F r cells vals:=by
 intro vc vv v1 v2;have e:zl r cells vals=⟨3,cells,0,0,(zCv r vals 65536).1,(zCv r vals 65536).2,[],0,0⟩:=by simp[zl,hk]
 rw[e];exact zDk ((zRP (r:=r) (vals:=vals) (vc:=vc) (vv:=vv) (v1:=v1) (v2:=v2) (hp.1 (.inr hk))).facts (fun f hf=>by rw[List.mem_singleton.1 hf];simp)) (fun _=>Value.slice none 0 0) (fun _ _=>rfl) (fun _=>rfl) (fun _ w _ _ _ f hf=>by rw[List.mem_singleton.1 hf];exact zTj w) (fun _ _=>trivial)
theorem zRe{F:List zJ}{r:Rul}{cells vals:List Int}(hk:r.kind=5):zR7 (.func 119) [] F r cells vals:=by
 intro vc vv v1 v2;have e:zl r cells vals=⟨5,cells,r.set,0,0,0,vals,0,0⟩:=by simp[zl,hk]
 rw[e];exact zDk ((zPn (r:=r) (vals:=vals) (vc:=vc) (vv:=vv) (v1:=v1) (v2:=v2)).facts (fun f hf=>by rw[List.mem_singleton.1 hf];simp)) (fun _=>vv) (fun _ _=>rfl) (fun _=>rfl) (fun _ w _ hF _ f hf=>by rw[List.mem_singleton.1 hf];exact hF _ (by simp)) (fun _ _=>trivial)
theorem zOz{F:List zJ}{r:Rul}{cells vals:List Int}(hk:r.kind=11)(hp:zSM r vals):zR7 (.func 120) [] F r cells vals:=by
 intro vc vv v1 v2;have e:zl r cells vals=⟨2,cells,((1<<<(vals.getD 0 0).toNat:Nat):Int),0,1,1,[],0,0⟩:=by simp[zl,hk]
 rw[e];exact zDk ((zLM (r:=r) (vals:=vals) (vc:=vc) (vv:=vv) (v1:=v1) (v2:=v2) (hp.2 hk).1 (hp.2 hk).2).facts (fun f hf=>by rw[List.mem_singleton.1 hf];simp)) (fun _=>Value.slice none 0 0) (fun _ _=>rfl) (fun _=>rfl) (fun _ w _ _ _ f hf=>by rw[List.mem_singleton.1 hf];exact zTj w) (fun _ _=>trivial)
structure zTv(y:MkB)(r:Rul)(fm:Int)(fn:Fn)(cap:List Value):Prop where
 at_:zAT (zAg (zUf y) (r.kind.toNat*3)) 3=some [.int .i64 fm,.int .i64 (leastR r:Int),.func fn #[] ⟨cap⟩]
 fam:(if fm<0 then r.family else fm)=famR r
 ok:∀cells vals,zSM r vals→zR7 fn cap (zUo y) r cells vals
theorem zQs(y:MkB){r:Rul}(h:1≤r.kind∧r.kind≤11):∃fm fn cap,zTv y r fm fn cap:=by
 have hk:r.kind=1∨r.kind=2∨r.kind=3∨r.kind=4∨r.kind=5∨r.kind=6∨r.kind=7∨r.kind=8∨r.kind=9∨r.kind=10∨r.kind=11:=by omega
 rcases hk with e|e|e|e|e|e|e|e|e|e|e
 ·exact⟨-1,.func 161,[ptr' y.b1],by rw[e,leastR,if_pos (.inl e)];rfl,by unfold famR;rw[if_pos (by omega),if_neg (by omega),if_neg (by omega),if_neg (by omega)],fun cells vals hp=>zCB (kd:=1) (by rw[e];rfl) (by omega) (by simp)⟩
 ·exact⟨-1,.func 117,[],by rw[e,leastR,if_neg (by omega)];rfl,by unfold famR;rw[if_pos (by omega),if_neg (by omega),if_neg (by omega),if_neg (by omega)],fun cells vals hp=>zPc e hp⟩
 ·exact⟨-1,.func 118,[],by rw[e,leastR,if_neg (by omega)];rfl,by unfold famR;rw[if_pos (by omega),if_neg (by omega),if_neg (by omega),if_neg (by omega)],fun cells vals hp=>zS5 e hp⟩
 ·exact⟨-1,.func 161,[ptr' y.b4],by rw[e,leastR,if_pos (.inr e)];rfl,by unfold famR;rw[if_pos (by omega),if_neg (by omega),if_neg (by omega),if_neg (by omega)],fun cells vals hp=>zCB (kd:=4) (by rw[e];rfl) (by omega) (by simp)⟩
 ·exact⟨-1,.func 119,[],by rw[e,leastR,if_neg (by omega)];rfl,by unfold famR;rw[if_pos (by omega),if_neg (by omega),if_neg (by omega),if_neg (by omega)],fun cells vals hp=>zRe e⟩
 ·exact⟨6,.func 161,[ptr' y.b6],by rw[e,leastR,if_neg (by omega)];rfl,by unfold famR;rw[if_neg (by omega),if_pos (by omega)],fun cells vals hp=>zCB (kd:=1) (by rw[e];rfl) (by omega) (by simp)⟩
 ·exact⟨6,.func 161,[ptr' y.b7],by rw[e,leastR,if_neg (by omega)];rfl,by unfold famR;rw[if_neg (by omega),if_pos (by omega)],fun cells vals hp=>zCB (kd:=6) (by rw[e];rfl) (by omega) (by simp)⟩
 ·exact⟨6,.func 161,[ptr' y.b8],by rw[e,leastR,if_neg (by omega)];rfl,by unfold famR;rw[if_neg (by omega),if_pos (by omega)],fun cells vals hp=>zCB (kd:=7) (by rw[e];rfl) (by omega) (by simp)⟩
 ·exact⟨7,.func 161,[ptr' y.b9],by rw[e,leastR,if_neg (by omega)];rfl,by unfold famR;rw[if_neg (by omega),if_neg (by omega),if_pos (by omega)],fun cells vals hp=>zCB (kd:=8) (by rw[e];rfl) (by omega) (by simp)⟩
 ·exact⟨7,.func 161,[ptr' y.b10],by rw[e,leastR,if_neg (by omega)];rfl,by unfold famR;rw[if_neg (by omega),if_neg (by omega),if_pos (by omega)],fun cells vals hp=>zCB (kd:=9) (by rw[e];rfl) (by omega) (by simp)⟩
 ·exact⟨0,.func 120,[],by rw[e,leastR,if_neg (by omega)];rfl,by unfold famR;rw[if_neg (by omega),if_neg (by omega),if_neg (by omega),if_pos (by omega)],fun cells vals hp=>zOz e hp⟩
structure zTu where
 ok:Bool
 e:Int
 vv:Value
 vc:Value
abbrev zSO:List Value:=[.int .i64 0,.int .i64 0,.slice none 0 0,.slice none 0 0,.slice none 0 0]
abbrev zUj(k:Knd)(p:List zm)(vn:Value)(y:zTu):Value:=.tuple ⟨[.agg ⟨cond y.ok (zBW (probOf k p) y.vv vn y.vc) zSO⟩,.int .i64 y.e]⟩
abbrev zUZ(k:Knd)(p:List zm)(y:zTu):List zJ:=cond y.ok [fSl intE y.vv (zh k),fSl consE y.vc (consOf k p)] []
structure zVG(k:Knd)(p:List zm)(y:zTu):Prop where
 nk:¬zO k→y.e=180
 np:zO k→¬zAM k p→y.e=190
 nl:zO k→zAM k p→4096<(consOf k p).length→y.e=2
 ok:zO k→zAM k p→(consOf k p).length≤4096→y.e=0
 eq:y.ok=true↔y.e=0
end Go.Proofs.YtpkieeggilkagaaGreat
namespace Go.Proofs.YtpkieeggilkagaaGreat
open Go.Ideal Kd Canon Gph
theorem zUy{k:Knd}{p:List zm}{r:Rul}{ls:List (List Int)}(hf:RF k r)(hQ:zAM k p)(hs:k.decl.symbols.length≤16){y:Nat×List Int×List Int}(hy:y∈linesR p r ls):zSM r y.2.2:=by
 have hb:=hf.by0;rcases hf.vals hQ hy with h|⟨h0,c,_,_,h|h|h⟩
 ·refine⟨fun _ hn=>absurd (hb.2 h.1) hn,fun hk=>?_⟩;have:=hf.ncl (.inr hk);omega
 ·exact⟨fun hk=>by omega,fun _=>⟨by omega,fun x hx=>by have:=h.2.2.2 x hx;omega⟩⟩
 ·exact⟨fun _ _=>by omega,fun hk=>by omega⟩
 ·exact⟨fun hk=>by omega,fun hk=>by omega⟩
def zIW(r:Rul)(i:Nat)(s:List Con)(x:LA):List Con:=if leastR r≤x.2.1.1.length then s++[mkC r i (zIH x)]else s
theorem zB5(r:Rul)(i:Nat):∀(xs:List LA) (s:List Con),zBu (fun s x=>(zIW r i s x,Out.normal)) s xs=(s++((xs.map zIH).filter fun x=>decide (leastR r≤x.2.1.length)).map (mkC r i),Out.normal)
 |[],s=>by simp[zBu]
 |x::xs,s=>by
  rw[zBu];dsimp only;rw[zB5 r i xs];unfold zIW;rw[List.map_cons,List.filter_cons];by_cases h:leastR r≤x.2.1.1.length
  ·rw[if_pos h,if_pos (by exact decide_eq_true h),List.map_cons,List.append_assoc];rfl
  ·rw[if_neg h,if_neg (by rw[decide_eq_true_iff];exact h)]
set_option maxRecDepth 100000 in
theorem zFz{k:Knd}{p:List zm}{vh vs vr vc vu gh gc vn vl vp:Value}(hS:zHH k)(hP:zLH p):
 FnC Tryz.prog (.func 30) [.agg ⟨zFl k vh vs vr vc vu gh gc vn vl⟩,.agg ⟨[vp]⟩] [] [] (fSl gvnE vp p::zEs k vh vs vr vc vu gh gc vn vl []) (zUj k p vn) (fun _=>[]) (zUZ k p) (zVG k p):=by
 refine zFV _ (isC 30) fun B w0=>?_;refine zR (E:=zET) (v:=vs) (xs:=k.decl.symbols) (by simp) fun as1 cs1 es1=>?_;subst es1;refine zR (E:=zn) (v:=vu) (xs:=k.decl.rules) (by simp) fun au cu eu=>?_;subst eu;refine zR (E:=intE) (v:=gc) (xs:=k.grid.cells) (by simp) fun ag cg eg=>?_;subst eg;refine zR (E:=slE intE) (v:=vn) (xs:=k.nbs) (by simp) fun an cn en=>?_;subst en;refine go ?_;intro b2 b3 b4;refine go ?_;refine zA (zH9 (k:=k) (p:=p) (vh:=vh) (vs:=.slice as1 k.decl.symbols.length cs1) (vr:=vr) (vc:=vc) (vu:=.slice au k.decl.rules.length cu) (gh:=gh) (gc:=.slice ag k.grid.cells.length cg) (vn:=.slice an k.nbs.length cn) (vl:=vl) (vp:=vp) hS hP) (next:=fun e he=>?_);refine go ?_;refine if_d rfl (fun h1=>?_) (fun h1=>?_)
 ·have hK0:zO k→zAM k p→False:=fun a b=>h1 (he.2.2 a b);refine go ?_;exact zEZ ⟨false,e,.slice none 0 0,.slice none 0 0⟩ (hv:=rfl) (hp:=⟨he.1,he.2.1,fun a b=>(hK0 a b).elim,fun a b=>(hK0 a b).elim,⟨fun h=>(by cases h),fun h=>absurd h h1⟩⟩)
 have hz:e=0:=Decidable.not_not.1 h1;subst hz;have hK:zO k:=Classical.byContradiction fun h=>by have:=he.1 h;omega
 have hQ:zAM k p:=Classical.byContradiction fun h=>by have:=he.2.1 hK h;omega
 have hsl:=hK.typ.lim.s1;have hrl:=hK.typ.lim.u;have hgl:=hK.gok.len;rw[← hK.grid]at hgl;refine go ?_;refine zAd intE ?_;refine zH (fun y:Nat×Value=>k.decl.symbols.length - y.1) (fun y=>[(38,.int .i64 (y.1:Int))]) (fun y=>[pt b4 (.cells (zBW (probOf k p) y.2 (.slice an k.nbs.length cn) (.slice none 0 0))),ap intE y.2 ((k.decl.symbols.take y.1).map (·.value))]) (fun _=>[]) (fun y=>y.1≤k.decl.symbols.length) (0,.slice none 0 0) (Nat.zero_le _) (hk:=by repeat (first|exact SelL.nil|(apply SelL.cons;(focus (repeat (first|exact Sel.here|apply Sel.there)))))) (body:=?_);rintro⟨j,vv⟩ hj;dsimp only at hj⊢;have hjl:((k.decl.symbols.take j).map (·.value)).length=j:=by rw[List.length_map,List.length_take];omega
 refine go ?_;refine if_d rfl (fun h2=>?_) (fun h2=>?_)
 ·refine go ?_;refine zV zET (xs:=k.decl.symbols) (next:=fun _ _ s (_:Unit) hs=>?_);have htk:(k.decl.symbols.take (j+1)).map (·.value)=(k.decl.symbols.take j).map (·.value)++[s.value]:=by rw[zP hs,List.map_append,List.map_singleton]
  refine go ?_;intro b7;refine go ?_;intro b46;refine go ?_;refine zAv (xs:=(k.decl.symbols.take j).map (·.value)) intE s.value () (by omega) (next:=fun ad=>?_);rw[← htk];refine go ?_;exact zB (j+1,.slice ad (((k.decl.symbols.take j).map (·.value)).length+1) (((k.decl.symbols.take j).map (·.value)).length+1)) (by show k.decl.symbols.length - (j+1)<k.decl.symbols.length - j;omega) (by show j+1≤_;omega)
 have hje:j=k.decl.symbols.length:=by omega
 subst hje;rw[List.take_length,show k.decl.symbols.map (·.value)=zh k from rfl];refine zK (z5 (E:=intE) (v:=vv) (xs:=zh k)) (h:=?_);refine go ?_;refine zA zLe (next:=fun y _=>?_);refine go ?_;intro b8;refine zK (zN (b:=b8)) (h:=?_);have hlf:∀l∈k.lists,l.length≤2048:=by rw[hK.lists];exact zI7 hK.gok (fun r hr=>(hK.typ.rgn r hr).1.2)
 have hpl:p.length<4611686018427387904:=by have:=hQ.len;omega
 have hord:zTf p:=fun i j a b hij ha hb=>zGx hQ (j - (i+1)) i a b ha (by rw[show i+1+(j - (i+1))=j by omega];exact hb);refine go ?_;refine zAd consE ?_;refine zPy ?_;refine zM0 (fun y=>y.2.2.map dfr) (fun y:Nat×Value×List Nat=>k.decl.rules.length - y.1) (fun y=>[(55,.int .i64 (y.1:Int))]) (fun y=>[zRc y.2.2,pt b2 (.cells (zFl k vh (.slice as1 k.decl.symbols.length cs1) vr vc (.slice au k.decl.rules.length cu) gh (.slice ag k.grid.cells.length cg) (.slice an k.nbs.length cn) vl)),pt b3 (.cells [vp]),pt b4 (.cells (zBW (probOf k p) vv (.slice an k.nbs.length cn) y.2.1)),ap consE y.2.1 (zBe k p y.1)]) (fun _=>[]) (fun y=>y.1≤k.decl.rules.length) (0,.slice none 0 0,[]) (Nat.zero_le _) (hk:=by repeat (first|exact SelL.nil|(apply SelL.cons;(focus (repeat (first|exact Sel.here|apply Sel.there)))))) (body:=?_);rintro⟨j,vc2,rs⟩ hj;dsimp only at hj⊢;have hcl:=zHz (p:=p) hlf j hj;refine go ?_;refine if_d rfl (fun h3=>?_) (fun h3=>?_)
 ·refine go ?_;refine zV zn (xs:=k.decl.rules) (next:=fun _ _ r (w:Value×Value) hr=>?_);have hrm:=List.mem_of_getElem? hr;have hf:=hK.rf hrm;have hkd:=hf.kd;obtain⟨ls,hls,_⟩:=hf.list hK;obtain⟨fm,fn,cap,hM⟩:=zQs y hf.kd;have hfam:=hM.fam;have hf0:0≤famR r:=by
   have:=hf.f0;unfold famR;repeat' split
   all_goals omega
  refine go ?_;intro b9 b10;refine go ?_;refine(d_loadNFj (b:=b8) (o:=0) (j:=r.kind.toNat*3) (m:=3) (cs:=zUf y) (c:=[.int .i64 fm,.int .i64 (leastR r:Int),.func fn #[] ⟨cap⟩]) rfl rfl rfl (by repeat (first|exact List.mem_cons_self .. |apply List.mem_cons_of_mem)) hM.at_).h ?_;refine go ?_;intro b11;refine go ?_;refine if_d rfl (fun h4=>?_) (fun h4=>?_)
  ·rw[if_pos h4]at hfam;have hfi:(((famR r).toNat:Nat):Int)=r.family:=by rw[hfam];exact Int.toNat_of_nonneg hf0
   have hL:=zHj (k:=k) (r:=r) (fi:=(famR r).toNat) (vh:=vh) (vs:=.slice as1 k.decl.symbols.length cs1) (vr:=vr) (vc:=vc) (vu:=.slice au k.decl.rules.length cu) (gh:=gh) (gc:=.slice ag k.grid.cells.length cg) (vn:=.slice an k.nbs.length cn) (vl:=vl) (vp:=vp) (v1:=w.1) (v2:=w.2);rw[hfi]at hL;refine go ?_;refine zK (zN (b:=b9)) (h:=?_);refine zK (zN (b:=b10)) (h:=?_);refine zK (zN (b:=b11)) (h:=?_);refine zA hL (next:=fun yl _=>?_);have hL1:=zGJ (bk:=yl.1) (bf:=yl.2.1) (br:=yl.2.2.1) (bp:=yl.2.2.2) (k:=k) (p:=p) (r:=r) (fi:=(famR r).toNat) (ls:=ls) (vh:=vh) (vs:=.slice as1 k.decl.symbols.length cs1) (vr:=vr) (vc:=vc) (vu:=.slice au k.decl.rules.length cu) (gh:=gh) (gc:=.slice ag k.grid.cells.length cg) (vn:=.slice an k.nbs.length cn) (vl:=vl) (vp:=vp) (v1:=w.1) (v2:=w.2) hS hpl hord hls;rw[hfi]at hL1;refine go ?_;refine zBb (fun v:Value=>[pt b4 (.cells (zBW (probOf k p) vv (.slice an k.nbs.length cn) v)),ap consE v (zBe k p j)]) vc2 (h:=?_);refine zLa (Z:=Nat) (fun(s:List Con) (x:LA)=>(zIW r j s x,Out.normal)) (fun s=>[exA fun v:Value=>[pt b4 (.cells (zBW (probOf k p) vv (.slice an k.nbs.length cn) v)),ap consE v s]]) (fun vs s=>s=zBe k p j++((vs.map zIH).filter fun x=>decide (leastR r≤x.2.1.length)).map (mkC r j)) (zBe k p j) _ (fun x z=>[pt z (.cells [x.2.1.2,x.2.2.2])]) (by simp) (fun vs s x rest hs _ _=>by
    have:=zB5 r j (vs++[x]) (zBe k p j);have h2:=zB5 r j vs (zBe k p j);rw[hs];show zIW r j _ x=_;unfold zIW;rw[List.map_append,List.filter_append,List.map_append,List.map_singleton];by_cases h:leastR r≤x.2.1.1.length
    ·rw[if_pos h,List.filter_cons_of_pos (by exact decide_eq_true h)];simp
    ·rw[if_neg h,List.filter_cons_of_neg (by rw[decide_eq_true_iff];exact h)];simp) hL1 (by intro s x lo o B w0;dsimp only[laV,laF,List.cons_append,List.nil_append,List.zip_cons_cons,List.zip_nil_left,List.reverse_cons,List.reverse_nil];refine go ?_;intro b14;refine go ?_;exact asgZ_end b14 rfl) ?_ ?_ (fun _ _=>trivial)
   ·rintro vs s ⟨at_,⟨cells,wc⟩,⟨vals,wv⟩⟩ rest z lo L B w0 hs hX;have hx:(at_,cells,vals)∈linesR p r ls:=by rw[← hX];exact List.mem_map.2 ⟨(at_,(cells,wc),(vals,wv)),by simp,rfl⟩
    have hpre:=zUy hf hQ hsl hx;have hml:s.length≤65536:=by
     have h1:=List.length_filter_le (fun x:Nat×List Int×List Int=>decide (leastR r≤x.2.1.length)) (vs.map zIH);have h2:=congrArg List.length hX;have h3:=hlf _ (List.mem_of_getElem? hls);have h4:=zD5 (p:=p) (r:=r) (ls:=ls);rw[List.length_map,List.length_append]at h2;rw[List.length_map]at h1;rw[hs,List.length_append,List.length_map];omega
    have hcc:(mkC r j (at_,cells,vals)).cells=cells:=by unfold mkC zl;dsimp only;(repeat' split)<;>rfl
    have hrr:(mkC r j (at_,cells,vals)).runs=(zl r cells vals).runs:=rfl;dsimp only[laF,List.cons_append,List.nil_append,List.reverse_cons,List.reverse_nil];refine zR (E:=intE) (v:=wc) (xs:=cells) (by simp) fun ak ck ek=>?_;subst ek;have hmk:=hM.ok cells vals hpre (.slice ak cells.length ck) wv w.1 w.2;refine zEM (h:=fun v=>?_);refine go ?_;refine if_d rfl (fun h5=>?_) (fun h5=>?_)
    ·have hadd:zIW r j s (at_,(cells,.slice ak cells.length ck),(vals,wv))=s:=by unfold zIW;rw[if_neg (by show¬leastR r≤cells.length;omega)]
     rw[hadd];refine go ?_;refine zBb (fun v:Value=>[pt b4 (.cells (zBW (probOf k p) vv (.slice an k.nbs.length cn) v)),ap consE v s]) v (h:=?_);exact zBp () rfl trivial trivial
    have hadd:zIW r j s (at_,(cells,.slice ak cells.length ck),(vals,wv))=s++[mkC r j (at_,cells,vals)]:=by unfold zIW;rw[if_pos (by show leastR r≤cells.length;omega)];rfl
    rw[hadd];refine go ?_;refine zA hmk (next:=fun vq _=>?_);refine go ?_;intro b15;refine go ?_;intro b98;refine zX (fSl intE (.slice ak cells.length ck) (mkC r j (at_,cells,vals)).cells) (fun w hw=>by rw[hcc];exact hw (fSl intE (.slice ak cells.length ck) cells) (by simp)) ?_;refine zX (fSl intE vq (mkC r j (at_,cells,vals)).runs) (fun w hw=>hw (fSl intE vq (zl r cells vals).runs) (by simp)) ?_;refine zAv (xs:=s) consE (mkC r j (at_,cells,vals)) (.slice ak cells.length ck,vq) (by omega) (next:=fun ad=>?_);refine go ?_;refine zBb (fun v:Value=>[pt b4 (.cells (zBW (probOf k p) vv (.slice an k.nbs.length cn) v)),ap consE v (s++[mkC r j (at_,cells,vals)])]) _ (h:=?_);exact zBp () rfl trivial trivial
   ·intro rr xs hX;rw[zB5,hX];have hnew:zBe k p j++((linesR p r ls).filter fun x=>decide (leastR r≤x.2.1.length)).map (mkC r j)=zBe k p (j+1):=by
     rw[zD9 hr];unfold consR rlnOf;rw[zAl hls]
    rw[hnew];dsimp only[List.cons_append,List.nil_append];refine zEM (h:=fun v=>?_);refine go ?_;refine zRD (rs:=rs) (r:=rr) (h:=?_);exact zDa (j+1,v,rr::rs) (by show k.decl.rules.length - (j+1)<k.decl.rules.length - j;omega) (by show j+1≤_;omega)
  ·rw[if_neg h4]at hfam;have hfi:(((famR r).toNat:Nat):Int)=fm:=by rw[hfam];exact Int.toNat_of_nonneg hf0
   have hL:=zHj (k:=k) (r:=r) (fi:=(famR r).toNat) (vh:=vh) (vs:=.slice as1 k.decl.symbols.length cs1) (vr:=vr) (vc:=vc) (vu:=.slice au k.decl.rules.length cu) (gh:=gh) (gc:=.slice ag k.grid.cells.length cg) (vn:=.slice an k.nbs.length cn) (vl:=vl) (vp:=vp) (v1:=w.1) (v2:=w.2);rw[hfi]at hL;refine go ?_;refine zK (zN (b:=b9)) (h:=?_);refine zK (zN (b:=b10)) (h:=?_);refine zK (zN (b:=b11)) (h:=?_);refine zA hL (next:=fun yl _=>?_);have hL1:=zGJ (bk:=yl.1) (bf:=yl.2.1) (br:=yl.2.2.1) (bp:=yl.2.2.2) (k:=k) (p:=p) (r:=r) (fi:=(famR r).toNat) (ls:=ls) (vh:=vh) (vs:=.slice as1 k.decl.symbols.length cs1) (vr:=vr) (vc:=vc) (vu:=.slice au k.decl.rules.length cu) (gh:=gh) (gc:=.slice ag k.grid.cells.length cg) (vn:=.slice an k.nbs.length cn) (vl:=vl) (vp:=vp) (v1:=w.1) (v2:=w.2) hS hpl hord hls;rw[hfi]at hL1;refine go ?_;refine zBb (fun v:Value=>[pt b4 (.cells (zBW (probOf k p) vv (.slice an k.nbs.length cn) v)),ap consE v (zBe k p j)]) vc2 (h:=?_);refine zLa (Z:=Nat) (fun(s:List Con) (x:LA)=>(zIW r j s x,Out.normal)) (fun s=>[exA fun v:Value=>[pt b4 (.cells (zBW (probOf k p) vv (.slice an k.nbs.length cn) v)),ap consE v s]]) (fun vs s=>s=zBe k p j++((vs.map zIH).filter fun x=>decide (leastR r≤x.2.1.length)).map (mkC r j)) (zBe k p j) _ (fun x z=>[pt z (.cells [x.2.1.2,x.2.2.2])]) (by simp) (fun vs s x rest hs _ _=>by
    have:=zB5 r j (vs++[x]) (zBe k p j);have h2:=zB5 r j vs (zBe k p j);rw[hs];show zIW r j _ x=_;unfold zIW;rw[List.map_append,List.filter_append,List.map_append,List.map_singleton];by_cases h:leastR r≤x.2.1.1.length
    ·rw[if_pos h,List.filter_cons_of_pos (by exact decide_eq_true h)];simp
    ·rw[if_neg h,List.filter_cons_of_neg (by rw[decide_eq_true_iff];exact h)];simp) hL1 (by intro s x lo o B w0;dsimp only[laV,laF,List.cons_append,List.nil_append,List.zip_cons_cons,List.zip_nil_left,List.reverse_cons,List.reverse_nil];refine go ?_;intro b14;refine go ?_;exact asgZ_end b14 rfl) ?_ ?_ (fun _ _=>trivial)
   ·rintro vs s ⟨at_,⟨cells,wc⟩,⟨vals,wv⟩⟩ rest z lo L B w0 hs hX;have hx:(at_,cells,vals)∈linesR p r ls:=by rw[← hX];exact List.mem_map.2 ⟨(at_,(cells,wc),(vals,wv)),by simp,rfl⟩
    have hpre:=zUy hf hQ hsl hx;have hml:s.length≤65536:=by
     have h1:=List.length_filter_le (fun x:Nat×List Int×List Int=>decide (leastR r≤x.2.1.length)) (vs.map zIH);have h2:=congrArg List.length hX;have h3:=hlf _ (List.mem_of_getElem? hls);have h4:=zD5 (p:=p) (r:=r) (ls:=ls);rw[List.length_map,List.length_append]at h2;rw[List.length_map]at h1;rw[hs,List.length_append,List.length_map];omega
    have hcc:(mkC r j (at_,cells,vals)).cells=cells:=by unfold mkC zl;dsimp only;(repeat' split)<;>rfl
    have hrr:(mkC r j (at_,cells,vals)).runs=(zl r cells vals).runs:=rfl;dsimp only[laF,List.cons_append,List.nil_append,List.reverse_cons,List.reverse_nil];refine zR (E:=intE) (v:=wc) (xs:=cells) (by simp) fun ak ck ek=>?_;subst ek;have hmk:=hM.ok cells vals hpre (.slice ak cells.length ck) wv w.1 w.2;refine zEM (h:=fun v=>?_);refine go ?_;refine if_d rfl (fun h5=>?_) (fun h5=>?_)
    ·have hadd:zIW r j s (at_,(cells,.slice ak cells.length ck),(vals,wv))=s:=by unfold zIW;rw[if_neg (by show¬leastR r≤cells.length;omega)]
     rw[hadd];refine go ?_;refine zBb (fun v:Value=>[pt b4 (.cells (zBW (probOf k p) vv (.slice an k.nbs.length cn) v)),ap consE v s]) v (h:=?_);exact zBp () rfl trivial trivial
    have hadd:zIW r j s (at_,(cells,.slice ak cells.length ck),(vals,wv))=s++[mkC r j (at_,cells,vals)]:=by unfold zIW;rw[if_pos (by show leastR r≤cells.length;omega)];rfl
    rw[hadd];refine go ?_;refine zA hmk (next:=fun vq _=>?_);refine go ?_;intro b15;refine go ?_;intro b98;refine zX (fSl intE (.slice ak cells.length ck) (mkC r j (at_,cells,vals)).cells) (fun w hw=>by rw[hcc];exact hw (fSl intE (.slice ak cells.length ck) cells) (by simp)) ?_;refine zX (fSl intE vq (mkC r j (at_,cells,vals)).runs) (fun w hw=>hw (fSl intE vq (zl r cells vals).runs) (by simp)) ?_;refine zAv (xs:=s) consE (mkC r j (at_,cells,vals)) (.slice ak cells.length ck,vq) (by omega) (next:=fun ad=>?_);refine go ?_;refine zBb (fun v:Value=>[pt b4 (.cells (zBW (probOf k p) vv (.slice an k.nbs.length cn) v)),ap consE v (s++[mkC r j (at_,cells,vals)])]) _ (h:=?_);exact zBp () rfl trivial trivial
   ·intro rr xs hX;rw[zB5,hX];have hnew:zBe k p j++((linesR p r ls).filter fun x=>decide (leastR r≤x.2.1.length)).map (mkC r j)=zBe k p (j+1):=by
     rw[zD9 hr];unfold consR rlnOf;rw[zAl hls]
    rw[hnew];dsimp only[List.cons_append,List.nil_append];refine zEM (h:=fun v=>?_);refine go ?_;refine zRD (rs:=rs) (r:=rr) (h:=?_);exact zDa (j+1,v,rr::rs) (by show k.decl.rules.length - (j+1)<k.decl.rules.length - j;omega) (by show j+1≤_;omega)
 have hje:j=k.decl.rules.length:=by omega
 subst hje;rw[zLt]at hcl⊢;refine go ?_;refine if_d rfl (fun h4=>?_) (fun h4=>?_)
 ·have hno:¬(consOf k p).length≤4096:=by omega
  refine go ?_;exact zMm (rs:=rs) ⟨false,2,.slice none 0 0,.slice none 0 0⟩ (hv:=rfl) (hp:=⟨fun h=>absurd hK h,fun _ h=>absurd hQ h,fun _ _ _=>rfl,fun _ _ h=>absurd h hno,⟨fun h=>(by cases h),fun h=>(by cases h)⟩⟩)
 have hyes:¬4096<(consOf k p).length:=by omega
 refine zK (z5 (E:=consE) (v:=vc2) (xs:=consOf k p)) (h:=?_);refine go ?_;exact zMm (rs:=rs) ⟨true,0,vv,vc2⟩ (hv:=rfl) (hp:=⟨fun h=>absurd hK h,fun _ h=>absurd hQ h,fun _ _ h=>absurd h hyes,fun _ _ _=>rfl,⟨fun _=>rfl,fun _=>rfl⟩⟩)
end Go.Proofs.YtpkieeggilkagaaGreat
