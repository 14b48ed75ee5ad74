/-
  Types of rules: shapes, what can be read.
-/
import Derived.Test.YtpkieeggilkagaaGreatLibG
set_option linter.unusedSimpArgs false
set_option linter.unusedVariables false
set_option maxRecDepth 10000
set_option maxHeartbeats 4000000
namespace Go.Proofs.YtpkieeggilkagaaGreat
open Go.Ideal Kd
structure Shp where
 on:Bool
 set:Bool
 other:Bool
 op:Bool
 free:Bool
 read:Bool
 known:Bool
 clue:Int
def zT5(x:Shp):List Value:=[.bool x.on,.bool x.set,.bool x.other,.bool x.op,.bool x.free,.bool x.read,.bool x.known,.int .i64 x.clue]
def shpOf(k:Int):Shp:=
 if k=1 then⟨true,false,false,false,false,true,true,0⟩
 else if k=2 then⟨true,true,false,true,false,true,true,0⟩
 else if k=3 then⟨true,false,false,true,false,true,true,0⟩
 else if k=4 then⟨true,false,false,false,false,true,true,0⟩
 else if k=5 then⟨true,true,false,false,false,true,true,3⟩
 else if k=6 then⟨false,false,false,false,false,true,true,0⟩
 else if k=7 then⟨false,false,false,false,true,true,true,0⟩
 else if k=8 then⟨false,true,true,false,false,true,true,0⟩
 else if k=9 then⟨false,true,false,false,false,true,true,0⟩
 else if k=10 then⟨false,true,false,false,false,true,true,0⟩
 else if k=11 then⟨false,false,false,false,false,true,true,1⟩
 else if k=12 then⟨true,false,false,false,false,false,true,0⟩
 else if k=13 then⟨false,false,false,true,false,false,true,0⟩
 else⟨false,false,false,false,false,false,false,0⟩
theorem zAc{b:Bool}{e:Int}:FnP Tryz.prog 235 [.bool b,.int .i64 e] [] (.int .i64 (cond b 0 e)):=by
 refine zE _ (isC 235) fun B w0=>?_;cases b with
 |true=>
  refine go ?_;exact q_fin () (hv:=rfl) (hp:=trivial)
 |false=>
  refine go ?_;exact q_fin () (hv:=rfl) (hp:=trivial)
theorem zDi{k:Int}(h:k<0∨14≤k):shpOf k=⟨false,false,false,false,false,false,false,0⟩:=by
 unfold shpOf;rw[if_neg (by omega),if_neg (by omega),if_neg (by omega),if_neg (by omega),if_neg (by omega),if_neg (by omega),if_neg (by omega),if_neg (by omega),if_neg (by omega),if_neg (by omega),if_neg (by omega),if_neg (by omega),if_neg (by omega)]
theorem zGp{k:Int}:FnP Tryz.prog 279 [.int .i64 k] [] (.agg ⟨zT5 (shpOf k)⟩):=by
 by_cases hk:0≤k∧k<14
 ·have hc:k=0∨k=1∨k=2∨k=3∨k=4∨k=5∨k=6∨k=7∨k=8∨k=9∨k=10∨k=11∨k=12∨k=13:=by omega
  clear hk;rcases hc with rfl|rfl|rfl|rfl|rfl|rfl|rfl|rfl|rfl|rfl|rfl|rfl|rfl|rfl<;>
  (refine zE _ (isC 279) fun B w0=>?_
   refine go ?_;intro b2 b3;refine go ?_;exact q_fin () (hv:=rfl) (hp:=trivial))
 refine zE _ (isC 279) fun B w0=>?_;refine go ?_;intro b2 b3;refine go ?_;first|with_reducible refine g_d (fun h1=>?_) (fun h1=>?_)|with_reducible refine g_n (fun h1=>?_) (fun h1=>?_)|with_reducible refine g_b (fun h1=>?_) (fun h1=>?_)
 rotate_left
 ·refine go ?_;refine q_fin () (hv:=?_) (hp:=trivial);rw[zDi (.inl h1)];rfl
 refine go ?_;refine if_d rfl (fun h2=>?_) (fun h2=>?_)
 ·refine go ?_;refine q_fin () (hv:=?_) (hp:=trivial);rw[zDi (.inr (by omega))];rfl
 omega
theorem zQ2{r:Rul}{v1 v2:Value}:FnP Tryz.prog 266 [.agg ⟨zCG r v1 v2⟩] [] (.bool (shpOf r.kind).read):=by
 refine zE _ (isC 266) fun B w0=>?_;refine go ?_;intro b1;refine go ?_;refine zA (zGp (k:=r.kind)) (next:=fun _ _=>?_);refine go ?_;exact q_fin () (hv:=rfl) (hp:=trivial)
def zBP(rs:List Rul):List Int:=rs.zipIdx.filterMap fun p=>if(shpOf p.1.kind).read then none else some (p.2:Int)
theorem zKx{rs:List Rul}{k:Nat}{r:Rul}(h:rs[k]? =some r):zBP (rs.take (k+1))=zBP (rs.take k)++if(shpOf r.kind).read then[]else[(k:Int)]:=by
 have hk:=(List.getElem?_eq_some_iff.1 h).1;unfold zBP;rw[zP h,List.zipIdx_append,List.filterMap_append,List.length_take,Nat.min_eq_left (by omega)];congr 1;rw[List.zipIdx_cons,List.zipIdx_nil,Nat.zero_add];cases h2:(shpOf r.kind).read<;>simp[h2]
theorem zM4(rs:List Rul):(zBP rs).length≤rs.length:=by
 unfold zBP;refine Nat.le_trans (List.length_filterMap_le _ _) ?_;simp
theorem zRW{d:Dcl}{vh vs vr vc vu:Value}(hl:d.rules.length≤4096):
 FnC Tryz.prog (.func 244) [.agg ⟨zGB d vh vs vr vc vu⟩] [] [] [fSl zn vu d.rules] (fun v:Value=>v) (fun _=>[]) (fun v=>[fSl intE v (zBP d.rules)]) (fun _=>True):=by
 refine zE _ (isC 244) fun B w0=>?_;refine zR (E:=zn) (v:=vu) (xs:=d.rules) (by simp) fun au cu eu=>?_;subst eu;refine go ?_;intro b1;refine zK (zN (b:=b1)) (h:=?_);refine go ?_;refine zAd intE ?_;refine zH (fun y:Nat×Value=>d.rules.length - y.1) (fun y=>[(8,.int .i64 (y.1:Int)),(2,y.2)]) (fun y=>[ap intE y.2 (zBP (d.rules.take y.1))]) (fun _=>[]) (fun y=>y.1≤d.rules.length) (0,.slice none 0 0) (Nat.zero_le _) (hk:=by repeat (first|exact SelL.nil|(apply SelL.cons;(focus (repeat (first|exact Sel.here|apply Sel.there)))))) (body:=?_);rintro⟨k,v2⟩ hk;dsimp only at hk⊢;have hkl:=zM4 (d.rules.take k);rw[List.length_take]at hkl;refine go ?_;refine if_d rfl (fun h1=>?_) (fun h1=>?_)
 ·refine go ?_;refine zV zn (xs:=d.rules) (next:=fun _ _ r (vv:Value×Value) hr=>?_);have hu:=zKx hr;refine go ?_;intro b4;refine go ?_;refine zA (zQ2 (r:=r) (v1:=vv.1) (v2:=vv.2)) (next:=fun _ _=>?_);generalize(shpOf r.kind).read=rd at hu⊢;cases rd with
  |true=>
   have hu2:zBP (d.rules.take (k+1))=zBP (d.rules.take k):=by rw[hu];simp
   rw[← hu2];refine go ?_;exact zB (k+1,v2) (by show d.rules.length - (k+1)<d.rules.length - k;omega) (by show k+1≤_;omega)
  |false=>
   refine go ?_;intro b18;refine go ?_;refine zAv (xs:=zBP (d.rules.take k)) intE (k:Int) () (by omega) (next:=fun ad=>?_);have hu2:zBP (d.rules.take (k+1))=zBP (d.rules.take k)++[(k:Int)]:=by rw[hu];simp
   rw[← hu2];refine go ?_;exact zB (k+1,.slice ad ((zBP (d.rules.take k)).length+1) ((zBP (d.rules.take k)).length+1)) (by show d.rules.length - (k+1)<d.rules.length - k;omega) (by show k+1≤_;omega)
 have hke:k=d.rules.length:=by omega
 subst hke;rw[List.take_length];refine zK (z5 (E:=intE) (v:=v2) (xs:=zBP d.rules)) (h:=?_);refine go ?_;exact q_fin v2 (hv:=rfl) (hp:=trivial)
def CluP(c:Clu):Prop:=
 (c.type=2∧0≤c.lo∧c.lo≤c.hi∧c.hi≤65536)∨(c.type=1∧c.family=0∧c.lo=0∧c.hi=0)∨
   (c.type=3∧((1≤c.family∧c.family≤3)∨8≤c.family)∧c.lo=0∧c.hi=0)
instance (c:Clu):Decidable (CluP c):=by unfold CluP;infer_instance
theorem zPw{c:Clu}:FnP Tryz.prog 265 [.agg ⟨zTg c⟩] [] (.bool (decide (CluP c))):=by
 refine zE _ (isC 265) fun B w0=>?_;refine go ?_;intro b1;iterate 9 (all_goals (first
  |(refine q_fin () (hv:=?_) (hp:=trivial);first
   |exact congrArg Value.bool (decide_eq_decide.2 (by unfold CluP;omega))
   |exact congrArg Value.bool (decide_eq_false (by unfold CluP;omega)).symm
   |exact congrArg Value.bool (decide_eq_true (by unfold CluP;omega)).symm)
  |(refine go ?_;first
   |with_reducible refine g_d (fun _=>?_) (fun _=>?_)
   |with_reducible refine g_n (fun _=>?_) (fun _=>?_)
   |refine if_d rfl (fun _=>?_) (fun _=>?_)
   |skip)))
end Go.Proofs.YtpkieeggilkagaaGreat
