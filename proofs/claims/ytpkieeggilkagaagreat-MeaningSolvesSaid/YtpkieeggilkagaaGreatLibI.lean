/-
  Types of rules: a rule, by its shape.
-/
import Derived.Test.YtpkieeggilkagaaGreatLibH
set_option linter.unusedSimpArgs false
set_option linter.unusedVariables false
set_option maxRecDepth 10000
set_option maxHeartbeats 4000000
namespace Go.Proofs.YtpkieeggilkagaaGreat
open Go.Ideal Kd
noncomputable def zIi:=cod Tryz.prog 264
theorem f_ruleF:enF Tryz.prog 264=some zIi:=by kernel_rfl
abbrev zAp:ByteArray:={data:={toList:=[]}}
structure zSA(x:Shp)(cs:List Clu)(r:Rul):Prop where
 known:x.known=true
 on:(x.on=true↔r.on≠zAp)
 set:(x.set=true↔r.set≠0)
 other:(x.other=true↔r.other≠0)
 fam:x.on=true∨r.family=0
 names:x.set=true∨r.names=[]
 others:x.other=true∨r.others=[]
 op:(x.op=true↔1≤r.op∧r.op≤3)
 op0:x.op=true∨r.op=0
 n:0≤r.n∧r.n≤65536
 cnt:x.free=true∨(x.op=true∧r.by_=zAp)∨r.n=0
 clu:∀need:Int,need=(if x.op=true∧r.by_≠zAp then 2 else x.clue)→(need=0∧r.by_=zAp∧r.clue= -1)∨(need≠0∧0≤r.clue∧r.clue<cs.length∧∃c,cs[r.clue.toNat]? =some c∧c.type=need∧(need=1∨c.family=r.family))
abbrev zEF(d:Dcl)(r:Rul)(vh vs vr vc vu v1 v2:Value):Prop:=FnC Tryz.prog (.func 264) [.agg ⟨zGB d vh vs vr vc vu⟩,.agg ⟨zCG r v1 v2⟩] [] [] [fSl zAS vc d.clues,fSl zC0 v1 r.names,fSl zC0 v2 r.others] (fun b:Bool=>.bool b) (fun _=>[]) (fun _=>[]) (fun b=>b=true↔zSA (shpOf r.kind) d.clues r)
theorem zAj{p:Prop}(h:p:=by
 refine zE zIi f_ruleF fun B w0=>?_;refine zR (E:=zAS) (v:=vc) (xs:=d.clues) (by simp) fun ac cc ec=>?_;subst ec;refine zR (E:=zC0) (v:=v1) (xs:=r.names) (by simp) fun a1 c1 e1=>?_;subst e1;refine zR (E:=zC0) (v:=v2) (xs:=r.others) (by simp) fun a2 c2 e2=>?_;subst e2;refine go ?_;intro b2 b3;refine go ?_;refine zA (zGp (k:=r.kind)) (next:=fun _ _=>?_);rw[hx];clear hx;dsimp only[zT5];refine go ?_;intro b5;iterate 18 (all_goals (first
  |(refine q_fin _ (hv:=?hv) (hp:=?hp);focus (exact rfl))
  |(refine go ?_;first
   |with_reducible refine g_d (fun _=>?_) (fun _=>?_)
   |with_reducible refine g_n (fun _=>?_) (fun _=>?_)
   |with_reducible refine g_b (fun _=>?_) (fun _=>?_)
   |refine if_d rfl (fun _=>?_) (fun _=>?_)
   |refine if_b rfl (fun _=>?_) (fun _=>?_)
   |skip)))
 all_goals (try simp only[zAW]at *)
 all_goals (first
  |(exfalso;simp_all;done)
  |(refine q_fin false (hv:=by rfl) (hp:=⟨(fun h=>by cases h),fun h=>?_⟩)
    exfalso
    obtain⟨q1,q2,q3,q4,q5,q6,q7,q8,q9,q10,q11,q12⟩:=h;have q12:=q12 _ rfl;first
     |(rcases q12 with⟨_,_,w1⟩|⟨_,w2,w3,_⟩<;>omega)
     |(simp_all<;>omega))
  |(refine q_fin (decide (r.clue= -1)) (hv:=by rfl) (hp:=⟨fun h=>?_,fun h=>?_⟩)
    ·have h:=of_decide_eq_true h;refine⟨rfl,?_,?_,?_,?_,?_,?_,?_,?_,?_,?_,fun need hn=>.inl ⟨?_,?_,h⟩⟩<;>simp_all<;>omega
    ·obtain⟨q1,q2,q3,q4,q5,q6,q7,q8,q9,q10,q11,q12⟩:=h;have q12:=q12 _ rfl
     simp_all)
  |skip)
 all_goals (
  obtain⟨ci,hci⟩:=Int.eq_ofNat_of_zero_le (show 0≤r.clue by omega);have hcl:ci<d.clues.length:=by omega
  rw[hci])
 all_goals (refine zV zAS (xs:=d.clues) (next:=fun _ _ c (_:Unit) hcc=>?_))
 all_goals (have hct:d.clues[r.clue.toNat]? =some c:=by rw[hci];exact hcc)
 all_goals (refine go ?_;intro b8)
 iterate 4 (all_goals (first
  |(refine q_fin _ (hv:=?hv) (hp:=?hp);focus (exact rfl))
  |(refine go ?_;first
   |with_reducible refine g_d (fun _=>?_) (fun _=>?_)
   |with_reducible refine g_n (fun _=>?_) (fun _=>?_)
   |with_reducible refine g_b (fun _=>?_) (fun _=>?_)
   |refine if_d rfl (fun _=>?_) (fun _=>?_)
   |refine if_b rfl (fun _=>?_) (fun _=>?_)
   |skip)))
 all_goals (first
  |(refine q_fin false (hv:=by rfl) (hp:=⟨(fun h=>by cases h),fun h=>?_⟩)
    exfalso
    obtain⟨q1,q2,q3,q4,q5,q6,q7,q8,q9,q10,q11,q12⟩:=h;have q12:=q12 _ rfl;rcases q12 with q12|⟨_,_,_,c',p1,p2,p3⟩
    ·simp_all
    ·rw[hct]at p1;cases p1
     simp_all)
  |(refine q_fin (decide (c.family=r.family)) (hv:=by rfl) (hp:=⟨fun h=>?_,fun h=>?_⟩)
    ·have h:=of_decide_eq_true h;refine⟨rfl,?_,?_,?_,?_,?_,?_,?_,?_,?_,?_,fun need hn=>.inr ⟨?_,by omega,by omega,c,hct,?_,.inr h⟩⟩<;>simp_all<;>omega
    ·obtain⟨q1,q2,q3,q4,q5,q6,q7,q8,q9,q10,q11,q12⟩:=h;have q12:=q12 _ rfl;rcases q12 with q12|⟨_,_,_,c',p1,p2,p3⟩
     ·simp_all
     ·rw[hct]at p1;cases p1
      simp_all)
  |(refine q_fin true (hv:=by rfl) (hp:=⟨fun _=>?_,fun _=>rfl⟩)
    refine⟨rfl,?_,?_,?_,?_,?_,?_,?_,?_,?_,?_,fun need hn=>.inr ⟨?_,by omega,by omega,c,hct,?_,.inl ?_⟩⟩<;>simp_all<;>omega))):p:=h
theorem zPG{d:Dcl}{r:Rul}{vh vs vr vc vu v1 v2:Value}(hc:d.clues.length≤4096)(hn1:r.names.length<9223372036854775808)(hn2:r.others.length<9223372036854775808)(hk:r.kind=1):zEF d r vh vs vr vc vu v1 v2:=by
 have hx:shpOf r.kind=⟨true,false,false,false,false,true,true,0⟩:=by rw[hk];rfl
 clear hk;exact zAj
theorem zOx{d:Dcl}{r:Rul}{vh vs vr vc vu v1 v2:Value}(hc:d.clues.length≤4096)(hn1:r.names.length<9223372036854775808)(hn2:r.others.length<9223372036854775808)(hk:r.kind=2):zEF d r vh vs vr vc vu v1 v2:=by
 have hx:shpOf r.kind=⟨true,true,false,true,false,true,true,0⟩:=by rw[hk];rfl
 clear hk;exact zAj
theorem zOj{d:Dcl}{r:Rul}{vh vs vr vc vu v1 v2:Value}(hc:d.clues.length≤4096)(hn1:r.names.length<9223372036854775808)(hn2:r.others.length<9223372036854775808)(hk:r.kind=3):zEF d r vh vs vr vc vu v1 v2:=by
 have hx:shpOf r.kind=⟨true,false,false,true,false,true,true,0⟩:=by rw[hk];rfl
 clear hk;exact zAj
theorem zPg{d:Dcl}{r:Rul}{vh vs vr vc vu v1 v2:Value}(hc:d.clues.length≤4096)(hn1:r.names.length<9223372036854775808)(hn2:r.others.length<9223372036854775808)(hk:r.kind=4):zEF d r vh vs vr vc vu v1 v2:=by
 have hx:shpOf r.kind=⟨true,false,false,false,false,true,true,0⟩:=by rw[hk];rfl
 clear hk;exact zAj
end Go.Proofs.YtpkieeggilkagaaGreat
