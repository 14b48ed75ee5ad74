/-
  Types of rules: shapes, what can be read.
-/
import Derived.Test.YtoohgkkmdnbnfaaGreatDoorLibEE
set_option linter.all false
set_option maxRecDepth 10000
set_option maxHeartbeats 4000000
namespace Go.Proofs.YtoohgkkmdnbnfaaGreatDoor
open Go.Ideal Kd
structure KM where
 on:Bool
 set:Bool
 other:Bool
 op:Bool
 free:Bool
 read:Bool
 known:Bool
 aJ:Int
def KN(x:KM):List Value:=[.bool x.on,.bool x.set,.bool x.other,.bool x.op,.bool x.free,.bool x.read,.bool x.known,.int .i64 x.aJ]
def gU(k:Int):KM:=
 if k=1 then⟨true,false,false,false,false,true,true,0⟩
 else if k=2 then⟨true,true,false,true,false,true,true,0⟩
 else if k=3 then⟨true,false,false,true,false,true,true,0⟩
 else if k=4 then⟨true,false,false,false,false,true,true,0⟩
 else if k=5 then⟨true,true,false,false,false,true,true,3⟩
 else if k=6 then⟨false,false,false,false,false,true,true,0⟩
 else if k=7 then⟨false,false,false,false,true,true,true,0⟩
 else if k=8 then⟨false,true,true,false,false,true,true,0⟩
 else if k=9 then⟨false,true,false,false,false,true,true,0⟩
 else if k=10 then⟨false,true,false,false,false,true,true,0⟩
 else if k=11 then⟨false,false,false,false,false,true,true,1⟩
 else if k=12 then⟨true,false,false,false,false,false,true,0⟩
 else if k=13 then⟨false,false,false,true,false,false,true,0⟩
 else⟨false,false,false,false,false,false,false,0⟩
theorem nY{b:Bool}{e:Int}:dS Tryz.prog 218 [.bool b,.int .i64 e] [] (.int .i64 (cond b 0 e)):=by
 refine aS _ (aQ 218) λB w0=>?_;cases b with
 |true=>
  refine go ?_;exact aa () (hv:=rfl) (hp:=trivial)
 |false=>
  refine go ?_;exact aa () (hv:=rfl) (hp:=trivial)
theorem F4{k:Int}(h:k<0\/14<=k):gU k=⟨false,false,false,false,false,false,false,0⟩:=by
 unfold gU;rw[if_neg (by omega),if_neg (by omega),if_neg (by omega),if_neg (by omega),if_neg (by omega),if_neg (by omega),if_neg (by omega),if_neg (by omega),if_neg (by omega),if_neg (by omega),if_neg (by omega),if_neg (by omega),if_neg (by omega)]
theorem KP{k:Int}:dS Tryz.prog 292 [.int .i64 k] [] (.agg ⟨KN (gU k)⟩):=by
 by_cases hk:0<=k/\k<14
 ·have hc:k=0\/k=1\/k=2\/k=3\/k=4\/k=5\/k=6\/k=7\/k=8\/k=9\/k=10\/k=11\/k=12\/k=13:=by omega
  clear hk;rcases hc with rfl|rfl|rfl|rfl|rfl|rfl|rfl|rfl|rfl|rfl|rfl|rfl|rfl|rfl<;>
  (refine aS _ (aQ 292) λB w0=>?_
   refine go ?_;intro b2 b3;refine go ?_;exact aa () (hv:=rfl) (hp:=trivial))
 refine aS _ (aQ 292) λB w0=>?_;refine go ?_;intro b2 b3;refine go ?_;first|with_reducible refine aN (λh1=>?_) (λh1=>?_)|with_reducible refine aO (λh1=>?_) (λh1=>?_)|with_reducible refine aL (λh1=>?_) (λh1=>?_)
 rotate_left
 ·refine go ?_;refine aa () (hv:=?_) (hp:=trivial);rw[F4 (.inl h1)];rfl
 refine go ?_;refine aG rfl (λh2=>?_) (λh2=>?_)
 ·refine go ?_;refine aa () (hv:=?_) (hp:=trivial);rw[F4 (.inr (by omega))];rfl
 omega
theorem acG{r:aW}{v1 v2:Value}:dS Tryz.prog 260 [.agg ⟨jX r v1 v2⟩] [] (.bool (gU r.kind).read):=by
 refine aS _ (aQ 260) λB w0=>?_;refine go ?_;intro b1;refine go ?_;refine ax (KP (k:=r.kind)) (next:=λ_ _=>?_);refine go ?_;exact aa () (hv:=rfl) (hp:=trivial)
def ko(rs:List aW):List Int:=rs.zipIdx.filterMap λp=>if(gU p.1.kind).read then none else some (p.2:Int)
theorem acH{rs:List aW}{k:Nat}{r:aW}(h:rs[k]? =some r):ko (rs.take (k+1))=ko (rs.take k)++if(gU r.kind).read then[]else[(k:Int)]:=by
 have hk:=(bA.1 h).1;unfold ko;rw[j4 h,Bt,LZ,jE,yT (by omega)];congr 1;rw[List.zipIdx_cons,List.zipIdx_nil,eG];cases h2:(gU r.kind).read<;>simp[h2]
theorem acI(rs:List aW):(ko rs).length<=rs.length:=by
 unfold ko;refine lF (TY _ _) ?_;simp
theorem acJ{d:bR}{vh vs vr vc vu:Value}(hl:d.rules.length<=4096):
 aV Tryz.prog (.func 227) [.agg ⟨jY d vh vs vr vc vu⟩] [] [] [ai bq vu d.rules] (λv:Value=>v) (λ_=>[]) (λv=>[ai ae v (ko d.rules)]) (λ_=>True):=by
 refine aS _ (aQ 227) λB w0=>?_;refine fq (E:=bq) (v:=vu) (xs:=d.rules) (by simp) λau cu eu=>?_;subst eu;refine go ?_;intro b1;refine aZ (fo (b:=b1)) (h:=?_);refine go ?_;refine mE ae ?_;refine bJ (λy:Nat×Value=>d.rules.length - y.1) (λy=>[(8,.int .i64 (y.1:Int)),(2,y.2)]) (λy=>[ap ae y.2 (ko (d.rules.take y.1))]) (λ_=>[]) (λy=>y.1<=d.rules.length) (0,.slice none 0 0) (dD _) (hk:=by repeat (first|exact aM.nil|(apply aM.cons;(focus (repeat (first|exact aj.here|apply aj.there)))))) (body:=?_);rintro⟨k,v2⟩ hk;dsimp only at hk⊢;have hkl:=acI (d.rules.take k);rw[jE]at hkl;refine go ?_;refine aG rfl (λh1=>?_) (λh1=>?_)
 ·refine go ?_;refine dm bq (xs:=d.rules) (next:=λ_ _ r (vv:Value×Value) hr=>?_);have hu:=acH hr;refine go ?_;intro b4;refine go ?_;refine ax (acG (r:=r) (v1:=vv.1) (v2:=vv.2)) (next:=λ_ _=>?_);generalize(gU r.kind).read=rd at hu⊢;cases rd with
  |true=>
   have hu2:ko (d.rules.take (k+1))=ko (d.rules.take k):=by rw[hu];simp
   rw[<- hu2];refine go ?_;exact bi (k+1,v2) (by show d.rules.length - (k+1)<d.rules.length - k;omega) (by show k+1<=_;omega)
  |false=>
   refine go ?_;intro b18;refine go ?_;refine kR (xs:=ko (d.rules.take k)) ae (k:Int) () (by omega) (next:=λad=>?_);have hu2:ko (d.rules.take (k+1))=ko (d.rules.take k)++[(k:Int)]:=by rw[hu];simp
   rw[<- hu2];refine go ?_;exact bi (k+1,.slice ad ((ko (d.rules.take k)).length+1) ((ko (d.rules.take k)).length+1)) (by show d.rules.length - (k+1)<d.rules.length - k;omega) (by show k+1<=_;omega)
 have hke:k=d.rules.length:=by omega
 subst hke;rw[eB];refine aZ (kE (E:=ae) (v:=v2) (xs:=ko d.rules)) (h:=?_);refine go ?_;exact aa v2 (hv:=rfl) (hp:=trivial)
def qz(c:ji):Prop:=
 (c.type=2/\0<=c.lo/\c.lo<=c.hi/\c.hi<=65536)\/(c.type=1/\c.family=0/\c.lo=0/\c.hi=0)\/
   (c.type=3/\((1<=c.family/\c.family<=3)\/8<=c.family)/\c.lo=0/\c.hi=0)
instance (c:ji):Decidable (qz c):=by unfold qz;infer_instance
theorem acK{c:ji}:dS Tryz.prog 259 [.agg ⟨Kc c⟩] [] (.bool (decide (qz c))):=by
 refine aS _ (aQ 259) λB w0=>?_;refine go ?_;intro b1;iterate 9 (all_goals (first
  |(refine aa () (hv:=?_) (hp:=trivial);first
   |exact congrArg Value.bool (rO.2 (by unfold qz;omega))
   |exact congrArg Value.bool (cO (by unfold qz;omega)).symm
   |exact congrArg Value.bool (dU (by unfold qz;omega)).symm)
  |(refine go ?_;first
   |with_reducible refine aN (λ_=>?_) (λ_=>?_)
   |with_reducible refine aO (λ_=>?_) (λ_=>?_)
   |refine aG rfl (λ_=>?_) (λ_=>?_)
   |skip)))
noncomputable def KQ:=tH Tryz.prog 258
theorem SQ:lM Tryz.prog 258=some KQ:=by kernel_rfl
abbrev mK:ByteArray:={data:={toList:=[]}}
structure Ba(x:KM)(cs:List ji)(r:aW):Prop where
 known:x.known=true
 on:(x.on=true↔r.on≠mK)
 set:(x.set=true↔r.set≠0)
 other:(x.other=true↔r.other≠0)
 oU:x.on=true\/r.family=0
 names:x.set=true\/r.names=[]
 others:x.other=true\/r.others=[]
 op:(x.op=true↔1<=r.op/\r.op<=3)
 op0:x.op=true\/r.op=0
 n:0<=r.n/\r.n<=65536
 cnt:x.free=true\/(x.op=true/\r.eU=mK)\/r.n=0
 SS:∀need:Int,need=(if x.op=true/\r.eU≠mK then 2 else x.aJ)->(need=0/\r.eU=mK/\r.aJ= -1)\/(need≠0/\0<=r.aJ/\r.aJ<cs.length/\∃c,cs[r.aJ.toNat]? =some c/\c.type=need/\(need=1\/c.family=r.family))
abbrev o9(d:bR)(r:aW)(vh vs vr vc vu v1 v2:Value):Prop:=aV Tryz.prog (.func 258) [.agg ⟨jY d vh vs vr vc vu⟩,.agg ⟨jX r v1 v2⟩] [] [] [ai dH vc d.bI,ai bV v1 r.names,ai bV v2 r.others] (λb:Bool=>.bool b) (λ_=>[]) (λ_=>[]) (λb=>b=true↔Ba (gU r.kind) d.bI r)
theorem pg{p:Prop}(h:p:=by
 refine aS KQ SQ λB w0=>?_;refine fq (E:=dH) (v:=vc) (xs:=d.bI) (by simp) λac cc ec=>?_;subst ec;refine fq (E:=bV) (v:=v1) (xs:=r.names) (by simp) λa1 c1 e1=>?_;subst e1;refine fq (E:=bV) (v:=v2) (xs:=r.others) (by simp) λa2 c2 e2=>?_;subst e2;refine go ?_;intro b2 b3;refine go ?_;refine ax (KP (k:=r.kind)) (next:=λ_ _=>?_);rw[hx];clear hx;dsimp only[KN];refine go ?_;intro b5;iterate 18 (all_goals (first
  |(refine aa _ (hv:=?hv) (hp:=?hp);focus (exact rfl))
  |(refine go ?_;first
   |with_reducible refine aN (λ_=>?_) (λ_=>?_)
   |with_reducible refine aO (λ_=>?_) (λ_=>?_)
   |with_reducible refine aL (λ_=>?_) (λ_=>?_)
   |refine aG rfl (λ_=>?_) (λ_=>?_)
   |refine uj rfl (λ_=>?_) (λ_=>?_)
   |skip)))
 all_goals (try simp only[nC]at *)
 all_goals (first
  |(exfalso;simp_all;done)
  |(refine aa false (hv:=by rfl) (hp:=⟨(λh=>by cases h),λh=>?_⟩)
    exfalso
    obtain⟨q1,q2,q3,q4,q5,q6,q7,q8,q9,KS,KT,mM⟩:=h;have mM:=mM _ rfl;first
     |(rcases mM with⟨_,_,w1⟩|⟨_,w2,w3,_⟩<;>omega)
     |(simp_all<;>omega))
  |(refine aa (decide (r.aJ= -1)) (hv:=by rfl) (hp:=⟨λh=>?_,λh=>?_⟩)
    ·have h:=iJ h;refine⟨rfl,?_,?_,?_,?_,?_,?_,?_,?_,?_,?_,λneed hn=>.inl ⟨?_,?_,h⟩⟩<;>simp_all<;>omega
    ·obtain⟨q1,q2,q3,q4,q5,q6,q7,q8,q9,KS,KT,mM⟩:=h;have mM:=mM _ rfl
     simp_all)
  |skip)
 all_goals (
  obtain⟨ci,hci⟩:=qB (show 0<=r.aJ by omega);have hcl:ci<d.bI.length:=by omega
  rw[hci])
 all_goals (refine dm dH (xs:=d.bI) (next:=λ_ _ c (_:Unit) hcc=>?_))
 all_goals (have hct:d.bI[r.aJ.toNat]? =some c:=by rw[hci];exact hcc)
 all_goals (refine go ?_;intro b8)
 iterate 4 (all_goals (first
  |(refine aa _ (hv:=?hv) (hp:=?hp);focus (exact rfl))
  |(refine go ?_;first
   |with_reducible refine aN (λ_=>?_) (λ_=>?_)
   |with_reducible refine aO (λ_=>?_) (λ_=>?_)
   |with_reducible refine aL (λ_=>?_) (λ_=>?_)
   |refine aG rfl (λ_=>?_) (λ_=>?_)
   |refine uj rfl (λ_=>?_) (λ_=>?_)
   |skip)))
 all_goals (first
  |(refine aa false (hv:=by rfl) (hp:=⟨(λh=>by cases h),λh=>?_⟩)
    exfalso
    obtain⟨q1,q2,q3,q4,q5,q6,q7,q8,q9,KS,KT,mM⟩:=h;have mM:=mM _ rfl;rcases mM with mM|⟨_,_,_,c',p1,p2,p3⟩
    ·simp_all
    ·rw[hct]at p1;cases p1
     simp_all)
  |(refine aa (decide (c.family=r.family)) (hv:=by rfl) (hp:=⟨λh=>?_,λh=>?_⟩)
    ·have h:=iJ h;refine⟨rfl,?_,?_,?_,?_,?_,?_,?_,?_,?_,?_,λneed hn=>.inr ⟨?_,by omega,by omega,c,hct,?_,.inr h⟩⟩<;>simp_all<;>omega
    ·obtain⟨q1,q2,q3,q4,q5,q6,q7,q8,q9,KS,KT,mM⟩:=h;have mM:=mM _ rfl;rcases mM with mM|⟨_,_,_,c',p1,p2,p3⟩
     ·simp_all
     ·rw[hct]at p1;cases p1
      simp_all)
  |(refine aa true (hv:=by rfl) (hp:=⟨λ_=>?_,λ_=>rfl⟩)
    refine⟨rfl,?_,?_,?_,?_,?_,?_,?_,?_,?_,?_,λneed hn=>.inr ⟨?_,by omega,by omega,c,hct,?_,.inl ?_⟩⟩<;>simp_all<;>omega))):p:=h
theorem acL{d:bR}{r:aW}{vh vs vr vc vu v1 v2:Value}(hc:d.bI.length<=4096)(hn1:r.names.length<9223372036854775808)(hn2:r.others.length<9223372036854775808)(hk:r.kind=1):o9 d r vh vs vr vc vu v1 v2:=by
 have hx:gU r.kind=⟨true,false,false,false,false,true,true,0⟩:=by rw[hk];rfl
 clear hk;exact pg
theorem acM{d:bR}{r:aW}{vh vs vr vc vu v1 v2:Value}(hc:d.bI.length<=4096)(hn1:r.names.length<9223372036854775808)(hn2:r.others.length<9223372036854775808)(hk:r.kind=2):o9 d r vh vs vr vc vu v1 v2:=by
 have hx:gU r.kind=⟨true,true,false,true,false,true,true,0⟩:=by rw[hk];rfl
 clear hk;exact pg
theorem acN{d:bR}{r:aW}{vh vs vr vc vu v1 v2:Value}(hc:d.bI.length<=4096)(hn1:r.names.length<9223372036854775808)(hn2:r.others.length<9223372036854775808)(hk:r.kind=3):o9 d r vh vs vr vc vu v1 v2:=by
 have hx:gU r.kind=⟨true,false,false,true,false,true,true,0⟩:=by rw[hk];rfl
 clear hk;exact pg
theorem acO{d:bR}{r:aW}{vh vs vr vc vu v1 v2:Value}(hc:d.bI.length<=4096)(hn1:r.names.length<9223372036854775808)(hn2:r.others.length<9223372036854775808)(hk:r.kind=4):o9 d r vh vs vr vc vu v1 v2:=by
 have hx:gU r.kind=⟨true,false,false,false,false,true,true,0⟩:=by rw[hk];rfl
 clear hk;exact pg
