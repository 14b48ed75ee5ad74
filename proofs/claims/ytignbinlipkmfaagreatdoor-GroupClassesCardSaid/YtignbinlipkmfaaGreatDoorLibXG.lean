/- Part. -/
import Derived.Test.YtignbinlipkmfaaGreatDoorLibDG
set_option linter.all false
set_option maxRecDepth 10000
set_option maxHeartbeats 4000000
namespace Go.Proofs.YtignbinlipkmfaaGreatDoor
open Tryz (prog)
open Go.Ideal Kd
structure Q0 where
 on:Bool
 set:Bool
 other:Bool
 op:Bool
 free:Bool
 read:Bool
 known:Bool
 bD:Int
def Q3(x:Q0):ae ah:=[.bool x.on,.bool x.set,.bool x.other,.bool x.op,.bool x.free,.bool x.read,.bool x.known,iV x.bD]
def iX(k:Int):Q0:=
 if k=1 then⟨true,false,false,false,false,true,true,0⟩
 else if k=2 then⟨true,true,false,true,false,true,true,0⟩
 else if k=3 then⟨true,false,false,true,false,true,true,0⟩
 else if k=4 then⟨true,false,false,false,false,true,true,0⟩
 else if k=5 then⟨true,true,false,false,false,true,true,3⟩
 else if k=6 then⟨false,false,false,false,false,true,true,0⟩
 else if k=7 then⟨false,false,false,false,true,true,true,0⟩
 else if k=8 then⟨false,true,true,false,false,true,true,0⟩
 else if k=9 then⟨false,true,false,false,false,true,true,0⟩
 else if k=10 then⟨false,true,false,false,false,true,true,0⟩
 else if k=11 then⟨false,false,false,false,false,true,true,1⟩
 else if k=12 then⟨true,false,false,false,false,false,true,0⟩
 else if k=13 then⟨false,false,false,true,false,false,true,0⟩
 else⟨false,false,false,false,false,false,false,0⟩
def sH{b:Bool}{e:Int}:eU prog 163 [.bool b,iV e] [] (iV (cond b 0 e)):=by
 refine gB 163 λB w0=>?_;cases b with
 |true=>
  exact fH
 |false=>
  exact fH
variable{k:Int}
def L8(h:k<0\/14<=k):iX k=⟨false,false,false,false,false,false,false,0⟩:=by
 unfold iX;rw[if_neg p0,if_neg p0,if_neg p0,if_neg p0,if_neg p0,if_neg p0,if_neg p0,if_neg p0,if_neg p0,if_neg p0,if_neg p0,if_neg p0,if_neg p0]
def Q4:eU prog 282 [iV k] [] (.agg ⟨Q3 (iX k)⟩):=by
 by_cases hk:0<=k/\k<14
 .have hc:k=0\/k=1\/k=2\/k=3\/k=4\/k=5\/k=6\/k=7\/k=8\/k=9\/k=10\/k=11\/k=12\/k=13:=by omega
  clear hk;rcases hc with rfl|rfl|rfl|rfl|rfl|rfl|rfl|rfl|rfl|rfl|rfl|rfl|rfl|rfl<;>
  (refine gB 282 λB w0=>?_
   refine go ?_;intro b2 b3;exact fH)
 refine gB 282 λB w0=>?_;refine go ?_;intro b2 b3;refine gH ?_ ?_<;>intro h1
 rotate_left
 .refine bT ?_;rw[L8 (.inl h1)];rfl
 refine aP ?_ ?_<;>intro h2
 .refine bT ?_;rw[L8 (.inr p0)];rfl
 omega
variable{r:dz}{v1 v2:ah}
def alc:eU prog 236 [.agg ⟨tJ r v1 v2⟩] [] (.bool (iX r.kind).read):=by
 refine gB 236 λB w0=>?_;refine go ?_;intro b1;refine gC (Q4 (k:=r.kind)) λ_ _=>?_;exact fH
def mZ(rs:ae dz):ae Int:=rs.zipIdx.filterMap λp=>if(iX p.1.kind).read then none else some (p.2:Int)
def ald{rs:ae dz}{k:Nat}(h:rs[k]? =some r):mZ (rs.take (k+1))=mZ (rs.take k)++if(iX r.kind).read then[]else[(k:Int)]:=by
 have hk:=(aT.1 h).1;unfold mZ;rw[gz h,SG,IV,gq,BD p0];congr 1;rw[List.zipIdx_cons,List.zipIdx_nil,eB];cases h2:(iX r.kind).read<;>simp[h2]
def ale(rs:ae dz):(mZ rs).length<=rs.length:=by
 unfold mZ;refine mh (SK _ _) ?_;simp
variable{vh vs vr vc vu:ah}{d:dA}
def alf(hl:d.rules.length<=4096):
 bA prog (.func 172) [.agg ⟨mQ d vh vs vr vc vu⟩] [] [] [aA bQ vu d.rules] (λv:ah=>v) (λ_=>[]) (λv=>[aA ai v (mZ d.rules)]) (λ_=>True):=by
 refine gB 172 λB w0=>?_;refine gF bQ vu d.rules λau cu eu=>?_;subst eu;refine go ?_;intro b1;refine gP b1 ?_;refine go ?_;refine mF ai ?_;refine dS (λy:Nat×ah=>d.rules.length - y.1) (λy=>[(8,iV (y.1:Int)),(2,y.2)]) (λy=>[ap ai y.2 (mZ (d.rules.take y.1))]) (λ_=>[]) (λy=>y.1<=d.rules.length) (0,.slice none 0 0) (bS _) (hk:=qn) (body:=?_);rintro⟨k,v2⟩ hk;dsimp only at hk⊢;have hkl:=ale (d.rules.take k);rw[gq]at hkl;refine aP ?_ ?_<;>intro h1
 .refine gX bQ (xs:=d.rules) λ_ _ r (vv:ah×ah) hr=>?_;have hu:=ald hr;refine go ?_;intro b4;refine gC (alc (r:=r) (v1:=vv.1) (v2:=vv.2)) λ_ _=>?_;generalize(iX r.kind).read=rd at hu⊢;cases rd with
  |true=>
   have hu2:mZ (d.rules.take (k+1))=mZ (d.rules.take k):=by rw[hu];simp
   rw[<- hu2];refine go ?_;exact aY (k+1,v2) wk rN
  |false=>
   refine go ?_;intro b18;refine go ?_;refine l7 (xs:=mZ (d.rules.take k)) ai (k:Int) () p0 (next:=λad=>?_);have hu2:mZ (d.rules.take (k+1))=mZ (d.rules.take k)++[(k:Int)]:=by rw[hu];simp
   rw[<- hu2];refine go ?_;exact aY (k+1,.slice ad ((mZ (d.rules.take k)).length+1) ((mZ (d.rules.take k)).length+1)) wk rN
 have hke:k=d.rules.length:=p0
 subst hke;rw[eH];refine gZ (jk (E:=ai) (v:=v2) (xs:=mZ d.rules)) ?_;refine go ?_;exact gQ v2 trivial
def zl(c:iR):Prop:=
 (c.type=2/\0<=c.lo/\c.lo<=c.hi/\c.hi<=65536)\/(c.type=1/\c.family=0/\c.lo=0/\c.hi=0)\/
   (c.type=3/\((1<=c.family/\c.family<=3)\/8<=c.family)/\c.lo=0/\c.hi=0)
instance (c:iR):Decidable (zl c):=by unfold zl;infer_instance
def alg{c:iR}:eU prog 235 [.agg ⟨QH c⟩] [] (.bool (decide (zl c))):=by
 refine gB 235 λB w0=>?_;refine go ?_;intro b1;iterate 9 (all_goals (first
  |(refine oM () (hv:=?_) (hp:=trivial);first
   |exact congrArg Value.bool (sP.2 wl)
   |exact congrArg Value.bool (di wl).symm
   |exact congrArg Value.bool (fo wl).symm)
  |(refine go ?_;first
   |with_reducible refine O8 (λ_=>?_) (λ_=>?_)
   |with_reducible refine O9 (λ_=>?_) (λ_=>?_)
   |refine uH rfl ?_ ?_<;>intro _
   |skip)))
noncomputable def Q5:=oG prog 234
def YU:lu prog 234=some Q5:=qk
abbrev EU:ByteArray:={data:={toList:=[]}}
structure Ii(x:Q0)(cs:List iR)(r:dz):Prop where
 known:x.known=true
 on:(x.on=true↔r.on≠EU)
 set:(x.set=true↔r.set≠0)
 other:(x.other=true↔r.other≠0)
 jl:x.on=true\/r.family=0
 names:x.set=true\/r.names=[]
 others:x.other=true\/r.others=[]
 op:(x.op=true↔1<=r.op/\r.op<=3)
 op0:x.op=true\/r.op=0
 n:0<=r.n/\r.n<=65536
 cnt:x.free=true\/(x.op=true/\r.ig=EU)\/r.n=0
 clu:∀need:Int,need=(if x.op=true/\r.ig≠EU then 2 else x.bD)->(need=0/\r.ig=EU/\r.bD= -1)\/(need≠0/\0<=r.bD/\r.bD<cs.length/\∃c,cs[r.bD.toNat]? =some c/\c.type=need/\(need=1\/c.family=r.family))
abbrev tT(d:dA)(r:dz)(vh vs vr vc vu v1 v2:ah):Prop:=fC prog 234 [.agg ⟨mQ d vh vs vr vc vu⟩,.agg ⟨tJ r v1 v2⟩] [aA eX vc d.bY,aA dF v1 r.names,aA dF v2 r.others] (λb:Bool=>.bool b) (λb=>b=true↔Ii (iX r.kind) d.bY r)
def tV{p:Prop}(h:p:=by
 refine nZ Q5 YU λB w0=>?_;refine gF eX vc d.bY λac cc ec=>?_;subst ec;refine gF dF v1 r.names λa1 c1 e1=>?_;subst e1;refine gF dF v2 r.others λa2 c2 e2=>?_;subst e2;refine go ?_;intro b2 b3;refine gC (Q4 (k:=r.kind)) λ_ _=>?_;rw[hx];clear hx;dsimp only[Q3];refine go ?_;intro b5;iterate 18 (all_goals (first
  |(refine oM _ (hv:=?hv) (hp:=?hp);focus (exact rfl))
  |(refine go ?_;first
   |with_reducible refine O8 (λ_=>?_) (λ_=>?_)
   |with_reducible refine O9 (λ_=>?_) (λ_=>?_)
   |with_reducible refine GM (λ_=>?_) (λ_=>?_)
   |refine uH rfl ?_ ?_<;>intro _
   |refine Aw rfl (λ_=>?_) (λ_=>?_)
   |skip)))
 all_goals (try simp only[sD]at *)
 all_goals (first
  |(exfalso;simp_all;done)
  |(refine oM false (hv:=rL) (hp:=⟨(λh=>by cases h),λh=>?_⟩)
    exfalso
    obtain⟨q1,q2,q3,q4,q5,q6,q7,q8,q9,Q6,Q7,qj⟩:=h;have qj:=qj _ rfl;first
     |(rcases qj with⟨_,_,w1⟩|⟨_,w2,w3,_⟩<;>omega)
     |(simp_all<;>omega))
  |(refine oM (decide (r.bD= -1)) (hv:=rL) (hp:=⟨λh=>?_,λh=>?_⟩)
    .have h:=jT h;refine⟨rfl,?_,?_,?_,?_,?_,?_,?_,?_,?_,?_,λneed hn=>.inl ⟨?_,?_,h⟩⟩<;>simp_all<;>omega
    .obtain⟨q1,q2,q3,q4,q5,q6,q7,q8,q9,Q6,Q7,qj⟩:=h;have qj:=qj _ rfl
     simp_all)
  |skip)
 all_goals (
  obtain⟨ci,hci⟩:=iQ (show 0<=r.bD by omega);have hcl:ci<d.bY.length:=p0
  rw[hci])
 all_goals (refine VA eX (xs:=d.bY) (next:=λ_ _ c (_:Unit) hcc=>?_))
 all_goals (have hct:d.bY[r.bD.toNat]? =some c:=by rw[hci];exact hcc)
 all_goals (refine go ?_;intro b8)
 iterate 4 (all_goals (first
  |(refine oM _ (hv:=?hv) (hp:=?hp);focus (exact rfl))
  |(refine go ?_;first
   |with_reducible refine O8 (λ_=>?_) (λ_=>?_)
   |with_reducible refine O9 (λ_=>?_) (λ_=>?_)
   |with_reducible refine GM (λ_=>?_) (λ_=>?_)
   |refine uH rfl ?_ ?_<;>intro _
   |refine Aw rfl (λ_=>?_) (λ_=>?_)
   |skip)))
 all_goals (first
  |(refine oM false (hv:=rL) (hp:=⟨(λh=>by cases h),λh=>?_⟩)
    exfalso
    obtain⟨q1,q2,q3,q4,q5,q6,q7,q8,q9,Q6,Q7,qj⟩:=h;have qj:=qj _ rfl;rcases qj with qj|⟨_,_,_,c',p1,p2,p3⟩
    .simp_all
    .rw[hct]at p1;cases p1
     simp_all)
  |(refine oM (decide (c.family=r.family)) (hv:=rL) (hp:=⟨λh=>?_,λh=>?_⟩)
    .have h:=jT h;refine⟨rfl,?_,?_,?_,?_,?_,?_,?_,?_,?_,?_,λneed hn=>.inr ⟨?_,p0,p0,c,hct,?_,.inr h⟩⟩<;>simp_all<;>omega
    .obtain⟨q1,q2,q3,q4,q5,q6,q7,q8,q9,Q6,Q7,qj⟩:=h;have qj:=qj _ rfl;rcases qj with qj|⟨_,_,_,c',p1,p2,p3⟩
     .simp_all
     .rw[hct]at p1;cases p1
      simp_all)
  |(refine oM true (hv:=rL) (hp:=⟨λ_=>?_,λ_=>rfl⟩)
    refine⟨rfl,?_,?_,?_,?_,?_,?_,?_,?_,?_,?_,λneed hn=>.inr ⟨?_,p0,p0,c,hct,?_,.inl ?_⟩⟩<;>simp_all<;>omega))):p:=h
def ali(hc:d.bY.length<=4096)(hn1:r.names.length<2^63)(hn2:r.others.length<2^63)(hk:r.kind=1):tT d r vh vs vr vc vu v1 v2:=by
 exact jt
def alj(hc:d.bY.length<=4096)(hn1:r.names.length<2^63)(hn2:r.others.length<2^63)(hk:r.kind=2):tT d r vh vs vr vc vu v1 v2:=by
 have hx:iX r.kind=⟨true,true,false,true,false,true,true,0⟩:=rI
 clear hk;exact tV
def alk(hc:d.bY.length<=4096)(hn1:r.names.length<2^63)(hn2:r.others.length<2^63)(hk:r.kind=3):tT d r vh vs vr vc vu v1 v2:=by
 have hx:iX r.kind=⟨true,false,false,true,false,true,true,0⟩:=rI
 clear hk;exact tV
def alm(hc:d.bY.length<=4096)(hn1:r.names.length<2^63)(hn2:r.others.length<2^63)(hk:r.kind=4):tT d r vh vs vr vc vu v1 v2:=by
 exact jt
