/- Part. -/
import Derived.Test.YtoilpafpgndilaaGreatLibDJ
set_option linter.all false
set_option maxRecDepth 10000
set_option maxHeartbeats 4000000
namespace Go.Proofs.YtoilpafpgndilaaGreat
open Tryz (prog)
open Go.Ideal Kd
structure TP where
 on:Bool
 set:Bool
 other:Bool
 op:Bool
 free:Bool
 read:Bool
 known:Bool
 aS:Int
def TQ(x:TP):ae ah:=[.bool x.on,.bool x.set,.bool x.other,.bool x.op,.bool x.free,.bool x.read,.bool x.known,iV x.aS]
def jG(k:Int):TP:=
 if k=1 then⟨true,false,false,false,false,true,true,0⟩
 else if k=2 then⟨true,true,false,true,false,true,true,0⟩
 else if k=3 then⟨true,false,false,true,false,true,true,0⟩
 else if k=4 then⟨true,false,false,false,false,true,true,0⟩
 else if k=5 then⟨true,true,false,false,false,true,true,3⟩
 else if k=6 then⟨false,false,false,false,false,true,true,0⟩
 else if k=7 then⟨false,false,false,false,true,true,true,0⟩
 else if k=8 then⟨false,true,true,false,false,true,true,0⟩
 else if k=9 then⟨false,true,false,false,false,true,true,0⟩
 else if k=10 then⟨false,true,false,false,false,true,true,0⟩
 else if k=11 then⟨false,false,false,false,false,true,true,1⟩
 else if k=12 then⟨true,false,false,false,false,false,true,0⟩
 else if k=13 then⟨false,false,false,true,false,false,true,0⟩
 else⟨false,false,false,false,false,false,false,0⟩
def uQ{b:Bool}{e:Int}:dZ prog 297 [.bool b,iV e] [] (iV (cond b 0 e)):=by
 refine gB 297 λB w0=>?_;cases b with
 |true=>
  exact eH
 |false=>
  exact eH
variable{k:Int}
def Og(h:k<0\/14<=k):jG k=⟨false,false,false,false,false,false,false,0⟩:=by
 unfold jG;rw[if_neg s6,if_neg s6,if_neg s6,if_neg s6,if_neg s6,if_neg s6,if_neg s6,if_neg s6,if_neg s6,if_neg s6,if_neg s6,if_neg s6,if_neg s6]
def TR:dZ prog 371 [iV k] [] (.agg ⟨TQ (jG k)⟩):=by
 by_cases hk:0<=k/\k<14
 .have hc:k=0\/k=1\/k=2\/k=3\/k=4\/k=5\/k=6\/k=7\/k=8\/k=9\/k=10\/k=11\/k=12\/k=13:=by omega
  clear hk;rcases hc with rfl|rfl|rfl|rfl|rfl|rfl|rfl|rfl|rfl|rfl|rfl|rfl|rfl|rfl<;>
  (refine gB 371 λB w0=>?_
   refine go ?_;intro b2 b3;exact eH)
 refine gB 371 λB w0=>?_;refine go ?_;intro b2 b3;refine gH ?_ ?_<;>intro h1
 rotate_left
 .refine bF ?_;rw[Og (.inl h1)];rfl
 refine aO ?_ ?_<;>intro h2
 .refine bF ?_;rw[Og (.inr s6)];rfl
 omega
variable{r:dP}{v1 v2:ah}
def amu:dZ prog 345 [.agg ⟨vM r v1 v2⟩] [] (.bool (jG r.kind).read):=by
 refine gB 345 λB w0=>?_;refine go ?_;intro b1;refine gC (TR (k:=r.kind)) λ_ _=>?_;exact eH
def oV(rs:ae dP):ae Int:=rs.zipIdx.filterMap λp=>if(jG p.1.kind).read then none else some (p.2:Int)
def amv{rs:ae dP}{k:Nat}(h:rs[k]? =some r):oV (rs.take (k+1))=oV (rs.take k)++if(jG r.kind).read then[]else[(k:Int)]:=by
 have hk:=(aV.1 h).1;unfold oV;rw[fF h,VS,KS,fU,DF s6];congr 1;rw[List.zipIdx_cons,List.zipIdx_nil,eB];cases h2:(jG r.kind).read<;>simp[h2]
def amw(rs:ae dP):(oV rs).length<=rs.length:=by
 unfold oV;refine oH (VU _ _) ?_;simp
variable{vh vs vr vc vu:ah}{d:dQ}
def amx(hl:d.rules.length<=4096):
 aX prog (.func 306) [.agg ⟨oM d vh vs vr vc vu⟩] [] [] [aj bZ vu d.rules] (λv:ah=>v) (λ_=>[]) (λv=>[aj ai v (oV d.rules)]) (λ_=>True):=by
 refine gB 306 λB w0=>?_;refine gF bZ vu d.rules λau cu eu=>?_;subst eu;refine go ?_;intro b1;refine gP b1 ?_;refine go ?_;refine lT ai ?_;refine dV (λy:Nat×ah=>d.rules.length - y.1) (λy=>[(8,iV (y.1:Int)),(2,y.2)]) (λy=>[ap ai y.2 (oV (d.rules.take y.1))]) (λ_=>[]) (λy=>y.1<=d.rules.length) (0,.slice none 0 0) (bM _) (hk:=s9) (body:=?_);rintro⟨k,v2⟩ hk;dsimp only at hk⊢;have hkl:=amw (d.rules.take k);rw[fU]at hkl;refine aO ?_ ?_<;>intro h1
 .refine gX bZ (xs:=d.rules) λ_ _ r (vv:ah×ah) hr=>?_;have hu:=amv hr;refine go ?_;intro b4;refine gC (amu (r:=r) (v1:=vv.1) (v2:=vv.2)) λ_ _=>?_;generalize(jG r.kind).read=rd at hu⊢;cases rd with
  |true=>
   have hu2:oV (d.rules.take (k+1))=oV (d.rules.take k):=by rw[hu];simp
   rw[<- hu2];refine go ?_;exact aU (k+1,v2) BW tD
  |false=>
   refine go ?_;intro b18;refine go ?_;refine kY (xs:=oV (d.rules.take k)) ai (k:Int) () s6 (next:=λad=>?_);have hu2:oV (d.rules.take (k+1))=oV (d.rules.take k)++[(k:Int)]:=by rw[hu];simp
   rw[<- hu2];refine go ?_;exact aU (k+1,.slice ad ((oV (d.rules.take k)).length+1) ((oV (d.rules.take k)).length+1)) BW tD
 have hke:k=d.rules.length:=s6
 subst hke;rw[fu];refine gZ (jr (E:=ai) (v:=v2) (xs:=oV d.rules)) ?_;refine go ?_;exact gQ v2 trivial
def Bu(c:ji):Prop:=
 (c.type=2/\0<=c.lo/\c.lo<=c.hi/\c.hi<=65536)\/(c.type=1/\c.family=0/\c.lo=0/\c.hi=0)\/
   (c.type=3/\((1<=c.family/\c.family<=3)\/8<=c.family)/\c.lo=0/\c.hi=0)
instance (c:ji):Decidable (Bu c):=by unfold Bu;infer_instance
def amy{c:ji}:dZ prog 344 [.agg ⟨Tv c⟩] [] (.bool (decide (Bu c))):=by
 refine gB 344 λB w0=>?_;refine go ?_;intro b1;iterate 9 (all_goals (first
  |(refine qQ () (hv:=?_) (hp:=trivial);first
   |exact congrArg Value.bool (rF.2 BY)
   |exact congrArg Value.bool (bY BY).symm
   |exact congrArg Value.bool (eT BY).symm)
  |(refine go ?_;first
   |with_reducible refine Rl (λ_=>?_) (λ_=>?_)
   |with_reducible refine Rm (λ_=>?_) (λ_=>?_)
   |refine p9 rfl ?_ ?_<;>intro _
   |skip)))
noncomputable def TS:=qI prog 343
def abv:mO prog 343=some TS:=s8
abbrev GV:ByteArray:={data:={toList:=[]}}
structure J4(x:TP)(cs:List ji)(r:dP):Prop where
 known:x.known=true
 on:(x.on=true↔r.on≠GV)
 set:(x.set=true↔r.set≠0)
 other:(x.other=true↔r.other≠0)
 iK:x.on=true\/r.family=0
 names:x.set=true\/r.names=[]
 others:x.other=true\/r.others=[]
 op:(x.op=true↔1<=r.op/\r.op<=3)
 op0:x.op=true\/r.op=0
 n:0<=r.n/\r.n<=65536
 cnt:x.free=true\/(x.op=true/\r.iX=GV)\/r.n=0
 clu:∀need:Int,need=(if x.op=true/\r.iX≠GV then 2 else x.aS)->(need=0/\r.iX=GV/\r.aS= -1)\/(need≠0/\0<=r.aS/\r.aS<cs.length/\∃c,cs[r.aS.toNat]? =some c/\c.type=need/\(need=1\/c.family=r.family))
abbrev vV(d:dQ)(r:dP)(vh vs vr vc vu v1 v2:ah):Prop:=fC prog 343 [.agg ⟨oM d vh vs vr vc vu⟩,.agg ⟨vM r v1 v2⟩] [aj eZ vc d.bV,aj jR v1 r.names,aj jR v2 r.others] (λb:Bool=>.bool b) (λb=>b=true↔J4 (jG r.kind) d.bV r)
def vW{p:Prop}(h:p:=by
 refine mq TS abv λB w0=>?_;refine gF eZ vc d.bV λac cc ec=>?_;subst ec;refine gF jR v1 r.names λa1 c1 e1=>?_;subst e1;refine gF jR v2 r.others λa2 c2 e2=>?_;subst e2;refine go ?_;intro b2 b3;refine gC (TR (k:=r.kind)) λ_ _=>?_;rw[hx];clear hx;dsimp only[TQ];refine go ?_;intro b5;iterate 18 (all_goals (first
  |(refine qQ _ (hv:=?hv) (hp:=?hp);focus (exact rfl))
  |(refine go ?_;first
   |with_reducible refine Rl (λ_=>?_) (λ_=>?_)
   |with_reducible refine Rm (λ_=>?_) (λ_=>?_)
   |with_reducible refine Jm (λ_=>?_) (λ_=>?_)
   |refine p9 rfl ?_ ?_<;>intro _
   |refine Cw rfl (λ_=>?_) (λ_=>?_)
   |skip)))
 all_goals (try simp only[uO]at *)
 all_goals (first
  |(exfalso;simp_all;done)
  |(refine qQ false (hv:=by rfl) (hp:=⟨(λh=>by cases h),λh=>?_⟩)
    exfalso
    obtain⟨q1,q2,q3,q4,q5,q6,q7,q8,q9,TT,TU,r9⟩:=h;have r9:=r9 _ rfl;first
     |(rcases r9 with⟨_,_,w1⟩|⟨_,w2,w3,_⟩<;>omega)
     |(simp_all<;>omega))
  |(refine qQ (decide (r.aS= -1)) (hv:=by rfl) (hp:=⟨λh=>?_,λh=>?_⟩)
    .have h:=ko h;refine⟨rfl,?_,?_,?_,?_,?_,?_,?_,?_,?_,?_,λneed hn=>.inl ⟨?_,?_,h⟩⟩<;>simp_all<;>omega
    .obtain⟨q1,q2,q3,q4,q5,q6,q7,q8,q9,TT,TU,r9⟩:=h;have r9:=r9 _ rfl
     simp_all)
  |skip)
 all_goals (
  obtain⟨ci,hci⟩:=gV (show 0<=r.aS by omega);have hcl:ci<d.bV.length:=s6
  rw[hci])
 all_goals (refine Jp eZ (xs:=d.bV) (next:=λ_ _ c (_:Unit) hcc=>?_))
 all_goals (have hct:d.bV[r.aS.toNat]? =some c:=by rw[hci];exact hcc)
 all_goals (refine go ?_;intro b8)
 iterate 4 (all_goals (first
  |(refine qQ _ (hv:=?hv) (hp:=?hp);focus (exact rfl))
  |(refine go ?_;first
   |with_reducible refine Rl (λ_=>?_) (λ_=>?_)
   |with_reducible refine Rm (λ_=>?_) (λ_=>?_)
   |with_reducible refine Jm (λ_=>?_) (λ_=>?_)
   |refine p9 rfl ?_ ?_<;>intro _
   |refine Cw rfl (λ_=>?_) (λ_=>?_)
   |skip)))
 all_goals (first
  |(refine qQ false (hv:=by rfl) (hp:=⟨(λh=>by cases h),λh=>?_⟩)
    exfalso
    obtain⟨q1,q2,q3,q4,q5,q6,q7,q8,q9,TT,TU,r9⟩:=h;have r9:=r9 _ rfl;rcases r9 with r9|⟨_,_,_,c',p1,p2,p3⟩
    .simp_all
    .rw[hct]at p1;cases p1
     simp_all)
  |(refine qQ (decide (c.family=r.family)) (hv:=by rfl) (hp:=⟨λh=>?_,λh=>?_⟩)
    .have h:=ko h;refine⟨rfl,?_,?_,?_,?_,?_,?_,?_,?_,?_,?_,λneed hn=>.inr ⟨?_,s6,s6,c,hct,?_,.inr h⟩⟩<;>simp_all<;>omega
    .obtain⟨q1,q2,q3,q4,q5,q6,q7,q8,q9,TT,TU,r9⟩:=h;have r9:=r9 _ rfl;rcases r9 with r9|⟨_,_,_,c',p1,p2,p3⟩
     .simp_all
     .rw[hct]at p1;cases p1
      simp_all)
  |(refine qQ true (hv:=by rfl) (hp:=⟨λ_=>?_,λ_=>rfl⟩)
    refine⟨rfl,?_,?_,?_,?_,?_,?_,?_,?_,?_,?_,λneed hn=>.inr ⟨?_,s6,s6,c,hct,?_,.inl ?_⟩⟩<;>simp_all<;>omega))):p:=h
def amA(hc:d.bV.length<=4096)(hn1:r.names.length<2^63)(hn2:r.others.length<2^63)(hk:r.kind=1):vV d r vh vs vr vc vu v1 v2:=by
 exact mw
def amB(hc:d.bV.length<=4096)(hn1:r.names.length<2^63)(hn2:r.others.length<2^63)(hk:r.kind=2):vV d r vh vs vr vc vu v1 v2:=by
 have hx:jG r.kind=⟨true,true,false,true,false,true,true,0⟩:=tv
 clear hk;exact vW
def amC(hc:d.bV.length<=4096)(hn1:r.names.length<2^63)(hn2:r.others.length<2^63)(hk:r.kind=3):vV d r vh vs vr vc vu v1 v2:=by
 have hx:jG r.kind=⟨true,false,false,true,false,true,true,0⟩:=tv
 clear hk;exact vW
def amD(hc:d.bV.length<=4096)(hn1:r.names.length<2^63)(hn2:r.others.length<2^63)(hk:r.kind=4):vV d r vh vs vr vc vu v1 v2:=by
 exact mw
