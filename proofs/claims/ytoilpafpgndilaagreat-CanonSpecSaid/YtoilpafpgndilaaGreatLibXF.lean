/- Part. -/
import Derived.Test.YtoilpafpgndilaaGreatLibDF
set_option linter.all false
set_option maxRecDepth 10000
set_option maxHeartbeats 4000000
namespace Go.Proofs.YtoilpafpgndilaaGreat
open Tryz (prog)
open Go.Ideal Kd
structure Bn where
 on:Bool
 set:Bool
 other:Bool
 op:Bool
 free:Bool
 read:Bool
 known:Bool
 adJ:Int
def Oy(x:Bn):kI vI:=[.bool x.on,.bool x.set,.bool x.other,.bool x.op,.bool x.free,.bool x.read,.bool x.known,iV x.adJ]
def fM(k:Int):Bn:=
 if k=1 then⟨true,false,false,false,false,true,true,0⟩
 else if k=2 then⟨true,true,false,true,false,true,true,0⟩
 else if k=3 then⟨true,false,false,true,false,true,true,0⟩
 else if k=4 then⟨true,false,false,false,false,true,true,0⟩
 else if k=5 then⟨true,true,false,false,false,true,true,3⟩
 else if k=6 then⟨false,false,false,false,false,true,true,0⟩
 else if k=7 then⟨false,false,false,false,true,true,true,0⟩
 else if k=8 then⟨false,true,true,false,false,true,true,0⟩
 else if k=9 then⟨false,true,false,false,false,true,true,0⟩
 else if k=10 then⟨false,true,false,false,false,true,true,0⟩
 else if k=11 then⟨false,false,false,false,false,true,true,1⟩
 else if k=12 then⟨true,false,false,false,false,false,true,0⟩
 else if k=13 then⟨false,false,false,true,false,false,true,0⟩
 else⟨false,false,false,false,false,false,false,0⟩
def qQ{b:Bool}{e:Int}:dD prog 297 [.bool b,iV e] [] (iV (cond b 0 e)):=by
 refine gB 297 λB w0=>?_;cases b with
 |true=>
  exact afN
 |false=>
  exact afN
variable{k:Int}
def Dj(h:k<0\/14<=k):fM k=⟨false,false,false,false,false,false,false,0⟩:=by
 unfold fM;rw[if_neg z7,if_neg z7,if_neg z7,if_neg z7,if_neg z7,if_neg z7,if_neg z7,if_neg z7,if_neg z7,if_neg z7,if_neg z7,if_neg z7,if_neg z7]
def Oz:dD prog 371 [iV k] [] (.agg ⟨Oy (fM k)⟩):=by
 by_cases hk:0<=k/\k<14
 .have hc:k=0\/k=1\/k=2\/k=3\/k=4\/k=5\/k=6\/k=7\/k=8\/k=9\/k=10\/k=11\/k=12\/k=13:=by omega
  clear hk;rcases hc with rfl|rfl|rfl|rfl|rfl|rfl|rfl|rfl|rfl|rfl|rfl|rfl|rfl|rfl<;>
  (refine gB 371 λB w0=>?_
   refine go ?_;intro b2 b3;exact afN)
 refine gB 371 λB w0=>?_;refine go ?_;intro b2 b3;refine gH ?_ ?_<;>intro h1
 rotate_left
 .refine acM ?_;rw[Dj (.inl h1)];rfl
 refine gIf ?_ ?_<;>intro h2
 .refine acM ?_;rw[Dj (.inr z7)];rfl
 omega
variable{r:bN}{v1 v2:vI}
def aga:dD prog 345 [.agg ⟨lV r v1 v2⟩] [] (.bool (fM r.kind).read):=by
 refine gB 345 λB w0=>?_;refine go ?_;intro b1;refine gC (Oz (k:=r.kind)) λ_ _=>?_;exact afN
def jk(rs:kI bN):kI Int:=rs.zipIdx.filterMap λp=>if(fM p.1.kind).read then none else some (p.2:Int)
def VW{rs:kI bN}{k:Nat}(h:rs[k]? =some r):jk (rs.take (k+1))=jk (rs.take k)++if(fM r.kind).read then[]else[(k:Int)]:=by
 have hk:=(bq.1 h).1;unfold jk;rw[bZ h,PP,List.filterMap_append,gT,DF z7];congr 1;rw[List.zipIdx_cons,List.zipIdx_nil,fo];cases h2:(fM r.kind).read<;>simp[h2]
def agb(rs:kI bN):(jk rs).length<=rs.length:=by
 unfold jk;refine pQ (List.length_filterMap_le _ _) ?_;simp
variable{vh vs vr vc vu:vI}{d:bF}
def agc(hl:d.rules.length<=4096):
 bA prog (.func 306) [.agg ⟨ahE d vh vs vr vc vu⟩] [] [] [ai aY vu d.rules] (λv:vI=>v) (λ_=>[]) (λv=>[ai ae v (jk d.rules)]) (λ_=>True):=by
 refine gB 306 λB w0=>?_;refine gF aY vu d.rules λau cu eu=>?_;subst eu;refine go ?_;intro b1;refine gP b1 ?_;refine go ?_;refine af5 ae ?_;refine aU (λy:Nat×vI=>d.rules.length - y.1) (λy=>[(8,iV (y.1:Int)),(2,y.2)]) (λy=>[ap ae y.2 (jk (d.rules.take y.1))]) (λ_=>[]) (λy=>y.1<=d.rules.length) (0,.slice none 0 0) (bR _) (hk:=As) (body:=?_);rintro⟨k,v2⟩ hk;dsimp only at hk⊢;have hkl:=agb (d.rules.take k);rw[gT]at hkl;refine gIf ?_ ?_<;>intro h1
 .refine gX aY (xs:=d.rules) λ_ _ r (vv:vI×vI) hr=>?_;have hu:=VW hr;refine go ?_;intro b4;refine gC (aga (r:=r) (v1:=vv.1) (v2:=vv.2)) λ_ _=>?_;generalize(fM r.kind).read=rd at hu⊢;cases rd with
  |true=>
   have hu2:jk (d.rules.take (k+1))=jk (d.rules.take k):=by rw[hu];simp
   rw[<- hu2];refine go ?_;exact aN (k+1,v2) B4 AS
  |false=>
   refine go ?_;intro b18;refine go ?_;refine fB (xs:=jk (d.rules.take k)) ae (k:Int) () z7 (next:=λad=>?_);have hu2:jk (d.rules.take (k+1))=jk (d.rules.take k)++[(k:Int)]:=by rw[hu];simp
   rw[<- hu2];refine go ?_;exact aN (k+1,.slice ad ((jk (d.rules.take k)).length+1) ((jk (d.rules.take k)).length+1)) B4 AS
 have hke:k=d.rules.length:=z7
 subst hke;rw[bU];refine gZ (gz (E:=ae) (v:=v2) (xs:=jk d.rules)) ?_;refine go ?_;exact gQ v2 trivial
def qR(c:gW):Prop:=
 (c.type=2/\0<=c.lo/\c.lo<=c.hi/\c.hi<=65536)\/(c.type=1/\c.family=0/\c.lo=0/\c.hi=0)\/
   (c.type=3/\((1<=c.family/\c.family<=3)\/8<=c.family)/\c.lo=0/\c.hi=0)
instance (c:gW):Decidable (qR c):=by unfold qR;infer_instance
def agd{c:gW}:dD prog 344 [.agg ⟨JJ c⟩] [] (.bool (decide (qR c))):=by
 refine gB 344 λB w0=>?_;refine go ?_;intro b1;iterate 9 (all_goals (first
  |(refine ah () (hv:=?_) (hp:=trivial);first
   |exact congrArg Value.bool (nO.2 B5)
   |exact congrArg Value.bool (aR B5).symm
   |exact congrArg Value.bool (dK B5).symm)
  |(refine go ?_;first
   |with_reducible refine oF (λ_=>?_) (λ_=>?_)
   |with_reducible refine nK (λ_=>?_) (λ_=>?_)
   |refine aA rfl ?_ ?_<;>intro _
   |skip)))
noncomputable def OB:=uE prog 343
def VX:mO prog 343=some OB:=Ax
abbrev qU:ByteArray:={data:={toList:=[]}}
structure wJ(x:Bn)(cs:List gW)(r:bN):Prop where
 known:x.known=true
 on:(x.on=true↔r.on≠qU)
 set:(x.set=true↔r.set≠0)
 other:(x.other=true↔r.other≠0)
 kE:x.on=true\/r.family=0
 names:x.set=true\/r.names=[]
 others:x.other=true\/r.others=[]
 op:(x.op=true↔1<=r.op/\r.op<=3)
 op0:x.op=true\/r.op=0
 n:0<=r.n/\r.n<=65536
 cnt:x.free=true\/(x.op=true/\r.dS=qU)\/r.n=0
 clu:∀need:Int,need=(if x.op=true/\r.dS≠qU then 2 else x.adJ)->(need=0/\r.dS=qU/\r.adJ= -1)\/(need≠0/\0<=r.adJ/\r.adJ<cs.length/\∃c,cs[r.adJ.toNat]? =some c/\c.type=need/\(need=1\/c.family=r.family))
abbrev si(d:bF)(r:bN)(vh vs vr vc vu v1 v2:vI):Prop:=fC prog 343 [.agg ⟨ahE d vh vs vr vc vu⟩,.agg ⟨lV r v1 v2⟩] [ai bI vc d.aJ,ai bC v1 r.names,ai bC v2 r.others] (λb:Bool=>.bool b) (λb=>b=true↔wJ (fM r.kind) d.aJ r)
def sj{p:Prop}(h:p:=by
 refine aM OB VX λB w0=>?_;refine gF bI vc d.aJ λac cc ec=>?_;subst ec;refine gF bC v1 r.names λa1 c1 e1=>?_;subst e1;refine gF bC v2 r.others λa2 c2 e2=>?_;subst e2;refine go ?_;intro b2 b3;refine gC (Oz (k:=r.kind)) λ_ _=>?_;rw[hx];clear hx;dsimp only[Oy];refine go ?_;intro b5;iterate 18 (all_goals (first
  |(refine ah _ (hv:=?hv) (hp:=?hp);focus (exact rfl))
  |(refine go ?_;first
   |with_reducible refine oF (λ_=>?_) (λ_=>?_)
   |with_reducible refine nK (λ_=>?_) (λ_=>?_)
   |with_reducible refine lU (λ_=>?_) (λ_=>?_)
   |refine aA rfl ?_ ?_<;>intro _
   |refine kw rfl (λ_=>?_) (λ_=>?_)
   |skip)))
 all_goals (try simp only[eB]at *)
 all_goals (first
  |(exfalso;simp_all;done)
  |(refine ah false (hv:=AD) (hp:=⟨(λh=>by cases h),λh=>?_⟩)
    exfalso
    obtain⟨q1,q2,q3,q4,q5,q6,q7,q8,q9,Bo,Bp,kH⟩:=h;have kH:=kH _ rfl;first
     |(rcases kH with⟨_,_,w1⟩|⟨_,w2,w3,_⟩<;>omega)
     |(simp_all<;>omega))
  |(refine ah (decide (r.adJ= -1)) (hv:=AD) (hp:=⟨λh=>?_,λh=>?_⟩)
    .have h:=iI h;refine⟨rfl,?_,?_,?_,?_,?_,?_,?_,?_,?_,?_,λneed hn=>.inl ⟨?_,?_,h⟩⟩<;>simp_all<;>omega
    .obtain⟨q1,q2,q3,q4,q5,q6,q7,q8,q9,Bo,Bp,kH⟩:=h;have kH:=kH _ rfl
     simp_all)
  |skip)
 all_goals (
  obtain⟨ci,hci⟩:=jA (show 0<=r.adJ by omega);have hcl:ci<d.aJ.length:=z7
  rw[hci])
 all_goals (refine bi bI (xs:=d.aJ) (next:=λ_ _ c (_:Unit) hcc=>?_))
 all_goals (have hct:d.aJ[r.adJ.toNat]? =some c:=by rw[hci];exact hcc)
 all_goals (refine go ?_;intro b8)
 iterate 4 (all_goals (first
  |(refine ah _ (hv:=?hv) (hp:=?hp);focus (exact rfl))
  |(refine go ?_;first
   |with_reducible refine oF (λ_=>?_) (λ_=>?_)
   |with_reducible refine nK (λ_=>?_) (λ_=>?_)
   |with_reducible refine lU (λ_=>?_) (λ_=>?_)
   |refine aA rfl ?_ ?_<;>intro _
   |refine kw rfl (λ_=>?_) (λ_=>?_)
   |skip)))
 all_goals (first
  |(refine ah false (hv:=AD) (hp:=⟨(λh=>by cases h),λh=>?_⟩)
    exfalso
    obtain⟨q1,q2,q3,q4,q5,q6,q7,q8,q9,Bo,Bp,kH⟩:=h;have kH:=kH _ rfl;rcases kH with kH|⟨_,_,_,c',p1,p2,p3⟩
    .simp_all
    .rw[hct]at p1;cases p1
     simp_all)
  |(refine ah (decide (c.family=r.family)) (hv:=AD) (hp:=⟨λh=>?_,λh=>?_⟩)
    .have h:=iI h;refine⟨rfl,?_,?_,?_,?_,?_,?_,?_,?_,?_,?_,λneed hn=>.inr ⟨?_,z7,z7,c,hct,?_,.inr h⟩⟩<;>simp_all<;>omega
    .obtain⟨q1,q2,q3,q4,q5,q6,q7,q8,q9,Bo,Bp,kH⟩:=h;have kH:=kH _ rfl;rcases kH with kH|⟨_,_,_,c',p1,p2,p3⟩
     .simp_all
     .rw[hct]at p1;cases p1
      simp_all)
  |(refine ah true (hv:=AD) (hp:=⟨λ_=>?_,λ_=>rfl⟩)
    refine⟨rfl,?_,?_,?_,?_,?_,?_,?_,?_,?_,?_,λneed hn=>.inr ⟨?_,z7,z7,c,hct,?_,.inl ?_⟩⟩<;>simp_all<;>omega))):p:=h
def agf(hc:d.aJ.length<=4096)(hn1:r.names.length<2^63)(hn2:r.others.length<2^63)(hk:r.kind=1):si d r vh vs vr vc vu v1 v2:=by
 exact qk
def agh(hc:d.aJ.length<=4096)(hn1:r.names.length<2^63)(hn2:r.others.length<2^63)(hk:r.kind=2):si d r vh vs vr vc vu v1 v2:=by
 have hx:fM r.kind=⟨true,true,false,true,false,true,true,0⟩:=A2
 clear hk;exact sj
def agi(hc:d.aJ.length<=4096)(hn1:r.names.length<2^63)(hn2:r.others.length<2^63)(hk:r.kind=3):si d r vh vs vr vc vu v1 v2:=by
 have hx:fM r.kind=⟨true,false,false,true,false,true,true,0⟩:=A2
 clear hk;exact sj
def agj(hc:d.aJ.length<=4096)(hn1:r.names.length<2^63)(hn2:r.others.length<2^63)(hk:r.kind=4):si d r vh vs vr vc vu v1 v2:=by
 exact qk
