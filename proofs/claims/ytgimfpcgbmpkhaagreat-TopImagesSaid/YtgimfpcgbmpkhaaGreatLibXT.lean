/- Part. -/
import Derived.Test.YtgimfpcgbmpkhaaGreatLibDT
set_option linter.all false
set_option maxRecDepth 10000
set_option maxHeartbeats 4000000
namespace Go.Proofs.YtgimfpcgbmpkhaaGreat
open Tryz (prog)
open Go.Ideal Kd
structure Vd where
 on:Bool
 set:Bool
 other:Bool
 op:Bool
 free:Bool
 read:Bool
 known:Bool
 aN:Int
def Ve(x:Vd):ae ah:=[.bool x.on,.bool x.set,.bool x.other,.bool x.op,.bool x.free,.bool x.read,.bool x.known,iV x.aN]
def iU(k:Int):Vd:=
 if k=1 then⟨true,false,false,false,false,true,true,0⟩
 else if k=2 then⟨true,true,false,true,false,true,true,0⟩
 else if k=3 then⟨true,false,false,true,false,true,true,0⟩
 else if k=4 then⟨true,false,false,false,false,true,true,0⟩
 else if k=5 then⟨true,true,false,false,false,true,true,3⟩
 else if k=6 then⟨false,false,false,false,false,true,true,0⟩
 else if k=7 then⟨false,false,false,false,true,true,true,0⟩
 else if k=8 then⟨false,true,true,false,false,true,true,0⟩
 else if k=9 then⟨false,true,false,false,false,true,true,0⟩
 else if k=10 then⟨false,true,false,false,false,true,true,0⟩
 else if k=11 then⟨false,false,false,false,false,true,true,1⟩
 else if k=12 then⟨true,false,false,false,false,false,true,0⟩
 else if k=13 then⟨false,false,false,true,false,false,true,0⟩
 else⟨false,false,false,false,false,false,false,0⟩
def uZ{b:Bool}{e:Int}:dO prog 287 [.bool b,iV e] [] (iV (cond b 0 e)):=by
 refine gB 287 λB w0=>?_;cases b with
 |true=>
  exact dH
 |false=>
  exact dH
variable{k:Int}
def PT(h:k<0\/14<=k):iU k=⟨false,false,false,false,false,false,false,0⟩:=by
 unfold iU;rw[if_neg s6,if_neg s6,if_neg s6,if_neg s6,if_neg s6,if_neg s6,if_neg s6,if_neg s6,if_neg s6,if_neg s6,if_neg s6,if_neg s6,if_neg s6]
def Vf:dO prog 356 [iV k] [] (.agg ⟨Ve (iU k)⟩):=by
 by_cases hk:0<=k/\k<14
 .have hc:k=0\/k=1\/k=2\/k=3\/k=4\/k=5\/k=6\/k=7\/k=8\/k=9\/k=10\/k=11\/k=12\/k=13:=by omega
  clear hk;rcases hc with rfl|rfl|rfl|rfl|rfl|rfl|rfl|rfl|rfl|rfl|rfl|rfl|rfl|rfl<;>
  (refine gB 356 λB w0=>?_
   refine go ?_;intro b2 b3;exact dH)
 refine gB 356 λB w0=>?_;refine go ?_;intro b2 b3;refine gH ?_ ?_<;>intro h1
 rotate_left
 .refine aZ ?_;rw[PT (.inl h1)];rfl
 refine aK ?_ ?_<;>intro h2
 .refine aZ ?_;rw[PT (.inr s6)];rfl
 omega
variable{r:bF}{v1 v2:ah}
def aoa:dO prog 333 [.agg ⟨jf r v1 v2⟩] [] (.bool (iU r.kind).read):=by
 refine gB 333 λB w0=>?_;refine go ?_;intro b1;refine gC (Vf (k:=r.kind)) λ_ _=>?_;exact dH
def nT(rs:ae bF):ae Int:=rs.zipIdx.filterMap λp=>if(iU p.1.kind).read then none else some (p.2:Int)
def aob{rs:ae bF}{k:Nat}(h:rs[k]? =some r):nT (rs.take (k+1))=nT (rs.take k)++if(iU r.kind).read then[]else[(k:Int)]:=by
 have hk:=(bz.1 h).1;unfold nT;rw[fq h,BZ,Cb,gW,Ae s6];congr 1;rw[IM,List.zipIdx_nil,gq];cases h2:(iU r.kind).read<;>simp[h2]
def aoc(rs:ae bF):(nT rs).length<=rs.length:=by
 unfold nT;refine lZ (Mg _ _) ?_;simp
variable{vh vs vr vc vu:ah}{d:dR}
def aod(hl:d.rules.length<=4096):
 aY prog (.func 296) [.agg ⟨oO d vh vs vr vc vu⟩] [] [] [ay di vu d.rules] (λv:ah=>v) (λ_=>[]) (λv=>[ay aj v (nT d.rules)]) (λ_=>True):=by
 refine gB 296 λB w0=>?_;refine gF di vu d.rules λau cu eu=>?_;subst eu;refine go ?_;intro b1;refine gP b1 ?_;refine go ?_;refine kv aj ?_;refine dL (λy:Nat×ah=>d.rules.length - y.1) (λy=>[(8,iV (y.1:Int)),(2,y.2)]) (λy=>[ap aj y.2 (nT (d.rules.take y.1))]) (λ_=>[]) (λy=>y.1<=d.rules.length) (0,.slice none 0 0) (bI _) (hk:=tc) (body:=?_);rintro⟨k,v2⟩ hk;dsimp only at hk⊢;have hkl:=aoc (d.rules.take k);rw[gW]at hkl;refine aK ?_ ?_<;>intro h1
 .refine gX di (xs:=d.rules) λ_ _ r (vv:ah×ah) hr=>?_;have hu:=aob hr;refine go ?_;intro b4;refine gC (aoa (r:=r) (v1:=vv.1) (v2:=vv.2)) λ_ _=>?_;generalize(iU r.kind).read=rd at hu⊢;cases rd with
  |true=>
   have hu2:nT (d.rules.take (k+1))=nT (d.rules.take k):=by rw[hu];simp
   rw[<- hu2];refine go ?_;exact aW (k+1,v2) Bk tv
  |false=>
   refine go ?_;intro b18;refine go ?_;refine jy (xs:=nT (d.rules.take k)) aj (k:Int) () s6 (next:=λad=>?_);have hu2:nT (d.rules.take (k+1))=nT (d.rules.take k)++[(k:Int)]:=by rw[hu];simp
   rw[<- hu2];refine go ?_;exact aW (k+1,.slice ad ((nT (d.rules.take k)).length+1) ((nT (d.rules.take k)).length+1)) Bk tv
 have hke:k=d.rules.length:=s6
 subst hke;rw[dK];refine gZ (ja (E:=aj) (v:=v2) (xs:=nT d.rules)) ?_;refine go ?_;exact gQ v2 trivial
def u7(c:jA):Prop:=
 (c.type=2/\0<=c.lo/\c.lo<=c.hi/\c.hi<=65536)\/(c.type=1/\c.family=0/\c.lo=0/\c.hi=0)\/
   (c.type=3/\((1<=c.family/\c.family<=3)\/8<=c.family)/\c.lo=0/\c.hi=0)
instance (c:jA):Decidable (u7 c):=by unfold u7;infer_instance
def aoe{c:jA}:dO prog 332 [.agg ⟨PL c⟩] [] (.bool (decide (u7 c))):=by
 refine gB 332 λB w0=>?_;refine go ?_;intro b1;iterate 9 (all_goals (first
  |(refine ou () (hv:=?_) (hp:=trivial);first
   |exact congrArg Value.bool (nZ.2 Bm)
   |exact congrArg Value.bool (dA Bm).symm
   |exact congrArg Value.bool (eB Bm).symm)
  |(refine go ?_;first
   |with_reducible refine NY (λ_=>?_) (λ_=>?_)
   |with_reducible refine NZ (λ_=>?_) (λ_=>?_)
   |refine rU rfl ?_ ?_<;>intro _
   |skip)))
noncomputable def Vg:=qL prog 331
def acy:ng prog 331=some Vg:=s8
abbrev qI:ByteArray:={data:={toList:=[]}}
structure Ia(x:Vd)(cs:List jA)(r:bF):Prop where
 known:x.known=true
 on:(x.on=true↔r.on≠qI)
 set:(x.set=true↔r.set≠0)
 other:(x.other=true↔r.other≠0)
 fM:x.on=true\/r.family=0
 names:x.set=true\/r.names=[]
 others:x.other=true\/r.others=[]
 op:(x.op=true↔1<=r.op/\r.op<=3)
 op0:x.op=true\/r.op=0
 n:0<=r.n/\r.n<=65536
 cnt:x.free=true\/(x.op=true/\r.fV=qI)\/r.n=0
 K4:∀need:Int,need=(if x.op=true/\r.fV≠qI then 2 else x.aN)->(need=0/\r.fV=qI/\r.aN= -1)\/(need≠0/\0<=r.aN/\r.aN<cs.length/\∃c,cs[r.aN.toNat]? =some c/\c.type=need/\(need=1\/c.family=r.family))
abbrev wF(d:dR)(r:bF)(vh vs vr vc vu v1 v2:ah):Prop:=fC prog 331 [.agg ⟨oO d vh vs vr vc vu⟩,.agg ⟨jf r v1 v2⟩] [ay eP vc d.bT,ay ko v1 r.names,ay ko v2 r.others] (λb:Bool=>.bool b) (λb=>b=true↔Ia (iU r.kind) d.bT r)
def wG{p:Prop}(h:p:=by
 refine l7 Vg acy λB w0=>?_;refine gF eP vc d.bT λac cc ec=>?_;subst ec;refine gF ko v1 r.names λa1 c1 e1=>?_;subst e1;refine gF ko v2 r.others λa2 c2 e2=>?_;subst e2;refine go ?_;intro b2 b3;refine gC (Vf (k:=r.kind)) λ_ _=>?_;rw[hx];clear hx;dsimp only[Ve];refine go ?_;intro b5;iterate 18 (all_goals (first
  |(refine ou _ (hv:=?hv) (hp:=?hp);focus (exact rfl))
  |(refine go ?_;first
   |with_reducible refine NY (λ_=>?_) (λ_=>?_)
   |with_reducible refine NZ (λ_=>?_) (λ_=>?_)
   |with_reducible refine Gx (λ_=>?_) (λ_=>?_)
   |refine rU rfl ?_ ?_<;>intro _
   |refine yA rfl (λ_=>?_) (λ_=>?_)
   |skip)))
 all_goals (try simp only[tX]at *)
 all_goals (first
  |(exfalso;simp_all;done)
  |(refine ou false (hv:=by rfl) (hp:=⟨(λh=>by cases h),λh=>?_⟩)
    exfalso
    obtain⟨q1,q2,q3,q4,q5,q6,q7,q8,q9,Vh,Vi,sD⟩:=h;have sD:=sD _ rfl;first
     |(rcases sD with⟨_,_,w1⟩|⟨_,w2,w3,_⟩<;>omega)
     |(simp_all<;>omega))
  |(refine ou (decide (r.aN= -1)) (hv:=by rfl) (hp:=⟨λh=>?_,λh=>?_⟩)
    .have h:=jI h;refine⟨rfl,?_,?_,?_,?_,?_,?_,?_,?_,?_,?_,λneed hn=>.inl ⟨?_,?_,h⟩⟩<;>simp_all<;>omega
    .obtain⟨q1,q2,q3,q4,q5,q6,q7,q8,q9,Vh,Vi,sD⟩:=h;have sD:=sD _ rfl
     simp_all)
  |skip)
 all_goals (
  obtain⟨ci,hci⟩:=dW (show 0<=r.aN by omega);have hcl:ci<d.bT.length:=s6
  rw[hci])
 all_goals (refine Ey eP (xs:=d.bT) (next:=λ_ _ c (_:Unit) hcc=>?_))
 all_goals (have hct:d.bT[r.aN.toNat]? =some c:=by rw[hci];exact hcc)
 all_goals (refine go ?_;intro b8)
 iterate 4 (all_goals (first
  |(refine ou _ (hv:=?hv) (hp:=?hp);focus (exact rfl))
  |(refine go ?_;first
   |with_reducible refine NY (λ_=>?_) (λ_=>?_)
   |with_reducible refine NZ (λ_=>?_) (λ_=>?_)
   |with_reducible refine Gx (λ_=>?_) (λ_=>?_)
   |refine rU rfl ?_ ?_<;>intro _
   |refine yA rfl (λ_=>?_) (λ_=>?_)
   |skip)))
 all_goals (first
  |(refine ou false (hv:=by rfl) (hp:=⟨(λh=>by cases h),λh=>?_⟩)
    exfalso
    obtain⟨q1,q2,q3,q4,q5,q6,q7,q8,q9,Vh,Vi,sD⟩:=h;have sD:=sD _ rfl;rcases sD with sD|⟨_,_,_,c',p1,p2,p3⟩
    .simp_all
    .rw[hct]at p1;cases p1
     simp_all)
  |(refine ou (decide (c.family=r.family)) (hv:=by rfl) (hp:=⟨λh=>?_,λh=>?_⟩)
    .have h:=jI h;refine⟨rfl,?_,?_,?_,?_,?_,?_,?_,?_,?_,?_,λneed hn=>.inr ⟨?_,s6,s6,c,hct,?_,.inr h⟩⟩<;>simp_all<;>omega
    .obtain⟨q1,q2,q3,q4,q5,q6,q7,q8,q9,Vh,Vi,sD⟩:=h;have sD:=sD _ rfl;rcases sD with sD|⟨_,_,_,c',p1,p2,p3⟩
     .simp_all
     .rw[hct]at p1;cases p1
      simp_all)
  |(refine ou true (hv:=by rfl) (hp:=⟨λ_=>?_,λ_=>rfl⟩)
    refine⟨rfl,?_,?_,?_,?_,?_,?_,?_,?_,?_,?_,λneed hn=>.inr ⟨?_,s6,s6,c,hct,?_,.inl ?_⟩⟩<;>simp_all<;>omega))):p:=h
def aof(hc:d.bT.length<=4096)(hn1:r.names.length<2^63)(hn2:r.others.length<2^63)(hk:r.kind=1):wF d r vh vs vr vc vu v1 v2:=by
 exact nh
def aog(hc:d.bT.length<=4096)(hn1:r.names.length<2^63)(hn2:r.others.length<2^63)(hk:r.kind=2):wF d r vh vs vr vc vu v1 v2:=by
 have hx:iU r.kind=⟨true,true,false,true,false,true,true,0⟩:=tw
 clear hk;exact wG
def aoh(hc:d.bT.length<=4096)(hn1:r.names.length<2^63)(hn2:r.others.length<2^63)(hk:r.kind=3):wF d r vh vs vr vc vu v1 v2:=by
 have hx:iU r.kind=⟨true,false,false,true,false,true,true,0⟩:=tw
 clear hk;exact wG
def aoi(hc:d.bT.length<=4096)(hn1:r.names.length<2^63)(hn2:r.others.length<2^63)(hk:r.kind=4):wF d r vh vs vr vc vu v1 v2:=by
 exact nh
