/- Part. -/
import Derived.Test.YtignbinlipkmfaaGreatDoorLibDK
set_option linter.all false
set_option maxRecDepth 10000
set_option maxHeartbeats 4000000
namespace Go.Proofs.YtignbinlipkmfaaGreatDoor
open Tryz (prog)
open Go.Ideal Kd
structure Cf where
 on:Bool
 set:Bool
 other:Bool
 op:Bool
 free:Bool
 read:Bool
 known:Bool
 aX:Int
def Qm(x:Cf):ae ah:=[.bool x.on,.bool x.set,.bool x.other,.bool x.op,.bool x.free,.bool x.read,.bool x.known,iV x.aX]
def gy(k:Int):Cf:=
 if k=1 then⟨true,false,false,false,false,true,true,0⟩
 else if k=2 then⟨true,true,false,true,false,true,true,0⟩
 else if k=3 then⟨true,false,false,true,false,true,true,0⟩
 else if k=4 then⟨true,false,false,false,false,true,true,0⟩
 else if k=5 then⟨true,true,false,false,false,true,true,3⟩
 else if k=6 then⟨false,false,false,false,false,true,true,0⟩
 else if k=7 then⟨false,false,false,false,true,true,true,0⟩
 else if k=8 then⟨false,true,true,false,false,true,true,0⟩
 else if k=9 then⟨false,true,false,false,false,true,true,0⟩
 else if k=10 then⟨false,true,false,false,false,true,true,0⟩
 else if k=11 then⟨false,false,false,false,false,true,true,1⟩
 else if k=12 then⟨true,false,false,false,false,false,true,0⟩
 else if k=13 then⟨false,false,false,true,false,false,true,0⟩
 else⟨false,false,false,false,false,false,false,0⟩
def sj{b:Bool}{e:Int}:dL prog 163 [.bool b,iV e] [] (iV (cond b 0 e)):=by
 refine gB 163 λB w0=>?_;cases b with
 |true=>
  exact fH
 |false=>
  exact fH
variable{k:Int}
def Ei(h:k<0\/14<=k):gy k=⟨false,false,false,false,false,false,false,0⟩:=by
 unfold gy;rw[if_neg tr,if_neg tr,if_neg tr,if_neg tr,if_neg tr,if_neg tr,if_neg tr,if_neg tr,if_neg tr,if_neg tr,if_neg tr,if_neg tr,if_neg tr]
def Qn:dL prog 282 [iV k] [] (.agg ⟨Qm (gy k)⟩):=by
 by_cases hk:0<=k/\k<14
 .have hc:k=0\/k=1\/k=2\/k=3\/k=4\/k=5\/k=6\/k=7\/k=8\/k=9\/k=10\/k=11\/k=12\/k=13:=by omega
  clear hk;rcases hc with rfl|rfl|rfl|rfl|rfl|rfl|rfl|rfl|rfl|rfl|rfl|rfl|rfl|rfl<;>
  (refine gB 282 λB w0=>?_
   refine go ?_;intro b2 b3;exact fH)
 refine gB 282 λB w0=>?_;refine go ?_;intro b2 b3;refine gH ?_ ?_<;>intro h1
 rotate_left
 .refine aM ?_;rw[Ei (.inl h1)];rfl
 refine aB ?_ ?_<;>intro h2
 .refine aM ?_;rw[Ei (.inr tr)];rfl
 omega
variable{r:bE}{v1 v2:ah}
def ajf:dL prog 236 [.agg ⟨kL r v1 v2⟩] [] (.bool (gy r.kind).read):=by
 refine gB 236 λB w0=>?_;refine go ?_;intro b1;refine gC (Qn (k:=r.kind)) λ_ _=>?_;exact fH
def jJ(rs:ae bE):ae Int:=rs.zipIdx.filterMap λp=>if(gy p.1.kind).read then none else some (p.2:Int)
def XK{rs:ae bE}{k:Nat}(h:rs[k]? =some r):jJ (rs.take (k+1))=jJ (rs.take k)++if(gy r.kind).read then[]else[(k:Int)]:=by
 have hk:=(bC.1 h).1;unfold jJ;rw[cB h,RJ,List.filterMap_append,iY,EF tr];congr 1;rw[List.zipIdx_cons,List.zipIdx_nil,fq];cases h2:(gy r.kind).read<;>simp[h2]
def ajg(rs:ae bE):(jJ rs).length<=rs.length:=by
 unfold jJ;refine ql (List.length_filterMap_le _ _) ?_;simp
variable{vh vs vr vc vu:ah}{d:bG}
def ajh(hl:d.rules.length<=4096):
 cK prog (.func 172) [.agg ⟨gW d vh vs vr vc vu⟩] [] [] [aj bz vu d.rules] (λv:ah=>v) (λ_=>[]) (λv=>[aj ai v (jJ d.rules)]) (λ_=>True):=by
 refine gB 172 λB w0=>?_;refine gF bz vu d.rules λau cu eu=>?_;subst eu;refine go ?_;intro b1;refine gP b1 ?_;refine go ?_;refine iy ai ?_;refine dX (λy:Nat×ah=>d.rules.length - y.1) (λy=>[(8,iV (y.1:Int)),(2,y.2)]) (λy=>[ap ai y.2 (jJ (d.rules.take y.1))]) (λ_=>[]) (λy=>y.1<=d.rules.length) (0,.slice none 0 0) (bP _) (hk:=tx) (body:=?_);rintro⟨k,v2⟩ hk;dsimp only at hk⊢;have hkl:=ajg (d.rules.take k);rw[iY]at hkl;refine aB ?_ ?_<;>intro h1
 .refine gX bz (xs:=d.rules) λ_ _ r (vv:ah×ah) hr=>?_;have hu:=XK hr;refine go ?_;intro b4;refine gC (ajf (r:=r) (v1:=vv.1) (v2:=vv.2)) λ_ _=>?_;generalize(gy r.kind).read=rd at hu⊢;cases rd with
  |true=>
   have hu2:jJ (d.rules.take (k+1))=jJ (d.rules.take k):=by rw[hu];simp
   rw[<- hu2];refine go ?_;exact aQ (k+1,v2) wv tM
  |false=>
   refine go ?_;intro b18;refine go ?_;refine fI (xs:=jJ (d.rules.take k)) ai (k:Int) () tr (next:=λad=>?_);have hu2:jJ (d.rules.take (k+1))=jJ (d.rules.take k)++[(k:Int)]:=by rw[hu];simp
   rw[<- hu2];refine go ?_;exact aQ (k+1,.slice ad ((jJ (d.rules.take k)).length+1) ((jJ (d.rules.take k)).length+1)) wv tM
 have hke:k=d.rules.length:=tr
 subst hke;rw[bM];refine gZ (gI (E:=ai) (v:=v2) (xs:=jJ d.rules)) ?_;refine go ?_;exact gQ v2 trivial
def qg(c:jo):Prop:=
 (c.type=2/\0<=c.lo/\c.lo<=c.hi/\c.hi<=65536)\/(c.type=1/\c.family=0/\c.lo=0/\c.hi=0)\/
   (c.type=3/\((1<=c.family/\c.family<=3)\/8<=c.family)/\c.lo=0/\c.hi=0)
instance (c:jo):Decidable (qg c):=by unfold qg;infer_instance
def aji{c:jo}:dL prog 235 [.agg ⟨K4 c⟩] [] (.bool (decide (qg c))):=by
 refine gB 235 λB w0=>?_;refine go ?_;intro b1;iterate 9 (all_goals (first
  |(refine fE () (hv:=?_) (hp:=trivial);first
   |exact congrArg Value.bool (pJ.2 wx)
   |exact congrArg Value.bool (aY wx).symm
   |exact congrArg Value.bool (eB wx).symm)
  |(refine go ?_;first
   |with_reducible refine p9 (λ_=>?_) (λ_=>?_)
   |with_reducible refine oD (λ_=>?_) (λ_=>?_)
   |refine jC rfl ?_ ?_<;>intro _
   |skip)))
noncomputable def Qo:=oQ prog 234
def XL:lD prog 234=some Qo:=tv
abbrev qh:ByteArray:={data:={toList:=[]}}
structure wM(x:Cf)(cs:List jo)(r:bE):Prop where
 known:x.known=true
 on:(x.on=true↔r.on≠qh)
 set:(x.set=true↔r.set≠0)
 other:(x.other=true↔r.other≠0)
 jq:x.on=true\/r.family=0
 names:x.set=true\/r.names=[]
 others:x.other=true\/r.others=[]
 op:(x.op=true↔1<=r.op/\r.op<=3)
 op0:x.op=true\/r.op=0
 n:0<=r.n/\r.n<=65536
 cnt:x.free=true\/(x.op=true/\r.dB=qh)\/r.n=0
 XM:∀need:Int,need=(if x.op=true/\r.dB≠qh then 2 else x.aX)->(need=0/\r.dB=qh/\r.aX= -1)\/(need≠0/\0<=r.aX/\r.aX<cs.length/\∃c,cs[r.aX.toNat]? =some c/\c.type=need/\(need=1\/c.family=r.family))
abbrev tZ(d:bG)(r:bE)(vh vs vr vc vu v1 v2:ah):Prop:=fC prog 234 [.agg ⟨gW d vh vs vr vc vu⟩,.agg ⟨kL r v1 v2⟩] [aj bV vc d.aR,aj aV v1 r.names,aj aV v2 r.others] (λb:Bool=>.bool b) (λb=>b=true↔wM (gy r.kind) d.aR r)
def uf{p:Prop}(h:p:=by
 refine jH Qo XL λB w0=>?_;refine gF bV vc d.aR λac cc ec=>?_;subst ec;refine gF aV v1 r.names λa1 c1 e1=>?_;subst e1;refine gF aV v2 r.others λa2 c2 e2=>?_;subst e2;refine go ?_;intro b2 b3;refine gC (Qn (k:=r.kind)) λ_ _=>?_;rw[hx];clear hx;dsimp only[Qm];refine go ?_;intro b5;iterate 18 (all_goals (first
  |(refine fE _ (hv:=?hv) (hp:=?hp);focus (exact rfl))
  |(refine go ?_;first
   |with_reducible refine p9 (λ_=>?_) (λ_=>?_)
   |with_reducible refine oD (λ_=>?_) (λ_=>?_)
   |with_reducible refine mQ (λ_=>?_) (λ_=>?_)
   |refine jC rfl ?_ ?_<;>intro _
   |refine jS rfl (λ_=>?_) (λ_=>?_)
   |skip)))
 all_goals (try simp only[ed]at *)
 all_goals (first
  |(exfalso;simp_all;done)
  |(refine fE false (hv:=tw) (hp:=⟨(λh=>by cases h),λh=>?_⟩)
    exfalso
    obtain⟨q1,q2,q3,q4,q5,q6,q7,q8,q9,Cg,Ch,lM⟩:=h;have lM:=lM _ rfl;first
     |(rcases lM with⟨_,_,w1⟩|⟨_,w2,w3,_⟩<;>omega)
     |(simp_all<;>omega))
  |(refine fE (decide (r.aX= -1)) (hv:=tw) (hp:=⟨λh=>?_,λh=>?_⟩)
    .have h:=gT h;refine⟨rfl,?_,?_,?_,?_,?_,?_,?_,?_,?_,?_,λneed hn=>.inl ⟨?_,?_,h⟩⟩<;>simp_all<;>omega
    .obtain⟨q1,q2,q3,q4,q5,q6,q7,q8,q9,Cg,Ch,lM⟩:=h;have lM:=lM _ rfl
     simp_all)
  |skip)
 all_goals (
  obtain⟨ci,hci⟩:=iO (show 0<=r.aX by omega);have hcl:ci<d.aR.length:=tr
  rw[hci])
 all_goals (refine OE bV (xs:=d.aR) (next:=λ_ _ c (_:Unit) hcc=>?_))
 all_goals (have hct:d.aR[r.aX.toNat]? =some c:=by rw[hci];exact hcc)
 all_goals (refine go ?_;intro b8)
 iterate 4 (all_goals (first
  |(refine fE _ (hv:=?hv) (hp:=?hp);focus (exact rfl))
  |(refine go ?_;first
   |with_reducible refine p9 (λ_=>?_) (λ_=>?_)
   |with_reducible refine oD (λ_=>?_) (λ_=>?_)
   |with_reducible refine mQ (λ_=>?_) (λ_=>?_)
   |refine jC rfl ?_ ?_<;>intro _
   |refine jS rfl (λ_=>?_) (λ_=>?_)
   |skip)))
 all_goals (first
  |(refine fE false (hv:=tw) (hp:=⟨(λh=>by cases h),λh=>?_⟩)
    exfalso
    obtain⟨q1,q2,q3,q4,q5,q6,q7,q8,q9,Cg,Ch,lM⟩:=h;have lM:=lM _ rfl;rcases lM with lM|⟨_,_,_,c',p1,p2,p3⟩
    .simp_all
    .rw[hct]at p1;cases p1
     simp_all)
  |(refine fE (decide (c.family=r.family)) (hv:=tw) (hp:=⟨λh=>?_,λh=>?_⟩)
    .have h:=gT h;refine⟨rfl,?_,?_,?_,?_,?_,?_,?_,?_,?_,?_,λneed hn=>.inr ⟨?_,tr,tr,c,hct,?_,.inr h⟩⟩<;>simp_all<;>omega
    .obtain⟨q1,q2,q3,q4,q5,q6,q7,q8,q9,Cg,Ch,lM⟩:=h;have lM:=lM _ rfl;rcases lM with lM|⟨_,_,_,c',p1,p2,p3⟩
     .simp_all
     .rw[hct]at p1;cases p1
      simp_all)
  |(refine fE true (hv:=tw) (hp:=⟨λ_=>?_,λ_=>rfl⟩)
    refine⟨rfl,?_,?_,?_,?_,?_,?_,?_,?_,?_,?_,λneed hn=>.inr ⟨?_,tr,tr,c,hct,?_,.inl ?_⟩⟩<;>simp_all<;>omega))):p:=h
def ajj(hc:d.aR.length<=4096)(hn1:r.names.length<2^63)(hn2:r.others.length<2^63)(hk:r.kind=1):tZ d r vh vs vr vc vu v1 v2:=by
 exact nh
def ajk(hc:d.aR.length<=4096)(hn1:r.names.length<2^63)(hn2:r.others.length<2^63)(hk:r.kind=2):tZ d r vh vs vr vc vu v1 v2:=by
 have hx:gy r.kind=⟨true,true,false,true,false,true,true,0⟩:=ua
 clear hk;exact uf
def ajl(hc:d.aR.length<=4096)(hn1:r.names.length<2^63)(hn2:r.others.length<2^63)(hk:r.kind=3):tZ d r vh vs vr vc vu v1 v2:=by
 have hx:gy r.kind=⟨true,false,false,true,false,true,true,0⟩:=ua
 clear hk;exact uf
def ajm(hc:d.aR.length<=4096)(hn1:r.names.length<2^63)(hn2:r.others.length<2^63)(hk:r.kind=4):tZ d r vh vs vr vc vu v1 v2:=by
 exact nh
