/- Part. -/
import Derived.Test.YtignbinlipkmfaaGreatDoorLibDR
set_option linter.all false
set_option maxRecDepth 10000
set_option maxHeartbeats 4000000
namespace Go.Proofs.YtignbinlipkmfaaGreatDoor
open Tryz (prog)
open Go.Ideal Kd
structure EJ where
 on:Bool
 set:Bool
 other:Bool
 op:Bool
 free:Bool
 read:Bool
 known:Bool
 aS:Int
def Ve(x:EJ):ae ah:=[.bool x.on,.bool x.set,.bool x.other,.bool x.op,.bool x.free,.bool x.read,.bool x.known,iV x.aS]
def fK(k:Int):EJ:=
 if k=1 then⟨true,false,false,false,false,true,true,0⟩
 else if k=2 then⟨true,true,false,true,false,true,true,0⟩
 else if k=3 then⟨true,false,false,true,false,true,true,0⟩
 else if k=4 then⟨true,false,false,false,false,true,true,0⟩
 else if k=5 then⟨true,true,false,false,false,true,true,3⟩
 else if k=6 then⟨false,false,false,false,false,true,true,0⟩
 else if k=7 then⟨false,false,false,false,true,true,true,0⟩
 else if k=8 then⟨false,true,true,false,false,true,true,0⟩
 else if k=9 then⟨false,true,false,false,false,true,true,0⟩
 else if k=10 then⟨false,true,false,false,false,true,true,0⟩
 else if k=11 then⟨false,false,false,false,false,true,true,1⟩
 else if k=12 then⟨true,false,false,false,false,false,true,0⟩
 else if k=13 then⟨false,false,false,true,false,false,true,0⟩
 else⟨false,false,false,false,false,false,false,0⟩
def uJ{b:Bool}{e:Int}:dF prog 163 [.bool b,iV e] [] (iV (cond b 0 e)):=by
 refine gB 163 λB w0=>?_;cases b with
 |true=>
  exact fQ
 |false=>
  exact fQ
variable{k:Int}
def G6(h:k<0\/14<=k):fK k=⟨false,false,false,false,false,false,false,0⟩:=by
 unfold fK;rw[if_neg tf,if_neg tf,if_neg tf,if_neg tf,if_neg tf,if_neg tf,if_neg tf,if_neg tf,if_neg tf,if_neg tf,if_neg tf,if_neg tf,if_neg tf]
def Vf:dF prog 282 [iV k] [] (.agg ⟨Ve (fK k)⟩):=by
 by_cases hk:0<=k/\k<14
 .have hc:k=0\/k=1\/k=2\/k=3\/k=4\/k=5\/k=6\/k=7\/k=8\/k=9\/k=10\/k=11\/k=12\/k=13:=by omega
  clear hk;rcases hc with rfl|rfl|rfl|rfl|rfl|rfl|rfl|rfl|rfl|rfl|rfl|rfl|rfl|rfl<;>
  (refine gB 282 λB w0=>?_
   refine go ?_;intro b2 b3;exact fQ)
 refine gB 282 λB w0=>?_;refine go ?_;intro b2 b3;refine gH ?_ ?_<;>intro h1
 rotate_left
 .refine aP ?_;rw[G6 (.inl h1)];rfl
 refine aC ?_ ?_<;>intro h2
 .refine aP ?_;rw[G6 (.inr tf)];rfl
 omega
variable{r:bE}{v1 v2:ah}
def aoD:dF prog 236 [.agg ⟨mg r v1 v2⟩] [] (.bool (fK r.kind).read):=by
 refine gB 236 λB w0=>?_;refine go ?_;intro b1;refine gC (Vf (k:=r.kind)) λ_ _=>?_;exact fQ
def jI(rs:ae bE):ae Int:=rs.zipIdx.filterMap λp=>if(fK p.1.kind).read then none else some (p.2:Int)
def abX{rs:ae bE}{k:Nat}(h:rs[k]? =some r):jI (rs.take (k+1))=jI (rs.take k)++if(fK r.kind).read then[]else[(k:Int)]:=by
 have hk:=(bJ.1 h).1;unfold jI;rw[bU h,WC,Q7,gM,MX tf];congr 1;rw[List.zipIdx_cons,List.zipIdx_nil,gI];cases h2:(fK r.kind).read<;>simp[h2]
def aoE(rs:ae bE):(jI rs).length<=rs.length:=by
 unfold jI;refine lV (WG _ _) ?_;simp
variable{vh vs vr vc vu:ah}{d:bK}
def aoF(hl:d.rules.length<=4096):
 bG prog (.func 172) [.agg ⟨iD d vh vs vr vc vu⟩] [] [] [aj bi vu d.rules] (λv:ah=>v) (λ_=>[]) (λv=>[aj ai v (jI d.rules)]) (λ_=>True):=by
 refine gB 172 λB w0=>?_;refine gF bi vu d.rules λau cu eu=>?_;subst eu;refine go ?_;intro b1;refine gP b1 ?_;refine go ?_;refine gK ai ?_;refine di (λy:Nat×ah=>d.rules.length - y.1) (λy=>[(8,iV (y.1:Int)),(2,y.2)]) (λy=>[ap ai y.2 (jI (d.rules.take y.1))]) (λ_=>[]) (λy=>y.1<=d.rules.length) (0,.slice none 0 0) (bH _) (hk:=tj) (body:=?_);rintro⟨k,v2⟩ hk;dsimp only at hk⊢;have hkl:=aoE (d.rules.take k);rw[gM]at hkl;refine aC ?_ ?_<;>intro h1
 .refine gX bi (xs:=d.rules) λ_ _ r (vv:ah×ah) hr=>?_;have hu:=abX hr;refine go ?_;intro b4;refine gC (aoD (r:=r) (v1:=vv.1) (v2:=vv.2)) λ_ _=>?_;generalize(fK r.kind).read=rd at hu⊢;cases rd with
  |true=>
   have hu2:jI (d.rules.take (k+1))=jI (d.rules.take k):=by rw[hu];simp
   rw[<- hu2];refine go ?_;exact aO (k+1,v2) wj tE
  |false=>
   refine go ?_;intro b18;refine go ?_;refine fJ (xs:=jI (d.rules.take k)) ai (k:Int) () tf (next:=λad=>?_);have hu2:jI (d.rules.take (k+1))=jI (d.rules.take k)++[(k:Int)]:=by rw[hu];simp
   rw[<- hu2];refine go ?_;exact aO (k+1,.slice ad ((jI (d.rules.take k)).length+1) ((jI (d.rules.take k)).length+1)) wj tE
 have hke:k=d.rules.length:=tf
 subst hke;rw[bP];refine gZ (gD (E:=ai) (v:=v2) (xs:=jI d.rules)) ?_;refine go ?_;exact gQ v2 trivial
def qG(c:iT):Prop:=
 (c.type=2/\0<=c.lo/\c.lo<=c.hi/\c.hi<=65536)\/(c.type=1/\c.family=0/\c.lo=0/\c.hi=0)\/
   (c.type=3/\((1<=c.family/\c.family<=3)\/8<=c.family)/\c.lo=0/\c.hi=0)
instance (c:iT):Decidable (qG c):=by unfold qG;infer_instance
def aoG{c:iT}:dF prog 235 [.agg ⟨Py c⟩] [] (.bool (decide (qG c))):=by
 refine gB 235 λB w0=>?_;refine go ?_;intro b1;iterate 9 (all_goals (first
  |(refine fu () (hv:=?_) (hp:=trivial);first
   |exact congrArg Value.bool (qx.2 wk)
   |exact congrArg Value.bool (aW wk).symm
   |exact congrArg Value.bool (dQ wk).symm)
  |(refine go ?_;first
   |with_reducible refine qW (λ_=>?_) (λ_=>?_)
   |with_reducible refine ql (λ_=>?_) (λ_=>?_)
   |refine kW rfl ?_ ?_<;>intro _
   |skip)))
noncomputable def Vg:=qd prog 234
def abY:lF prog 234=some Vg:=th
abbrev qm:ByteArray:={data:={toList:=[]}}
structure yJ(x:EJ)(cs:List iT)(r:bE):Prop where
 known:x.known=true
 on:(x.on=true↔r.on≠qm)
 set:(x.set=true↔r.set≠0)
 other:(x.other=true↔r.other≠0)
 jL:x.on=true\/r.family=0
 names:x.set=true\/r.names=[]
 others:x.other=true\/r.others=[]
 op:(x.op=true↔1<=r.op/\r.op<=3)
 op0:x.op=true\/r.op=0
 n:0<=r.n/\r.n<=65536
 cnt:x.free=true\/(x.op=true/\r.dm=qm)\/r.n=0
 Vh:∀need:Int,need=(if x.op=true/\r.dm≠qm then 2 else x.aS)->(need=0/\r.dm=qm/\r.aS= -1)\/(need≠0/\0<=r.aS/\r.aS<cs.length/\∃c,cs[r.aS.toNat]? =some c/\c.type=need/\(need=1\/c.family=r.family))
abbrev vN(d:bK)(r:bE)(vh vs vr vc vu v1 v2:ah):Prop:=fC prog 234 [.agg ⟨iD d vh vs vr vc vu⟩,.agg ⟨mg r v1 v2⟩] [aj bZ vc d.aQ,aj aX v1 r.names,aj aX v2 r.others] (λb:Bool=>.bool b) (λb=>b=true↔yJ (fK r.kind) d.aQ r)
def vO{p:Prop}(h:p:=by
 refine jD Vg abY λB w0=>?_;refine gF bZ vc d.aQ λac cc ec=>?_;subst ec;refine gF aX v1 r.names λa1 c1 e1=>?_;subst e1;refine gF aX v2 r.others λa2 c2 e2=>?_;subst e2;refine go ?_;intro b2 b3;refine gC (Vf (k:=r.kind)) λ_ _=>?_;rw[hx];clear hx;dsimp only[Ve];refine go ?_;intro b5;iterate 18 (all_goals (first
  |(refine fu _ (hv:=?hv) (hp:=?hp);focus (exact rfl))
  |(refine go ?_;first
   |with_reducible refine qW (λ_=>?_) (λ_=>?_)
   |with_reducible refine ql (λ_=>?_) (λ_=>?_)
   |with_reducible refine nW (λ_=>?_) (λ_=>?_)
   |refine kW rfl ?_ ?_<;>intro _
   |refine kX rfl (λ_=>?_) (λ_=>?_)
   |skip)))
 all_goals (try simp only[eZ]at *)
 all_goals (first
  |(exfalso;simp_all;done)
  |(refine fu false (hv:=tn) (hp:=⟨(λh=>by cases h),λh=>?_⟩)
    exfalso
    obtain⟨q1,q2,q3,q4,q5,q6,q7,q8,q9,EK,EL,mq⟩:=h;have mq:=mq _ rfl;first
     |(rcases mq with⟨_,_,w1⟩|⟨_,w2,w3,_⟩<;>omega)
     |(simp_all<;>omega))
  |(refine fu (decide (r.aS= -1)) (hv:=tn) (hp:=⟨λh=>?_,λh=>?_⟩)
    .have h:=iN h;refine⟨rfl,?_,?_,?_,?_,?_,?_,?_,?_,?_,?_,λneed hn=>.inl ⟨?_,?_,h⟩⟩<;>simp_all<;>omega
    .obtain⟨q1,q2,q3,q4,q5,q6,q7,q8,q9,EK,EL,mq⟩:=h;have mq:=mq _ rfl
     simp_all)
  |skip)
 all_goals (
  obtain⟨ci,hci⟩:=jK (show 0<=r.aS by omega);have hcl:ci<d.aQ.length:=tf
  rw[hci])
 all_goals (refine Td bZ (xs:=d.aQ) (next:=λ_ _ c (_:Unit) hcc=>?_))
 all_goals (have hct:d.aQ[r.aS.toNat]? =some c:=by rw[hci];exact hcc)
 all_goals (refine go ?_;intro b8)
 iterate 4 (all_goals (first
  |(refine fu _ (hv:=?hv) (hp:=?hp);focus (exact rfl))
  |(refine go ?_;first
   |with_reducible refine qW (λ_=>?_) (λ_=>?_)
   |with_reducible refine ql (λ_=>?_) (λ_=>?_)
   |with_reducible refine nW (λ_=>?_) (λ_=>?_)
   |refine kW rfl ?_ ?_<;>intro _
   |refine kX rfl (λ_=>?_) (λ_=>?_)
   |skip)))
 all_goals (first
  |(refine fu false (hv:=tn) (hp:=⟨(λh=>by cases h),λh=>?_⟩)
    exfalso
    obtain⟨q1,q2,q3,q4,q5,q6,q7,q8,q9,EK,EL,mq⟩:=h;have mq:=mq _ rfl;rcases mq with mq|⟨_,_,_,c',p1,p2,p3⟩
    .simp_all
    .rw[hct]at p1;cases p1
     simp_all)
  |(refine fu (decide (c.family=r.family)) (hv:=tn) (hp:=⟨λh=>?_,λh=>?_⟩)
    .have h:=iN h;refine⟨rfl,?_,?_,?_,?_,?_,?_,?_,?_,?_,?_,λneed hn=>.inr ⟨?_,tf,tf,c,hct,?_,.inr h⟩⟩<;>simp_all<;>omega
    .obtain⟨q1,q2,q3,q4,q5,q6,q7,q8,q9,EK,EL,mq⟩:=h;have mq:=mq _ rfl;rcases mq with mq|⟨_,_,_,c',p1,p2,p3⟩
     .simp_all
     .rw[hct]at p1;cases p1
      simp_all)
  |(refine fu true (hv:=tn) (hp:=⟨λ_=>?_,λ_=>rfl⟩)
    refine⟨rfl,?_,?_,?_,?_,?_,?_,?_,?_,?_,?_,λneed hn=>.inr ⟨?_,tf,tf,c,hct,?_,.inl ?_⟩⟩<;>simp_all<;>omega))):p:=h
def aoH(hc:d.aQ.length<=4096)(hn1:r.names.length<2^63)(hn2:r.others.length<2^63)(hk:r.kind=1):vN d r vh vs vr vc vu v1 v2:=by
 exact nv
def aoI(hc:d.aQ.length<=4096)(hn1:r.names.length<2^63)(hn2:r.others.length<2^63)(hk:r.kind=2):vN d r vh vs vr vc vu v1 v2:=by
 have hx:fK r.kind=⟨true,true,false,true,false,true,true,0⟩:=tP
 clear hk;exact vO
def aoJ(hc:d.aQ.length<=4096)(hn1:r.names.length<2^63)(hn2:r.others.length<2^63)(hk:r.kind=3):vN d r vh vs vr vc vu v1 v2:=by
 have hx:fK r.kind=⟨true,false,false,true,false,true,true,0⟩:=tP
 clear hk;exact vO
def aoK(hc:d.aQ.length<=4096)(hn1:r.names.length<2^63)(hn2:r.others.length<2^63)(hk:r.kind=4):vN d r vh vs vr vc vu v1 v2:=by
 exact nv
