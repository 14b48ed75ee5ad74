/-
  Part LibXW.
-/
import Derived.Test.YtfakljdleblkoaaGreatLibEW
set_option linter.all false
set_option maxRecDepth 10000
set_option maxHeartbeats 4000000
namespace Go.Proofs.YtfakljdleblkoaaGreat
open Go.Ideal Kd
structure Aw where
 on:Bool
 set:Bool
 other:Bool
 op:Bool
 free:Bool
 read:Bool
 known:Bool
 aQ:Int
def NK(x:Aw):List Value:=[.bool x.on,.bool x.set,.bool x.other,.bool x.op,.bool x.free,.bool x.read,.bool x.known,.int .i64 x.aQ]
def fH(k:Int):Aw:=
 if k=1 then⟨true,false,false,false,false,true,true,0⟩
 else if k=2 then⟨true,true,false,true,false,true,true,0⟩
 else if k=3 then⟨true,false,false,true,false,true,true,0⟩
 else if k=4 then⟨true,false,false,false,false,true,true,0⟩
 else if k=5 then⟨true,true,false,false,false,true,true,3⟩
 else if k=6 then⟨false,false,false,false,false,true,true,0⟩
 else if k=7 then⟨false,false,false,false,true,true,true,0⟩
 else if k=8 then⟨false,true,true,false,false,true,true,0⟩
 else if k=9 then⟨false,true,false,false,false,true,true,0⟩
 else if k=10 then⟨false,true,false,false,false,true,true,0⟩
 else if k=11 then⟨false,false,false,false,false,true,true,1⟩
 else if k=12 then⟨true,false,false,false,false,false,true,0⟩
 else if k=13 then⟨false,false,false,true,false,false,true,0⟩
 else⟨false,false,false,false,false,false,false,0⟩
theorem qD{b:Bool}{e:Int}:dL Tryz.prog 248 [.bool b,.int .i64 e] [] (.int .i64 (cond b 0 e)):=by
 refine aH _ (aN 248) λB w0=>?_;cases b with
 |true=>
  exact de
 |false=>
  exact de
variable{k:Int}
theorem Cx(h:k<0\/14<=k):fH k=⟨false,false,false,false,false,false,false,0⟩:=by
 unfold fH;rw[if_neg vj,if_neg vj,if_neg vj,if_neg vj,if_neg vj,if_neg vj,if_neg vj,if_neg vj,if_neg vj,if_neg vj,if_neg vj,if_neg vj,if_neg vj]
theorem NL:dL Tryz.prog 318 [.int .i64 k] [] (.agg ⟨NK (fH k)⟩):=by
 by_cases hk:0<=k/\k<14
 ·have hc:k=0\/k=1\/k=2\/k=3\/k=4\/k=5\/k=6\/k=7\/k=8\/k=9\/k=10\/k=11\/k=12\/k=13:=by omega
  clear hk;rcases hc with rfl|rfl|rfl|rfl|rfl|rfl|rfl|rfl|rfl|rfl|rfl|rfl|rfl|rfl<;>
  (refine aH _ (aN 318) λB w0=>?_
   refine go ?_;intro b2 b3;refine go ?_;exact ah () (hv:=rfl) (hp:=trivial))
 refine aH _ (aN 318) λB w0=>?_;refine go ?_;intro b2 b3;refine go ?_;refine gG (λh1=>?_) (λh1=>?_)
 rotate_left
 ·refine go ?_;refine ah () (hv:=?_) (hp:=trivial);rw[Cx (.inl h1)];rfl
 refine go ?_;refine az rfl (λh2=>?_) (λh2=>?_)
 ·refine go ?_;refine ah () (hv:=?_) (hp:=trivial);rw[Cx (.inr vj)];rfl
 omega
variable{r:bA}{v1 v2:Value}
theorem afp:dL Tryz.prog 300 [.agg ⟨jI r v1 v2⟩] [] (.bool (fH r.kind).read):=by
 refine aH _ (aN 300) λB w0=>?_;refine go ?_;intro b1;refine go ?_;refine ax (NL (k:=r.kind)) (next:=λ_ _=>?_);refine go ?_;exact ah () (hv:=rfl) (hp:=trivial)
def jb(rs:List bA):List Int:=rs.zipIdx.filterMap λp=>if(fH p.1.kind).read then none else some (p.2:Int)
theorem UZ{rs:List bA}{k:Nat}(h:rs[k]? =some r):jb (rs.take (k+1))=jb (rs.take k)++if(fH r.kind).read then[]else[(k:Int)]:=by
 have hk:=(bC.1 h).1;unfold jb;rw[bU h,OW,List.filterMap_append,ig,ahv vj];congr 1;rw[List.zipIdx_cons,List.zipIdx_nil,fC];cases h2:(fH r.kind).read<;>simp[h2]
theorem afq(rs:List bA):(jb rs).length<=rs.length:=by
 unfold jb;refine oW (List.length_filterMap_le _ _) ?_;simp
variable{vh vs vr vc vu:Value}{d:bE}
theorem afr(hl:d.rules.length<=4096):
 aU Tryz.prog (.func 257) [.agg ⟨gu d vh vs vr vc vu⟩] [] [] [ai aY vu d.rules] (λv:Value=>v) (λ_=>[]) (λv=>[ai ae v (jb d.rules)]) (λ_=>True):=by
 refine aH _ (aN 257) λB w0=>?_;refine aT (E:=aY) (v:=vu) (xs:=d.rules) vm λau cu eu=>?_;subst eu;refine go ?_;intro b1;refine bi (dR (b:=b1)) (h:=?_);refine go ?_;refine gH ae ?_;refine aW (λy:Nat×Value=>d.rules.length - y.1) (λy=>[(8,.int .i64 (y.1:Int)),(2,y.2)]) (λy=>[ap ae y.2 (jb (d.rules.take y.1))]) (λ_=>[]) (λy=>y.1<=d.rules.length) (0,.slice none 0 0) (bQ _) (hk:=we) (body:=?_);rintro⟨k,v2⟩ hk;dsimp only at hk⊢;have hkl:=afq (d.rules.take k);rw[ig]at hkl;refine go ?_;refine az rfl (λh1=>?_) (λh1=>?_)
 ·refine go ?_;refine bq aY (xs:=d.rules) (next:=λ_ _ r (vv:Value×Value) hr=>?_);have hu:=UZ hr;refine go ?_;intro b4;refine go ?_;refine ax (afp (r:=r) (v1:=vv.1) (v2:=vv.2)) (next:=λ_ _=>?_);generalize(fH r.kind).read=rd at hu⊢;cases rd with
  |true=>
   have hu2:jb (d.rules.take (k+1))=jb (d.rules.take k):=by rw[hu];simp
   rw[<- hu2];refine go ?_;exact aM (k+1,v2) z6 wA
  |false=>
   refine go ?_;intro b18;refine go ?_;refine fw (xs:=jb (d.rules.take k)) ae (k:Int) () vj (next:=λad=>?_);have hu2:jb (d.rules.take (k+1))=jb (d.rules.take k)++[(k:Int)]:=by rw[hu];simp
   rw[<- hu2];refine go ?_;exact aM (k+1,.slice ad ((jb (d.rules.take k)).length+1) ((jb (d.rules.take k)).length+1)) z6 wA
 have hke:k=d.rules.length:=vj
 subst hke;rw[bJ];refine bi (fQ (E:=ae) (v:=v2) (xs:=jb d.rules)) (h:=?_);refine go ?_;exact ah v2 (hv:=rfl) (hp:=trivial)
def ow(c:iJ):Prop:=
 (c.type=2/\0<=c.lo/\c.lo<=c.hi/\c.hi<=65536)\/(c.type=1/\c.family=0/\c.lo=0/\c.hi=0)\/
   (c.type=3/\((1<=c.family/\c.family<=3)\/8<=c.family)/\c.lo=0/\c.hi=0)
instance (c:iJ):Decidable (ow c):=by unfold ow;infer_instance
theorem afs{c:iJ}:dL Tryz.prog 299 [.agg ⟨Jf c⟩] [] (.bool (decide (ow c))):=by
 refine aH _ (aN 299) λB w0=>?_;refine go ?_;intro b1;iterate 9 (all_goals (first
  |(refine ah () (hv:=?_) (hp:=trivial);first
   |exact congrArg Value.bool (nS.2 z7)
   |exact congrArg Value.bool (aS z7).symm
   |exact congrArg Value.bool (eY z7).symm)
  |(refine go ?_;first
   |with_reducible refine og (λ_=>?_) (λ_=>?_)
   |with_reducible refine nu (λ_=>?_) (λ_=>?_)
   |refine az rfl (λ_=>?_) (λ_=>?_)
   |skip)))
noncomputable def NM:=qj Tryz.prog 298
theorem U0:kU Tryz.prog 298=some NM:=vA
abbrev oz:ByteArray:={data:={toList:=[]}}
structure uJ(x:Aw)(cs:List iJ)(r:bA):Prop where
 known:x.known=true
 on:(x.on=true↔r.on≠oz)
 set:(x.set=true↔r.set≠0)
 other:(x.other=true↔r.other≠0)
 iK:x.on=true\/r.family=0
 names:x.set=true\/r.names=[]
 others:x.other=true\/r.others=[]
 op:(x.op=true↔1<=r.op/\r.op<=3)
 op0:x.op=true\/r.op=0
 n:0<=r.n/\r.n<=65536
 cnt:x.free=true\/(x.op=true/\r.dm=oz)\/r.n=0
 U4:∀need:Int,need=(if x.op=true/\r.dm≠oz then 2 else x.aQ)->(need=0/\r.dm=oz/\r.aQ= -1)\/(need≠0/\0<=r.aQ/\r.aQ<cs.length/\∃c,cs[r.aQ.toNat]? =some c/\c.type=need/\(need=1\/c.family=r.family))
abbrev rM(d:bE)(r:bA)(vh vs vr vc vu v1 v2:Value):Prop:=aU Tryz.prog (.func 298) [.agg ⟨gu d vh vs vr vc vu⟩,.agg ⟨jI r v1 v2⟩] [] [] [ai bP vc d.aJ,ai bD v1 r.names,ai bD v2 r.others] (λb:Bool=>.bool b) (λ_=>[]) (λ_=>[]) (λb=>b=true↔uJ (fH r.kind) d.aJ r)
theorem rO{p:Prop}(h:p:=by
 refine aH NM U0 λB w0=>?_;refine aT (E:=bP) (v:=vc) (xs:=d.aJ) vm λac cc ec=>?_;subst ec;refine aT (E:=bD) (v:=v1) (xs:=r.names) vm λa1 c1 e1=>?_;subst e1;refine aT (E:=bD) (v:=v2) (xs:=r.others) vm λa2 c2 e2=>?_;subst e2;refine go ?_;intro b2 b3;refine go ?_;refine ax (NL (k:=r.kind)) (next:=λ_ _=>?_);rw[hx];clear hx;dsimp only[NK];refine go ?_;intro b5;iterate 18 (all_goals (first
  |(refine ah _ (hv:=?hv) (hp:=?hp);focus (exact rfl))
  |(refine go ?_;first
   |with_reducible refine og (λ_=>?_) (λ_=>?_)
   |with_reducible refine nu (λ_=>?_) (λ_=>?_)
   |with_reducible refine lH (λ_=>?_) (λ_=>?_)
   |refine az rfl (λ_=>?_) (λ_=>?_)
   |refine jh rfl (λ_=>?_) (λ_=>?_)
   |skip)))
 all_goals (try simp only[dY]at *)
 all_goals (first
  |(exfalso;simp_all;done)
  |(refine ah false (hv:=wg) (hp:=⟨(λh=>by cases h),λh=>?_⟩)
    exfalso
    obtain⟨q1,q2,q3,q4,q5,q6,q7,q8,q9,Ay,Az,ko⟩:=h;have ko:=ko _ rfl;first
     |(rcases ko with⟨_,_,w1⟩|⟨_,w2,w3,_⟩<;>omega)
     |(simp_all<;>omega))
  |(refine ah (decide (r.aQ= -1)) (hv:=wg) (hp:=⟨λh=>?_,λh=>?_⟩)
    ·have h:=gQ h;refine⟨rfl,?_,?_,?_,?_,?_,?_,?_,?_,?_,?_,λneed hn=>.inl ⟨?_,?_,h⟩⟩<;>simp_all<;>omega
    ·obtain⟨q1,q2,q3,q4,q5,q6,q7,q8,q9,Ay,Az,ko⟩:=h;have ko:=ko _ rfl
     simp_all)
  |skip)
 all_goals (
  obtain⟨ci,hci⟩:=iO (show 0<=r.aQ by omega);have hcl:ci<d.aJ.length:=vj
  rw[hci])
 all_goals (refine bq bP (xs:=d.aJ) (next:=λ_ _ c (_:Unit) hcc=>?_))
 all_goals (have hct:d.aJ[r.aQ.toNat]? =some c:=by rw[hci];exact hcc)
 all_goals (refine go ?_;intro b8)
 iterate 4 (all_goals (first
  |(refine ah _ (hv:=?hv) (hp:=?hp);focus (exact rfl))
  |(refine go ?_;first
   |with_reducible refine og (λ_=>?_) (λ_=>?_)
   |with_reducible refine nu (λ_=>?_) (λ_=>?_)
   |with_reducible refine lH (λ_=>?_) (λ_=>?_)
   |refine az rfl (λ_=>?_) (λ_=>?_)
   |refine jh rfl (λ_=>?_) (λ_=>?_)
   |skip)))
 all_goals (first
  |(refine ah false (hv:=wg) (hp:=⟨(λh=>by cases h),λh=>?_⟩)
    exfalso
    obtain⟨q1,q2,q3,q4,q5,q6,q7,q8,q9,Ay,Az,ko⟩:=h;have ko:=ko _ rfl;rcases ko with ko|⟨_,_,_,c',p1,p2,p3⟩
    ·simp_all
    ·rw[hct]at p1;cases p1
     simp_all)
  |(refine ah (decide (c.family=r.family)) (hv:=wg) (hp:=⟨λh=>?_,λh=>?_⟩)
    ·have h:=gQ h;refine⟨rfl,?_,?_,?_,?_,?_,?_,?_,?_,?_,?_,λneed hn=>.inr ⟨?_,vj,vj,c,hct,?_,.inr h⟩⟩<;>simp_all<;>omega
    ·obtain⟨q1,q2,q3,q4,q5,q6,q7,q8,q9,Ay,Az,ko⟩:=h;have ko:=ko _ rfl;rcases ko with ko|⟨_,_,_,c',p1,p2,p3⟩
     ·simp_all
     ·rw[hct]at p1;cases p1
      simp_all)
  |(refine ah true (hv:=wg) (hp:=⟨λ_=>?_,λ_=>rfl⟩)
    refine⟨rfl,?_,?_,?_,?_,?_,?_,?_,?_,?_,?_,λneed hn=>.inr ⟨?_,vj,vj,c,hct,?_,.inl ?_⟩⟩<;>simp_all<;>omega))):p:=h
theorem aft(hc:d.aJ.length<=4096)(hn1:r.names.length<9223372036854775808)(hn2:r.others.length<9223372036854775808)(hk:r.kind=1):rM d r vh vs vr vc vu v1 v2:=by
 exact pZ
theorem afu(hc:d.aJ.length<=4096)(hn1:r.names.length<9223372036854775808)(hn2:r.others.length<9223372036854775808)(hk:r.kind=2):rM d r vh vs vr vc vu v1 v2:=by
 have hx:fH r.kind=⟨true,true,false,true,false,true,true,0⟩:=xo
 clear hk;exact rO
theorem afv(hc:d.aJ.length<=4096)(hn1:r.names.length<9223372036854775808)(hn2:r.others.length<9223372036854775808)(hk:r.kind=3):rM d r vh vs vr vc vu v1 v2:=by
 have hx:fH r.kind=⟨true,false,false,true,false,true,true,0⟩:=xo
 clear hk;exact rO
theorem afw(hc:d.aJ.length<=4096)(hn1:r.names.length<9223372036854775808)(hn2:r.others.length<9223372036854775808)(hk:r.kind=4):rM d r vh vs vr vc vu v1 v2:=by
 exact pZ
