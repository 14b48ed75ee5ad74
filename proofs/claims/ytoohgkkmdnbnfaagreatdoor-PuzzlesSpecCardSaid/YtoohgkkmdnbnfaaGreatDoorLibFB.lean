/-
  Types of rules: shapes, what can be read.
-/
import Derived.Test.YtoohgkkmdnbnfaaGreatDoorLibEB
set_option linter.all false
set_option maxRecDepth 10000
set_option maxHeartbeats 4000000
namespace Go.Proofs.YtoohgkkmdnbnfaaGreatDoor
open Go.Ideal Kd
structure zb where
 on:Bool
 set:Bool
 other:Bool
 op:Bool
 free:Bool
 read:Bool
 known:Bool
 aQ:Int
def Lu(x:zb):List Value:=[.bool x.on,.bool x.set,.bool x.other,.bool x.op,.bool x.free,.bool x.read,.bool x.known,.int .i64 x.aQ]
def gz(k:Int):zb:=
 if k=1 then⟨true,false,false,false,false,true,true,0⟩
 else if k=2 then⟨true,true,false,true,false,true,true,0⟩
 else if k=3 then⟨true,false,false,true,false,true,true,0⟩
 else if k=4 then⟨true,false,false,false,false,true,true,0⟩
 else if k=5 then⟨true,true,false,false,false,true,true,3⟩
 else if k=6 then⟨false,false,false,false,false,true,true,0⟩
 else if k=7 then⟨false,false,false,false,true,true,true,0⟩
 else if k=8 then⟨false,true,true,false,false,true,true,0⟩
 else if k=9 then⟨false,true,false,false,false,true,true,0⟩
 else if k=10 then⟨false,true,false,false,false,true,true,0⟩
 else if k=11 then⟨false,false,false,false,false,true,true,1⟩
 else if k=12 then⟨true,false,false,false,false,false,true,0⟩
 else if k=13 then⟨false,false,false,true,false,false,true,0⟩
 else⟨false,false,false,false,false,false,false,0⟩
theorem oW{b:Bool}{e:Int}:bY Tryz.prog 218 [.bool b,.int .i64 e] [] (.int .i64 (cond b 0 e)):=by
 refine aG _ (aM 218) λB w0=>?_;cases b with
 |true=>
  refine go ?_;exact aa () (hv:=rfl) (hp:=trivial)
 |false=>
  refine go ?_;exact aa () (hv:=rfl) (hp:=trivial)
theorem Eg{k:Int}(h:k<0\/14<=k):gz k=⟨false,false,false,false,false,false,false,0⟩:=by
 unfold gz;rw[if_neg (by omega),if_neg (by omega),if_neg (by omega),if_neg (by omega),if_neg (by omega),if_neg (by omega),if_neg (by omega),if_neg (by omega),if_neg (by omega),if_neg (by omega),if_neg (by omega),if_neg (by omega),if_neg (by omega)]
theorem Lv{k:Int}:bY Tryz.prog 292 [.int .i64 k] [] (.agg ⟨Lu (gz k)⟩):=by
 by_cases hk:0<=k/\k<14
 ·have hc:k=0\/k=1\/k=2\/k=3\/k=4\/k=5\/k=6\/k=7\/k=8\/k=9\/k=10\/k=11\/k=12\/k=13:=by omega
  clear hk;rcases hc with rfl|rfl|rfl|rfl|rfl|rfl|rfl|rfl|rfl|rfl|rfl|rfl|rfl|rfl<;>
  (refine aG _ (aM 292) λB w0=>?_
   refine go ?_;intro b2 b3;refine go ?_;exact aa () (hv:=rfl) (hp:=trivial))
 refine aG _ (aM 292) λB w0=>?_;refine go ?_;intro b2 b3;refine go ?_;first|with_reducible refine aL (λh1=>?_) (λh1=>?_)|with_reducible refine aK (λh1=>?_) (λh1=>?_)|with_reducible refine aI (λh1=>?_) (λh1=>?_)
 rotate_left
 ·refine go ?_;refine aa () (hv:=?_) (hp:=trivial);rw[Eg (.inl h1)];rfl
 refine go ?_;refine az rfl (λh2=>?_) (λh2=>?_)
 ·refine go ?_;refine aa () (hv:=?_) (hp:=trivial);rw[Eg (.inr (by omega))];rfl
 omega
theorem acR{r:bM}{v1 v2:Value}:bY Tryz.prog 260 [.agg ⟨kF r v1 v2⟩] [] (.bool (gz r.kind).read):=by
 refine aG _ (aM 260) λB w0=>?_;refine go ?_;intro b1;refine go ?_;refine ak (Lv (k:=r.kind)) (next:=λ_ _=>?_);refine go ?_;exact aa () (hv:=rfl) (hp:=trivial)
def iW(rs:List bM):List Int:=rs.zipIdx.filterMap λp=>if(gz p.1.kind).read then none else some (p.2:Int)
theorem Sj{rs:List bM}{k:Nat}{r:bM}(h:rs[k]? =some r):iW (rs.take (k+1))=iW (rs.take k)++if(gz r.kind).read then[]else[(k:Int)]:=by
 have hk:=(bT.1 h).1;unfold iW;rw[bV h,MB,List.filterMap_append,gM,ED (by omega)];congr 1;rw[List.zipIdx_cons,List.zipIdx_nil,eH];cases h2:(gz r.kind).read<;>simp[h2]
theorem acS(rs:List bM):(iW rs).length<=rs.length:=by
 unfold iW;refine mX (List.length_filterMap_le _ _) ?_;simp
theorem acT{d:bq}{vh vs vr vc vu:Value}(hl:d.rules.length<=4096):
 aZ Tryz.prog (.func 227) [.agg ⟨fO d vh vs vr vc vu⟩] [] [] [ah aW vu d.rules] (λv:Value=>v) (λ_=>[]) (λv=>[ah ae v (iW d.rules)]) (λ_=>True):=by
 refine aG _ (aM 227) λB w0=>?_;refine aT (E:=aW) (v:=vu) (xs:=d.rules) (by simp) λau cu eu=>?_;subst eu;refine go ?_;intro b1;refine bB (fG (b:=b1)) (h:=?_);refine go ?_;refine gq ae ?_;refine aX (λy:Nat×Value=>d.rules.length - y.1) (λy=>[(8,.int .i64 (y.1:Int)),(2,y.2)]) (λy=>[ap ae y.2 (iW (d.rules.take y.1))]) (λ_=>[]) (λy=>y.1<=d.rules.length) (0,.slice none 0 0) (bX _) (hk:=by repeat (first|exact aH.nil|(apply aH.cons;(focus (repeat (first|exact ay.here|apply ay.there)))))) (body:=?_);rintro⟨k,v2⟩ hk;dsimp only at hk⊢;have hkl:=acS (d.rules.take k);rw[gM]at hkl;refine go ?_;refine az rfl (λh1=>?_) (λh1=>?_)
 ·refine go ?_;refine aY aW (xs:=d.rules) (next:=λ_ _ r (vv:Value×Value) hr=>?_);have hu:=Sj hr;refine go ?_;intro b4;refine go ?_;refine ak (acR (r:=r) (v1:=vv.1) (v2:=vv.2)) (next:=λ_ _=>?_);generalize(gz r.kind).read=rd at hu⊢;cases rd with
  |true=>
   have hu2:iW (d.rules.take (k+1))=iW (d.rules.take k):=by rw[hu];simp
   rw[<- hu2];refine go ?_;exact aO (k+1,v2) (by show d.rules.length - (k+1)<d.rules.length - k;omega) (by show k+1<=_;omega)
  |false=>
   refine go ?_;intro b18;refine go ?_;refine fe (xs:=iW (d.rules.take k)) ae (k:Int) () (by omega) (next:=λad=>?_);have hu2:iW (d.rules.take (k+1))=iW (d.rules.take k)++[(k:Int)]:=by rw[hu];simp
   rw[<- hu2];refine go ?_;exact aO (k+1,.slice ad ((iW (d.rules.take k)).length+1) ((iW (d.rules.take k)).length+1)) (by show d.rules.length - (k+1)<d.rules.length - k;omega) (by show k+1<=_;omega)
 have hke:k=d.rules.length:=by omega
 subst hke;rw[bK];refine bB (gp (E:=ae) (v:=v2) (xs:=iW d.rules)) (h:=?_);refine go ?_;exact aa v2 (hv:=rfl) (hp:=trivial)
def qg(c:iP):Prop:=
 (c.type=2/\0<=c.lo/\c.lo<=c.hi/\c.hi<=65536)\/(c.type=1/\c.family=0/\c.lo=0/\c.hi=0)\/
   (c.type=3/\((1<=c.family/\c.family<=3)\/8<=c.family)/\c.lo=0/\c.hi=0)
instance (c:iP):Decidable (qg c):=by unfold qg;infer_instance
theorem acU{c:iP}:bY Tryz.prog 259 [.agg ⟨Gx c⟩] [] (.bool (decide (qg c))):=by
 refine aG _ (aM 259) λB w0=>?_;refine go ?_;intro b1;iterate 9 (all_goals (first
  |(refine aa () (hv:=?_) (hp:=trivial);first
   |exact congrArg Value.bool (mG.2 (by unfold qg;omega))
   |exact congrArg Value.bool (aR (by unfold qg;omega)).symm
   |exact congrArg Value.bool (eB (by unfold qg;omega)).symm)
  |(refine go ?_;first
   |with_reducible refine aL (λ_=>?_) (λ_=>?_)
   |with_reducible refine aK (λ_=>?_) (λ_=>?_)
   |refine az rfl (λ_=>?_) (λ_=>?_)
   |skip)))
noncomputable def Lx:=rR Tryz.prog 258
theorem Sk:kz Tryz.prog 258=some Lx:=by kernel_rfl
abbrev rC:ByteArray:={data:={toList:=[]}}
structure tY(x:zb)(cs:List iP)(r:bM):Prop where
 known:x.known=true
 on:(x.on=true↔r.on≠rC)
 set:(x.set=true↔r.set≠0)
 other:(x.other=true↔r.other≠0)
 rq:x.on=true\/r.family=0
 names:x.set=true\/r.names=[]
 others:x.other=true\/r.others=[]
 op:(x.op=true↔1<=r.op/\r.op<=3)
 op0:x.op=true\/r.op=0
 n:0<=r.n/\r.n<=65536
 cnt:x.free=true\/(x.op=true/\r.dL=rC)\/r.n=0
 clu:∀need:Int,need=(if x.op=true/\r.dL≠rC then 2 else x.aQ)->(need=0/\r.dL=rC/\r.aQ= -1)\/(need≠0/\0<=r.aQ/\r.aQ<cs.length/\∃c,cs[r.aQ.toNat]? =some c/\c.type=need/\(need=1\/c.family=r.family))
abbrev qh(d:bq)(r:bM)(vh vs vr vc vu v1 v2:Value):Prop:=aZ Tryz.prog (.func 258) [.agg ⟨fO d vh vs vr vc vu⟩,.agg ⟨kF r v1 v2⟩] [] [] [ah bC vc d.aF,ah aN v1 r.names,ah aN v2 r.others] (λb:Bool=>.bool b) (λ_=>[]) (λ_=>[]) (λb=>b=true↔tY (gz r.kind) d.aF r)
theorem qi{p:Prop}(h:p:=by
 refine aG Lx Sk λB w0=>?_;refine aT (E:=bC) (v:=vc) (xs:=d.aF) (by simp) λac cc ec=>?_;subst ec;refine aT (E:=aN) (v:=v1) (xs:=r.names) (by simp) λa1 c1 e1=>?_;subst e1;refine aT (E:=aN) (v:=v2) (xs:=r.others) (by simp) λa2 c2 e2=>?_;subst e2;refine go ?_;intro b2 b3;refine go ?_;refine ak (Lv (k:=r.kind)) (next:=λ_ _=>?_);rw[hx];clear hx;dsimp only[Lu];refine go ?_;intro b5;iterate 18 (all_goals (first
  |(refine aa _ (hv:=?hv) (hp:=?hp);focus (exact rfl))
  |(refine go ?_;first
   |with_reducible refine aL (λ_=>?_) (λ_=>?_)
   |with_reducible refine aK (λ_=>?_) (λ_=>?_)
   |with_reducible refine aI (λ_=>?_) (λ_=>?_)
   |refine az rfl (λ_=>?_) (λ_=>?_)
   |refine jJ rfl (λ_=>?_) (λ_=>?_)
   |skip)))
 all_goals (try simp only[dQ]at *)
 all_goals (first
  |(exfalso;simp_all;done)
  |(refine aa false (hv:=by rfl) (hp:=⟨(λh=>by cases h),λh=>?_⟩)
    exfalso
    obtain⟨q1,q2,q3,q4,q5,q6,q7,q8,q9,ze,zf,jN⟩:=h;have jN:=jN _ rfl;first
     |(rcases jN with⟨_,_,w1⟩|⟨_,w2,w3,_⟩<;>omega)
     |(simp_all<;>omega))
  |(refine aa (decide (r.aQ= -1)) (hv:=by rfl) (hp:=⟨λh=>?_,λh=>?_⟩)
    ·have h:=iB h;refine⟨rfl,?_,?_,?_,?_,?_,?_,?_,?_,?_,?_,λneed hn=>.inl ⟨?_,?_,h⟩⟩<;>simp_all<;>omega
    ·obtain⟨q1,q2,q3,q4,q5,q6,q7,q8,q9,ze,zf,jN⟩:=h;have jN:=jN _ rfl
     simp_all)
  |skip)
 all_goals (
  obtain⟨ci,hci⟩:=qy (show 0<=r.aQ by omega);have hcl:ci<d.aF.length:=by omega
  rw[hci])
 all_goals (refine aY bC (xs:=d.aF) (next:=λ_ _ c (_:Unit) hcc=>?_))
 all_goals (have hct:d.aF[r.aQ.toNat]? =some c:=by rw[hci];exact hcc)
 all_goals (refine go ?_;intro b8)
 iterate 4 (all_goals (first
  |(refine aa _ (hv:=?hv) (hp:=?hp);focus (exact rfl))
  |(refine go ?_;first
   |with_reducible refine aL (λ_=>?_) (λ_=>?_)
   |with_reducible refine aK (λ_=>?_) (λ_=>?_)
   |with_reducible refine aI (λ_=>?_) (λ_=>?_)
   |refine az rfl (λ_=>?_) (λ_=>?_)
   |refine jJ rfl (λ_=>?_) (λ_=>?_)
   |skip)))
 all_goals (first
  |(refine aa false (hv:=by rfl) (hp:=⟨(λh=>by cases h),λh=>?_⟩)
    exfalso
    obtain⟨q1,q2,q3,q4,q5,q6,q7,q8,q9,ze,zf,jN⟩:=h;have jN:=jN _ rfl;rcases jN with jN|⟨_,_,_,c',p1,p2,p3⟩
    ·simp_all
    ·rw[hct]at p1;cases p1
     simp_all)
  |(refine aa (decide (c.family=r.family)) (hv:=by rfl) (hp:=⟨λh=>?_,λh=>?_⟩)
    ·have h:=iB h;refine⟨rfl,?_,?_,?_,?_,?_,?_,?_,?_,?_,?_,λneed hn=>.inr ⟨?_,by omega,by omega,c,hct,?_,.inr h⟩⟩<;>simp_all<;>omega
    ·obtain⟨q1,q2,q3,q4,q5,q6,q7,q8,q9,ze,zf,jN⟩:=h;have jN:=jN _ rfl;rcases jN with jN|⟨_,_,_,c',p1,p2,p3⟩
     ·simp_all
     ·rw[hct]at p1;cases p1
      simp_all)
  |(refine aa true (hv:=by rfl) (hp:=⟨λ_=>?_,λ_=>rfl⟩)
    refine⟨rfl,?_,?_,?_,?_,?_,?_,?_,?_,?_,?_,λneed hn=>.inr ⟨?_,by omega,by omega,c,hct,?_,.inl ?_⟩⟩<;>simp_all<;>omega))):p:=h
theorem acV{d:bq}{r:bM}{vh vs vr vc vu v1 v2:Value}(hc:d.aF.length<=4096)(hn1:r.names.length<9223372036854775808)(hn2:r.others.length<9223372036854775808)(hk:r.kind=1):qh d r vh vs vr vc vu v1 v2:=by
 have hx:gz r.kind=⟨true,false,false,false,false,true,true,0⟩:=by rw[hk];rfl
 clear hk;exact qi
theorem acW{d:bq}{r:bM}{vh vs vr vc vu v1 v2:Value}(hc:d.aF.length<=4096)(hn1:r.names.length<9223372036854775808)(hn2:r.others.length<9223372036854775808)(hk:r.kind=2):qh d r vh vs vr vc vu v1 v2:=by
 have hx:gz r.kind=⟨true,true,false,true,false,true,true,0⟩:=by rw[hk];rfl
 clear hk;exact qi
theorem acX{d:bq}{r:bM}{vh vs vr vc vu v1 v2:Value}(hc:d.aF.length<=4096)(hn1:r.names.length<9223372036854775808)(hn2:r.others.length<9223372036854775808)(hk:r.kind=3):qh d r vh vs vr vc vu v1 v2:=by
 have hx:gz r.kind=⟨true,false,false,true,false,true,true,0⟩:=by rw[hk];rfl
 clear hk;exact qi
theorem acY{d:bq}{r:bM}{vh vs vr vc vu v1 v2:Value}(hc:d.aF.length<=4096)(hn1:r.names.length<9223372036854775808)(hn2:r.others.length<9223372036854775808)(hk:r.kind=4):qh d r vh vs vr vc vu v1 v2:=by
 have hx:gz r.kind=⟨true,false,false,false,false,true,true,0⟩:=by rw[hk];rfl
 clear hk;exact qi
