/-
  Types of rules: shapes, what can be read.
-/
import Derived.Test.YtfakljdleblkoaaGreatLibEM
set_option linter.all false
set_option maxRecDepth 10000
set_option maxHeartbeats 4000000
namespace Go.Proofs.YtfakljdleblkoaaGreat
open Go.Ideal Kd
structure P9 where
 on:Bool
 set:Bool
 other:Bool
 op:Bool
 free:Bool
 read:Bool
 known:Bool
 aN:Int
def Qa(x:P9):List Value:=[.bool x.on,.bool x.set,.bool x.other,.bool x.op,.bool x.free,.bool x.read,.bool x.known,.int .i64 x.aN]
def ic(k:Int):P9:=
 if k=1 then⟨true,false,false,false,false,true,true,0⟩
 else if k=2 then⟨true,true,false,true,false,true,true,0⟩
 else if k=3 then⟨true,false,false,true,false,true,true,0⟩
 else if k=4 then⟨true,false,false,false,false,true,true,0⟩
 else if k=5 then⟨true,true,false,false,false,true,true,3⟩
 else if k=6 then⟨false,false,false,false,false,true,true,0⟩
 else if k=7 then⟨false,false,false,false,true,true,true,0⟩
 else if k=8 then⟨false,true,true,false,false,true,true,0⟩
 else if k=9 then⟨false,true,false,false,false,true,true,0⟩
 else if k=10 then⟨false,true,false,false,false,true,true,0⟩
 else if k=11 then⟨false,false,false,false,false,true,true,1⟩
 else if k=12 then⟨true,false,false,false,false,false,true,0⟩
 else if k=13 then⟨false,false,false,true,false,false,true,0⟩
 else⟨false,false,false,false,false,false,false,0⟩
theorem ry{b:Bool}{e:Int}:eG Tryz.prog 248 [.bool b,.int .i64 e] [] (.int .i64 (cond b 0 e)):=by
 refine aK _ (aM 248) λB w0=>?_;cases b with
 |true=>
  refine go ?_;exact aj () (hv:=rfl) (hp:=trivial)
 |false=>
  refine go ?_;exact aj () (hv:=rfl) (hp:=trivial)
theorem KU{k:Int}(h:k<0\/14<=k):ic k=⟨false,false,false,false,false,false,false,0⟩:=by
 unfold ic;rw[if_neg (by omega),if_neg (by omega),if_neg (by omega),if_neg (by omega),if_neg (by omega),if_neg (by omega),if_neg (by omega),if_neg (by omega),if_neg (by omega),if_neg (by omega),if_neg (by omega),if_neg (by omega),if_neg (by omega)]
theorem Qb{k:Int}:eG Tryz.prog 318 [.int .i64 k] [] (.agg ⟨Qa (ic k)⟩):=by
 by_cases hk:0<=k/\k<14
 ·have hc:k=0\/k=1\/k=2\/k=3\/k=4\/k=5\/k=6\/k=7\/k=8\/k=9\/k=10\/k=11\/k=12\/k=13:=by omega
  clear hk;rcases hc with rfl|rfl|rfl|rfl|rfl|rfl|rfl|rfl|rfl|rfl|rfl|rfl|rfl|rfl<;>
  (refine aK _ (aM 318) λB w0=>?_
   refine go ?_;intro b2 b3;refine go ?_;exact aj () (hv:=rfl) (hp:=trivial))
 refine aK _ (aM 318) λB w0=>?_;refine go ?_;intro b2 b3;refine go ?_;refine gG (λh1=>?_) (λh1=>?_)
 rotate_left
 ·refine go ?_;refine aj () (hv:=?_) (hp:=trivial);rw[KU (.inl h1)];rfl
 refine go ?_;refine aJ rfl (λh2=>?_) (λh2=>?_)
 ·refine go ?_;refine aj () (hv:=?_) (hp:=trivial);rw[KU (.inr (by omega))];rfl
 omega
theorem aiP{r:bV}{v1 v2:Value}:eG Tryz.prog 300 [.agg ⟨jG r v1 v2⟩] [] (.bool (ic r.kind).read):=by
 refine aK _ (aM 300) λB w0=>?_;refine go ?_;intro b1;refine go ?_;refine ak (Qb (k:=r.kind)) (next:=λ_ _=>?_);refine go ?_;exact aj () (hv:=rfl) (hp:=trivial)
def l8(rs:List bV):List Int:=rs.zipIdx.filterMap λp=>if(ic p.1.kind).read then none else some (p.2:Int)
theorem aiQ{rs:List bV}{k:Nat}{r:bV}(h:rs[k]? =some r):l8 (rs.take (k+1))=l8 (rs.take k)++if(ic r.kind).read then[]else[(k:Int)]:=by
 have hk:=(aW.1 h).1;unfold l8;rw[gZ h,GN,List.filterMap_append,iL,w9 (by omega)];congr 1;rw[LG,List.zipIdx_nil,fw];cases h2:(ic r.kind).read<;>simp[h2]
theorem aiR(rs:List bV):(l8 rs).length<=rs.length:=by
 unfold l8;refine qD (ZC _ _) ?_;simp
theorem aiS{d:dN}{vh vs vr vc vu:Value}(hl:d.rules.length<=4096):
 aQ Tryz.prog (.func 257) [.agg ⟨mP d vh vs vr vc vu⟩] [] [] [ah bT vu d.rules] (λv:Value=>v) (λ_=>[]) (λv=>[ah ae v (l8 d.rules)]) (λ_=>True):=by
 refine aK _ (aM 257) λB w0=>?_;refine bY (E:=bT) (v:=vu) (xs:=d.rules) (by simp) λau cu eu=>?_;subst eu;refine go ?_;intro b1;refine aZ (dH (b:=b1)) (h:=?_);refine go ?_;refine lY ae ?_;refine bQ (λy:Nat×Value=>d.rules.length - y.1) (λy=>[(8,.int .i64 (y.1:Int)),(2,y.2)]) (λy=>[ap ae y.2 (l8 (d.rules.take y.1))]) (λ_=>[]) (λy=>y.1<=d.rules.length) (0,.slice none 0 0) (dK _) (hk:=by repeat (first|exact aO.nil|(apply aO.cons;(focus (repeat (first|exact az.here|apply az.there)))))) (body:=?_);rintro⟨k,v2⟩ hk;dsimp only at hk⊢;have hkl:=aiR (d.rules.take k);rw[iL]at hkl;refine go ?_;refine aJ rfl (λh1=>?_) (λh1=>?_)
 ·refine go ?_;refine bZ bT (xs:=d.rules) (next:=λ_ _ r (vv:Value×Value) hr=>?_);have hu:=aiQ hr;refine go ?_;intro b4;refine go ?_;refine ak (aiP (r:=r) (v1:=vv.1) (v2:=vv.2)) (next:=λ_ _=>?_);generalize(ic r.kind).read=rd at hu⊢;cases rd with
  |true=>
   have hu2:l8 (d.rules.take (k+1))=l8 (d.rules.take k):=by rw[hu];simp
   rw[<- hu2];refine go ?_;exact bi (k+1,v2) (by show d.rules.length - (k+1)<d.rules.length - k;omega) (by show k+1<=_;omega)
  |false=>
   refine go ?_;intro b18;refine go ?_;refine jO (xs:=l8 (d.rules.take k)) ae (k:Int) () (by omega) (next:=λad=>?_);have hu2:l8 (d.rules.take (k+1))=l8 (d.rules.take k)++[(k:Int)]:=by rw[hu];simp
   rw[<- hu2];refine go ?_;exact bi (k+1,.slice ad ((l8 (d.rules.take k)).length+1) ((l8 (d.rules.take k)).length+1)) (by show d.rules.length - (k+1)<d.rules.length - k;omega) (by show k+1<=_;omega)
 have hke:k=d.rules.length:=by omega
 subst hke;rw[eH];refine aZ (jk (E:=ae) (v:=v2) (xs:=l8 d.rules)) (h:=?_);refine go ?_;exact aj v2 (hv:=rfl) (hp:=trivial)
def wP(c:iI):Prop:=
 (c.type=2/\0<=c.lo/\c.lo<=c.hi/\c.hi<=65536)\/(c.type=1/\c.family=0/\c.lo=0/\c.hi=0)\/
   (c.type=3/\((1<=c.family/\c.family<=3)\/8<=c.family)/\c.lo=0/\c.hi=0)
instance (c:iI):Decidable (wP c):=by unfold wP;infer_instance
theorem aiT{c:iI}:eG Tryz.prog 299 [.agg ⟨KJ c⟩] [] (.bool (decide (wP c))):=by
 refine aK _ (aM 299) λB w0=>?_;refine go ?_;intro b1;iterate 9 (all_goals (first
  |(refine aj () (hv:=?_) (hp:=trivial);first
   |exact congrArg Value.bool (nK.2 (by unfold wP;omega))
   |exact congrArg Value.bool (dM (by unfold wP;omega)).symm
   |exact congrArg Value.bool (fQ (by unfold wP;omega)).symm)
  |(refine go ?_;first
   |with_reducible refine Jh (λ_=>?_) (λ_=>?_)
   |with_reducible refine Ji (λ_=>?_) (λ_=>?_)
   |refine aJ rfl (λ_=>?_) (λ_=>?_)
   |skip)))
abbrev BG:ByteArray:={data:={toList:=[]}}
structure Gl(x:P9)(cs:List iI)(r:bV):Prop where
 known:x.known=true
 on:(x.on=true↔r.on≠BG)
 set:(x.set=true↔r.set≠0)
 other:(x.other=true↔r.other≠0)
 fP:x.on=true\/r.family=0
 names:x.set=true\/r.names=[]
 others:x.other=true\/r.others=[]
 op:(x.op=true↔1<=r.op/\r.op<=3)
 op0:x.op=true\/r.op=0
 n:0<=r.n/\r.n<=65536
 cnt:x.free=true\/(x.op=true/\r.iZ=BG)\/r.n=0
 Qc:∀need:Int,need=(if x.op=true/\r.iZ≠BG then 2 else x.aN)->(need=0/\r.iZ=BG/\r.aN= -1)\/(need≠0/\0<=r.aN/\r.aN<cs.length/\∃c,cs[r.aN.toNat]? =some c/\c.type=need/\(need=1\/c.family=r.family))
abbrev sH(d:dN)(r:bV)(vh vs vr vc vu v1 v2:Value):Prop:=aQ Tryz.prog (.func 298) [.agg ⟨mP d vh vs vr vc vu⟩,.agg ⟨jG r v1 v2⟩] [] [] [ah dX vc d.bI,ah ji v1 r.names,ah ji v2 r.others] (λb:Bool=>.bool b) (λ_=>[]) (λ_=>[]) (λb=>b=true↔Gl (ic r.kind) d.bI r)
theorem sI{p:Prop}(h:p:=by
 refine aK _ (aM 298) λB w0=>?_;refine bY (E:=dX) (v:=vc) (xs:=d.bI) (by simp) λac cc ec=>?_;subst ec;refine bY (E:=ji) (v:=v1) (xs:=r.names) (by simp) λa1 c1 e1=>?_;subst e1;refine bY (E:=ji) (v:=v2) (xs:=r.others) (by simp) λa2 c2 e2=>?_;subst e2;refine go ?_;intro b2 b3;refine go ?_;refine ak (Qb (k:=r.kind)) (next:=λ_ _=>?_);rw[hx];clear hx;dsimp only[Qa];refine go ?_;intro b5;iterate 18 (all_goals (first
  |(refine aj _ (hv:=?hv) (hp:=?hp);focus (exact rfl))
  |(refine go ?_;first
   |with_reducible refine Jh (λ_=>?_) (λ_=>?_)
   |with_reducible refine Ji (λ_=>?_) (λ_=>?_)
   |with_reducible refine C9 (λ_=>?_) (λ_=>?_)
   |refine aJ rfl (λ_=>?_) (λ_=>?_)
   |refine wz rfl (λ_=>?_) (λ_=>?_)
   |skip)))
 all_goals (try simp only[rq]at *)
 all_goals (first
  |(exfalso;simp_all;done)
  |(refine aj false (hv:=by rfl) (hp:=⟨(λh=>by cases h),λh=>?_⟩)
    exfalso
    obtain⟨q1,q2,q3,q4,q5,q6,q7,q8,q9,Qd,Qe,pR⟩:=h;have pR:=pR _ rfl;first
     |(rcases pR with⟨_,_,w1⟩|⟨_,w2,w3,_⟩<;>omega)
     |(simp_all<;>omega))
  |(refine aj (decide (r.aN= -1)) (hv:=by rfl) (hp:=⟨λh=>?_,λh=>?_⟩)
    ·have h:=jg h;refine⟨rfl,?_,?_,?_,?_,?_,?_,?_,?_,?_,?_,λneed hn=>.inl ⟨?_,?_,h⟩⟩<;>simp_all<;>omega
    ·obtain⟨q1,q2,q3,q4,q5,q6,q7,q8,q9,Qd,Qe,pR⟩:=h;have pR:=pR _ rfl
     simp_all)
  |skip)
 all_goals (
  obtain⟨ci,hci⟩:=eO (show 0<=r.aN by omega);have hcl:ci<d.bI.length:=by omega
  rw[hci])
 all_goals (refine bZ dX (xs:=d.bI) (next:=λ_ _ c (_:Unit) hcc=>?_))
 all_goals (have hct:d.bI[r.aN.toNat]? =some c:=by rw[hci];exact hcc)
 all_goals (refine go ?_;intro b8)
 iterate 4 (all_goals (first
  |(refine aj _ (hv:=?hv) (hp:=?hp);focus (exact rfl))
  |(refine go ?_;first
   |with_reducible refine Jh (λ_=>?_) (λ_=>?_)
   |with_reducible refine Ji (λ_=>?_) (λ_=>?_)
   |with_reducible refine C9 (λ_=>?_) (λ_=>?_)
   |refine aJ rfl (λ_=>?_) (λ_=>?_)
   |refine wz rfl (λ_=>?_) (λ_=>?_)
   |skip)))
 all_goals (first
  |(refine aj false (hv:=by rfl) (hp:=⟨(λh=>by cases h),λh=>?_⟩)
    exfalso
    obtain⟨q1,q2,q3,q4,q5,q6,q7,q8,q9,Qd,Qe,pR⟩:=h;have pR:=pR _ rfl;rcases pR with pR|⟨_,_,_,c',p1,p2,p3⟩
    ·simp_all
    ·rw[hct]at p1;cases p1
     simp_all)
  |(refine aj (decide (c.family=r.family)) (hv:=by rfl) (hp:=⟨λh=>?_,λh=>?_⟩)
    ·have h:=jg h;refine⟨rfl,?_,?_,?_,?_,?_,?_,?_,?_,?_,?_,λneed hn=>.inr ⟨?_,by omega,by omega,c,hct,?_,.inr h⟩⟩<;>simp_all<;>omega
    ·obtain⟨q1,q2,q3,q4,q5,q6,q7,q8,q9,Qd,Qe,pR⟩:=h;have pR:=pR _ rfl;rcases pR with pR|⟨_,_,_,c',p1,p2,p3⟩
     ·simp_all
     ·rw[hct]at p1;cases p1
      simp_all)
  |(refine aj true (hv:=by rfl) (hp:=⟨λ_=>?_,λ_=>rfl⟩)
    refine⟨rfl,?_,?_,?_,?_,?_,?_,?_,?_,?_,?_,λneed hn=>.inr ⟨?_,by omega,by omega,c,hct,?_,.inl ?_⟩⟩<;>simp_all<;>omega))):p:=h
theorem aiU{d:dN}{r:bV}{vh vs vr vc vu v1 v2:Value}(hc:d.bI.length<=4096)(hn1:r.names.length<9223372036854775808)(hn2:r.others.length<9223372036854775808)(hk:r.kind=1):sH d r vh vs vr vc vu v1 v2:=by
 have hx:ic r.kind=⟨true,false,false,false,false,true,true,0⟩:=by rw[hk];rfl
 clear hk;exact sI
theorem aiV{d:dN}{r:bV}{vh vs vr vc vu v1 v2:Value}(hc:d.bI.length<=4096)(hn1:r.names.length<9223372036854775808)(hn2:r.others.length<9223372036854775808)(hk:r.kind=2):sH d r vh vs vr vc vu v1 v2:=by
 have hx:ic r.kind=⟨true,true,false,true,false,true,true,0⟩:=by rw[hk];rfl
 clear hk;exact sI
theorem aiW{d:dN}{r:bV}{vh vs vr vc vu v1 v2:Value}(hc:d.bI.length<=4096)(hn1:r.names.length<9223372036854775808)(hn2:r.others.length<9223372036854775808)(hk:r.kind=3):sH d r vh vs vr vc vu v1 v2:=by
 have hx:ic r.kind=⟨true,false,false,true,false,true,true,0⟩:=by rw[hk];rfl
 clear hk;exact sI
theorem aiX{d:dN}{r:bV}{vh vs vr vc vu v1 v2:Value}(hc:d.bI.length<=4096)(hn1:r.names.length<9223372036854775808)(hn2:r.others.length<9223372036854775808)(hk:r.kind=4):sH d r vh vs vr vc vu v1 v2:=by
 have hx:ic r.kind=⟨true,false,false,false,false,true,true,0⟩:=by rw[hk];rfl
 clear hk;exact sI
