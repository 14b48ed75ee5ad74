/-
  Part LibGR.
-/
import Derived.Test.YtpkieeggilkagaaGreatLibFR
set_option linter.all false
set_option maxRecDepth 10000
set_option maxHeartbeats 4000000
namespace Go.Proofs.YtpkieeggilkagaaGreat
open Go.Ideal Kd
structure A9 where
 on:Bool
 set:Bool
 other:Bool
 op:Bool
 free:Bool
 read:Bool
 known:Bool
 aB:Int
def Ox(x:A9):List Value:=[.bool x.on,.bool x.set,.bool x.other,.bool x.op,.bool x.free,.bool x.read,.bool x.known,.int .i64 x.aB]
def fF(k:Int):A9:=
 if k=1 then⟨true,false,false,false,false,true,true,0⟩
 else if k=2 then⟨true,true,false,true,false,true,true,0⟩
 else if k=3 then⟨true,false,false,true,false,true,true,0⟩
 else if k=4 then⟨true,false,false,false,false,true,true,0⟩
 else if k=5 then⟨true,true,false,false,false,true,true,3⟩
 else if k=6 then⟨false,false,false,false,false,true,true,0⟩
 else if k=7 then⟨false,false,false,false,true,true,true,0⟩
 else if k=8 then⟨false,true,true,false,false,true,true,0⟩
 else if k=9 then⟨false,true,false,false,false,true,true,0⟩
 else if k=10 then⟨false,true,false,false,false,true,true,0⟩
 else if k=11 then⟨false,false,false,false,false,true,true,1⟩
 else if k=12 then⟨true,false,false,false,false,false,true,0⟩
 else if k=13 then⟨false,false,false,true,false,false,true,0⟩
 else⟨false,false,false,false,false,false,false,0⟩
theorem qN{b:Bool}{e:Int}:bV Tryz.prog 235 [.bool b,.int .i64 e] [] (.int .i64 (cond b 0 e)):=by
 refine aC _ (aF 235) λB w0=>?_;cases b with
 |true=>
  refine go ?_;exact ae () (hv:=rfl) (hp:=trivial)
 |false=>
  refine go ?_;exact ae () (hv:=rfl) (hp:=trivial)
theorem Df{k:Int}(h:k<0\/14<=k):fF k=⟨false,false,false,false,false,false,false,0⟩:=by
 unfold fF;rw[if_neg (by omega),if_neg (by omega),if_neg (by omega),if_neg (by omega),if_neg (by omega),if_neg (by omega),if_neg (by omega),if_neg (by omega),if_neg (by omega),if_neg (by omega),if_neg (by omega),if_neg (by omega),if_neg (by omega)]
theorem Oy{k:Int}:bV Tryz.prog 279 [.int .i64 k] [] (.agg ⟨Ox (fF k)⟩):=by
 by_cases hk:0<=k/\k<14
 ·have hc:k=0\/k=1\/k=2\/k=3\/k=4\/k=5\/k=6\/k=7\/k=8\/k=9\/k=10\/k=11\/k=12\/k=13:=by omega
  clear hk;rcases hc with rfl|rfl|rfl|rfl|rfl|rfl|rfl|rfl|rfl|rfl|rfl|rfl|rfl|rfl<;>
  (refine aC _ (aF 279) λB w0=>?_
   refine go ?_;intro b2 b3;refine go ?_;exact ae () (hv:=rfl) (hp:=trivial))
 refine aC _ (aF 279) λB w0=>?_;refine go ?_;intro b2 b3;refine go ?_;refine gG (λh1=>?_) (λh1=>?_)
 rotate_left
 ·refine go ?_;refine ae () (hv:=?_) (hp:=trivial);rw[Df (.inl h1)];rfl
 refine go ?_;refine ay rfl (λh2=>?_) (λh2=>?_)
 ·refine go ?_;refine ae () (hv:=?_) (hp:=trivial);rw[Df (.inr (by omega))];rfl
 omega
theorem af1{r:bB}{v1 v2:Value}:bV Tryz.prog 266 [.agg ⟨gY r v1 v2⟩] [] (.bool (fF r.kind).read):=by
 refine aC _ (aF 266) λB w0=>?_;refine go ?_;intro b1;refine go ?_;refine aj (Oy (k:=r.kind)) (next:=λ_ _=>?_);refine go ?_;exact ae () (hv:=rfl) (hp:=trivial)
def jl(rs:List bB):List Int:=rs.zipIdx.filterMap λp=>if(fF p.1.kind).read then none else some (p.2:Int)
theorem VJ{rs:List bB}{k:Nat}{r:bB}(h:rs[k]? =some r):jl (rs.take (k+1))=jl (rs.take k)++if(fF r.kind).read then[]else[(k:Int)]:=by
 have hk:=(bK.1 h).1;unfold jl;rw[bS h,DI,PG,gL,zF (by omega)];congr 1;rw[Kb,List.zipIdx_nil,fC];cases h2:(fF r.kind).read<;>simp[h2]
theorem af2(rs:List bB):(jl rs).length<=rs.length:=by
 unfold jl;refine oU (Xb _ _) ?_;simp
theorem af3{d:bG}{vh vs vr vc vu:Value}(hl:d.rules.length<=4096):
 aV Tryz.prog (.func 244) [.agg ⟨gI d vh vs vr vc vu⟩] [] [] [ah aZ vu d.rules] (λv:Value=>v) (λ_=>[]) (λv=>[ah aa v (jl d.rules)]) (λ_=>True):=by
 refine aC _ (aF 244) λB w0=>?_;refine aT (E:=aZ) (v:=vu) (xs:=d.rules) (by simp) λau cu eu=>?_;subst eu;refine go ?_;intro b1;refine aW (eB (b:=b1)) (h:=?_);refine go ?_;refine fJ aa ?_;refine aR (λy:Nat×Value=>d.rules.length - y.1) (λy=>[(8,.int .i64 (y.1:Int)),(2,y.2)]) (λy=>[ap aa y.2 (jl (d.rules.take y.1))]) (λ_=>[]) (λy=>y.1<=d.rules.length) (0,.slice none 0 0) (bJ _) (hk:=by repeat (first|exact aJ.nil|(apply aJ.cons;(focus (repeat (first|exact aA.here|apply aA.there)))))) (body:=?_);rintro⟨k,v2⟩ hk;dsimp only at hk⊢;have hkl:=af2 (d.rules.take k);rw[gL]at hkl;refine go ?_;refine ay rfl (λh1=>?_) (λh1=>?_)
 ·refine go ?_;refine aU aZ (xs:=d.rules) (next:=λ_ _ r (vv:Value×Value) hr=>?_);have hu:=VJ hr;refine go ?_;intro b4;refine go ?_;refine aj (af1 (r:=r) (v1:=vv.1) (v2:=vv.2)) (next:=λ_ _=>?_);generalize(fF r.kind).read=rd at hu⊢;cases rd with
  |true=>
   have hu2:jl (d.rules.take (k+1))=jl (d.rules.take k):=by rw[hu];simp
   rw[<- hu2];refine go ?_;exact aD (k+1,v2) (by show d.rules.length - (k+1)<d.rules.length - k;omega) (by show k+1<=_;omega)
  |false=>
   refine go ?_;intro b18;refine go ?_;refine eG (xs:=jl (d.rules.take k)) aa (k:Int) () (by omega) (next:=λad=>?_);have hu2:jl (d.rules.take (k+1))=jl (d.rules.take k)++[(k:Int)]:=by rw[hu];simp
   rw[<- hu2];refine go ?_;exact aD (k+1,.slice ad ((jl (d.rules.take k)).length+1) ((jl (d.rules.take k)).length+1)) (by show d.rules.length - (k+1)<d.rules.length - k;omega) (by show k+1<=_;omega)
 have hke:k=d.rules.length:=by omega
 subst hke;rw[bC];refine aW (fG (E:=aa) (v:=v2) (xs:=jl d.rules)) (h:=?_);refine go ?_;exact ae v2 (hv:=rfl) (hp:=trivial)
def ou(c:jo):Prop:=
 (c.type=2/\0<=c.lo/\c.lo<=c.hi/\c.hi<=65536)\/(c.type=1/\c.family=0/\c.lo=0/\c.hi=0)\/
   (c.type=3/\((1<=c.family/\c.family<=3)\/8<=c.family)/\c.lo=0/\c.hi=0)
instance (c:jo):Decidable (ou c):=by unfold ou;infer_instance
theorem af4{c:jo}:bV Tryz.prog 265 [.agg ⟨FM c⟩] [] (.bool (decide (ou c))):=by
 refine aC _ (aF 265) λB w0=>?_;refine go ?_;intro b1;iterate 9 (all_goals (first
  |(refine ae () (hv:=?_) (hp:=trivial);first
   |exact congrArg Value.bool (l6.2 (by unfold ou;omega))
   |exact congrArg Value.bool (aS (by unfold ou;omega)).symm
   |exact congrArg Value.bool (dQ (by unfold ou;omega)).symm)
  |(refine go ?_;first
   |with_reducible refine lV (λ_=>?_) (λ_=>?_)
   |with_reducible refine kV (λ_=>?_) (λ_=>?_)
   |refine ay rfl (λ_=>?_) (λ_=>?_)
   |skip)))
noncomputable def Oz:=wK Tryz.prog 264
theorem VK:nV Tryz.prog 264=some Oz:=by kernel_rfl
abbrev ow:ByteArray:={data:={toList:=[]}}
structure uS(x:A9)(cs:List jo)(r:bB):Prop where
 known:x.known=true
 on:(x.on=true↔r.on≠ow)
 set:(x.set=true↔r.set≠0)
 other:(x.other=true↔r.other≠0)
 lX:x.on=true\/r.family=0
 names:x.set=true\/r.names=[]
 others:x.other=true\/r.others=[]
 op:(x.op=true↔1<=r.op/\r.op<=3)
 op0:x.op=true\/r.op=0
 n:0<=r.n/\r.n<=65536
 cnt:x.free=true\/(x.op=true/\r.dn=ow)\/r.n=0
 JM:∀need:Int,need=(if x.op=true/\r.dn≠ow then 2 else x.aB)->(need=0/\r.dn=ow/\r.aB= -1)\/(need≠0/\0<=r.aB/\r.aB<cs.length/\∃c,cs[r.aB.toNat]? =some c/\c.type=need/\(need=1\/c.family=r.family))
abbrev rW(d:bG)(r:bB)(vh vs vr vc vu v1 v2:Value):Prop:=aV Tryz.prog (.func 264) [.agg ⟨gI d vh vs vr vc vu⟩,.agg ⟨gY r v1 v2⟩] [] [] [ah bI vc d.aM,ah bF v1 r.names,ah bF v2 r.others] (λb:Bool=>.bool b) (λ_=>[]) (λ_=>[]) (λb=>b=true↔uS (fF r.kind) d.aM r)
theorem rX{p:Prop}(h:p:=by
 refine aC Oz VK λB w0=>?_;refine aT (E:=bI) (v:=vc) (xs:=d.aM) (by simp) λac cc ec=>?_;subst ec;refine aT (E:=bF) (v:=v1) (xs:=r.names) (by simp) λa1 c1 e1=>?_;subst e1;refine aT (E:=bF) (v:=v2) (xs:=r.others) (by simp) λa2 c2 e2=>?_;subst e2;refine go ?_;intro b2 b3;refine go ?_;refine aj (Oy (k:=r.kind)) (next:=λ_ _=>?_);rw[hx];clear hx;dsimp only[Ox];refine go ?_;intro b5;iterate 18 (all_goals (first
  |(refine ae _ (hv:=?hv) (hp:=?hp);focus (exact rfl))
  |(refine go ?_;first
   |with_reducible refine lV (λ_=>?_) (λ_=>?_)
   |with_reducible refine kV (λ_=>?_) (λ_=>?_)
   |with_reducible refine lD (λ_=>?_) (λ_=>?_)
   |refine ay rfl (λ_=>?_) (λ_=>?_)
   |refine iZ rfl (λ_=>?_) (λ_=>?_)
   |skip)))
 all_goals (try simp only[eO]at *)
 all_goals (first
  |(exfalso;simp_all;done)
  |(refine ae false (hv:=by rfl) (hp:=⟨(λh=>by cases h),λh=>?_⟩)
    exfalso
    obtain⟨q1,q2,q3,q4,q5,q6,q7,q8,q9,Ba,Bb,kK⟩:=h;have kK:=kK _ rfl;first
     |(rcases kK with⟨_,_,w1⟩|⟨_,w2,w3,_⟩<;>omega)
     |(simp_all<;>omega))
  |(refine ae (decide (r.aB= -1)) (hv:=by rfl) (hp:=⟨λh=>?_,λh=>?_⟩)
    ·have h:=iw h;refine⟨rfl,?_,?_,?_,?_,?_,?_,?_,?_,?_,?_,λneed hn=>.inl ⟨?_,?_,h⟩⟩<;>simp_all<;>omega
    ·obtain⟨q1,q2,q3,q4,q5,q6,q7,q8,q9,Ba,Bb,kK⟩:=h;have kK:=kK _ rfl
     simp_all)
  |skip)
 all_goals (
  obtain⟨ci,hci⟩:=dZ (show 0<=r.aB by omega);have hcl:ci<d.aM.length:=by omega
  rw[hci])
 all_goals (refine aU bI (xs:=d.aM) (next:=λ_ _ c (_:Unit) hcc=>?_))
 all_goals (have hct:d.aM[r.aB.toNat]? =some c:=by rw[hci];exact hcc)
 all_goals (refine go ?_;intro b8)
 iterate 4 (all_goals (first
  |(refine ae _ (hv:=?hv) (hp:=?hp);focus (exact rfl))
  |(refine go ?_;first
   |with_reducible refine lV (λ_=>?_) (λ_=>?_)
   |with_reducible refine kV (λ_=>?_) (λ_=>?_)
   |with_reducible refine lD (λ_=>?_) (λ_=>?_)
   |refine ay rfl (λ_=>?_) (λ_=>?_)
   |refine iZ rfl (λ_=>?_) (λ_=>?_)
   |skip)))
 all_goals (first
  |(refine ae false (hv:=by rfl) (hp:=⟨(λh=>by cases h),λh=>?_⟩)
    exfalso
    obtain⟨q1,q2,q3,q4,q5,q6,q7,q8,q9,Ba,Bb,kK⟩:=h;have kK:=kK _ rfl;rcases kK with kK|⟨_,_,_,c',p1,p2,p3⟩
    ·simp_all
    ·rw[hct]at p1;cases p1
     simp_all)
  |(refine ae (decide (c.family=r.family)) (hv:=by rfl) (hp:=⟨λh=>?_,λh=>?_⟩)
    ·have h:=iw h;refine⟨rfl,?_,?_,?_,?_,?_,?_,?_,?_,?_,?_,λneed hn=>.inr ⟨?_,by omega,by omega,c,hct,?_,.inr h⟩⟩<;>simp_all<;>omega
    ·obtain⟨q1,q2,q3,q4,q5,q6,q7,q8,q9,Ba,Bb,kK⟩:=h;have kK:=kK _ rfl;rcases kK with kK|⟨_,_,_,c',p1,p2,p3⟩
     ·simp_all
     ·rw[hct]at p1;cases p1
      simp_all)
  |(refine ae true (hv:=by rfl) (hp:=⟨λ_=>?_,λ_=>rfl⟩)
    refine⟨rfl,?_,?_,?_,?_,?_,?_,?_,?_,?_,?_,λneed hn=>.inr ⟨?_,by omega,by omega,c,hct,?_,.inl ?_⟩⟩<;>simp_all<;>omega))):p:=h
theorem af5{d:bG}{r:bB}{vh vs vr vc vu v1 v2:Value}(hc:d.aM.length<=4096)(hn1:r.names.length<9223372036854775808)(hn2:r.others.length<9223372036854775808)(hk:r.kind=1):rW d r vh vs vr vc vu v1 v2:=by
 have hx:fF r.kind=⟨true,false,false,false,false,true,true,0⟩:=by rw[hk];rfl
 clear hk;exact rX
theorem af6{d:bG}{r:bB}{vh vs vr vc vu v1 v2:Value}(hc:d.aM.length<=4096)(hn1:r.names.length<9223372036854775808)(hn2:r.others.length<9223372036854775808)(hk:r.kind=2):rW d r vh vs vr vc vu v1 v2:=by
 have hx:fF r.kind=⟨true,true,false,true,false,true,true,0⟩:=by rw[hk];rfl
 clear hk;exact rX
theorem af7{d:bG}{r:bB}{vh vs vr vc vu v1 v2:Value}(hc:d.aM.length<=4096)(hn1:r.names.length<9223372036854775808)(hn2:r.others.length<9223372036854775808)(hk:r.kind=3):rW d r vh vs vr vc vu v1 v2:=by
 have hx:fF r.kind=⟨true,false,false,true,false,true,true,0⟩:=by rw[hk];rfl
 clear hk;exact rX
theorem af8{d:bG}{r:bB}{vh vs vr vc vu v1 v2:Value}(hc:d.aM.length<=4096)(hn1:r.names.length<9223372036854775808)(hn2:r.others.length<9223372036854775808)(hk:r.kind=4):rW d r vh vs vr vc vu v1 v2:=by
 have hx:fF r.kind=⟨true,false,false,false,false,true,true,0⟩:=by rw[hk];rfl
 clear hk;exact rX
