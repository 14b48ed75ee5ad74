/-
  Types of rules: shapes, what can be read.
-/
import Derived.Test.YtoohgkkmdnbnfaaGreatDoorLibEA
set_option linter.all false
set_option maxRecDepth 10000
set_option maxHeartbeats 4000000
namespace Go.Proofs.YtoohgkkmdnbnfaaGreatDoor
open Go.Ideal Kd
structure yJ where
 on:Bool
 set:Bool
 other:Bool
 op:Bool
 free:Bool
 read:Bool
 known:Bool
 aG:Int
def Nv(x:yJ):List Value:=[.bool x.on,.bool x.set,.bool x.other,.bool x.op,.bool x.free,.bool x.read,.bool x.known,.int .i64 x.aG]
def fQ(k:Int):yJ:=
 if k=1 then⟨true,false,false,false,false,true,true,0⟩
 else if k=2 then⟨true,true,false,true,false,true,true,0⟩
 else if k=3 then⟨true,false,false,true,false,true,true,0⟩
 else if k=4 then⟨true,false,false,false,false,true,true,0⟩
 else if k=5 then⟨true,true,false,false,false,true,true,3⟩
 else if k=6 then⟨false,false,false,false,false,true,true,0⟩
 else if k=7 then⟨false,false,false,false,true,true,true,0⟩
 else if k=8 then⟨false,true,true,false,false,true,true,0⟩
 else if k=9 then⟨false,true,false,false,false,true,true,0⟩
 else if k=10 then⟨false,true,false,false,false,true,true,0⟩
 else if k=11 then⟨false,false,false,false,false,true,true,1⟩
 else if k=12 then⟨true,false,false,false,false,false,true,0⟩
 else if k=13 then⟨false,false,false,true,false,false,true,0⟩
 else⟨false,false,false,false,false,false,false,0⟩
theorem qf{b:Bool}{e:Int}:dz Tryz.prog 218 [.bool b,.int .i64 e] [] (.int .i64 (cond b 0 e)):=by
 refine aK _ (aP 218) λB w0=>?_;cases b with
 |true=>
  refine go ?_;exact ae () (hv:=rfl) (hp:=trivial)
 |false=>
  refine go ?_;exact ae () (hv:=rfl) (hp:=trivial)
theorem Ct{k:Int}(h:k<0\/14<=k):fQ k=⟨false,false,false,false,false,false,false,0⟩:=by
 unfold fQ;rw[if_neg (by omega),if_neg (by omega),if_neg (by omega),if_neg (by omega),if_neg (by omega),if_neg (by omega),if_neg (by omega),if_neg (by omega),if_neg (by omega),if_neg (by omega),if_neg (by omega),if_neg (by omega),if_neg (by omega)]
theorem Nw{k:Int}:dz Tryz.prog 292 [.int .i64 k] [] (.agg ⟨Nv (fQ k)⟩):=by
 by_cases hk:0<=k/\k<14
 ·have hc:k=0\/k=1\/k=2\/k=3\/k=4\/k=5\/k=6\/k=7\/k=8\/k=9\/k=10\/k=11\/k=12\/k=13:=by omega
  clear hk;rcases hc with rfl|rfl|rfl|rfl|rfl|rfl|rfl|rfl|rfl|rfl|rfl|rfl|rfl|rfl<;>
  (refine aK _ (aP 292) λB w0=>?_
   refine go ?_;intro b2 b3;refine go ?_;exact ae () (hv:=rfl) (hp:=trivial))
 refine aK _ (aP 292) λB w0=>?_;refine go ?_;intro b2 b3;refine go ?_;first|with_reducible refine aN (λh1=>?_) (λh1=>?_)|with_reducible refine aM (λh1=>?_) (λh1=>?_)|with_reducible refine aL (λh1=>?_) (λh1=>?_)
 rotate_left
 ·refine go ?_;refine ae () (hv:=?_) (hp:=trivial);rw[Ct (.inl h1)];rfl
 refine go ?_;refine aA rfl (λh2=>?_) (λh2=>?_)
 ·refine go ?_;refine ae () (hv:=?_) (hp:=trivial);rw[Ct (.inr (by omega))];rfl
 omega
theorem afo{r:aU}{v1 v2:Value}:dz Tryz.prog 260 [.agg ⟨iT r v1 v2⟩] [] (.bool (fQ r.kind).read):=by
 refine aK _ (aP 260) λB w0=>?_;refine go ?_;intro b1;refine go ?_;refine ax (Nw (k:=r.kind)) (next:=λ_ _=>?_);refine go ?_;exact ae () (hv:=rfl) (hp:=trivial)
def jh(rs:List aU):List Int:=rs.zipIdx.filterMap λp=>if(fQ p.1.kind).read then none else some (p.2:Int)
theorem UT{rs:List aU}{k:Nat}{r:aU}(h:rs[k]? =some r):jh (rs.take (k+1))=jh (rs.take k)++if(fQ r.kind).read then[]else[(k:Int)]:=by
 have hk:=(bO.1 h).1;unfold jh;rw[bY h,AU,Gn,gM,y7 (by omega)];congr 1;rw[List.zipIdx_cons,List.zipIdx_nil,eT];cases h2:(fQ r.kind).read<;>simp[h2]
theorem afp(rs:List aU):(jh rs).length<=rs.length:=by
 unfold jh;refine lF (Wh _ _) ?_;simp
theorem afq{d:bE}{vh vs vr vc vu:Value}(hl:d.rules.length<=4096):
 bi Tryz.prog (.func 227) [.agg ⟨gF d vh vs vr vc vu⟩] [] [] [ah aY vu d.rules] (λv:Value=>v) (λ_=>[]) (λv=>[ah aa v (jh d.rules)]) (λ_=>True):=by
 refine aK _ (aP 227) λB w0=>?_;refine aS (E:=aY) (v:=vu) (xs:=d.rules) (by simp) λau cu eu=>?_;subst eu;refine go ?_;intro b1;refine bD (eO (b:=b1)) (h:=?_);refine go ?_;refine gI aa ?_;refine aZ (λy:Nat×Value=>d.rules.length - y.1) (λy=>[(8,.int .i64 (y.1:Int)),(2,y.2)]) (λy=>[ap aa y.2 (jh (d.rules.take y.1))]) (λ_=>[]) (λy=>y.1<=d.rules.length) (0,.slice none 0 0) (cz _) (hk:=by repeat (first|exact aI.nil|(apply aI.cons;(focus (repeat (first|exact ay.here|apply ay.there)))))) (body:=?_);rintro⟨k,v2⟩ hk;dsimp only at hk⊢;have hkl:=afp (d.rules.take k);rw[gM]at hkl;refine go ?_;refine aA rfl (λh1=>?_) (λh1=>?_)
 ·refine go ?_;refine bz aY (xs:=d.rules) (next:=λ_ _ r (vv:Value×Value) hr=>?_);have hu:=UT hr;refine go ?_;intro b4;refine go ?_;refine ax (afo (r:=r) (v1:=vv.1) (v2:=vv.2)) (next:=λ_ _=>?_);generalize(fQ r.kind).read=rd at hu⊢;cases rd with
  |true=>
   have hu2:jh (d.rules.take (k+1))=jh (d.rules.take k):=by rw[hu];simp
   rw[<- hu2];refine go ?_;exact aQ (k+1,v2) (by show d.rules.length - (k+1)<d.rules.length - k;omega) (by show k+1<=_;omega)
  |false=>
   refine go ?_;intro b18;refine go ?_;refine fC (xs:=jh (d.rules.take k)) aa (k:Int) () (by omega) (next:=λad=>?_);have hu2:jh (d.rules.take (k+1))=jh (d.rules.take k)++[(k:Int)]:=by rw[hu];simp
   rw[<- hu2];refine go ?_;exact aQ (k+1,.slice ad ((jh (d.rules.take k)).length+1) ((jh (d.rules.take k)).length+1)) (by show d.rules.length - (k+1)<d.rules.length - k;omega) (by show k+1<=_;omega)
 have hke:k=d.rules.length:=by omega
 subst hke;rw[bK];refine bD (gH (E:=aa) (v:=v2) (xs:=jh d.rules)) (h:=?_);refine go ?_;exact ae v2 (hv:=rfl) (hp:=trivial)
def nY(c:iY):Prop:=
 (c.type=2/\0<=c.lo/\c.lo<=c.hi/\c.hi<=65536)\/(c.type=1/\c.family=0/\c.lo=0/\c.hi=0)\/
   (c.type=3/\((1<=c.family/\c.family<=3)\/8<=c.family)/\c.lo=0/\c.hi=0)
instance (c:iY):Decidable (nY c):=by unfold nY;infer_instance
theorem afr{c:iY}:dz Tryz.prog 259 [.agg ⟨I5 c⟩] [] (.bool (decide (nY c))):=by
 refine aK _ (aP 259) λB w0=>?_;refine go ?_;intro b1;iterate 9 (all_goals (first
  |(refine ae () (hv:=?_) (hp:=trivial);first
   |exact congrArg Value.bool (oJ.2 (by unfold nY;omega))
   |exact congrArg Value.bool (aT (by unfold nY;omega)).symm
   |exact congrArg Value.bool (dZ (by unfold nY;omega)).symm)
  |(refine go ?_;first
   |with_reducible refine aN (λ_=>?_) (λ_=>?_)
   |with_reducible refine aM (λ_=>?_) (λ_=>?_)
   |refine aA rfl (λ_=>?_) (λ_=>?_)
   |skip)))
noncomputable def Ny:=sN Tryz.prog 258
theorem UU:kZ Tryz.prog 258=some Ny:=by kernel_rfl
abbrev kH:ByteArray:={data:={toList:=[]}}
structure qP(x:yJ)(cs:List iY)(r:aU):Prop where
 known:x.known=true
 on:(x.on=true↔r.on≠kH)
 set:(x.set=true↔r.set≠0)
 other:(x.other=true↔r.other≠0)
 qa:x.on=true\/r.family=0
 names:x.set=true\/r.names=[]
 others:x.other=true\/r.others=[]
 op:(x.op=true↔1<=r.op/\r.op<=3)
 op0:x.op=true\/r.op=0
 n:0<=r.n/\r.n<=65536
 cnt:x.free=true\/(x.op=true/\r.bZ=kH)\/r.n=0
 UW:∀need:Int,need=(if x.op=true/\r.bZ≠kH then 2 else x.aG)->(need=0/\r.bZ=kH/\r.aG= -1)\/(need≠0/\0<=r.aG/\r.aG<cs.length/\∃c,cs[r.aG.toNat]? =some c/\c.type=need/\(need=1\/c.family=r.family))
abbrev qQ(d:bE)(r:aU)(vh vs vr vc vu v1 v2:Value):Prop:=bi Tryz.prog (.func 258) [.agg ⟨gF d vh vs vr vc vu⟩,.agg ⟨iT r v1 v2⟩] [] [] [ah bM vc d.aJ,ah aR v1 r.names,ah aR v2 r.others] (λb:Bool=>.bool b) (λ_=>[]) (λ_=>[]) (λb=>b=true↔qP (fQ r.kind) d.aJ r)
theorem qR{p:Prop}(h:p:=by
 refine aK Ny UU λB w0=>?_;refine aS (E:=bM) (v:=vc) (xs:=d.aJ) (by simp) λac cc ec=>?_;subst ec;refine aS (E:=aR) (v:=v1) (xs:=r.names) (by simp) λa1 c1 e1=>?_;subst e1;refine aS (E:=aR) (v:=v2) (xs:=r.others) (by simp) λa2 c2 e2=>?_;subst e2;refine go ?_;intro b2 b3;refine go ?_;refine ax (Nw (k:=r.kind)) (next:=λ_ _=>?_);rw[hx];clear hx;dsimp only[Nv];refine go ?_;intro b5;iterate 18 (all_goals (first
  |(refine ae _ (hv:=?hv) (hp:=?hp);focus (exact rfl))
  |(refine go ?_;first
   |with_reducible refine aN (λ_=>?_) (λ_=>?_)
   |with_reducible refine aM (λ_=>?_) (λ_=>?_)
   |with_reducible refine aL (λ_=>?_) (λ_=>?_)
   |refine aA rfl (λ_=>?_) (λ_=>?_)
   |refine j6 rfl (λ_=>?_) (λ_=>?_)
   |skip)))
 all_goals (try simp only[dY]at *)
 all_goals (first
  |(exfalso;simp_all;done)
  |(refine ae false (hv:=by rfl) (hp:=⟨(λh=>by cases h),λh=>?_⟩)
    exfalso
    obtain⟨q1,q2,q3,q4,q5,q6,q7,q8,q9,Ak,Al,ku⟩:=h;have ku:=ku _ rfl;first
     |(rcases ku with⟨_,_,w1⟩|⟨_,w2,w3,_⟩<;>omega)
     |(simp_all<;>omega))
  |(refine ae (decide (r.aG= -1)) (hv:=by rfl) (hp:=⟨λh=>?_,λh=>?_⟩)
    ·have h:=gY h;refine⟨rfl,?_,?_,?_,?_,?_,?_,?_,?_,?_,?_,λneed hn=>.inl ⟨?_,?_,h⟩⟩<;>simp_all<;>omega
    ·obtain⟨q1,q2,q3,q4,q5,q6,q7,q8,q9,Ak,Al,ku⟩:=h;have ku:=ku _ rfl
     simp_all)
  |skip)
 all_goals (
  obtain⟨ci,hci⟩:=sG (show 0<=r.aG by omega);have hcl:ci<d.aJ.length:=by omega
  rw[hci])
 all_goals (refine bz bM (xs:=d.aJ) (next:=λ_ _ c (_:Unit) hcc=>?_))
 all_goals (have hct:d.aJ[r.aG.toNat]? =some c:=by rw[hci];exact hcc)
 all_goals (refine go ?_;intro b8)
 iterate 4 (all_goals (first
  |(refine ae _ (hv:=?hv) (hp:=?hp);focus (exact rfl))
  |(refine go ?_;first
   |with_reducible refine aN (λ_=>?_) (λ_=>?_)
   |with_reducible refine aM (λ_=>?_) (λ_=>?_)
   |with_reducible refine aL (λ_=>?_) (λ_=>?_)
   |refine aA rfl (λ_=>?_) (λ_=>?_)
   |refine j6 rfl (λ_=>?_) (λ_=>?_)
   |skip)))
 all_goals (first
  |(refine ae false (hv:=by rfl) (hp:=⟨(λh=>by cases h),λh=>?_⟩)
    exfalso
    obtain⟨q1,q2,q3,q4,q5,q6,q7,q8,q9,Ak,Al,ku⟩:=h;have ku:=ku _ rfl;rcases ku with ku|⟨_,_,_,c',p1,p2,p3⟩
    ·simp_all
    ·rw[hct]at p1;cases p1
     simp_all)
  |(refine ae (decide (c.family=r.family)) (hv:=by rfl) (hp:=⟨λh=>?_,λh=>?_⟩)
    ·have h:=gY h;refine⟨rfl,?_,?_,?_,?_,?_,?_,?_,?_,?_,?_,λneed hn=>.inr ⟨?_,by omega,by omega,c,hct,?_,.inr h⟩⟩<;>simp_all<;>omega
    ·obtain⟨q1,q2,q3,q4,q5,q6,q7,q8,q9,Ak,Al,ku⟩:=h;have ku:=ku _ rfl;rcases ku with ku|⟨_,_,_,c',p1,p2,p3⟩
     ·simp_all
     ·rw[hct]at p1;cases p1
      simp_all)
  |(refine ae true (hv:=by rfl) (hp:=⟨λ_=>?_,λ_=>rfl⟩)
    refine⟨rfl,?_,?_,?_,?_,?_,?_,?_,?_,?_,?_,λneed hn=>.inr ⟨?_,by omega,by omega,c,hct,?_,.inl ?_⟩⟩<;>simp_all<;>omega))):p:=h
theorem afs{d:bE}{r:aU}{vh vs vr vc vu v1 v2:Value}(hc:d.aJ.length<=4096)(hn1:r.names.length<9223372036854775808)(hn2:r.others.length<9223372036854775808)(hk:r.kind=1):qQ d r vh vs vr vc vu v1 v2:=by
 have hx:fQ r.kind=⟨true,false,false,false,false,true,true,0⟩:=by rw[hk];rfl
 clear hk;exact qR
theorem aft{d:bE}{r:aU}{vh vs vr vc vu v1 v2:Value}(hc:d.aJ.length<=4096)(hn1:r.names.length<9223372036854775808)(hn2:r.others.length<9223372036854775808)(hk:r.kind=2):qQ d r vh vs vr vc vu v1 v2:=by
 have hx:fQ r.kind=⟨true,true,false,true,false,true,true,0⟩:=by rw[hk];rfl
 clear hk;exact qR
theorem afu{d:bE}{r:aU}{vh vs vr vc vu v1 v2:Value}(hc:d.aJ.length<=4096)(hn1:r.names.length<9223372036854775808)(hn2:r.others.length<9223372036854775808)(hk:r.kind=3):qQ d r vh vs vr vc vu v1 v2:=by
 have hx:fQ r.kind=⟨true,false,false,true,false,true,true,0⟩:=by rw[hk];rfl
 clear hk;exact qR
theorem afv{d:bE}{r:aU}{vh vs vr vc vu v1 v2:Value}(hc:d.aJ.length<=4096)(hn1:r.names.length<9223372036854775808)(hn2:r.others.length<9223372036854775808)(hk:r.kind=4):qQ d r vh vs vr vc vu v1 v2:=by
 have hx:fQ r.kind=⟨true,false,false,false,false,true,true,0⟩:=by rw[hk];rfl
 clear hk;exact qR
