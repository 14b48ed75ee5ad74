/- Part. -/
import Derived.Test.YtoilpafpgndilaaGreatLibWF
set_option linter.all false
set_option maxRecDepth 10000
set_option maxHeartbeats 4000000
namespace Go.Proofs.YtoilpafpgndilaaGreat
open Go.Ideal Kd
variable{d:bF}{vh vs vr vc vu v1 v2:vI}{r:bN}
def aiK(hk:r.kind=8)(hcl:d.aJ.length<=4096)(h1:r.names.length<2^63)(h2:r.others.length<2^63):jG d r vh vs vr vc vu v1 v2:=by
 obtain⟨rn,iy,rk,rf,dA,dB,rs,iC,iD,iE,iF,iG⟩:=r;dsimp only at hk h1 h2;subst hk;dsimp only[jG];rw[show fM 8=⟨false,true,true,false,false,true,true,0⟩from AD];refine aM qm qY λB w0=>?_;refine gF bC v1 dA λa1 c1 e1=>?_;subst e1;refine gF bC v2 dB λa2 c2 e2=>?_;subst e2;refine go ?_;intro b2 b3;iterate 16 (all_goals (first
  |(refine ay (sH (d:=d) (r:=⟨rn,iy,8,rf,dA,dB,rs,iC,iD,iE,iF,iG⟩) (v1:=.slice a1 dA.length c1) (v2:=.slice a2 dB.length c2) hcl) (next:=λbb hbb=>?_))
  |(refine ay (qX (d:=d) (r:=⟨rn,iy,8,rf,dA,dB,rs,iC,iD,iE,iF,iG⟩) (v1:=.slice a1 dA.length c1) (v2:=.slice a2 dB.length c2) hcl) (next:=λbb hbb=>?_))
  |(refine go ?_;first
   |with_reducible refine oF (λ_=>?_) (λ_=>?_)
   |with_reducible refine nK (λ_=>?_) (λ_=>?_)
   |with_reducible refine lU (λ_=>?_) (λ_=>?_)
   |refine aA rfl ?_ ?_<;>intro _
   |refine fq rfl (λ_=>?_) (λ_=>?_)
   |refine kw rfl (λ_=>?_) (λ_=>?_)
   |skip)))
 all_goals (try simp only[eB]at *)
 all_goals (first
  |(refine ah false (hv:=AD) (hp:=⟨(λh=>by cases h),λh=>?_⟩)
    exfalso
    rw[jw rfl rfl AE]at h;obtain⟨⟨q1,q2,q3,q4,q5,q6⟩,h7⟩:=h;dsimp only at q1 q2 q3 q4 q5 q6 h7;first
     |(simp_all;done)
     |(obtain⟨⟨p1,p2,p3⟩,p4,p5,p6⟩:=h7;dsimp only at p1 p2 p3 p4 p5 p6;first|(simp_all;done)|(simp_all;omega)|omega))
  |(refine ah true (hv:=AD) (hp:=⟨λ_=>?_,λ_=>rfl⟩)
    rw[jw rfl rfl AE];first
     |(refine⟨⟨?_,?_,?_,?_,?_,?_⟩,⟨?_,?_,?_⟩,?_,?_,?_⟩<;>dsimp only<;>first|(simp_all;done)|(simp_all;omega)|omega)
     |(refine⟨⟨?_,?_,?_,?_,?_,?_⟩,?_⟩<;>first|(simp_all;done)|(simp_all;omega)))
  |(refine ah bb (hv:=AD) (hp:=?_)
    rw[jw rfl rfl AE];constructor
    .exact ck
    .exact cm))
def aiL(hk:r.kind=9)(hcl:d.aJ.length<=4096)(h1:r.names.length<2^63)(h2:r.others.length<2^63):jG d r vh vs vr vc vu v1 v2:=by
 obtain⟨rn,iy,rk,rf,dA,dB,rs,iC,iD,iE,iF,iG⟩:=r;dsimp only at hk h1 h2;subst hk;dsimp only[jG];rw[show fM 9=⟨false,true,false,false,false,true,true,0⟩from AD];refine aM qm qY λB w0=>?_;refine gF bC v1 dA λa1 c1 e1=>?_;subst e1;refine gF bC v2 dB λa2 c2 e2=>?_;subst e2;refine go ?_;intro b2 b3;iterate 16 (all_goals (first
  |(refine ay (sH (d:=d) (r:=⟨rn,iy,9,rf,dA,dB,rs,iC,iD,iE,iF,iG⟩) (v1:=.slice a1 dA.length c1) (v2:=.slice a2 dB.length c2) hcl) (next:=λbb hbb=>?_))
  |(refine ay (qX (d:=d) (r:=⟨rn,iy,9,rf,dA,dB,rs,iC,iD,iE,iF,iG⟩) (v1:=.slice a1 dA.length c1) (v2:=.slice a2 dB.length c2) hcl) (next:=λbb hbb=>?_))
  |(refine go ?_;first
   |with_reducible refine oF (λ_=>?_) (λ_=>?_)
   |with_reducible refine nK (λ_=>?_) (λ_=>?_)
   |with_reducible refine lU (λ_=>?_) (λ_=>?_)
   |refine aA rfl ?_ ?_<;>intro _
   |refine fq rfl (λ_=>?_) (λ_=>?_)
   |refine kw rfl (λ_=>?_) (λ_=>?_)
   |skip)))
 all_goals (try simp only[eB]at *)
 all_goals (first
  |(refine ah false (hv:=AD) (hp:=⟨(λh=>by cases h),λh=>?_⟩)
    exfalso
    rw[jw rfl rfl AE]at h;obtain⟨⟨q1,q2,q3,q4,q5,q6⟩,h7⟩:=h;dsimp only at q1 q2 q3 q4 q5 q6 h7;first
     |(simp_all;done)
     |(obtain⟨⟨p1,p2,p3⟩,p4,p5,p6⟩:=h7;dsimp only at p1 p2 p3 p4 p5 p6;first|(simp_all;done)|(simp_all;omega)|omega))
  |(refine ah true (hv:=AD) (hp:=⟨λ_=>?_,λ_=>rfl⟩)
    rw[jw rfl rfl AE];first
     |(refine⟨⟨?_,?_,?_,?_,?_,?_⟩,⟨?_,?_,?_⟩,?_,?_,?_⟩<;>dsimp only<;>first|(simp_all;done)|(simp_all;omega)|omega)
     |(refine⟨⟨?_,?_,?_,?_,?_,?_⟩,?_⟩<;>first|(simp_all;done)|(simp_all;omega)))
  |(refine ah bb (hv:=AD) (hp:=?_)
    rw[jw rfl rfl AE];constructor
    .exact ck
    .exact cm))
def aiM(hk:r.kind=10)(hcl:d.aJ.length<=4096)(h1:r.names.length<2^63)(h2:r.others.length<2^63):jG d r vh vs vr vc vu v1 v2:=by
 obtain⟨rn,iy,rk,rf,dA,dB,rs,iC,iD,iE,iF,iG⟩:=r;dsimp only at hk h1 h2;subst hk;dsimp only[jG];rw[show fM 10=⟨false,true,false,false,false,true,true,0⟩from AD];refine aM qm qY λB w0=>?_;refine gF bC v1 dA λa1 c1 e1=>?_;subst e1;refine gF bC v2 dB λa2 c2 e2=>?_;subst e2;refine go ?_;intro b2 b3;iterate 16 (all_goals (first
  |(refine ay (sH (d:=d) (r:=⟨rn,iy,10,rf,dA,dB,rs,iC,iD,iE,iF,iG⟩) (v1:=.slice a1 dA.length c1) (v2:=.slice a2 dB.length c2) hcl) (next:=λbb hbb=>?_))
  |(refine ay (qX (d:=d) (r:=⟨rn,iy,10,rf,dA,dB,rs,iC,iD,iE,iF,iG⟩) (v1:=.slice a1 dA.length c1) (v2:=.slice a2 dB.length c2) hcl) (next:=λbb hbb=>?_))
  |(refine go ?_;first
   |with_reducible refine oF (λ_=>?_) (λ_=>?_)
   |with_reducible refine nK (λ_=>?_) (λ_=>?_)
   |with_reducible refine lU (λ_=>?_) (λ_=>?_)
   |refine aA rfl ?_ ?_<;>intro _
   |refine fq rfl (λ_=>?_) (λ_=>?_)
   |refine kw rfl (λ_=>?_) (λ_=>?_)
   |skip)))
 all_goals (try simp only[eB]at *)
 all_goals (first
  |(refine ah false (hv:=AD) (hp:=⟨(λh=>by cases h),λh=>?_⟩)
    exfalso
    rw[jw rfl rfl AE]at h;obtain⟨⟨q1,q2,q3,q4,q5,q6⟩,h7⟩:=h;dsimp only at q1 q2 q3 q4 q5 q6 h7;first
     |(simp_all;done)
     |(obtain⟨⟨p1,p2,p3⟩,p4,p5,p6⟩:=h7;dsimp only at p1 p2 p3 p4 p5 p6;first|(simp_all;done)|(simp_all;omega)|omega))
  |(refine ah true (hv:=AD) (hp:=⟨λ_=>?_,λ_=>rfl⟩)
    rw[jw rfl rfl AE];first
     |(refine⟨⟨?_,?_,?_,?_,?_,?_⟩,⟨?_,?_,?_⟩,?_,?_,?_⟩<;>dsimp only<;>first|(simp_all;done)|(simp_all;omega)|omega)
     |(refine⟨⟨?_,?_,?_,?_,?_,?_⟩,?_⟩<;>first|(simp_all;done)|(simp_all;omega)))
  |(refine ah bb (hv:=AD) (hp:=?_)
    rw[jw rfl rfl AE];constructor
    .exact ck
    .exact cm))
def aiN(hk:r.kind=11)(hcl:d.aJ.length<=4096)(h1:r.names.length<2^63)(h2:r.others.length<2^63):jG d r vh vs vr vc vu v1 v2:=by
 obtain⟨rn,iy,rk,rf,dA,dB,rs,iC,iD,iE,iF,iG⟩:=r;dsimp only at hk h1 h2;subst hk;dsimp only[jG];rw[show fM 11=⟨false,false,false,false,false,true,true,1⟩from AD];refine aM qm qY λB w0=>?_;refine gF bC v1 dA λa1 c1 e1=>?_;subst e1;refine gF bC v2 dB λa2 c2 e2=>?_;subst e2;refine go ?_;intro b2 b3;iterate 16 (all_goals (first
  |(refine ay (sH (d:=d) (r:=⟨rn,iy,11,rf,dA,dB,rs,iC,iD,iE,iF,iG⟩) (v1:=.slice a1 dA.length c1) (v2:=.slice a2 dB.length c2) hcl) (next:=λbb hbb=>?_))
  |(refine ay (qX (d:=d) (r:=⟨rn,iy,11,rf,dA,dB,rs,iC,iD,iE,iF,iG⟩) (v1:=.slice a1 dA.length c1) (v2:=.slice a2 dB.length c2) hcl) (next:=λbb hbb=>?_))
  |(refine go ?_;first
   |with_reducible refine oF (λ_=>?_) (λ_=>?_)
   |with_reducible refine nK (λ_=>?_) (λ_=>?_)
   |with_reducible refine lU (λ_=>?_) (λ_=>?_)
   |refine aA rfl ?_ ?_<;>intro _
   |refine fq rfl (λ_=>?_) (λ_=>?_)
   |refine kw rfl (λ_=>?_) (λ_=>?_)
   |skip)))
 all_goals (try simp only[eB]at *)
 all_goals (first
  |(refine ah false (hv:=AD) (hp:=⟨(λh=>by cases h),λh=>?_⟩)
    exfalso
    rw[jw rfl rfl AE]at h;obtain⟨⟨q1,q2,q3,q4,q5,q6⟩,h7⟩:=h;dsimp only at q1 q2 q3 q4 q5 q6 h7;first
     |(simp_all;done)
     |(obtain⟨⟨p1,p2,p3⟩,p4,p5,p6⟩:=h7;dsimp only at p1 p2 p3 p4 p5 p6;first|(simp_all;done)|(simp_all;omega)|omega))
  |(refine ah true (hv:=AD) (hp:=⟨λ_=>?_,λ_=>rfl⟩)
    rw[jw rfl rfl AE];first
     |(refine⟨⟨?_,?_,?_,?_,?_,?_⟩,⟨?_,?_,?_⟩,?_,?_,?_⟩<;>dsimp only<;>first|(simp_all;done)|(simp_all;omega)|omega)
     |(refine⟨⟨?_,?_,?_,?_,?_,?_⟩,?_⟩<;>first|(simp_all;done)|(simp_all;omega)))
  |(refine ah bb (hv:=AD) (hp:=?_)
    rw[jw rfl rfl AE];constructor
    .exact ck
    .exact cm))
def aiO(hk:r.kind=12)(hcl:d.aJ.length<=4096)(h1:r.names.length<2^63)(h2:r.others.length<2^63):jG d r vh vs vr vc vu v1 v2:=by
 obtain⟨rn,iy,rk,rf,dA,dB,rs,iC,iD,iE,iF,iG⟩:=r;dsimp only at hk h1 h2;subst hk;dsimp only[jG];rw[show fM 12=⟨true,false,false,false,false,false,true,0⟩from AD];refine aM qm qY λB w0=>?_;refine gF bC v1 dA λa1 c1 e1=>?_;subst e1;refine gF bC v2 dB λa2 c2 e2=>?_;subst e2;refine go ?_;intro b2 b3;iterate 16 (all_goals (first
  |(refine ay (sH (d:=d) (r:=⟨rn,iy,12,rf,dA,dB,rs,iC,iD,iE,iF,iG⟩) (v1:=.slice a1 dA.length c1) (v2:=.slice a2 dB.length c2) hcl) (next:=λbb hbb=>?_))
  |(refine ay (qX (d:=d) (r:=⟨rn,iy,12,rf,dA,dB,rs,iC,iD,iE,iF,iG⟩) (v1:=.slice a1 dA.length c1) (v2:=.slice a2 dB.length c2) hcl) (next:=λbb hbb=>?_))
  |(refine go ?_;first
   |with_reducible refine oF (λ_=>?_) (λ_=>?_)
   |with_reducible refine nK (λ_=>?_) (λ_=>?_)
   |with_reducible refine lU (λ_=>?_) (λ_=>?_)
   |refine aA rfl ?_ ?_<;>intro _
   |refine fq rfl (λ_=>?_) (λ_=>?_)
   |refine kw rfl (λ_=>?_) (λ_=>?_)
   |skip)))
 all_goals (try simp only[eB]at *)
 all_goals (first
  |(refine ah false (hv:=AD) (hp:=⟨(λh=>by cases h),λh=>?_⟩)
    exfalso
    rw[jw rfl rfl AE]at h;obtain⟨⟨q1,q2,q3,q4,q5,q6⟩,h7⟩:=h;dsimp only at q1 q2 q3 q4 q5 q6 h7;first
     |(simp_all;done)
     |(obtain⟨⟨p1,p2,p3⟩,p4,p5,p6⟩:=h7;dsimp only at p1 p2 p3 p4 p5 p6;first|(simp_all;done)|(simp_all;omega)|omega))
  |(refine ah true (hv:=AD) (hp:=⟨λ_=>?_,λ_=>rfl⟩)
    rw[jw rfl rfl AE];first
     |(refine⟨⟨?_,?_,?_,?_,?_,?_⟩,⟨?_,?_,?_⟩,?_,?_,?_⟩<;>dsimp only<;>first|(simp_all;done)|(simp_all;omega)|omega)
     |(refine⟨⟨?_,?_,?_,?_,?_,?_⟩,?_⟩<;>first|(simp_all;done)|(simp_all;omega)))
  |(refine ah bb (hv:=AD) (hp:=?_)
    rw[jw rfl rfl AE];constructor
    .exact ck
    .exact cm))
def aiP(hk:r.kind=13)(hcl:d.aJ.length<=4096)(h1:r.names.length<2^63)(h2:r.others.length<2^63):jG d r vh vs vr vc vu v1 v2:=by
 obtain⟨rn,iy,rk,rf,dA,dB,rs,iC,iD,iE,iF,iG⟩:=r;dsimp only at hk h1 h2;subst hk;dsimp only[jG];rw[show fM 13=⟨false,false,false,true,false,false,true,0⟩from AD];refine aM qm qY λB w0=>?_;refine gF bC v1 dA λa1 c1 e1=>?_;subst e1;refine gF bC v2 dB λa2 c2 e2=>?_;subst e2;refine go ?_;intro b2 b3;iterate 16 (all_goals (first
  |(refine ay (sH (d:=d) (r:=⟨rn,iy,13,rf,dA,dB,rs,iC,iD,iE,iF,iG⟩) (v1:=.slice a1 dA.length c1) (v2:=.slice a2 dB.length c2) hcl) (next:=λbb hbb=>?_))
  |(refine ay (qX (d:=d) (r:=⟨rn,iy,13,rf,dA,dB,rs,iC,iD,iE,iF,iG⟩) (v1:=.slice a1 dA.length c1) (v2:=.slice a2 dB.length c2) hcl) (next:=λbb hbb=>?_))
  |(refine go ?_;first
   |with_reducible refine oF (λ_=>?_) (λ_=>?_)
   |with_reducible refine nK (λ_=>?_) (λ_=>?_)
   |with_reducible refine lU (λ_=>?_) (λ_=>?_)
   |refine aA rfl ?_ ?_<;>intro _
   |refine fq rfl (λ_=>?_) (λ_=>?_)
   |refine kw rfl (λ_=>?_) (λ_=>?_)
   |skip)))
 all_goals (try simp only[eB]at *)
 all_goals (first
  |(refine ah false (hv:=AD) (hp:=⟨(λh=>by cases h),λh=>?_⟩)
    exfalso
    rw[yz rfl rfl rfl rfl]at h;obtain⟨⟨q1,q2,q3,q4,q5,q6⟩,h7⟩:=h;dsimp only at q1 q2 q3 q4 q5 q6 h7;first
     |(simp_all;done)
     |(obtain⟨⟨p1,p2,p3⟩,p4,p5,p6⟩:=h7;dsimp only at p1 p2 p3 p4 p5 p6;first|(simp_all;done)|(simp_all;omega)|omega))
  |(refine ah true (hv:=AD) (hp:=⟨λ_=>?_,λ_=>rfl⟩)
    rw[yz rfl rfl rfl rfl];first
     |(refine⟨⟨?_,?_,?_,?_,?_,?_⟩,⟨?_,?_,?_⟩,?_,?_,?_⟩<;>dsimp only<;>first|(simp_all;done)|(simp_all;omega)|omega)
     |(refine⟨⟨?_,?_,?_,?_,?_,?_⟩,?_⟩<;>first|(simp_all;done)|(simp_all;omega)))
  |(refine ah bb (hv:=AD) (hp:=?_)
    rw[yz rfl rfl rfl rfl];constructor
    .exact ck
    .exact cm))
def aiQ(hk:¬(1<=r.kind/\r.kind<=13)):jG d r vh vs vr vc vu v1 v2:=by
 dsimp only[jG];have hx:¬wJ (fM r.kind) d.aJ r:=λh=>by
  have h1:=h.known;by_cases h0:r.kind=0
  .rw[h0]at h1;cases h1
  .rw[Dj z7]at h1;cases h1
 refine aM qm qY λB w0=>?_;refine go ?_;intro b2 b3;iterate 13 (refine go ?_;refine aA rfl (λh=>?_) (λ_=>?_);(exfalso;omega))
 refine go ?_;exact gQ false ⟨(λh=>by cases h),λh=>absurd h hx⟩
def aiR(hcl:d.aJ.length<=4096)(h1:r.names.length<2^63)(h2:r.others.length<2^63):jG d r vh vs vr vc vu v1 v2:=by
 by_cases h:1<=r.kind/\r.kind<=13
 .rcases(show r.kind=1\/r.kind=2\/r.kind=3\/r.kind=4\/r.kind=5\/r.kind=6\/r.kind=7\/r.kind=8\/r.kind=9\/r.kind=10\/r.kind=11\/r.kind=12\/r.kind=13 by omega)with hk|hk|hk|hk|hk|hk|hk|hk|hk|hk|hk|hk|hk
  .exact aiD hk hcl h1 h2
  .exact aiE hk hcl h1 h2
  .exact aiF hk hcl h1 h2
  .exact aiG hk hcl h1 h2
  .exact aiH hk hcl h1 h2
  .exact aiI hk hcl h1 h2
  .exact aiJ hk hcl h1 h2
  .exact aiK hk hcl h1 h2
  .exact aiL hk hcl h1 h2
  .exact aiM hk hcl h1 h2
  .exact aiN hk hcl h1 h2
  .exact aiO hk hcl h1 h2
  .exact aiP hk hcl h1 h2
 .exact aiQ h
def aiS(hS:ng d):
 fC Tryz.prog 198 [.agg ⟨ahE d vh vs vr vc vu⟩] [ai fF vs d.symbols,ai bI vc d.aJ,ai aY vu d.rules] (λb:Bool=>.bool b) (λb=>b=true↔JP d):=by
 have hsl:=hS.eH;have hcl:=hS.jg;have yc:=hS.kX;refine gB 198 λB w0=>?_;refine gF fF vs d.symbols λkY cs1 es=>?_;subst es;refine gF bI vc d.aJ λac cc ec=>?_;subst ec;refine gF aY vu d.rules λau cu eu=>?_;subst eu;refine go ?_;intro b1;refine gP b1 ?_;refine gN d.symbols.length 3 (λk=>k<=d.symbols.length/\∀s∈d.symbols.take k,0<=s.value/\s.value<=99) ⟨bR _,An⟩ ?_;rintro k ⟨hk,hall⟩;refine gIf ?_ ?_<;>intro h1
 .refine gX fF (xs:=d.symbols) λ_ _ s (_:Unit) hs=>?_;have hsm:=aZ hs;refine gH ?_ ?_<;>intro h2
  rotate_left
  .exact fc
  refine gX fF (xs:=d.symbols) λ_ _ s' (_:Unit) hs'=>?_;cases hs.symm.trans hs';refine gIf ?_ ?_<;>intro h3
  .exact fc
  exact gR
 have hks:k=d.symbols.length:=z7
 subst hks;rw[bU]at hall;clear hk h1;refine gN d.rules.length 4 (λk=>k<=d.rules.length/\∀r∈d.rules.take k,wJ (fM r.kind) d.aJ r) ⟨bR _,An⟩ ?_;rintro k ⟨hk,Bq⟩;refine gIf ?_ ?_<;>intro h1
 .refine gX aY (xs:=d.rules) λ_ _ r (vv:vI×vI) hr=>?_;have hrm:=aZ hr;have hrn:=hS.rY r hrm;refine gC (aiR (d:=d) (r:=r) (v1:=vv.1) (v2:=vv.2) hcl hrn.1 hrn.2) λb hb=>?_;cases b with
  |false=>
   exact qT
  |true=>
   have hR:=hb.1 rfl;exact ia
 have hkr:k=d.rules.length:=z7
 subst hkr;rw[bU]at Bq;clear hk h1;refine gN d.aJ.length 5 (λk=>k<=d.aJ.length/\∀(i:Nat) (c:gW),i<k->d.aJ[i]? =some c->(d.rules.map (·.adJ)).count (i:Int)=1/\qR c) ⟨bR _,λi c h=>by omega⟩ ?_;rintro k ⟨hk,FN⟩;refine gIf ?_ ?_<;>intro h1
 .obtain⟨c,hc⟩:∃c,d.aJ[k]? =some c:=⟨d.aJ[k]'(z7),bP _⟩
  refine gL (λj:Nat=>d.rules.length - j) (λj=>[(7,iV (j:Int)),(6,iV (((d.rules.take j).map (·.adJ)).count (k:Int):Nat))]) (λj=>j<=d.rules.length) 0 (bR _) ?_;intro j hj;have hcn:((d.rules.take j).map (·.adJ)).count (k:Int)<=4096:=by
   have:=Ux (k:Int) ((d.rules.take j).map (·.adJ));rw[bY,gT]at this;omega
  refine gIf ?_ ?_<;>intro h2
  .refine gX aY (xs:=d.rules) λ_ _ r (vv:vI×vI) hr=>?_;have hst:((d.rules.take (j+1)).map (·.adJ)).count (k:Int)=((d.rules.take j).map (·.adJ)).count (k:Int)+if r.adJ=(k:Int)then 1 else 0:=by
    rw[bZ hr,fP,sQ,List.count_append,List.count_singleton];congr 1;by_cases e:r.adJ=(k:Int)<;>simp[e]
   refine gIf ?_ ?_<;>intro h3
   .rw[if_pos h3]at hst;exact nr
   .rw[if_neg h3]at hst;exact nr
  have hjr:j=d.rules.length:=z7
  subst hjr;rw[bU]at hcn⊢;refine gH ?_ ?_<;>intro h3
  .refine gX bI (xs:=d.aJ) λ_ _ c' (_:Unit) hc'=>?_;cases hc.symm.trans hc';refine gC (aiy (c:=c)) λ_ _=>?_;refine go ?_;refine fq rfl (λh4=>?_) (λh4=>?_)
   .refine go ?_;exact gQ false ⟨(λh=>by cases h),λh=>absurd (h.jg k c hc).2 h4⟩
   .refine go ?_;refine aN (k+1) D1 ⟨z7,λi x hi hx=>?_⟩;by_cases hik:i=k
    .subst hik;rw[hc]at hx;cases hx;exact⟨z7,h4⟩
    .exact FN i x z7 hx
  .exact qt
 have hkc:k=d.aJ.length:=z7
 subst hkc;refine go ?_;exact gQ true ⟨λ_=>⟨hall,Bq,λi c hc=>FN i c (bq.1 hc).1 hc⟩,λ_=>rfl⟩
def aiT(hT:vC d):fC Tryz.prog 133 [.agg ⟨ahE d vh vs vr vc vu⟩] (lG d vh vs vr vc vu) (λe:Int=>iV e) (λe=>e=0↔FO d):=by
 have hD:=hT.s;have hsl:=hD.eH;have hrl:=hD.regs;have hcl:=hD.jg;have yc:=hD.kX;refine gB 133 λB w0=>?_;refine gF fF vs d.symbols λkY cs1 es=>?_;subst es;refine gF eY vr d.regions λar cr er=>?_;subst er;refine gF bI vc d.aJ λac cc ec=>?_;subst ec;refine gF aY vu d.rules λau cu eu=>?_;subst eu;refine go ?_;intro b1;refine gP b1 ?_;refine gH ?_ ?_<;>intro k1
 rotate_left
 .refine go ?_;refine gQ 2 ⟨λh=>?_,λh=>?_⟩
  .exact mS
  exfalso
  have:=h.lim.s0;omega
 refine gH ?_ ?_<;>intro k2
 rotate_left
 .refine go ?_;refine gQ 2 ⟨λh=>?_,λh=>?_⟩
  .exact mS
  exfalso
  have:=h.lim.s1;omega
 refine gH ?_ ?_<;>intro k3
 rotate_left
 .refine go ?_;refine gQ 2 ⟨λh=>?_,λh=>?_⟩
  .exact mS
  exfalso
  have:=h.lim.r;omega
 refine gH ?_ ?_<;>intro k4
 rotate_left
 .refine go ?_;refine gQ 2 ⟨λh=>?_,λh=>?_⟩
  .exact mS
  exfalso
  have:=h.lim.c;omega
 refine gIf ?_ ?_<;>intro k5
 .refine go ?_;refine gQ 2 ⟨λh=>?_,λh=>?_⟩
  .exact mS
  exfalso
  have:=h.lim.u;omega
 refine gC (WH (d:=d) hD) λy hy=>?_;obtain⟨ok,e,v1,v2⟩:=y;cases ok with
 |false=>
  obtain⟨he,hno⟩:=hy.2 rfl;have he:e≠0:=he;dsimp only[cond,rX,oL,List.nil_append];refine go ?_;intro b3;refine gIf ?_ ?_<;>intro k6
  rotate_left
  .exact absurd (ic.1 k6) he
  refine go ?_;exact gQ e ⟨λh=>absurd h he,λh=>absurd h.rs hno⟩
 |true=>
 obtain⟨he,hres⟩:=hy.1 rfl;have he:e=0:=he;subst he;clear hy;dsimp only[cond,rX,oL,List.cons_append,List.nil_append];refine go ?_;intro b3;refine go ?_;refine eF (ai ae vh (Kd.bE d).holes) (λw hw=>hw (ai ae vh d.holes) An) ?_;refine eF (ai fF (.slice kY d.symbols.length cs1) (Kd.bE d).symbols) (λw hw=>hw (ai fF (.slice kY d.symbols.length cs1) d.symbols) An) ?_;refine eF (ai eY (.slice ar d.regions.length cr) (Kd.bE d).regions) (λw hw=>hw (ai eY (.slice ar d.regions.length cr) d.regions) An) ?_;refine ay (ais (x:=Kd.bE d) (y:=d) (h1:=vh) (s1:=.slice kY d.symbols.length cs1) (r1:=.slice ar d.regions.length cr) (c1:=v1) (u1:=v2) (h2:=vh) (s2:=.slice kY d.symbols.length cs1) (r2:=.slice ar d.regions.length cr) (c2:=.slice ac d.aJ.length cc) (u2:=.slice au d.rules.length cu) hD.bE) (next:=λ_ _=>?_);refine go ?_;refine nK (λk7=>?_) (λk7=>?_)
 rotate_left
 .refine go ?_;refine gQ 170 ⟨λh=>?_,λh=>?_⟩
  .exact mS
  exfalso
  exact k7 h.same
 refine gH ?_ ?_<;>intro k8
 rotate_left
 .exact zp
 refine gIf ?_ ?_<;>intro k9
 .exact zp
 refine gC (O4 (s:=d.shape) (w:=d.w) (h:=d.h) (holes:=d.holes) (vh:=vh) hT.w hT.h hT.holes) λy hy=>?_;obtain⟨ok,gh,gc⟩:=y;cases ok with
 |false=>
  have hno:¬oH d.shape d.w d.h d.holes:=λh=>by have:=hy.2 h;cases this
  dsimp only[mkV,pM,cond,List.nil_append];refine go ?_;intro b5;refine go ?_;exact gQ 130 ⟨(λh=>by cases h),λh=>absurd h.Dk hno⟩
 |true=>
 have hmk:=hy.1 rfl;clear hy;dsimp only[cond,mkV,pM];rw[show wH d.shape d.w d.h d.holes=aT d from rfl];dsimp only[jq,iO,List.cons_append,List.nil_append];refine go ?_;intro b5;refine go ?_;have htr:=aix (d:=d) (vh:=vh) (vs:=.slice kY d.symbols.length cs1) (vr:=.slice ar d.regions.length cr) (vc:=.slice ac d.aJ.length cc) (vu:=.slice au d.rules.length cu) (gh:=gh) (gc:=gc) (g:=aT d) hD (FP hmk);dsimp only[jq,iO]at htr;refine ay htr (next:=λe he=>?_);refine gIf ?_ ?_<;>intro k10
 .refine go ?_;exact gQ e ⟨λh=>absurd h k10,λh=>absurd (he.2 h.Dl) k10⟩
 have hrg:=he.1 (ic.1 k10);clear he k10;refine gC (aiS (d:=d) hD) λb hb=>?_;cases b with
 |false=>
  refine go ?_;exact gQ 170 ⟨(λh=>by cases h),λh=>absurd (hb.2 h.form) An⟩
 |true=>
 have hfm:=hb.1 rfl;clear hb;refine gC (aiB (d:=d) yc) λa3 _=>?_;refine gIf ?_ ?_<;>intro k11
 .refine go ?_;refine gQ 171 ⟨λh=>?_,λh=>?_⟩
  .exact mS
  exfalso
  rw[h.read]at k11;simp at k11
 refine go ?_;exact gQ 0 ⟨λ_=>⟨⟨z7,z7,z7,z7,z7⟩,hres,k7,⟨z7,z7⟩,hmk,hrg,hfm,jy.1 z7⟩,λ_=>rfl⟩
