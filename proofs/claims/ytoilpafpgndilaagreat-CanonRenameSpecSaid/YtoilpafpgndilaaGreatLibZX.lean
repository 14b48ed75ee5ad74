/-
  Part LibZX.
-/
import Derived.Test.YtoilpafpgndilaaGreatLibWX
import Derived.Test.YtoilpafpgndilaaGreatLibVX
set_option linter.all false
set_option maxRecDepth 10000
set_option maxHeartbeats 4000000
namespace Go.Proofs.YtoilpafpgndilaaGreat
open Go.Ideal Kd
theorem aiK{d:bF}{r:bN}{vh vs vr vc vu v1 v2:Value}(hk:r.kind=8)(hcl:d.aJ.length<=4096)(h1:r.names.length<9223372036854775808)(h2:r.others.length<9223372036854775808):jG d r vh vs vr vc vu v1 v2:=by
 obtain⟨rn,iy,rk,rf,dA,dB,rs,iC,iD,iE,iF,iG⟩:=r;dsimp only at hk h1 h2;subst hk;dsimp only[jG];rw[show fM 8=⟨false,true,true,false,false,true,true,0⟩from by rfl];refine aM qm qY λB w0=>?_;refine aS (E:=bC) (v:=v1) (xs:=dA) (by simp) λa1 c1 e1=>?_;subst e1;refine aS (E:=bC) (v:=v2) (xs:=dB) (by simp) λa2 c2 e2=>?_;subst e2;refine go ?_;intro b2 b3;iterate 16 (all_goals (first
  |(refine ay (sH (d:=d) (r:=⟨rn,iy,8,rf,dA,dB,rs,iC,iD,iE,iF,iG⟩) (v1:=.slice a1 dA.length c1) (v2:=.slice a2 dB.length c2) hcl) (next:=λbb hbb=>?_))
  |(refine ay (qX (d:=d) (r:=⟨rn,iy,8,rf,dA,dB,rs,iC,iD,iE,iF,iG⟩) (v1:=.slice a1 dA.length c1) (v2:=.slice a2 dB.length c2) hcl) (next:=λbb hbb=>?_))
  |(refine go ?_;first
   |with_reducible refine oF (λ_=>?_) (λ_=>?_)
   |with_reducible refine nK (λ_=>?_) (λ_=>?_)
   |with_reducible refine lU (λ_=>?_) (λ_=>?_)
   |refine aA rfl (λ_=>?_) (λ_=>?_)
   |refine fq rfl (λ_=>?_) (λ_=>?_)
   |refine kw rfl (λ_=>?_) (λ_=>?_)
   |skip)))
 all_goals (try simp only[eB]at *)
 all_goals (first
  |(refine ah false (hv:=by rfl) (hp:=⟨(λh=>by cases h),λh=>?_⟩)
    exfalso
    rw[jw rfl rfl (by decide)]at h;obtain⟨⟨q1,q2,q3,q4,q5,q6⟩,h7⟩:=h;dsimp only at q1 q2 q3 q4 q5 q6 h7;first
     |(simp_all;done)
     |(obtain⟨⟨p1,p2,p3⟩,p4,p5,p6⟩:=h7;dsimp only at p1 p2 p3 p4 p5 p6;first|(simp_all;done)|(simp_all;omega)|omega))
  |(refine ah true (hv:=by rfl) (hp:=⟨λ_=>?_,λ_=>rfl⟩)
    rw[jw rfl rfl (by decide)];first
     |(refine⟨⟨?_,?_,?_,?_,?_,?_⟩,⟨?_,?_,?_⟩,?_,?_,?_⟩<;>dsimp only<;>first|(simp_all;done)|(simp_all;omega)|omega)
     |(refine⟨⟨?_,?_,?_,?_,?_,?_⟩,?_⟩<;>first|(simp_all;done)|(simp_all;omega)))
  |(refine ah bb (hv:=by rfl) (hp:=?_)
    rw[jw rfl rfl (by decide)];constructor
    ·intro hb;refine⟨⟨?_,?_,?_,?_,?_,?_⟩,⟨?_,?_,?_⟩,?_,?_,?_⟩<;>dsimp only<;>first|(simp_all;done)|(simp_all;omega)|omega
    ·rintro⟨⟨q1,q2,q3,q4,q5,q6⟩,⟨p1,p2,p3⟩,p4,p5,p6⟩;dsimp only at q1 q2 q3 q4 q5 q6 p1 p2 p3 p4 p5 p6
     simp_all))
theorem aiL{d:bF}{r:bN}{vh vs vr vc vu v1 v2:Value}(hk:r.kind=9)(hcl:d.aJ.length<=4096)(h1:r.names.length<9223372036854775808)(h2:r.others.length<9223372036854775808):jG d r vh vs vr vc vu v1 v2:=by
 obtain⟨rn,iy,rk,rf,dA,dB,rs,iC,iD,iE,iF,iG⟩:=r;dsimp only at hk h1 h2;subst hk;dsimp only[jG];rw[show fM 9=⟨false,true,false,false,false,true,true,0⟩from by rfl];refine aM qm qY λB w0=>?_;refine aS (E:=bC) (v:=v1) (xs:=dA) (by simp) λa1 c1 e1=>?_;subst e1;refine aS (E:=bC) (v:=v2) (xs:=dB) (by simp) λa2 c2 e2=>?_;subst e2;refine go ?_;intro b2 b3;iterate 16 (all_goals (first
  |(refine ay (sH (d:=d) (r:=⟨rn,iy,9,rf,dA,dB,rs,iC,iD,iE,iF,iG⟩) (v1:=.slice a1 dA.length c1) (v2:=.slice a2 dB.length c2) hcl) (next:=λbb hbb=>?_))
  |(refine ay (qX (d:=d) (r:=⟨rn,iy,9,rf,dA,dB,rs,iC,iD,iE,iF,iG⟩) (v1:=.slice a1 dA.length c1) (v2:=.slice a2 dB.length c2) hcl) (next:=λbb hbb=>?_))
  |(refine go ?_;first
   |with_reducible refine oF (λ_=>?_) (λ_=>?_)
   |with_reducible refine nK (λ_=>?_) (λ_=>?_)
   |with_reducible refine lU (λ_=>?_) (λ_=>?_)
   |refine aA rfl (λ_=>?_) (λ_=>?_)
   |refine fq rfl (λ_=>?_) (λ_=>?_)
   |refine kw rfl (λ_=>?_) (λ_=>?_)
   |skip)))
 all_goals (try simp only[eB]at *)
 all_goals (first
  |(refine ah false (hv:=by rfl) (hp:=⟨(λh=>by cases h),λh=>?_⟩)
    exfalso
    rw[jw rfl rfl (by decide)]at h;obtain⟨⟨q1,q2,q3,q4,q5,q6⟩,h7⟩:=h;dsimp only at q1 q2 q3 q4 q5 q6 h7;first
     |(simp_all;done)
     |(obtain⟨⟨p1,p2,p3⟩,p4,p5,p6⟩:=h7;dsimp only at p1 p2 p3 p4 p5 p6;first|(simp_all;done)|(simp_all;omega)|omega))
  |(refine ah true (hv:=by rfl) (hp:=⟨λ_=>?_,λ_=>rfl⟩)
    rw[jw rfl rfl (by decide)];first
     |(refine⟨⟨?_,?_,?_,?_,?_,?_⟩,⟨?_,?_,?_⟩,?_,?_,?_⟩<;>dsimp only<;>first|(simp_all;done)|(simp_all;omega)|omega)
     |(refine⟨⟨?_,?_,?_,?_,?_,?_⟩,?_⟩<;>first|(simp_all;done)|(simp_all;omega)))
  |(refine ah bb (hv:=by rfl) (hp:=?_)
    rw[jw rfl rfl (by decide)];constructor
    ·intro hb;refine⟨⟨?_,?_,?_,?_,?_,?_⟩,⟨?_,?_,?_⟩,?_,?_,?_⟩<;>dsimp only<;>first|(simp_all;done)|(simp_all;omega)|omega
    ·rintro⟨⟨q1,q2,q3,q4,q5,q6⟩,⟨p1,p2,p3⟩,p4,p5,p6⟩;dsimp only at q1 q2 q3 q4 q5 q6 p1 p2 p3 p4 p5 p6
     simp_all))
theorem aiM{d:bF}{r:bN}{vh vs vr vc vu v1 v2:Value}(hk:r.kind=10)(hcl:d.aJ.length<=4096)(h1:r.names.length<9223372036854775808)(h2:r.others.length<9223372036854775808):jG d r vh vs vr vc vu v1 v2:=by
 obtain⟨rn,iy,rk,rf,dA,dB,rs,iC,iD,iE,iF,iG⟩:=r;dsimp only at hk h1 h2;subst hk;dsimp only[jG];rw[show fM 10=⟨false,true,false,false,false,true,true,0⟩from by rfl];refine aM qm qY λB w0=>?_;refine aS (E:=bC) (v:=v1) (xs:=dA) (by simp) λa1 c1 e1=>?_;subst e1;refine aS (E:=bC) (v:=v2) (xs:=dB) (by simp) λa2 c2 e2=>?_;subst e2;refine go ?_;intro b2 b3;iterate 16 (all_goals (first
  |(refine ay (sH (d:=d) (r:=⟨rn,iy,10,rf,dA,dB,rs,iC,iD,iE,iF,iG⟩) (v1:=.slice a1 dA.length c1) (v2:=.slice a2 dB.length c2) hcl) (next:=λbb hbb=>?_))
  |(refine ay (qX (d:=d) (r:=⟨rn,iy,10,rf,dA,dB,rs,iC,iD,iE,iF,iG⟩) (v1:=.slice a1 dA.length c1) (v2:=.slice a2 dB.length c2) hcl) (next:=λbb hbb=>?_))
  |(refine go ?_;first
   |with_reducible refine oF (λ_=>?_) (λ_=>?_)
   |with_reducible refine nK (λ_=>?_) (λ_=>?_)
   |with_reducible refine lU (λ_=>?_) (λ_=>?_)
   |refine aA rfl (λ_=>?_) (λ_=>?_)
   |refine fq rfl (λ_=>?_) (λ_=>?_)
   |refine kw rfl (λ_=>?_) (λ_=>?_)
   |skip)))
 all_goals (try simp only[eB]at *)
 all_goals (first
  |(refine ah false (hv:=by rfl) (hp:=⟨(λh=>by cases h),λh=>?_⟩)
    exfalso
    rw[jw rfl rfl (by decide)]at h;obtain⟨⟨q1,q2,q3,q4,q5,q6⟩,h7⟩:=h;dsimp only at q1 q2 q3 q4 q5 q6 h7;first
     |(simp_all;done)
     |(obtain⟨⟨p1,p2,p3⟩,p4,p5,p6⟩:=h7;dsimp only at p1 p2 p3 p4 p5 p6;first|(simp_all;done)|(simp_all;omega)|omega))
  |(refine ah true (hv:=by rfl) (hp:=⟨λ_=>?_,λ_=>rfl⟩)
    rw[jw rfl rfl (by decide)];first
     |(refine⟨⟨?_,?_,?_,?_,?_,?_⟩,⟨?_,?_,?_⟩,?_,?_,?_⟩<;>dsimp only<;>first|(simp_all;done)|(simp_all;omega)|omega)
     |(refine⟨⟨?_,?_,?_,?_,?_,?_⟩,?_⟩<;>first|(simp_all;done)|(simp_all;omega)))
  |(refine ah bb (hv:=by rfl) (hp:=?_)
    rw[jw rfl rfl (by decide)];constructor
    ·intro hb;refine⟨⟨?_,?_,?_,?_,?_,?_⟩,⟨?_,?_,?_⟩,?_,?_,?_⟩<;>dsimp only<;>first|(simp_all;done)|(simp_all;omega)|omega
    ·rintro⟨⟨q1,q2,q3,q4,q5,q6⟩,⟨p1,p2,p3⟩,p4,p5,p6⟩;dsimp only at q1 q2 q3 q4 q5 q6 p1 p2 p3 p4 p5 p6
     simp_all))
theorem aiN{d:bF}{r:bN}{vh vs vr vc vu v1 v2:Value}(hk:r.kind=11)(hcl:d.aJ.length<=4096)(h1:r.names.length<9223372036854775808)(h2:r.others.length<9223372036854775808):jG d r vh vs vr vc vu v1 v2:=by
 obtain⟨rn,iy,rk,rf,dA,dB,rs,iC,iD,iE,iF,iG⟩:=r;dsimp only at hk h1 h2;subst hk;dsimp only[jG];rw[show fM 11=⟨false,false,false,false,false,true,true,1⟩from by rfl];refine aM qm qY λB w0=>?_;refine aS (E:=bC) (v:=v1) (xs:=dA) (by simp) λa1 c1 e1=>?_;subst e1;refine aS (E:=bC) (v:=v2) (xs:=dB) (by simp) λa2 c2 e2=>?_;subst e2;refine go ?_;intro b2 b3;iterate 16 (all_goals (first
  |(refine ay (sH (d:=d) (r:=⟨rn,iy,11,rf,dA,dB,rs,iC,iD,iE,iF,iG⟩) (v1:=.slice a1 dA.length c1) (v2:=.slice a2 dB.length c2) hcl) (next:=λbb hbb=>?_))
  |(refine ay (qX (d:=d) (r:=⟨rn,iy,11,rf,dA,dB,rs,iC,iD,iE,iF,iG⟩) (v1:=.slice a1 dA.length c1) (v2:=.slice a2 dB.length c2) hcl) (next:=λbb hbb=>?_))
  |(refine go ?_;first
   |with_reducible refine oF (λ_=>?_) (λ_=>?_)
   |with_reducible refine nK (λ_=>?_) (λ_=>?_)
   |with_reducible refine lU (λ_=>?_) (λ_=>?_)
   |refine aA rfl (λ_=>?_) (λ_=>?_)
   |refine fq rfl (λ_=>?_) (λ_=>?_)
   |refine kw rfl (λ_=>?_) (λ_=>?_)
   |skip)))
 all_goals (try simp only[eB]at *)
 all_goals (first
  |(refine ah false (hv:=by rfl) (hp:=⟨(λh=>by cases h),λh=>?_⟩)
    exfalso
    rw[jw rfl rfl (by decide)]at h;obtain⟨⟨q1,q2,q3,q4,q5,q6⟩,h7⟩:=h;dsimp only at q1 q2 q3 q4 q5 q6 h7;first
     |(simp_all;done)
     |(obtain⟨⟨p1,p2,p3⟩,p4,p5,p6⟩:=h7;dsimp only at p1 p2 p3 p4 p5 p6;first|(simp_all;done)|(simp_all;omega)|omega))
  |(refine ah true (hv:=by rfl) (hp:=⟨λ_=>?_,λ_=>rfl⟩)
    rw[jw rfl rfl (by decide)];first
     |(refine⟨⟨?_,?_,?_,?_,?_,?_⟩,⟨?_,?_,?_⟩,?_,?_,?_⟩<;>dsimp only<;>first|(simp_all;done)|(simp_all;omega)|omega)
     |(refine⟨⟨?_,?_,?_,?_,?_,?_⟩,?_⟩<;>first|(simp_all;done)|(simp_all;omega)))
  |(refine ah bb (hv:=by rfl) (hp:=?_)
    rw[jw rfl rfl (by decide)];constructor
    ·intro hb;refine⟨⟨?_,?_,?_,?_,?_,?_⟩,⟨?_,?_,?_⟩,?_,?_,?_⟩<;>dsimp only<;>first|(simp_all;done)|(simp_all;omega)|omega
    ·rintro⟨⟨q1,q2,q3,q4,q5,q6⟩,⟨p1,p2,p3⟩,p4,p5,p6⟩;dsimp only at q1 q2 q3 q4 q5 q6 p1 p2 p3 p4 p5 p6
     simp_all))
theorem aiO{d:bF}{r:bN}{vh vs vr vc vu v1 v2:Value}(hk:r.kind=12)(hcl:d.aJ.length<=4096)(h1:r.names.length<9223372036854775808)(h2:r.others.length<9223372036854775808):jG d r vh vs vr vc vu v1 v2:=by
 obtain⟨rn,iy,rk,rf,dA,dB,rs,iC,iD,iE,iF,iG⟩:=r;dsimp only at hk h1 h2;subst hk;dsimp only[jG];rw[show fM 12=⟨true,false,false,false,false,false,true,0⟩from by rfl];refine aM qm qY λB w0=>?_;refine aS (E:=bC) (v:=v1) (xs:=dA) (by simp) λa1 c1 e1=>?_;subst e1;refine aS (E:=bC) (v:=v2) (xs:=dB) (by simp) λa2 c2 e2=>?_;subst e2;refine go ?_;intro b2 b3;iterate 16 (all_goals (first
  |(refine ay (sH (d:=d) (r:=⟨rn,iy,12,rf,dA,dB,rs,iC,iD,iE,iF,iG⟩) (v1:=.slice a1 dA.length c1) (v2:=.slice a2 dB.length c2) hcl) (next:=λbb hbb=>?_))
  |(refine ay (qX (d:=d) (r:=⟨rn,iy,12,rf,dA,dB,rs,iC,iD,iE,iF,iG⟩) (v1:=.slice a1 dA.length c1) (v2:=.slice a2 dB.length c2) hcl) (next:=λbb hbb=>?_))
  |(refine go ?_;first
   |with_reducible refine oF (λ_=>?_) (λ_=>?_)
   |with_reducible refine nK (λ_=>?_) (λ_=>?_)
   |with_reducible refine lU (λ_=>?_) (λ_=>?_)
   |refine aA rfl (λ_=>?_) (λ_=>?_)
   |refine fq rfl (λ_=>?_) (λ_=>?_)
   |refine kw rfl (λ_=>?_) (λ_=>?_)
   |skip)))
 all_goals (try simp only[eB]at *)
 all_goals (first
  |(refine ah false (hv:=by rfl) (hp:=⟨(λh=>by cases h),λh=>?_⟩)
    exfalso
    rw[jw rfl rfl (by decide)]at h;obtain⟨⟨q1,q2,q3,q4,q5,q6⟩,h7⟩:=h;dsimp only at q1 q2 q3 q4 q5 q6 h7;first
     |(simp_all;done)
     |(obtain⟨⟨p1,p2,p3⟩,p4,p5,p6⟩:=h7;dsimp only at p1 p2 p3 p4 p5 p6;first|(simp_all;done)|(simp_all;omega)|omega))
  |(refine ah true (hv:=by rfl) (hp:=⟨λ_=>?_,λ_=>rfl⟩)
    rw[jw rfl rfl (by decide)];first
     |(refine⟨⟨?_,?_,?_,?_,?_,?_⟩,⟨?_,?_,?_⟩,?_,?_,?_⟩<;>dsimp only<;>first|(simp_all;done)|(simp_all;omega)|omega)
     |(refine⟨⟨?_,?_,?_,?_,?_,?_⟩,?_⟩<;>first|(simp_all;done)|(simp_all;omega)))
  |(refine ah bb (hv:=by rfl) (hp:=?_)
    rw[jw rfl rfl (by decide)];constructor
    ·intro hb;refine⟨⟨?_,?_,?_,?_,?_,?_⟩,⟨?_,?_,?_⟩,?_,?_,?_⟩<;>dsimp only<;>first|(simp_all;done)|(simp_all;omega)|omega
    ·rintro⟨⟨q1,q2,q3,q4,q5,q6⟩,⟨p1,p2,p3⟩,p4,p5,p6⟩;dsimp only at q1 q2 q3 q4 q5 q6 p1 p2 p3 p4 p5 p6
     simp_all))
theorem aiP{d:bF}{r:bN}{vh vs vr vc vu v1 v2:Value}(hk:r.kind=13)(hcl:d.aJ.length<=4096)(h1:r.names.length<9223372036854775808)(h2:r.others.length<9223372036854775808):jG d r vh vs vr vc vu v1 v2:=by
 obtain⟨rn,iy,rk,rf,dA,dB,rs,iC,iD,iE,iF,iG⟩:=r;dsimp only at hk h1 h2;subst hk;dsimp only[jG];rw[show fM 13=⟨false,false,false,true,false,false,true,0⟩from by rfl];refine aM qm qY λB w0=>?_;refine aS (E:=bC) (v:=v1) (xs:=dA) (by simp) λa1 c1 e1=>?_;subst e1;refine aS (E:=bC) (v:=v2) (xs:=dB) (by simp) λa2 c2 e2=>?_;subst e2;refine go ?_;intro b2 b3;iterate 16 (all_goals (first
  |(refine ay (sH (d:=d) (r:=⟨rn,iy,13,rf,dA,dB,rs,iC,iD,iE,iF,iG⟩) (v1:=.slice a1 dA.length c1) (v2:=.slice a2 dB.length c2) hcl) (next:=λbb hbb=>?_))
  |(refine ay (qX (d:=d) (r:=⟨rn,iy,13,rf,dA,dB,rs,iC,iD,iE,iF,iG⟩) (v1:=.slice a1 dA.length c1) (v2:=.slice a2 dB.length c2) hcl) (next:=λbb hbb=>?_))
  |(refine go ?_;first
   |with_reducible refine oF (λ_=>?_) (λ_=>?_)
   |with_reducible refine nK (λ_=>?_) (λ_=>?_)
   |with_reducible refine lU (λ_=>?_) (λ_=>?_)
   |refine aA rfl (λ_=>?_) (λ_=>?_)
   |refine fq rfl (λ_=>?_) (λ_=>?_)
   |refine kw rfl (λ_=>?_) (λ_=>?_)
   |skip)))
 all_goals (try simp only[eB]at *)
 all_goals (first
  |(refine ah false (hv:=by rfl) (hp:=⟨(λh=>by cases h),λh=>?_⟩)
    exfalso
    rw[yz rfl rfl rfl rfl]at h;obtain⟨⟨q1,q2,q3,q4,q5,q6⟩,h7⟩:=h;dsimp only at q1 q2 q3 q4 q5 q6 h7;first
     |(simp_all;done)
     |(obtain⟨⟨p1,p2,p3⟩,p4,p5,p6⟩:=h7;dsimp only at p1 p2 p3 p4 p5 p6;first|(simp_all;done)|(simp_all;omega)|omega))
  |(refine ah true (hv:=by rfl) (hp:=⟨λ_=>?_,λ_=>rfl⟩)
    rw[yz rfl rfl rfl rfl];first
     |(refine⟨⟨?_,?_,?_,?_,?_,?_⟩,⟨?_,?_,?_⟩,?_,?_,?_⟩<;>dsimp only<;>first|(simp_all;done)|(simp_all;omega)|omega)
     |(refine⟨⟨?_,?_,?_,?_,?_,?_⟩,?_⟩<;>first|(simp_all;done)|(simp_all;omega)))
  |(refine ah bb (hv:=by rfl) (hp:=?_)
    rw[yz rfl rfl rfl rfl];constructor
    ·intro hb;refine⟨⟨?_,?_,?_,?_,?_,?_⟩,⟨?_,?_,?_⟩,?_,?_,?_⟩<;>dsimp only<;>first|(simp_all;done)|(simp_all;omega)|omega
    ·rintro⟨⟨q1,q2,q3,q4,q5,q6⟩,⟨p1,p2,p3⟩,p4,p5,p6⟩;dsimp only at q1 q2 q3 q4 q5 q6 p1 p2 p3 p4 p5 p6
     simp_all))
theorem aiQ{d:bF}{r:bN}{vh vs vr vc vu v1 v2:Value}(hk:¬(1<=r.kind/\r.kind<=13)):jG d r vh vs vr vc vu v1 v2:=by
 dsimp only[jG];have hx:¬wJ (fM r.kind) d.aJ r:=λh=>by
  have h1:=h.known;by_cases h0:r.kind=0
  ·rw[h0]at h1;cases h1
  ·rw[Dj (by omega)]at h1;cases h1
 refine aM qm qY λB w0=>?_;refine go ?_;intro b2 b3;iterate 13 (refine go ?_;refine aA rfl (λh=>?_) (λ_=>?_);(exfalso;omega))
 refine go ?_;exact ah false (hv:=rfl) (hp:=⟨(λh=>by cases h),λh=>absurd h hx⟩)
theorem aiR{d:bF}{r:bN}{vh vs vr vc vu v1 v2:Value}(hcl:d.aJ.length<=4096)(h1:r.names.length<9223372036854775808)(h2:r.others.length<9223372036854775808):jG d r vh vs vr vc vu v1 v2:=by
 by_cases h:1<=r.kind/\r.kind<=13
 ·rcases(show r.kind=1\/r.kind=2\/r.kind=3\/r.kind=4\/r.kind=5\/r.kind=6\/r.kind=7\/r.kind=8\/r.kind=9\/r.kind=10\/r.kind=11\/r.kind=12\/r.kind=13 by omega)with hk|hk|hk|hk|hk|hk|hk|hk|hk|hk|hk|hk|hk
  ·exact aiD hk hcl h1 h2
  ·exact aiE hk hcl h1 h2
  ·exact aiF hk hcl h1 h2
  ·exact aiG hk hcl h1 h2
  ·exact aiH hk hcl h1 h2
  ·exact aiI hk hcl h1 h2
  ·exact aiJ hk hcl h1 h2
  ·exact aiK hk hcl h1 h2
  ·exact aiL hk hcl h1 h2
  ·exact aiM hk hcl h1 h2
  ·exact aiN hk hcl h1 h2
  ·exact aiO hk hcl h1 h2
  ·exact aiP hk hcl h1 h2
 ·exact aiQ h
theorem aiS{d:bF}{vh vs vr vc vu:Value}(hS:ng d):
 bA Tryz.prog (.func 198) [.agg ⟨gB d vh vs vr vc vu⟩] [] [] [ai fF vs d.symbols,ai bI vc d.aJ,ai aY vu d.rules] (λb:Bool=>.bool b) (λ_=>[]) (λ_=>[]) (λb=>b=true↔JP d):=by
 have hsl:=hS.eH;have hcl:=hS.jg;have yc:=hS.kX;refine aM _ (aP 198) λB w0=>?_;refine aS (E:=fF) (v:=vs) (xs:=d.symbols) (by simp) λkY cs1 es=>?_;subst es;refine aS (E:=bI) (v:=vc) (xs:=d.aJ) (by simp) λac cc ec=>?_;subst ec;refine aS (E:=aY) (v:=vu) (xs:=d.rules) (by simp) λau cu eu=>?_;subst eu;refine go ?_;intro b1;refine bn (eX (b:=b1)) (h:=?_);refine go ?_;refine aU (λk:Nat=>d.symbols.length - k) (λk=>[(3,.int .i64 (k:Int))]) (λ_=>[]) (λ_=>[]) (λk=>k<=d.symbols.length/\∀s∈d.symbols.take k,0<=s.value/\s.value<=99) 0 ⟨bR _,by simp⟩ (body:=?_);rintro k ⟨hk,hall⟩;refine go ?_;refine aA rfl (λh1=>?_) (λh1=>?_)
 ·refine go ?_;refine bi fF (xs:=d.symbols) (next:=λ_ _ s (_:Unit) hs=>?_);have hsm:=aZ hs;refine go ?_;refine gG (λh2=>?_) (λh2=>?_)
  rotate_left
  ·refine go ?_;exact ah false (hv:=rfl) (hp:=⟨(λh=>by cases h),λh=>by exfalso;have:=h.eH s hsm;omega⟩)
  refine go ?_;refine bi fF (xs:=d.symbols) (next:=λ_ _ s' (_:Unit) hs'=>?_);cases hs.symm.trans hs';refine go ?_;refine aA rfl (λh3=>?_) (λh3=>?_)
  ·refine go ?_;exact ah false (hv:=rfl) (hp:=⟨(λh=>by cases h),λh=>by exfalso;have:=h.eH s hsm;omega⟩)
  refine go ?_;refine aN (k+1) (by show d.symbols.length - (k+1)<d.symbols.length - k;omega) ⟨by omega,?_⟩;rw[bZ hs];intro x hx;rcases dX.1 hx with hx|hx
  ·exact hall x hx
  ·rw[bM.1 hx];omega
 have hks:k=d.symbols.length:=by omega
 subst hks;rw[bU]at hall;clear hk h1;refine go ?_;refine aU (λk:Nat=>d.rules.length - k) (λk=>[(4,.int .i64 (k:Int))]) (λ_=>[]) (λ_=>[]) (λk=>k<=d.rules.length/\∀r∈d.rules.take k,wJ (fM r.kind) d.aJ r) 0 ⟨bR _,by simp⟩ (body:=?_);rintro k ⟨hk,Bq⟩;refine go ?_;refine aA rfl (λh1=>?_) (λh1=>?_)
 ·refine go ?_;refine bi aY (xs:=d.rules) (next:=λ_ _ r (vv:Value×Value) hr=>?_);have hrm:=aZ hr;have hrn:=hS.rY r hrm;refine go ?_;refine ay (aiR (d:=d) (r:=r) (vh:=vh) (vs:=.slice kY d.symbols.length cs1) (vr:=vr) (vc:=.slice ac d.aJ.length cc) (vu:=.slice au d.rules.length cu) (v1:=vv.1) (v2:=vv.2) hcl hrn.1 hrn.2) (next:=λb hb=>?_);cases b with
  |false=>
   refine go ?_;exact ah false (hv:=rfl) (hp:=⟨(λh=>by cases h),λh=>absurd (hb.2 (h.kX r hrm)) (by simp)⟩)
  |true=>
   have hR:=hb.1 rfl;refine go ?_;refine aN (k+1) (by show d.rules.length - (k+1)<d.rules.length - k;omega) ⟨by omega,?_⟩;rw[bZ hr];intro x hx;rcases dX.1 hx with hx|hx
   ·exact Bq x hx
   ·rw[bM.1 hx];exact hR
 have hkr:k=d.rules.length:=by omega
 subst hkr;rw[bU]at Bq;clear hk h1;refine go ?_;refine aU (λk:Nat=>d.aJ.length - k) (λk=>[(5,.int .i64 (k:Int))]) (λ_=>[]) (λ_=>[]) (λk=>k<=d.aJ.length/\∀(i:Nat) (c:gW),i<k->d.aJ[i]? =some c->(d.rules.map (·.aL)).count (i:Int)=1/\qR c) 0 ⟨bR _,λi c h=>by omega⟩ (body:=?_);rintro k ⟨hk,FN⟩;refine go ?_;refine aA rfl (λh1=>?_) (λh1=>?_)
 ·obtain⟨c,hc⟩:∃c,d.aJ[k]? =some c:=⟨d.aJ[k]'(by omega),bP _⟩
  refine go ?_;refine aU (λj:Nat=>d.rules.length - j) (λj=>[(7,.int .i64 (j:Int)),(6,.int .i64 (((d.rules.take j).map (·.aL)).count (k:Int):Nat))]) (λ_=>[]) (λ_=>[]) (λj=>j<=d.rules.length) 0 (bR _) (body:=?_);intro j hj;have hcn:((d.rules.take j).map (·.aL)).count (k:Int)<=4096:=by
   have:=Ux (k:Int) ((d.rules.take j).map (·.aL));rw[bY,gT]at this;omega
  refine go ?_;refine aA rfl (λh2=>?_) (λh2=>?_)
  ·refine go ?_;refine bi aY (xs:=d.rules) (next:=λ_ _ r (vv:Value×Value) hr=>?_);have hst:((d.rules.take (j+1)).map (·.aL)).count (k:Int)=((d.rules.take j).map (·.aL)).count (k:Int)+if r.aL=(k:Int)then 1 else 0:=by
    rw[bZ hr,fP,sQ,List.count_append,List.count_singleton];congr 1;by_cases e:r.aL=(k:Int)<;>simp[e]
   refine go ?_;refine aA rfl (λh3=>?_) (λh3=>?_)
   ·rw[if_pos h3]at hst;refine go ?_;refine aN (j+1) (by omega) (by omega) (hl:=⟨rfl,by rw[hst];rfl,by repeat (first|exact trivial|refine⟨rfl,?_⟩)⟩)
   ·rw[if_neg h3]at hst;refine go ?_;refine aN (j+1) (by omega) (by omega) (hl:=⟨rfl,by rw[hst];rfl,by repeat (first|exact trivial|refine⟨rfl,?_⟩)⟩)
  have hjr:j=d.rules.length:=by omega
  subst hjr;rw[bU]at hcn⊢;refine go ?_;refine gG (λh3=>?_) (λh3=>?_)
  ·refine go ?_;refine bi bI (xs:=d.aJ) (next:=λ_ _ c' (_:Unit) hc'=>?_);cases hc.symm.trans hc';refine go ?_;refine ay (aiy (c:=c)) (next:=λ_ _=>?_);refine go ?_;refine fq rfl (λh4=>?_) (λh4=>?_)
   ·refine go ?_;exact ah false (hv:=rfl) (hp:=⟨(λh=>by cases h),λh=>absurd (h.jg k c hc).2 h4⟩)
   ·refine go ?_;refine aN (k+1) (by show d.aJ.length - (k+1)<d.aJ.length - k;omega) ⟨by omega,λi x hi hx=>?_⟩;by_cases hik:i=k
    ·subst hik;rw[hc]at hx;cases hx;exact⟨by omega,h4⟩
    ·exact FN i x (by omega) hx
  ·refine go ?_;exact ah false (hv:=rfl) (hp:=⟨(λh=>by cases h),λh=>by exfalso;have:=(h.jg k c hc).1;omega⟩)
 have hkc:k=d.aJ.length:=by omega
 subst hkc;refine go ?_;exact ah true (hv:=rfl) (hp:=⟨λ_=>⟨hall,Bq,λi c hc=>FN i c (bq.1 hc).1 hc⟩,λ_=>rfl⟩)
theorem aiT{d:bF}{vh vs vr vc vu:Value}(hT:vC d):bA Tryz.prog (.func 133) [.agg ⟨gB d vh vs vr vc vu⟩] [] [] (lG d vh vs vr vc vu) (λe:Int=>.int .i64 e) (λ_=>[]) (λ_=>[]) (λe=>e=0↔FO d):=by
 have hD:=hT.s;have hsl:=hD.eH;have hrl:=hD.regs;have hcl:=hD.jg;have yc:=hD.kX;refine aM _ (aP 133) λB w0=>?_;refine aS (E:=fF) (v:=vs) (xs:=d.symbols) (by simp) λkY cs1 es=>?_;subst es;refine aS (E:=eY) (v:=vr) (xs:=d.regions) (by simp) λar cr er=>?_;subst er;refine aS (E:=bI) (v:=vc) (xs:=d.aJ) (by simp) λac cc ec=>?_;subst ec;refine aS (E:=aY) (v:=vu) (xs:=d.rules) (by simp) λau cu eu=>?_;subst eu;refine go ?_;intro b1;refine bn (eX (b:=b1)) (h:=?_);refine go ?_;refine gG (λk1=>?_) (λk1=>?_)
 rotate_left
 ·refine go ?_;refine ah 2 (hv:=rfl) (hp:=⟨λh=>?_,λh=>?_⟩)
  ·exact absurd h (by omega)
  exfalso
  have:=h.lim.s0;omega
 refine go ?_;refine gG (λk2=>?_) (λk2=>?_)
 rotate_left
 ·refine go ?_;refine ah 2 (hv:=rfl) (hp:=⟨λh=>?_,λh=>?_⟩)
  ·exact absurd h (by omega)
  exfalso
  have:=h.lim.s1;omega
 refine go ?_;refine gG (λk3=>?_) (λk3=>?_)
 rotate_left
 ·refine go ?_;refine ah 2 (hv:=rfl) (hp:=⟨λh=>?_,λh=>?_⟩)
  ·exact absurd h (by omega)
  exfalso
  have:=h.lim.r;omega
 refine go ?_;refine gG (λk4=>?_) (λk4=>?_)
 rotate_left
 ·refine go ?_;refine ah 2 (hv:=rfl) (hp:=⟨λh=>?_,λh=>?_⟩)
  ·exact absurd h (by omega)
  exfalso
  have:=h.lim.c;omega
 refine go ?_;refine aA rfl (λk5=>?_) (λk5=>?_)
 ·refine go ?_;refine ah 2 (hv:=rfl) (hp:=⟨λh=>?_,λh=>?_⟩)
  ·exact absurd h (by omega)
  exfalso
  have:=h.lim.u;omega
 refine go ?_;refine ay (WH (d:=d) (vh:=vh) (vs:=.slice kY d.symbols.length cs1) (vr:=.slice ar d.regions.length cr) (vc:=.slice ac d.aJ.length cc) (vu:=.slice au d.rules.length cu) hD) (next:=λy hy=>?_);obtain⟨ok,e,v1,v2⟩:=y;cases ok with
 |false=>
  obtain⟨he,hno⟩:=hy.2 rfl;have he:e≠0:=he;dsimp only[cond,rX,oL,List.nil_append];refine go ?_;intro b3;refine go ?_;refine aA rfl (λk6=>?_) (λk6=>?_)
  rotate_left
  ·exact absurd (ic.1 k6) he
  refine go ?_;exact ah e (hv:=rfl) (hp:=⟨λh=>absurd h he,λh=>absurd h.rs hno⟩)
 |true=>
 obtain⟨he,hres⟩:=hy.1 rfl;have he:e=0:=he;subst he;clear hy;dsimp only[cond,rX,oL,List.cons_append,List.nil_append];refine go ?_;intro b3;refine go ?_;refine eF (ai ae vh (Kd.bE d).holes) (λw hw=>hw (ai ae vh d.holes) (by simp)) ?_;refine eF (ai fF (.slice kY d.symbols.length cs1) (Kd.bE d).symbols) (λw hw=>hw (ai fF (.slice kY d.symbols.length cs1) d.symbols) (by simp)) ?_;refine eF (ai eY (.slice ar d.regions.length cr) (Kd.bE d).regions) (λw hw=>hw (ai eY (.slice ar d.regions.length cr) d.regions) (by simp)) ?_;refine ay (ais (x:=Kd.bE d) (y:=d) (h1:=vh) (s1:=.slice kY d.symbols.length cs1) (r1:=.slice ar d.regions.length cr) (c1:=v1) (u1:=v2) (h2:=vh) (s2:=.slice kY d.symbols.length cs1) (r2:=.slice ar d.regions.length cr) (c2:=.slice ac d.aJ.length cc) (u2:=.slice au d.rules.length cu) hD.bE) (next:=λ_ _=>?_);refine go ?_;refine nK (λk7=>?_) (λk7=>?_)
 rotate_left
 ·refine go ?_;refine ah 170 (hv:=rfl) (hp:=⟨λh=>?_,λh=>?_⟩)
  ·exact absurd h (by omega)
  exfalso
  exact k7 h.same
 refine go ?_;refine gG (λk8=>?_) (λk8=>?_)
 rotate_left
 ·refine go ?_;refine ah 170 (hv:=rfl) (hp:=⟨λh=>?_,λh=>?_⟩)
  ·exact absurd h (by omega)
  exfalso
  have:=h.OE;omega
 refine go ?_;refine aA rfl (λk9=>?_) (λk9=>?_)
 ·refine go ?_;refine ah 170 (hv:=rfl) (hp:=⟨λh=>?_,λh=>?_⟩)
  ·exact absurd h (by omega)
  exfalso
  have:=h.OE;omega
 refine go ?_;refine ay (O4 (s:=d.shape) (w:=d.w) (h:=d.h) (holes:=d.holes) (vh:=vh) hT.w hT.h hT.holes) (next:=λy hy=>?_);obtain⟨ok,gh,gc⟩:=y;cases ok with
 |false=>
  have hno:¬oH d.shape d.w d.h d.holes:=λh=>by have:=hy.2 h;cases this
  dsimp only[mkV,pM,cond,List.nil_append];refine go ?_;intro b5;refine go ?_;exact ah 130 (hv:=rfl) (hp:=⟨(λh=>by cases h),λh=>absurd h.Dk hno⟩)
 |true=>
 have hmk:=hy.1 rfl;clear hy;dsimp only[cond,mkV,pM];rw[show wH d.shape d.w d.h d.holes=aT d from rfl];dsimp only[jq,iO,List.cons_append,List.nil_append];refine go ?_;intro b5;refine go ?_;have htr:=aix (d:=d) (vh:=vh) (vs:=.slice kY d.symbols.length cs1) (vr:=.slice ar d.regions.length cr) (vc:=.slice ac d.aJ.length cc) (vu:=.slice au d.rules.length cu) (gh:=gh) (gc:=gc) (g:=aT d) hD (FP hmk);dsimp only[jq,iO]at htr;refine ay htr (next:=λe he=>?_);refine go ?_;refine aA rfl (λk10=>?_) (λk10=>?_)
 ·refine go ?_;exact ah e (hv:=rfl) (hp:=⟨λh=>absurd h k10,λh=>absurd (he.2 h.Dl) k10⟩)
 have hrg:=he.1 (ic.1 k10);clear he k10;refine go ?_;refine ay (aiS (d:=d) (vh:=vh) (vs:=.slice kY d.symbols.length cs1) (vr:=.slice ar d.regions.length cr) (vc:=.slice ac d.aJ.length cc) (vu:=.slice au d.rules.length cu) hD) (next:=λb hb=>?_);cases b with
 |false=>
  refine go ?_;exact ah 170 (hv:=rfl) (hp:=⟨(λh=>by cases h),λh=>absurd (hb.2 h.form) (by simp)⟩)
 |true=>
 have hfm:=hb.1 rfl;clear hb;refine go ?_;refine ay (aiB (d:=d) (vh:=vh) (vs:=.slice kY d.symbols.length cs1) (vr:=.slice ar d.regions.length cr) (vc:=.slice ac d.aJ.length cc) (vu:=.slice au d.rules.length cu) yc) (next:=λa3 _=>?_);refine go ?_;refine aA rfl (λk11=>?_) (λk11=>?_)
 ·refine go ?_;refine ah 171 (hv:=rfl) (hp:=⟨λh=>?_,λh=>?_⟩)
  ·exact absurd h (by omega)
  exfalso
  rw[h.read]at k11;simp at k11
 refine go ?_;exact ah 0 (hv:=rfl) (hp:=⟨λ_=>⟨⟨by omega,by omega,by omega,by omega,by omega⟩,hres,k7,⟨by omega,by omega⟩,hmk,hrg,hfm,jy.1 (by omega)⟩,λ_=>rfl⟩)
