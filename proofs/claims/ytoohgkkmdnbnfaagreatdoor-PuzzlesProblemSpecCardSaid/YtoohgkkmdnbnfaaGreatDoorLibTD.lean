/-
  The reference's types: a rule, of every kind; declarations that are well-formed.
-/
import Derived.Test.YtoohgkkmdnbnfaaGreatDoorLibSD
import Derived.Test.YtoohgkkmdnbnfaaGreatDoorLibRD
set_option linter.all false
set_option maxRecDepth 10000
set_option maxHeartbeats 4000000
namespace Go.Proofs.YtoohgkkmdnbnfaaGreatDoor
open Go.Ideal Kd
theorem agM{d:bF}{r:aQ}{vh vs vr vc vu v1 v2:Value}(hk:r.kind=8)(hcl:d.aJ.length<=4096)(h1:r.names.length<9223372036854775808)(h2:r.others.length<9223372036854775808):jD d r vh vs vr vc vu v1 v2:=by
 obtain⟨rn,iy,rk,rf,cZ,di,rs,iA,iB,iC,iD,iE⟩:=r;dsimp only at hk h1 h2;subst hk;dsimp only[jD];rw[show fQ 8=⟨false,true,true,false,false,true,true,0⟩from by rfl];refine aI oW p9 λB w0=>?_;refine aS (E:=aT) (v:=v1) (xs:=cZ) (by simp) λa1 c1 e1=>?_;subst e1;refine aS (E:=aT) (v:=v2) (xs:=di) (by simp) λa2 c2 e2=>?_;subst e2;refine go ?_;intro b2 b3;iterate 16 (all_goals (first
  |(refine ax (qM (d:=d) (r:=⟨rn,iy,8,rf,cZ,di,rs,iA,iB,iC,iD,iE⟩) (vh:=vh) (vs:=vs) (vr:=vr) (vc:=vc) (vu:=vu) (v1:=.slice a1 cZ.length c1) (v2:=.slice a2 di.length c2) hcl) (next:=λbb hbb=>?_))
  |(refine ax (pY (d:=d) (r:=⟨rn,iy,8,rf,cZ,di,rs,iA,iB,iC,iD,iE⟩) (vh:=vh) (vs:=vs) (vr:=vr) (vc:=vc) (vu:=vu) (v1:=.slice a1 cZ.length c1) (v2:=.slice a2 di.length c2) hcl) (next:=λbb hbb=>?_))
  |(refine go ?_;first
   |with_reducible refine aN (λ_=>?_) (λ_=>?_)
   |with_reducible refine aM (λ_=>?_) (λ_=>?_)
   |with_reducible refine aK (λ_=>?_) (λ_=>?_)
   |refine ay rfl (λ_=>?_) (λ_=>?_)
   |refine eF rfl (λ_=>?_) (λ_=>?_)
   |refine jZ rfl (λ_=>?_) (λ_=>?_)
   |skip)))
 all_goals (try simp only[dW]at *)
 all_goals (first
  |(refine ae false (hv:=by rfl) (hp:=⟨(λh=>by cases h),λh=>?_⟩)
    exfalso
    rw[jr rfl rfl (by decide)]at h;obtain⟨⟨q1,q2,q3,q4,q5,q6⟩,h7⟩:=h;dsimp only at q1 q2 q3 q4 q5 q6 h7;first
     |(simp_all;done)
     |(obtain⟨⟨p1,p2,p3⟩,p4,p5,p6⟩:=h7;dsimp only at p1 p2 p3 p4 p5 p6;first|(simp_all;done)|(simp_all;omega)|omega))
  |(refine ae true (hv:=by rfl) (hp:=⟨λ_=>?_,λ_=>rfl⟩)
    rw[jr rfl rfl (by decide)];first
     |(refine⟨⟨?_,?_,?_,?_,?_,?_⟩,⟨?_,?_,?_⟩,?_,?_,?_⟩<;>dsimp only<;>first|(simp_all;done)|(simp_all;omega)|omega)
     |(refine⟨⟨?_,?_,?_,?_,?_,?_⟩,?_⟩<;>first|(simp_all;done)|(simp_all;omega)))
  |(refine ae bb (hv:=by rfl) (hp:=?_)
    rw[jr rfl rfl (by decide)];constructor
    ·intro hb;refine⟨⟨?_,?_,?_,?_,?_,?_⟩,⟨?_,?_,?_⟩,?_,?_,?_⟩<;>dsimp only<;>first|(simp_all;done)|(simp_all;omega)|omega
    ·rintro⟨⟨q1,q2,q3,q4,q5,q6⟩,⟨p1,p2,p3⟩,p4,p5,p6⟩;dsimp only at q1 q2 q3 q4 q5 q6 p1 p2 p3 p4 p5 p6
     simp_all))
theorem agN{d:bF}{r:aQ}{vh vs vr vc vu v1 v2:Value}(hk:r.kind=9)(hcl:d.aJ.length<=4096)(h1:r.names.length<9223372036854775808)(h2:r.others.length<9223372036854775808):jD d r vh vs vr vc vu v1 v2:=by
 obtain⟨rn,iy,rk,rf,cZ,di,rs,iA,iB,iC,iD,iE⟩:=r;dsimp only at hk h1 h2;subst hk;dsimp only[jD];rw[show fQ 9=⟨false,true,false,false,false,true,true,0⟩from by rfl];refine aI oW p9 λB w0=>?_;refine aS (E:=aT) (v:=v1) (xs:=cZ) (by simp) λa1 c1 e1=>?_;subst e1;refine aS (E:=aT) (v:=v2) (xs:=di) (by simp) λa2 c2 e2=>?_;subst e2;refine go ?_;intro b2 b3;iterate 16 (all_goals (first
  |(refine ax (qM (d:=d) (r:=⟨rn,iy,9,rf,cZ,di,rs,iA,iB,iC,iD,iE⟩) (vh:=vh) (vs:=vs) (vr:=vr) (vc:=vc) (vu:=vu) (v1:=.slice a1 cZ.length c1) (v2:=.slice a2 di.length c2) hcl) (next:=λbb hbb=>?_))
  |(refine ax (pY (d:=d) (r:=⟨rn,iy,9,rf,cZ,di,rs,iA,iB,iC,iD,iE⟩) (vh:=vh) (vs:=vs) (vr:=vr) (vc:=vc) (vu:=vu) (v1:=.slice a1 cZ.length c1) (v2:=.slice a2 di.length c2) hcl) (next:=λbb hbb=>?_))
  |(refine go ?_;first
   |with_reducible refine aN (λ_=>?_) (λ_=>?_)
   |with_reducible refine aM (λ_=>?_) (λ_=>?_)
   |with_reducible refine aK (λ_=>?_) (λ_=>?_)
   |refine ay rfl (λ_=>?_) (λ_=>?_)
   |refine eF rfl (λ_=>?_) (λ_=>?_)
   |refine jZ rfl (λ_=>?_) (λ_=>?_)
   |skip)))
 all_goals (try simp only[dW]at *)
 all_goals (first
  |(refine ae false (hv:=by rfl) (hp:=⟨(λh=>by cases h),λh=>?_⟩)
    exfalso
    rw[jr rfl rfl (by decide)]at h;obtain⟨⟨q1,q2,q3,q4,q5,q6⟩,h7⟩:=h;dsimp only at q1 q2 q3 q4 q5 q6 h7;first
     |(simp_all;done)
     |(obtain⟨⟨p1,p2,p3⟩,p4,p5,p6⟩:=h7;dsimp only at p1 p2 p3 p4 p5 p6;first|(simp_all;done)|(simp_all;omega)|omega))
  |(refine ae true (hv:=by rfl) (hp:=⟨λ_=>?_,λ_=>rfl⟩)
    rw[jr rfl rfl (by decide)];first
     |(refine⟨⟨?_,?_,?_,?_,?_,?_⟩,⟨?_,?_,?_⟩,?_,?_,?_⟩<;>dsimp only<;>first|(simp_all;done)|(simp_all;omega)|omega)
     |(refine⟨⟨?_,?_,?_,?_,?_,?_⟩,?_⟩<;>first|(simp_all;done)|(simp_all;omega)))
  |(refine ae bb (hv:=by rfl) (hp:=?_)
    rw[jr rfl rfl (by decide)];constructor
    ·intro hb;refine⟨⟨?_,?_,?_,?_,?_,?_⟩,⟨?_,?_,?_⟩,?_,?_,?_⟩<;>dsimp only<;>first|(simp_all;done)|(simp_all;omega)|omega
    ·rintro⟨⟨q1,q2,q3,q4,q5,q6⟩,⟨p1,p2,p3⟩,p4,p5,p6⟩;dsimp only at q1 q2 q3 q4 q5 q6 p1 p2 p3 p4 p5 p6
     simp_all))
theorem agO{d:bF}{r:aQ}{vh vs vr vc vu v1 v2:Value}(hk:r.kind=10)(hcl:d.aJ.length<=4096)(h1:r.names.length<9223372036854775808)(h2:r.others.length<9223372036854775808):jD d r vh vs vr vc vu v1 v2:=by
 obtain⟨rn,iy,rk,rf,cZ,di,rs,iA,iB,iC,iD,iE⟩:=r;dsimp only at hk h1 h2;subst hk;dsimp only[jD];rw[show fQ 10=⟨false,true,false,false,false,true,true,0⟩from by rfl];refine aI oW p9 λB w0=>?_;refine aS (E:=aT) (v:=v1) (xs:=cZ) (by simp) λa1 c1 e1=>?_;subst e1;refine aS (E:=aT) (v:=v2) (xs:=di) (by simp) λa2 c2 e2=>?_;subst e2;refine go ?_;intro b2 b3;iterate 16 (all_goals (first
  |(refine ax (qM (d:=d) (r:=⟨rn,iy,10,rf,cZ,di,rs,iA,iB,iC,iD,iE⟩) (vh:=vh) (vs:=vs) (vr:=vr) (vc:=vc) (vu:=vu) (v1:=.slice a1 cZ.length c1) (v2:=.slice a2 di.length c2) hcl) (next:=λbb hbb=>?_))
  |(refine ax (pY (d:=d) (r:=⟨rn,iy,10,rf,cZ,di,rs,iA,iB,iC,iD,iE⟩) (vh:=vh) (vs:=vs) (vr:=vr) (vc:=vc) (vu:=vu) (v1:=.slice a1 cZ.length c1) (v2:=.slice a2 di.length c2) hcl) (next:=λbb hbb=>?_))
  |(refine go ?_;first
   |with_reducible refine aN (λ_=>?_) (λ_=>?_)
   |with_reducible refine aM (λ_=>?_) (λ_=>?_)
   |with_reducible refine aK (λ_=>?_) (λ_=>?_)
   |refine ay rfl (λ_=>?_) (λ_=>?_)
   |refine eF rfl (λ_=>?_) (λ_=>?_)
   |refine jZ rfl (λ_=>?_) (λ_=>?_)
   |skip)))
 all_goals (try simp only[dW]at *)
 all_goals (first
  |(refine ae false (hv:=by rfl) (hp:=⟨(λh=>by cases h),λh=>?_⟩)
    exfalso
    rw[jr rfl rfl (by decide)]at h;obtain⟨⟨q1,q2,q3,q4,q5,q6⟩,h7⟩:=h;dsimp only at q1 q2 q3 q4 q5 q6 h7;first
     |(simp_all;done)
     |(obtain⟨⟨p1,p2,p3⟩,p4,p5,p6⟩:=h7;dsimp only at p1 p2 p3 p4 p5 p6;first|(simp_all;done)|(simp_all;omega)|omega))
  |(refine ae true (hv:=by rfl) (hp:=⟨λ_=>?_,λ_=>rfl⟩)
    rw[jr rfl rfl (by decide)];first
     |(refine⟨⟨?_,?_,?_,?_,?_,?_⟩,⟨?_,?_,?_⟩,?_,?_,?_⟩<;>dsimp only<;>first|(simp_all;done)|(simp_all;omega)|omega)
     |(refine⟨⟨?_,?_,?_,?_,?_,?_⟩,?_⟩<;>first|(simp_all;done)|(simp_all;omega)))
  |(refine ae bb (hv:=by rfl) (hp:=?_)
    rw[jr rfl rfl (by decide)];constructor
    ·intro hb;refine⟨⟨?_,?_,?_,?_,?_,?_⟩,⟨?_,?_,?_⟩,?_,?_,?_⟩<;>dsimp only<;>first|(simp_all;done)|(simp_all;omega)|omega
    ·rintro⟨⟨q1,q2,q3,q4,q5,q6⟩,⟨p1,p2,p3⟩,p4,p5,p6⟩;dsimp only at q1 q2 q3 q4 q5 q6 p1 p2 p3 p4 p5 p6
     simp_all))
theorem agP{d:bF}{r:aQ}{vh vs vr vc vu v1 v2:Value}(hk:r.kind=11)(hcl:d.aJ.length<=4096)(h1:r.names.length<9223372036854775808)(h2:r.others.length<9223372036854775808):jD d r vh vs vr vc vu v1 v2:=by
 obtain⟨rn,iy,rk,rf,cZ,di,rs,iA,iB,iC,iD,iE⟩:=r;dsimp only at hk h1 h2;subst hk;dsimp only[jD];rw[show fQ 11=⟨false,false,false,false,false,true,true,1⟩from by rfl];refine aI oW p9 λB w0=>?_;refine aS (E:=aT) (v:=v1) (xs:=cZ) (by simp) λa1 c1 e1=>?_;subst e1;refine aS (E:=aT) (v:=v2) (xs:=di) (by simp) λa2 c2 e2=>?_;subst e2;refine go ?_;intro b2 b3;iterate 16 (all_goals (first
  |(refine ax (qM (d:=d) (r:=⟨rn,iy,11,rf,cZ,di,rs,iA,iB,iC,iD,iE⟩) (vh:=vh) (vs:=vs) (vr:=vr) (vc:=vc) (vu:=vu) (v1:=.slice a1 cZ.length c1) (v2:=.slice a2 di.length c2) hcl) (next:=λbb hbb=>?_))
  |(refine ax (pY (d:=d) (r:=⟨rn,iy,11,rf,cZ,di,rs,iA,iB,iC,iD,iE⟩) (vh:=vh) (vs:=vs) (vr:=vr) (vc:=vc) (vu:=vu) (v1:=.slice a1 cZ.length c1) (v2:=.slice a2 di.length c2) hcl) (next:=λbb hbb=>?_))
  |(refine go ?_;first
   |with_reducible refine aN (λ_=>?_) (λ_=>?_)
   |with_reducible refine aM (λ_=>?_) (λ_=>?_)
   |with_reducible refine aK (λ_=>?_) (λ_=>?_)
   |refine ay rfl (λ_=>?_) (λ_=>?_)
   |refine eF rfl (λ_=>?_) (λ_=>?_)
   |refine jZ rfl (λ_=>?_) (λ_=>?_)
   |skip)))
 all_goals (try simp only[dW]at *)
 all_goals (first
  |(refine ae false (hv:=by rfl) (hp:=⟨(λh=>by cases h),λh=>?_⟩)
    exfalso
    rw[jr rfl rfl (by decide)]at h;obtain⟨⟨q1,q2,q3,q4,q5,q6⟩,h7⟩:=h;dsimp only at q1 q2 q3 q4 q5 q6 h7;first
     |(simp_all;done)
     |(obtain⟨⟨p1,p2,p3⟩,p4,p5,p6⟩:=h7;dsimp only at p1 p2 p3 p4 p5 p6;first|(simp_all;done)|(simp_all;omega)|omega))
  |(refine ae true (hv:=by rfl) (hp:=⟨λ_=>?_,λ_=>rfl⟩)
    rw[jr rfl rfl (by decide)];first
     |(refine⟨⟨?_,?_,?_,?_,?_,?_⟩,⟨?_,?_,?_⟩,?_,?_,?_⟩<;>dsimp only<;>first|(simp_all;done)|(simp_all;omega)|omega)
     |(refine⟨⟨?_,?_,?_,?_,?_,?_⟩,?_⟩<;>first|(simp_all;done)|(simp_all;omega)))
  |(refine ae bb (hv:=by rfl) (hp:=?_)
    rw[jr rfl rfl (by decide)];constructor
    ·intro hb;refine⟨⟨?_,?_,?_,?_,?_,?_⟩,⟨?_,?_,?_⟩,?_,?_,?_⟩<;>dsimp only<;>first|(simp_all;done)|(simp_all;omega)|omega
    ·rintro⟨⟨q1,q2,q3,q4,q5,q6⟩,⟨p1,p2,p3⟩,p4,p5,p6⟩;dsimp only at q1 q2 q3 q4 q5 q6 p1 p2 p3 p4 p5 p6
     simp_all))
theorem agQ{d:bF}{r:aQ}{vh vs vr vc vu v1 v2:Value}(hk:r.kind=12)(hcl:d.aJ.length<=4096)(h1:r.names.length<9223372036854775808)(h2:r.others.length<9223372036854775808):jD d r vh vs vr vc vu v1 v2:=by
 obtain⟨rn,iy,rk,rf,cZ,di,rs,iA,iB,iC,iD,iE⟩:=r;dsimp only at hk h1 h2;subst hk;dsimp only[jD];rw[show fQ 12=⟨true,false,false,false,false,false,true,0⟩from by rfl];refine aI oW p9 λB w0=>?_;refine aS (E:=aT) (v:=v1) (xs:=cZ) (by simp) λa1 c1 e1=>?_;subst e1;refine aS (E:=aT) (v:=v2) (xs:=di) (by simp) λa2 c2 e2=>?_;subst e2;refine go ?_;intro b2 b3;iterate 16 (all_goals (first
  |(refine ax (qM (d:=d) (r:=⟨rn,iy,12,rf,cZ,di,rs,iA,iB,iC,iD,iE⟩) (vh:=vh) (vs:=vs) (vr:=vr) (vc:=vc) (vu:=vu) (v1:=.slice a1 cZ.length c1) (v2:=.slice a2 di.length c2) hcl) (next:=λbb hbb=>?_))
  |(refine ax (pY (d:=d) (r:=⟨rn,iy,12,rf,cZ,di,rs,iA,iB,iC,iD,iE⟩) (vh:=vh) (vs:=vs) (vr:=vr) (vc:=vc) (vu:=vu) (v1:=.slice a1 cZ.length c1) (v2:=.slice a2 di.length c2) hcl) (next:=λbb hbb=>?_))
  |(refine go ?_;first
   |with_reducible refine aN (λ_=>?_) (λ_=>?_)
   |with_reducible refine aM (λ_=>?_) (λ_=>?_)
   |with_reducible refine aK (λ_=>?_) (λ_=>?_)
   |refine ay rfl (λ_=>?_) (λ_=>?_)
   |refine eF rfl (λ_=>?_) (λ_=>?_)
   |refine jZ rfl (λ_=>?_) (λ_=>?_)
   |skip)))
 all_goals (try simp only[dW]at *)
 all_goals (first
  |(refine ae false (hv:=by rfl) (hp:=⟨(λh=>by cases h),λh=>?_⟩)
    exfalso
    rw[jr rfl rfl (by decide)]at h;obtain⟨⟨q1,q2,q3,q4,q5,q6⟩,h7⟩:=h;dsimp only at q1 q2 q3 q4 q5 q6 h7;first
     |(simp_all;done)
     |(obtain⟨⟨p1,p2,p3⟩,p4,p5,p6⟩:=h7;dsimp only at p1 p2 p3 p4 p5 p6;first|(simp_all;done)|(simp_all;omega)|omega))
  |(refine ae true (hv:=by rfl) (hp:=⟨λ_=>?_,λ_=>rfl⟩)
    rw[jr rfl rfl (by decide)];first
     |(refine⟨⟨?_,?_,?_,?_,?_,?_⟩,⟨?_,?_,?_⟩,?_,?_,?_⟩<;>dsimp only<;>first|(simp_all;done)|(simp_all;omega)|omega)
     |(refine⟨⟨?_,?_,?_,?_,?_,?_⟩,?_⟩<;>first|(simp_all;done)|(simp_all;omega)))
  |(refine ae bb (hv:=by rfl) (hp:=?_)
    rw[jr rfl rfl (by decide)];constructor
    ·intro hb;refine⟨⟨?_,?_,?_,?_,?_,?_⟩,⟨?_,?_,?_⟩,?_,?_,?_⟩<;>dsimp only<;>first|(simp_all;done)|(simp_all;omega)|omega
    ·rintro⟨⟨q1,q2,q3,q4,q5,q6⟩,⟨p1,p2,p3⟩,p4,p5,p6⟩;dsimp only at q1 q2 q3 q4 q5 q6 p1 p2 p3 p4 p5 p6
     simp_all))
theorem agR{d:bF}{r:aQ}{vh vs vr vc vu v1 v2:Value}(hk:r.kind=13)(hcl:d.aJ.length<=4096)(h1:r.names.length<9223372036854775808)(h2:r.others.length<9223372036854775808):jD d r vh vs vr vc vu v1 v2:=by
 obtain⟨rn,iy,rk,rf,cZ,di,rs,iA,iB,iC,iD,iE⟩:=r;dsimp only at hk h1 h2;subst hk;dsimp only[jD];rw[show fQ 13=⟨false,false,false,true,false,false,true,0⟩from by rfl];refine aI oW p9 λB w0=>?_;refine aS (E:=aT) (v:=v1) (xs:=cZ) (by simp) λa1 c1 e1=>?_;subst e1;refine aS (E:=aT) (v:=v2) (xs:=di) (by simp) λa2 c2 e2=>?_;subst e2;refine go ?_;intro b2 b3;iterate 16 (all_goals (first
  |(refine ax (qM (d:=d) (r:=⟨rn,iy,13,rf,cZ,di,rs,iA,iB,iC,iD,iE⟩) (vh:=vh) (vs:=vs) (vr:=vr) (vc:=vc) (vu:=vu) (v1:=.slice a1 cZ.length c1) (v2:=.slice a2 di.length c2) hcl) (next:=λbb hbb=>?_))
  |(refine ax (pY (d:=d) (r:=⟨rn,iy,13,rf,cZ,di,rs,iA,iB,iC,iD,iE⟩) (vh:=vh) (vs:=vs) (vr:=vr) (vc:=vc) (vu:=vu) (v1:=.slice a1 cZ.length c1) (v2:=.slice a2 di.length c2) hcl) (next:=λbb hbb=>?_))
  |(refine go ?_;first
   |with_reducible refine aN (λ_=>?_) (λ_=>?_)
   |with_reducible refine aM (λ_=>?_) (λ_=>?_)
   |with_reducible refine aK (λ_=>?_) (λ_=>?_)
   |refine ay rfl (λ_=>?_) (λ_=>?_)
   |refine eF rfl (λ_=>?_) (λ_=>?_)
   |refine jZ rfl (λ_=>?_) (λ_=>?_)
   |skip)))
 all_goals (try simp only[dW]at *)
 all_goals (first
  |(refine ae false (hv:=by rfl) (hp:=⟨(λh=>by cases h),λh=>?_⟩)
    exfalso
    rw[wO rfl rfl rfl rfl]at h;obtain⟨⟨q1,q2,q3,q4,q5,q6⟩,h7⟩:=h;dsimp only at q1 q2 q3 q4 q5 q6 h7;first
     |(simp_all;done)
     |(obtain⟨⟨p1,p2,p3⟩,p4,p5,p6⟩:=h7;dsimp only at p1 p2 p3 p4 p5 p6;first|(simp_all;done)|(simp_all;omega)|omega))
  |(refine ae true (hv:=by rfl) (hp:=⟨λ_=>?_,λ_=>rfl⟩)
    rw[wO rfl rfl rfl rfl];first
     |(refine⟨⟨?_,?_,?_,?_,?_,?_⟩,⟨?_,?_,?_⟩,?_,?_,?_⟩<;>dsimp only<;>first|(simp_all;done)|(simp_all;omega)|omega)
     |(refine⟨⟨?_,?_,?_,?_,?_,?_⟩,?_⟩<;>first|(simp_all;done)|(simp_all;omega)))
  |(refine ae bb (hv:=by rfl) (hp:=?_)
    rw[wO rfl rfl rfl rfl];constructor
    ·intro hb;refine⟨⟨?_,?_,?_,?_,?_,?_⟩,⟨?_,?_,?_⟩,?_,?_,?_⟩<;>dsimp only<;>first|(simp_all;done)|(simp_all;omega)|omega
    ·rintro⟨⟨q1,q2,q3,q4,q5,q6⟩,⟨p1,p2,p3⟩,p4,p5,p6⟩;dsimp only at q1 q2 q3 q4 q5 q6 p1 p2 p3 p4 p5 p6
     simp_all))
theorem agS{d:bF}{r:aQ}{vh vs vr vc vu v1 v2:Value}(hk:¬(1<=r.kind/\r.kind<=13)):jD d r vh vs vr vc vu v1 v2:=by
 dsimp only[jD];have hx:¬nQ (fQ r.kind) d.aJ r:=λh=>by
  have h1:=h.known;by_cases h0:r.kind=0
  ·rw[h0]at h1;cases h1
  ·rw[BZ (by omega)]at h1;cases h1
 refine aI oW p9 λB w0=>?_;refine go ?_;intro b2 b3;iterate 13 (refine go ?_;refine ay rfl (λh=>?_) (λ_=>?_);(exfalso;omega))
 refine go ?_;exact ae false (hv:=rfl) (hp:=⟨(λh=>by cases h),λh=>absurd h hx⟩)
theorem agT{d:bF}{r:aQ}{vh vs vr vc vu v1 v2:Value}(hcl:d.aJ.length<=4096)(h1:r.names.length<9223372036854775808)(h2:r.others.length<9223372036854775808):jD d r vh vs vr vc vu v1 v2:=by
 by_cases h:1<=r.kind/\r.kind<=13
 ·rcases(show r.kind=1\/r.kind=2\/r.kind=3\/r.kind=4\/r.kind=5\/r.kind=6\/r.kind=7\/r.kind=8\/r.kind=9\/r.kind=10\/r.kind=11\/r.kind=12\/r.kind=13 by omega)with hk|hk|hk|hk|hk|hk|hk|hk|hk|hk|hk|hk|hk
  ·exact agF hk hcl h1 h2
  ·exact agG hk hcl h1 h2
  ·exact agH hk hcl h1 h2
  ·exact agI hk hcl h1 h2
  ·exact agJ hk hcl h1 h2
  ·exact agK hk hcl h1 h2
  ·exact agL hk hcl h1 h2
  ·exact agM hk hcl h1 h2
  ·exact agN hk hcl h1 h2
  ·exact agO hk hcl h1 h2
  ·exact agP hk hcl h1 h2
  ·exact agQ hk hcl h1 h2
  ·exact agR hk hcl h1 h2
 ·exact agS h
theorem agU{d:bF}{vh vs vr vc vu:Value}(hS:l6 d):
 bn Tryz.prog (.func 129) [.agg ⟨gD d vh vs vr vc vu⟩] [] [] [ah fq vs d.symbols,ah bM vc d.aJ,ah aY vu d.rules] (λb:Bool=>.bool b) (λ_=>[]) (λ_=>[]) (λb=>b=true↔IY d):=by
 have hsl:=hS.dO;have hcl:=hS.jm;have yu:=hS.kz;refine aI _ (aO 129) λB w0=>?_;refine aS (E:=fq) (v:=vs) (xs:=d.symbols) (by simp) λkC cs1 es=>?_;subst es;refine aS (E:=bM) (v:=vc) (xs:=d.aJ) (by simp) λac cc ec=>?_;subst ec;refine aS (E:=aY) (v:=vu) (xs:=d.rules) (by simp) λau cu eu=>?_;subst eu;refine go ?_;intro b1;refine bA (eD (b:=b1)) (h:=?_);refine go ?_;refine aZ (λk:Nat=>d.symbols.length - k) (λk=>[(3,.int .i64 (k:Int))]) (λ_=>[]) (λ_=>[]) (λk=>k<=d.symbols.length/\∀s∈d.symbols.take k,0<=s.value/\s.value<=99) 0 ⟨bY _,by simp⟩ (body:=?_);rintro k ⟨hk,hall⟩;refine go ?_;refine ay rfl (λh1=>?_) (λh1=>?_)
 ·refine go ?_;refine bi fq (xs:=d.symbols) (next:=λ_ _ s (_:Unit) hs=>?_);have hsm:=bH hs;refine go ?_;first|with_reducible refine aN (λh2=>?_) (λh2=>?_)|with_reducible refine aM (λh2=>?_) (λh2=>?_)|with_reducible refine aK (λh2=>?_) (λh2=>?_)
  rotate_left
  ·refine go ?_;exact ae false (hv:=rfl) (hp:=⟨(λh=>by cases h),λh=>by exfalso;have:=h.dO s hsm;omega⟩)
  refine go ?_;refine bi fq (xs:=d.symbols) (next:=λ_ _ s' (_:Unit) hs'=>?_);cases hs.symm.trans hs';refine go ?_;refine ay rfl (λh3=>?_) (λh3=>?_)
  ·refine go ?_;exact ae false (hv:=rfl) (hp:=⟨(λh=>by cases h),λh=>by exfalso;have:=h.dO s hsm;omega⟩)
  refine go ?_;refine aP (k+1) (by show d.symbols.length - (k+1)<d.symbols.length - k;omega) ⟨by omega,?_⟩;rw[bU hs];intro x hx;rcases dZ.1 hx with hx|hx
  ·exact hall x hx
  ·rw[bI.1 hx];omega
 have hks:k=d.symbols.length:=by omega
 subst hks;rw[bK]at hall;clear hk h1;refine go ?_;refine aZ (λk:Nat=>d.rules.length - k) (λk=>[(4,.int .i64 (k:Int))]) (λ_=>[]) (λ_=>[]) (λk=>k<=d.rules.length/\∀r∈d.rules.take k,nQ (fQ r.kind) d.aJ r) 0 ⟨bY _,by simp⟩ (body:=?_);rintro k ⟨hk,Aa⟩;refine go ?_;refine ay rfl (λh1=>?_) (λh1=>?_)
 ·refine go ?_;refine bi aY (xs:=d.rules) (next:=λ_ _ r (vv:Value×Value) hr=>?_);have hrm:=bH hr;have hrn:=hS.qE r hrm;refine go ?_;refine ax (agT (d:=d) (r:=r) (vh:=vh) (vs:=.slice kC d.symbols.length cs1) (vr:=vr) (vc:=.slice ac d.aJ.length cc) (vu:=.slice au d.rules.length cu) (v1:=vv.1) (v2:=vv.2) hcl hrn.1 hrn.2) (next:=λb hb=>?_);cases b with
  |false=>
   refine go ?_;exact ae false (hv:=rfl) (hp:=⟨(λh=>by cases h),λh=>absurd (hb.2 (h.kz r hrm)) (by simp)⟩)
  |true=>
   have hR:=hb.1 rfl;refine go ?_;refine aP (k+1) (by show d.rules.length - (k+1)<d.rules.length - k;omega) ⟨by omega,?_⟩;rw[bU hr];intro x hx;rcases dZ.1 hx with hx|hx
   ·exact Aa x hx
   ·rw[bI.1 hx];exact hR
 have hkr:k=d.rules.length:=by omega
 subst hkr;rw[bK]at Aa;clear hk h1;refine go ?_;refine aZ (λk:Nat=>d.aJ.length - k) (λk=>[(5,.int .i64 (k:Int))]) (λ_=>[]) (λ_=>[]) (λk=>k<=d.aJ.length/\∀(i:Nat) (c:iR),i<k->d.aJ[i]? =some c->(d.rules.map (·.aH)).count (i:Int)=1/\nP c) 0 ⟨bY _,λi c h=>by omega⟩ (body:=?_);rintro k ⟨hk,EG⟩;refine go ?_;refine ay rfl (λh1=>?_) (λh1=>?_)
 ·obtain⟨c,hc⟩:∃c,d.aJ[k]? =some c:=⟨d.aJ[k]'(by omega),cO _⟩
  refine go ?_;refine aZ (λj:Nat=>d.rules.length - j) (λj=>[(7,.int .i64 (j:Int)),(6,.int .i64 (((d.rules.take j).map (·.aH)).count (k:Int):Nat))]) (λ_=>[]) (λ_=>[]) (λj=>j<=d.rules.length) 0 (bY _) (body:=?_);intro j hj;have hcn:((d.rules.take j).map (·.aH)).count (k:Int)<=4096:=by
   have:=S9 (k:Int) ((d.rules.take j).map (·.aH));rw[cz,gW]at this;omega
  refine go ?_;refine ay rfl (λh2=>?_) (λh2=>?_)
  ·refine go ?_;refine bi aY (xs:=d.rules) (next:=λ_ _ r (vv:Value×Value) hr=>?_);have hst:((d.rules.take (j+1)).map (·.aH)).count (k:Int)=((d.rules.take j).map (·.aH)).count (k:Int)+if r.aH=(k:Int)then 1 else 0:=by
    rw[bU hr,eB,nV,List.count_append,List.count_singleton];congr 1;by_cases e:r.aH=(k:Int)<;>simp[e]
   refine go ?_;refine ay rfl (λh3=>?_) (λh3=>?_)
   ·rw[if_pos h3]at hst;refine go ?_;refine aP (j+1) (by omega) (by omega) (hl:=⟨rfl,by rw[hst];rfl,by repeat (first|exact trivial|refine⟨rfl,?_⟩)⟩)
   ·rw[if_neg h3]at hst;refine go ?_;refine aP (j+1) (by omega) (by omega) (hl:=⟨rfl,by rw[hst];rfl,by repeat (first|exact trivial|refine⟨rfl,?_⟩)⟩)
  have hjr:j=d.rules.length:=by omega
  subst hjr;rw[bK]at hcn⊢;refine go ?_;first|with_reducible refine aN (λh3=>?_) (λh3=>?_)|with_reducible refine aM (λh3=>?_) (λh3=>?_)|with_reducible refine aK (λh3=>?_) (λh3=>?_)
  ·refine go ?_;refine bi bM (xs:=d.aJ) (next:=λ_ _ c' (_:Unit) hc'=>?_);cases hc.symm.trans hc';refine go ?_;refine ax (agA (c:=c)) (next:=λ_ _=>?_);refine go ?_;refine eF rfl (λh4=>?_) (λh4=>?_)
   ·refine go ?_;exact ae false (hv:=rfl) (hp:=⟨(λh=>by cases h),λh=>absurd (h.jm k c hc).2 h4⟩)
   ·refine go ?_;refine aP (k+1) (by show d.aJ.length - (k+1)<d.aJ.length - k;omega) ⟨by omega,λi x hi hx=>?_⟩;by_cases hik:i=k
    ·subst hik;rw[hc]at hx;cases hx;exact⟨by omega,h4⟩
    ·exact EG i x (by omega) hx
  ·refine go ?_;exact ae false (hv:=rfl) (hp:=⟨(λh=>by cases h),λh=>by exfalso;have:=(h.jm k c hc).1;omega⟩)
 have hkc:k=d.aJ.length:=by omega
 subst hkc;refine go ?_;exact ae true (hv:=rfl) (hp:=⟨λ_=>⟨hall,Aa,λi c hc=>EG i c (bP.1 hc).1 hc⟩,λ_=>rfl⟩)
theorem agV{d:bF}{vh vs vr vc vu:Value}(hT:tH d):bn Tryz.prog (.func 90) [.agg ⟨gD d vh vs vr vc vu⟩] [] [] (kM d vh vs vr vc vu) (λe:Int=>.int .i64 e) (λ_=>[]) (λ_=>[]) (λe=>e=0↔EH d):=by
 have hD:=hT.s;have hsl:=hD.dO;have hrl:=hD.regs;have hcl:=hD.jm;have yu:=hD.kz;refine aI _ (aO 90) λB w0=>?_;refine aS (E:=fq) (v:=vs) (xs:=d.symbols) (by simp) λkC cs1 es=>?_;subst es;refine aS (E:=eG) (v:=vr) (xs:=d.regions) (by simp) λar cr er=>?_;subst er;refine aS (E:=bM) (v:=vc) (xs:=d.aJ) (by simp) λac cc ec=>?_;subst ec;refine aS (E:=aY) (v:=vu) (xs:=d.rules) (by simp) λau cu eu=>?_;subst eu;refine go ?_;intro b1;refine bA (eD (b:=b1)) (h:=?_);refine go ?_;first|with_reducible refine aN (λk1=>?_) (λk1=>?_)|with_reducible refine aM (λk1=>?_) (λk1=>?_)|with_reducible refine aK (λk1=>?_) (λk1=>?_)
 rotate_left
 ·refine go ?_;refine ae 2 (hv:=rfl) (hp:=⟨λh=>?_,λh=>?_⟩)
  ·exact absurd h (by omega)
  exfalso
  have:=h.lim.s0;omega
 refine go ?_;first|with_reducible refine aN (λk2=>?_) (λk2=>?_)|with_reducible refine aM (λk2=>?_) (λk2=>?_)|with_reducible refine aK (λk2=>?_) (λk2=>?_)
 rotate_left
 ·refine go ?_;refine ae 2 (hv:=rfl) (hp:=⟨λh=>?_,λh=>?_⟩)
  ·exact absurd h (by omega)
  exfalso
  have:=h.lim.s1;omega
 refine go ?_;first|with_reducible refine aN (λk3=>?_) (λk3=>?_)|with_reducible refine aM (λk3=>?_) (λk3=>?_)|with_reducible refine aK (λk3=>?_) (λk3=>?_)
 rotate_left
 ·refine go ?_;refine ae 2 (hv:=rfl) (hp:=⟨λh=>?_,λh=>?_⟩)
  ·exact absurd h (by omega)
  exfalso
  have:=h.lim.r;omega
 refine go ?_;first|with_reducible refine aN (λk4=>?_) (λk4=>?_)|with_reducible refine aM (λk4=>?_) (λk4=>?_)|with_reducible refine aK (λk4=>?_) (λk4=>?_)
 rotate_left
 ·refine go ?_;refine ae 2 (hv:=rfl) (hp:=⟨λh=>?_,λh=>?_⟩)
  ·exact absurd h (by omega)
  exfalso
  have:=h.lim.c;omega
 refine go ?_;refine ay rfl (λk5=>?_) (λk5=>?_)
 ·refine go ?_;refine ae 2 (hv:=rfl) (hp:=⟨λh=>?_,λh=>?_⟩)
  ·exact absurd h (by omega)
  exfalso
  have:=h.lim.u;omega
 refine go ?_;refine ax (UU (d:=d) (vh:=vh) (vs:=.slice kC d.symbols.length cs1) (vr:=.slice ar d.regions.length cr) (vc:=.slice ac d.aJ.length cc) (vu:=.slice au d.rules.length cu) hD) (next:=λy hy=>?_);obtain⟨ok,e,v1,v2⟩:=y;cases ok with
 |false=>
  obtain⟨he,hno⟩:=hy.2 rfl;have he:e≠0:=he;dsimp only[cond,qD,nN,List.nil_append];refine go ?_;intro b3;refine go ?_;refine ay rfl (λk6=>?_) (λk6=>?_)
  rotate_left
  ·exact absurd (iI.1 k6) he
  refine go ?_;exact ae e (hv:=rfl) (hp:=⟨λh=>absurd h he,λh=>absurd h.rs hno⟩)
 |true=>
 obtain⟨he,hres⟩:=hy.1 rfl;have he:e=0:=he;subst he;clear hy;dsimp only[cond,qD,nN,List.cons_append,List.nil_append];refine go ?_;intro b3;refine go ?_;refine eT (ah aa vh (Kd.bG d).holes) (λw hw=>hw (ah aa vh d.holes) (by simp)) ?_;refine eT (ah fq (.slice kC d.symbols.length cs1) (Kd.bG d).symbols) (λw hw=>hw (ah fq (.slice kC d.symbols.length cs1) d.symbols) (by simp)) ?_;refine eT (ah eG (.slice ar d.regions.length cr) (Kd.bG d).regions) (λw hw=>hw (ah eG (.slice ar d.regions.length cr) d.regions) (by simp)) ?_;refine ax (agu (x:=Kd.bG d) (y:=d) (h1:=vh) (s1:=.slice kC d.symbols.length cs1) (r1:=.slice ar d.regions.length cr) (c1:=v1) (u1:=v2) (h2:=vh) (s2:=.slice kC d.symbols.length cs1) (r2:=.slice ar d.regions.length cr) (c2:=.slice ac d.aJ.length cc) (u2:=.slice au d.rules.length cu) hD.bG) (next:=λ_ _=>?_);refine go ?_;refine aM (λk7=>?_) (λk7=>?_)
 rotate_left
 ·refine go ?_;refine ae 170 (hv:=rfl) (hp:=⟨λh=>?_,λh=>?_⟩)
  ·exact absurd h (by omega)
  exfalso
  exact k7 h.same
 refine go ?_;first|with_reducible refine aN (λk8=>?_) (λk8=>?_)|with_reducible refine aM (λk8=>?_) (λk8=>?_)|with_reducible refine aK (λk8=>?_) (λk8=>?_)
 rotate_left
 ·refine go ?_;refine ae 170 (hv:=rfl) (hp:=⟨λh=>?_,λh=>?_⟩)
  ·exact absurd h (by omega)
  exfalso
  have:=h.Nl;omega
 refine go ?_;refine ay rfl (λk9=>?_) (λk9=>?_)
 ·refine go ?_;refine ae 170 (hv:=rfl) (hp:=⟨λh=>?_,λh=>?_⟩)
  ·exact absurd h (by omega)
  exfalso
  have:=h.Nl;omega
 refine go ?_;refine ax (NB (s:=d.shape) (w:=d.w) (h:=d.h) (holes:=d.holes) (vh:=vh) hT.w hT.h hT.holes) (next:=λy hy=>?_);obtain⟨ok,gh,gc⟩:=y;cases ok with
 |false=>
  have hno:¬nL d.shape d.w d.h d.holes:=λh=>by have:=hy.2 h;cases this
  dsimp only[mkV,oq,cond,List.nil_append];refine go ?_;intro b5;refine go ?_;exact ae 130 (hv:=rfl) (hp:=⟨(λh=>by cases h),λh=>absurd h.Ca hno⟩)
 |true=>
 have hmk:=hy.1 rfl;clear hy;dsimp only[cond,mkV,oq];rw[show uN d.shape d.w d.h d.holes=aR d from rfl];dsimp only[jq,iO,List.cons_append,List.nil_append];refine go ?_;intro b5;refine go ?_;have htr:=agz (d:=d) (vh:=vh) (vs:=.slice kC d.symbols.length cs1) (vr:=.slice ar d.regions.length cr) (vc:=.slice ac d.aJ.length cc) (vu:=.slice au d.rules.length cu) (gh:=gh) (gc:=gc) (g:=aR d) hD (EI hmk);dsimp only[jq,iO]at htr;refine ax htr (next:=λe he=>?_);refine go ?_;refine ay rfl (λk10=>?_) (λk10=>?_)
 ·refine go ?_;exact ae e (hv:=rfl) (hp:=⟨λh=>absurd h k10,λh=>absurd (he.2 h.Ab) k10⟩)
 have hrg:=he.1 (iI.1 k10);clear he k10;refine go ?_;refine ax (agU (d:=d) (vh:=vh) (vs:=.slice kC d.symbols.length cs1) (vr:=.slice ar d.regions.length cr) (vc:=.slice ac d.aJ.length cc) (vu:=.slice au d.rules.length cu) hD) (next:=λb hb=>?_);cases b with
 |false=>
  refine go ?_;exact ae 170 (hv:=rfl) (hp:=⟨(λh=>by cases h),λh=>absurd (hb.2 h.form) (by simp)⟩)
 |true=>
 have hfm:=hb.1 rfl;clear hb;refine go ?_;refine ax (agD (d:=d) (vh:=vh) (vs:=.slice kC d.symbols.length cs1) (vr:=.slice ar d.regions.length cr) (vc:=.slice ac d.aJ.length cc) (vu:=.slice au d.rules.length cu) yu) (next:=λa3 _=>?_);refine go ?_;refine ay rfl (λk11=>?_) (λk11=>?_)
 ·refine go ?_;refine ae 171 (hv:=rfl) (hp:=⟨λh=>?_,λh=>?_⟩)
  ·exact absurd h (by omega)
  exfalso
  rw[h.read]at k11;simp at k11
 refine go ?_;exact ae 0 (hv:=rfl) (hp:=⟨λ_=>⟨⟨by omega,by omega,by omega,by omega,by omega⟩,hres,k7,⟨by omega,by omega⟩,hmk,hrg,hfm,jM.1 (by omega)⟩,λ_=>rfl⟩)
