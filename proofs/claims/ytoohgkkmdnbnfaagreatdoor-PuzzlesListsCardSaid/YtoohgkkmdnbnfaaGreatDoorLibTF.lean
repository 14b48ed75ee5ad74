/-
  The reference's types: a rule, of every kind; declarations that are well-formed.
-/
import Derived.Test.YtoohgkkmdnbnfaaGreatDoorLibSF
import Derived.Test.YtoohgkkmdnbnfaaGreatDoorLibRF
set_option linter.all false
set_option maxRecDepth 10000
set_option maxHeartbeats 4000000
namespace Go.Proofs.YtoohgkkmdnbnfaaGreatDoor
open Go.Ideal Kd
theorem agD{d:bD}{r:aS}{vh vs vr vc vu v1 v2:Value}(hk:r.kind=8)(hcl:d.aI.length<=4096)(h1:r.names.length<9223372036854775808)(h2:r.others.length<9223372036854775808):jv d r vh vs vr vc vu v1 v2:=by
 obtain⟨rn,gZ,rk,rf,cO,cZ,rs,ic,ig,ik,iq,iw⟩:=r;dsimp only at hk h1 h2;subst hk;dsimp only[jv];rw[show fO 8=⟨false,true,true,false,false,true,true,0⟩from by rfl];refine aK oM pU λB w0=>?_;refine aV (E:=aR) (v:=v1) (xs:=cO) (by simp) λa1 c1 e1=>?_;subst e1;refine aV (E:=aR) (v:=v2) (xs:=cZ) (by simp) λa2 c2 e2=>?_;subst e2;refine go ?_;intro b2 b3;iterate 16 (all_goals (first
  |(refine ax (qF (d:=d) (r:=⟨rn,gZ,8,rf,cO,cZ,rs,ic,ig,ik,iq,iw⟩) (vh:=vh) (vs:=vs) (vr:=vr) (vc:=vc) (vu:=vu) (v1:=.slice a1 cO.length c1) (v2:=.slice a2 cZ.length c2) hcl) (next:=λbb hbb=>?_))
  |(refine ax (pR (d:=d) (r:=⟨rn,gZ,8,rf,cO,cZ,rs,ic,ig,ik,iq,iw⟩) (vh:=vh) (vs:=vs) (vr:=vr) (vc:=vc) (vu:=vu) (v1:=.slice a1 cO.length c1) (v2:=.slice a2 cZ.length c2) hcl) (next:=λbb hbb=>?_))
  |(refine go ?_;first
   |with_reducible refine aL (λ_=>?_) (λ_=>?_)
   |with_reducible refine aO (λ_=>?_) (λ_=>?_)
   |with_reducible refine aM (λ_=>?_) (λ_=>?_)
   |refine az rfl (λ_=>?_) (λ_=>?_)
   |refine eO rfl (λ_=>?_) (λ_=>?_)
   |refine jT rfl (λ_=>?_) (λ_=>?_)
   |skip)))
 all_goals (try simp only[dU]at *)
 all_goals (first
  |(refine ae false (hv:=by rfl) (hp:=⟨(λh=>by cases h),λh=>?_⟩)
    exfalso
    rw[jf rfl rfl (by decide)]at h;obtain⟨⟨q1,q2,q3,q4,q5,q6⟩,h7⟩:=h;dsimp only at q1 q2 q3 q4 q5 q6 h7;first
     |(simp_all;done)
     |(obtain⟨⟨p1,p2,p3⟩,p4,p5,p6⟩:=h7;dsimp only at p1 p2 p3 p4 p5 p6;first|(simp_all;done)|(simp_all;omega)|omega))
  |(refine ae true (hv:=by rfl) (hp:=⟨λ_=>?_,λ_=>rfl⟩)
    rw[jf rfl rfl (by decide)];first
     |(refine⟨⟨?_,?_,?_,?_,?_,?_⟩,⟨?_,?_,?_⟩,?_,?_,?_⟩<;>dsimp only<;>first|(simp_all;done)|(simp_all;omega)|omega)
     |(refine⟨⟨?_,?_,?_,?_,?_,?_⟩,?_⟩<;>first|(simp_all;done)|(simp_all;omega)))
  |(refine ae bb (hv:=by rfl) (hp:=?_)
    rw[jf rfl rfl (by decide)];constructor
    ·intro hb;refine⟨⟨?_,?_,?_,?_,?_,?_⟩,⟨?_,?_,?_⟩,?_,?_,?_⟩<;>dsimp only<;>first|(simp_all;done)|(simp_all;omega)|omega
    ·rintro⟨⟨q1,q2,q3,q4,q5,q6⟩,⟨p1,p2,p3⟩,p4,p5,p6⟩;dsimp only at q1 q2 q3 q4 q5 q6 p1 p2 p3 p4 p5 p6
     simp_all))
theorem agE{d:bD}{r:aS}{vh vs vr vc vu v1 v2:Value}(hk:r.kind=9)(hcl:d.aI.length<=4096)(h1:r.names.length<9223372036854775808)(h2:r.others.length<9223372036854775808):jv d r vh vs vr vc vu v1 v2:=by
 obtain⟨rn,gZ,rk,rf,cO,cZ,rs,ic,ig,ik,iq,iw⟩:=r;dsimp only at hk h1 h2;subst hk;dsimp only[jv];rw[show fO 9=⟨false,true,false,false,false,true,true,0⟩from by rfl];refine aK oM pU λB w0=>?_;refine aV (E:=aR) (v:=v1) (xs:=cO) (by simp) λa1 c1 e1=>?_;subst e1;refine aV (E:=aR) (v:=v2) (xs:=cZ) (by simp) λa2 c2 e2=>?_;subst e2;refine go ?_;intro b2 b3;iterate 16 (all_goals (first
  |(refine ax (qF (d:=d) (r:=⟨rn,gZ,9,rf,cO,cZ,rs,ic,ig,ik,iq,iw⟩) (vh:=vh) (vs:=vs) (vr:=vr) (vc:=vc) (vu:=vu) (v1:=.slice a1 cO.length c1) (v2:=.slice a2 cZ.length c2) hcl) (next:=λbb hbb=>?_))
  |(refine ax (pR (d:=d) (r:=⟨rn,gZ,9,rf,cO,cZ,rs,ic,ig,ik,iq,iw⟩) (vh:=vh) (vs:=vs) (vr:=vr) (vc:=vc) (vu:=vu) (v1:=.slice a1 cO.length c1) (v2:=.slice a2 cZ.length c2) hcl) (next:=λbb hbb=>?_))
  |(refine go ?_;first
   |with_reducible refine aL (λ_=>?_) (λ_=>?_)
   |with_reducible refine aO (λ_=>?_) (λ_=>?_)
   |with_reducible refine aM (λ_=>?_) (λ_=>?_)
   |refine az rfl (λ_=>?_) (λ_=>?_)
   |refine eO rfl (λ_=>?_) (λ_=>?_)
   |refine jT rfl (λ_=>?_) (λ_=>?_)
   |skip)))
 all_goals (try simp only[dU]at *)
 all_goals (first
  |(refine ae false (hv:=by rfl) (hp:=⟨(λh=>by cases h),λh=>?_⟩)
    exfalso
    rw[jf rfl rfl (by decide)]at h;obtain⟨⟨q1,q2,q3,q4,q5,q6⟩,h7⟩:=h;dsimp only at q1 q2 q3 q4 q5 q6 h7;first
     |(simp_all;done)
     |(obtain⟨⟨p1,p2,p3⟩,p4,p5,p6⟩:=h7;dsimp only at p1 p2 p3 p4 p5 p6;first|(simp_all;done)|(simp_all;omega)|omega))
  |(refine ae true (hv:=by rfl) (hp:=⟨λ_=>?_,λ_=>rfl⟩)
    rw[jf rfl rfl (by decide)];first
     |(refine⟨⟨?_,?_,?_,?_,?_,?_⟩,⟨?_,?_,?_⟩,?_,?_,?_⟩<;>dsimp only<;>first|(simp_all;done)|(simp_all;omega)|omega)
     |(refine⟨⟨?_,?_,?_,?_,?_,?_⟩,?_⟩<;>first|(simp_all;done)|(simp_all;omega)))
  |(refine ae bb (hv:=by rfl) (hp:=?_)
    rw[jf rfl rfl (by decide)];constructor
    ·intro hb;refine⟨⟨?_,?_,?_,?_,?_,?_⟩,⟨?_,?_,?_⟩,?_,?_,?_⟩<;>dsimp only<;>first|(simp_all;done)|(simp_all;omega)|omega
    ·rintro⟨⟨q1,q2,q3,q4,q5,q6⟩,⟨p1,p2,p3⟩,p4,p5,p6⟩;dsimp only at q1 q2 q3 q4 q5 q6 p1 p2 p3 p4 p5 p6
     simp_all))
theorem agF{d:bD}{r:aS}{vh vs vr vc vu v1 v2:Value}(hk:r.kind=10)(hcl:d.aI.length<=4096)(h1:r.names.length<9223372036854775808)(h2:r.others.length<9223372036854775808):jv d r vh vs vr vc vu v1 v2:=by
 obtain⟨rn,gZ,rk,rf,cO,cZ,rs,ic,ig,ik,iq,iw⟩:=r;dsimp only at hk h1 h2;subst hk;dsimp only[jv];rw[show fO 10=⟨false,true,false,false,false,true,true,0⟩from by rfl];refine aK oM pU λB w0=>?_;refine aV (E:=aR) (v:=v1) (xs:=cO) (by simp) λa1 c1 e1=>?_;subst e1;refine aV (E:=aR) (v:=v2) (xs:=cZ) (by simp) λa2 c2 e2=>?_;subst e2;refine go ?_;intro b2 b3;iterate 16 (all_goals (first
  |(refine ax (qF (d:=d) (r:=⟨rn,gZ,10,rf,cO,cZ,rs,ic,ig,ik,iq,iw⟩) (vh:=vh) (vs:=vs) (vr:=vr) (vc:=vc) (vu:=vu) (v1:=.slice a1 cO.length c1) (v2:=.slice a2 cZ.length c2) hcl) (next:=λbb hbb=>?_))
  |(refine ax (pR (d:=d) (r:=⟨rn,gZ,10,rf,cO,cZ,rs,ic,ig,ik,iq,iw⟩) (vh:=vh) (vs:=vs) (vr:=vr) (vc:=vc) (vu:=vu) (v1:=.slice a1 cO.length c1) (v2:=.slice a2 cZ.length c2) hcl) (next:=λbb hbb=>?_))
  |(refine go ?_;first
   |with_reducible refine aL (λ_=>?_) (λ_=>?_)
   |with_reducible refine aO (λ_=>?_) (λ_=>?_)
   |with_reducible refine aM (λ_=>?_) (λ_=>?_)
   |refine az rfl (λ_=>?_) (λ_=>?_)
   |refine eO rfl (λ_=>?_) (λ_=>?_)
   |refine jT rfl (λ_=>?_) (λ_=>?_)
   |skip)))
 all_goals (try simp only[dU]at *)
 all_goals (first
  |(refine ae false (hv:=by rfl) (hp:=⟨(λh=>by cases h),λh=>?_⟩)
    exfalso
    rw[jf rfl rfl (by decide)]at h;obtain⟨⟨q1,q2,q3,q4,q5,q6⟩,h7⟩:=h;dsimp only at q1 q2 q3 q4 q5 q6 h7;first
     |(simp_all;done)
     |(obtain⟨⟨p1,p2,p3⟩,p4,p5,p6⟩:=h7;dsimp only at p1 p2 p3 p4 p5 p6;first|(simp_all;done)|(simp_all;omega)|omega))
  |(refine ae true (hv:=by rfl) (hp:=⟨λ_=>?_,λ_=>rfl⟩)
    rw[jf rfl rfl (by decide)];first
     |(refine⟨⟨?_,?_,?_,?_,?_,?_⟩,⟨?_,?_,?_⟩,?_,?_,?_⟩<;>dsimp only<;>first|(simp_all;done)|(simp_all;omega)|omega)
     |(refine⟨⟨?_,?_,?_,?_,?_,?_⟩,?_⟩<;>first|(simp_all;done)|(simp_all;omega)))
  |(refine ae bb (hv:=by rfl) (hp:=?_)
    rw[jf rfl rfl (by decide)];constructor
    ·intro hb;refine⟨⟨?_,?_,?_,?_,?_,?_⟩,⟨?_,?_,?_⟩,?_,?_,?_⟩<;>dsimp only<;>first|(simp_all;done)|(simp_all;omega)|omega
    ·rintro⟨⟨q1,q2,q3,q4,q5,q6⟩,⟨p1,p2,p3⟩,p4,p5,p6⟩;dsimp only at q1 q2 q3 q4 q5 q6 p1 p2 p3 p4 p5 p6
     simp_all))
theorem agG{d:bD}{r:aS}{vh vs vr vc vu v1 v2:Value}(hk:r.kind=11)(hcl:d.aI.length<=4096)(h1:r.names.length<9223372036854775808)(h2:r.others.length<9223372036854775808):jv d r vh vs vr vc vu v1 v2:=by
 obtain⟨rn,gZ,rk,rf,cO,cZ,rs,ic,ig,ik,iq,iw⟩:=r;dsimp only at hk h1 h2;subst hk;dsimp only[jv];rw[show fO 11=⟨false,false,false,false,false,true,true,1⟩from by rfl];refine aK oM pU λB w0=>?_;refine aV (E:=aR) (v:=v1) (xs:=cO) (by simp) λa1 c1 e1=>?_;subst e1;refine aV (E:=aR) (v:=v2) (xs:=cZ) (by simp) λa2 c2 e2=>?_;subst e2;refine go ?_;intro b2 b3;iterate 16 (all_goals (first
  |(refine ax (qF (d:=d) (r:=⟨rn,gZ,11,rf,cO,cZ,rs,ic,ig,ik,iq,iw⟩) (vh:=vh) (vs:=vs) (vr:=vr) (vc:=vc) (vu:=vu) (v1:=.slice a1 cO.length c1) (v2:=.slice a2 cZ.length c2) hcl) (next:=λbb hbb=>?_))
  |(refine ax (pR (d:=d) (r:=⟨rn,gZ,11,rf,cO,cZ,rs,ic,ig,ik,iq,iw⟩) (vh:=vh) (vs:=vs) (vr:=vr) (vc:=vc) (vu:=vu) (v1:=.slice a1 cO.length c1) (v2:=.slice a2 cZ.length c2) hcl) (next:=λbb hbb=>?_))
  |(refine go ?_;first
   |with_reducible refine aL (λ_=>?_) (λ_=>?_)
   |with_reducible refine aO (λ_=>?_) (λ_=>?_)
   |with_reducible refine aM (λ_=>?_) (λ_=>?_)
   |refine az rfl (λ_=>?_) (λ_=>?_)
   |refine eO rfl (λ_=>?_) (λ_=>?_)
   |refine jT rfl (λ_=>?_) (λ_=>?_)
   |skip)))
 all_goals (try simp only[dU]at *)
 all_goals (first
  |(refine ae false (hv:=by rfl) (hp:=⟨(λh=>by cases h),λh=>?_⟩)
    exfalso
    rw[jf rfl rfl (by decide)]at h;obtain⟨⟨q1,q2,q3,q4,q5,q6⟩,h7⟩:=h;dsimp only at q1 q2 q3 q4 q5 q6 h7;first
     |(simp_all;done)
     |(obtain⟨⟨p1,p2,p3⟩,p4,p5,p6⟩:=h7;dsimp only at p1 p2 p3 p4 p5 p6;first|(simp_all;done)|(simp_all;omega)|omega))
  |(refine ae true (hv:=by rfl) (hp:=⟨λ_=>?_,λ_=>rfl⟩)
    rw[jf rfl rfl (by decide)];first
     |(refine⟨⟨?_,?_,?_,?_,?_,?_⟩,⟨?_,?_,?_⟩,?_,?_,?_⟩<;>dsimp only<;>first|(simp_all;done)|(simp_all;omega)|omega)
     |(refine⟨⟨?_,?_,?_,?_,?_,?_⟩,?_⟩<;>first|(simp_all;done)|(simp_all;omega)))
  |(refine ae bb (hv:=by rfl) (hp:=?_)
    rw[jf rfl rfl (by decide)];constructor
    ·intro hb;refine⟨⟨?_,?_,?_,?_,?_,?_⟩,⟨?_,?_,?_⟩,?_,?_,?_⟩<;>dsimp only<;>first|(simp_all;done)|(simp_all;omega)|omega
    ·rintro⟨⟨q1,q2,q3,q4,q5,q6⟩,⟨p1,p2,p3⟩,p4,p5,p6⟩;dsimp only at q1 q2 q3 q4 q5 q6 p1 p2 p3 p4 p5 p6
     simp_all))
theorem agH{d:bD}{r:aS}{vh vs vr vc vu v1 v2:Value}(hk:r.kind=12)(hcl:d.aI.length<=4096)(h1:r.names.length<9223372036854775808)(h2:r.others.length<9223372036854775808):jv d r vh vs vr vc vu v1 v2:=by
 obtain⟨rn,gZ,rk,rf,cO,cZ,rs,ic,ig,ik,iq,iw⟩:=r;dsimp only at hk h1 h2;subst hk;dsimp only[jv];rw[show fO 12=⟨true,false,false,false,false,false,true,0⟩from by rfl];refine aK oM pU λB w0=>?_;refine aV (E:=aR) (v:=v1) (xs:=cO) (by simp) λa1 c1 e1=>?_;subst e1;refine aV (E:=aR) (v:=v2) (xs:=cZ) (by simp) λa2 c2 e2=>?_;subst e2;refine go ?_;intro b2 b3;iterate 16 (all_goals (first
  |(refine ax (qF (d:=d) (r:=⟨rn,gZ,12,rf,cO,cZ,rs,ic,ig,ik,iq,iw⟩) (vh:=vh) (vs:=vs) (vr:=vr) (vc:=vc) (vu:=vu) (v1:=.slice a1 cO.length c1) (v2:=.slice a2 cZ.length c2) hcl) (next:=λbb hbb=>?_))
  |(refine ax (pR (d:=d) (r:=⟨rn,gZ,12,rf,cO,cZ,rs,ic,ig,ik,iq,iw⟩) (vh:=vh) (vs:=vs) (vr:=vr) (vc:=vc) (vu:=vu) (v1:=.slice a1 cO.length c1) (v2:=.slice a2 cZ.length c2) hcl) (next:=λbb hbb=>?_))
  |(refine go ?_;first
   |with_reducible refine aL (λ_=>?_) (λ_=>?_)
   |with_reducible refine aO (λ_=>?_) (λ_=>?_)
   |with_reducible refine aM (λ_=>?_) (λ_=>?_)
   |refine az rfl (λ_=>?_) (λ_=>?_)
   |refine eO rfl (λ_=>?_) (λ_=>?_)
   |refine jT rfl (λ_=>?_) (λ_=>?_)
   |skip)))
 all_goals (try simp only[dU]at *)
 all_goals (first
  |(refine ae false (hv:=by rfl) (hp:=⟨(λh=>by cases h),λh=>?_⟩)
    exfalso
    rw[jf rfl rfl (by decide)]at h;obtain⟨⟨q1,q2,q3,q4,q5,q6⟩,h7⟩:=h;dsimp only at q1 q2 q3 q4 q5 q6 h7;first
     |(simp_all;done)
     |(obtain⟨⟨p1,p2,p3⟩,p4,p5,p6⟩:=h7;dsimp only at p1 p2 p3 p4 p5 p6;first|(simp_all;done)|(simp_all;omega)|omega))
  |(refine ae true (hv:=by rfl) (hp:=⟨λ_=>?_,λ_=>rfl⟩)
    rw[jf rfl rfl (by decide)];first
     |(refine⟨⟨?_,?_,?_,?_,?_,?_⟩,⟨?_,?_,?_⟩,?_,?_,?_⟩<;>dsimp only<;>first|(simp_all;done)|(simp_all;omega)|omega)
     |(refine⟨⟨?_,?_,?_,?_,?_,?_⟩,?_⟩<;>first|(simp_all;done)|(simp_all;omega)))
  |(refine ae bb (hv:=by rfl) (hp:=?_)
    rw[jf rfl rfl (by decide)];constructor
    ·intro hb;refine⟨⟨?_,?_,?_,?_,?_,?_⟩,⟨?_,?_,?_⟩,?_,?_,?_⟩<;>dsimp only<;>first|(simp_all;done)|(simp_all;omega)|omega
    ·rintro⟨⟨q1,q2,q3,q4,q5,q6⟩,⟨p1,p2,p3⟩,p4,p5,p6⟩;dsimp only at q1 q2 q3 q4 q5 q6 p1 p2 p3 p4 p5 p6
     simp_all))
theorem agI{d:bD}{r:aS}{vh vs vr vc vu v1 v2:Value}(hk:r.kind=13)(hcl:d.aI.length<=4096)(h1:r.names.length<9223372036854775808)(h2:r.others.length<9223372036854775808):jv d r vh vs vr vc vu v1 v2:=by
 obtain⟨rn,gZ,rk,rf,cO,cZ,rs,ic,ig,ik,iq,iw⟩:=r;dsimp only at hk h1 h2;subst hk;dsimp only[jv];rw[show fO 13=⟨false,false,false,true,false,false,true,0⟩from by rfl];refine aK oM pU λB w0=>?_;refine aV (E:=aR) (v:=v1) (xs:=cO) (by simp) λa1 c1 e1=>?_;subst e1;refine aV (E:=aR) (v:=v2) (xs:=cZ) (by simp) λa2 c2 e2=>?_;subst e2;refine go ?_;intro b2 b3;iterate 16 (all_goals (first
  |(refine ax (qF (d:=d) (r:=⟨rn,gZ,13,rf,cO,cZ,rs,ic,ig,ik,iq,iw⟩) (vh:=vh) (vs:=vs) (vr:=vr) (vc:=vc) (vu:=vu) (v1:=.slice a1 cO.length c1) (v2:=.slice a2 cZ.length c2) hcl) (next:=λbb hbb=>?_))
  |(refine ax (pR (d:=d) (r:=⟨rn,gZ,13,rf,cO,cZ,rs,ic,ig,ik,iq,iw⟩) (vh:=vh) (vs:=vs) (vr:=vr) (vc:=vc) (vu:=vu) (v1:=.slice a1 cO.length c1) (v2:=.slice a2 cZ.length c2) hcl) (next:=λbb hbb=>?_))
  |(refine go ?_;first
   |with_reducible refine aL (λ_=>?_) (λ_=>?_)
   |with_reducible refine aO (λ_=>?_) (λ_=>?_)
   |with_reducible refine aM (λ_=>?_) (λ_=>?_)
   |refine az rfl (λ_=>?_) (λ_=>?_)
   |refine eO rfl (λ_=>?_) (λ_=>?_)
   |refine jT rfl (λ_=>?_) (λ_=>?_)
   |skip)))
 all_goals (try simp only[dU]at *)
 all_goals (first
  |(refine ae false (hv:=by rfl) (hp:=⟨(λh=>by cases h),λh=>?_⟩)
    exfalso
    rw[wG rfl rfl rfl rfl]at h;obtain⟨⟨q1,q2,q3,q4,q5,q6⟩,h7⟩:=h;dsimp only at q1 q2 q3 q4 q5 q6 h7;first
     |(simp_all;done)
     |(obtain⟨⟨p1,p2,p3⟩,p4,p5,p6⟩:=h7;dsimp only at p1 p2 p3 p4 p5 p6;first|(simp_all;done)|(simp_all;omega)|omega))
  |(refine ae true (hv:=by rfl) (hp:=⟨λ_=>?_,λ_=>rfl⟩)
    rw[wG rfl rfl rfl rfl];first
     |(refine⟨⟨?_,?_,?_,?_,?_,?_⟩,⟨?_,?_,?_⟩,?_,?_,?_⟩<;>dsimp only<;>first|(simp_all;done)|(simp_all;omega)|omega)
     |(refine⟨⟨?_,?_,?_,?_,?_,?_⟩,?_⟩<;>first|(simp_all;done)|(simp_all;omega)))
  |(refine ae bb (hv:=by rfl) (hp:=?_)
    rw[wG rfl rfl rfl rfl];constructor
    ·intro hb;refine⟨⟨?_,?_,?_,?_,?_,?_⟩,⟨?_,?_,?_⟩,?_,?_,?_⟩<;>dsimp only<;>first|(simp_all;done)|(simp_all;omega)|omega
    ·rintro⟨⟨q1,q2,q3,q4,q5,q6⟩,⟨p1,p2,p3⟩,p4,p5,p6⟩;dsimp only at q1 q2 q3 q4 q5 q6 p1 p2 p3 p4 p5 p6
     simp_all))
theorem agJ{d:bD}{r:aS}{vh vs vr vc vu v1 v2:Value}(hk:¬(1<=r.kind/\r.kind<=13)):jv d r vh vs vr vc vu v1 v2:=by
 dsimp only[jv];have hx:¬qA (fO r.kind) d.aI r:=λh=>by
  have h1:=h.known;by_cases h0:r.kind=0
  ·rw[h0]at h1;cases h1
  ·rw[BM (by omega)]at h1;cases h1
 refine aK oM pU λB w0=>?_;refine go ?_;intro b2 b3;iterate 13 (refine go ?_;refine az rfl (λh=>?_) (λ_=>?_);(exfalso;omega))
 refine go ?_;exact ae false (hv:=rfl) (hp:=⟨(λh=>by cases h),λh=>absurd h hx⟩)
theorem agK{d:bD}{r:aS}{vh vs vr vc vu v1 v2:Value}(hcl:d.aI.length<=4096)(h1:r.names.length<9223372036854775808)(h2:r.others.length<9223372036854775808):jv d r vh vs vr vc vu v1 v2:=by
 by_cases h:1<=r.kind/\r.kind<=13
 ·rcases(show r.kind=1\/r.kind=2\/r.kind=3\/r.kind=4\/r.kind=5\/r.kind=6\/r.kind=7\/r.kind=8\/r.kind=9\/r.kind=10\/r.kind=11\/r.kind=12\/r.kind=13 by omega)with hk|hk|hk|hk|hk|hk|hk|hk|hk|hk|hk|hk|hk
  ·exact agw hk hcl h1 h2
  ·exact agx hk hcl h1 h2
  ·exact agy hk hcl h1 h2
  ·exact agz hk hcl h1 h2
  ·exact agA hk hcl h1 h2
  ·exact agB hk hcl h1 h2
  ·exact agC hk hcl h1 h2
  ·exact agD hk hcl h1 h2
  ·exact agE hk hcl h1 h2
  ·exact agF hk hcl h1 h2
  ·exact agG hk hcl h1 h2
  ·exact agH hk hcl h1 h2
  ·exact agI hk hcl h1 h2
 ·exact agJ h
theorem agL{d:bD}{vh vs vr vc vu:Value}(hS:lX d):
 bz Tryz.prog (.func 129) [.agg ⟨gq d vh vs vr vc vu⟩] [] [] [ah fA vs d.symbols,ah bJ vc d.aI,ah aY vu d.rules] (λb:Bool=>.bool b) (λ_=>[]) (λ_=>[]) (λb=>b=true↔IB d):=by
 have hsl:=hS.dO;have hcl:=hS.jk;have xZ:=hS.kg;refine aK _ (aP 129) λB w0=>?_;refine aV (E:=fA) (v:=vs) (xs:=d.symbols) (by simp) λlF cs1 es=>?_;subst es;refine aV (E:=bJ) (v:=vc) (xs:=d.aI) (by simp) λac cc ec=>?_;subst ec;refine aV (E:=aY) (v:=vu) (xs:=d.rules) (by simp) λau cu eu=>?_;subst eu;refine go ?_;intro b1;refine bC (eH (b:=b1)) (h:=?_);refine go ?_;refine bi (λk:Nat=>d.symbols.length - k) (λk=>[(3,.int .i64 (k:Int))]) (λ_=>[]) (λ_=>[]) (λk=>k<=d.symbols.length/\∀s∈d.symbols.take k,0<=s.value/\s.value<=99) 0 ⟨cB _,by simp⟩ (body:=?_);rintro k ⟨hk,hall⟩;refine go ?_;refine az rfl (λh1=>?_) (λh1=>?_)
 ·refine go ?_;refine aZ fA (xs:=d.symbols) (next:=λ_ _ s (_:Unit) hs=>?_);have hsm:=bI hs;refine go ?_;first|with_reducible refine aL (λh2=>?_) (λh2=>?_)|with_reducible refine aO (λh2=>?_) (λh2=>?_)|with_reducible refine aM (λh2=>?_) (λh2=>?_)
  rotate_left
  ·refine go ?_;exact ae false (hv:=rfl) (hp:=⟨(λh=>by cases h),λh=>by exfalso;have:=h.dO s hsm;omega⟩)
  refine go ?_;refine aZ fA (xs:=d.symbols) (next:=λ_ _ s' (_:Unit) hs'=>?_);cases hs.symm.trans hs';refine go ?_;refine az rfl (λh3=>?_) (λh3=>?_)
  ·refine go ?_;exact ae false (hv:=rfl) (hp:=⟨(λh=>by cases h),λh=>by exfalso;have:=h.dO s hsm;omega⟩)
  refine go ?_;refine aQ (k+1) (by show d.symbols.length - (k+1)<d.symbols.length - k;omega) ⟨by omega,?_⟩;rw[bX hs];intro x hx;rcases dX.1 hx with hx|hx
  ·exact hall x hx
  ·rw[bH.1 hx];omega
 have hks:k=d.symbols.length:=by omega
 subst hks;rw[bK]at hall;clear hk h1;refine go ?_;refine bi (λk:Nat=>d.rules.length - k) (λk=>[(4,.int .i64 (k:Int))]) (λ_=>[]) (λ_=>[]) (λk=>k<=d.rules.length/\∀r∈d.rules.take k,qA (fO r.kind) d.aI r) 0 ⟨cB _,by simp⟩ (body:=?_);rintro k ⟨hk,zP⟩;refine go ?_;refine az rfl (λh1=>?_) (λh1=>?_)
 ·refine go ?_;refine aZ aY (xs:=d.rules) (next:=λ_ _ r (vv:Value×Value) hr=>?_);have hrm:=bI hr;have hrn:=hS.qx r hrm;refine go ?_;refine ax (agK (d:=d) (r:=r) (vh:=vh) (vs:=.slice lF d.symbols.length cs1) (vr:=vr) (vc:=.slice ac d.aI.length cc) (vu:=.slice au d.rules.length cu) (v1:=vv.1) (v2:=vv.2) hcl hrn.1 hrn.2) (next:=λb hb=>?_);cases b with
  |false=>
   refine go ?_;exact ae false (hv:=rfl) (hp:=⟨(λh=>by cases h),λh=>absurd (hb.2 (h.kg r hrm)) (by simp)⟩)
  |true=>
   have hR:=hb.1 rfl;refine go ?_;refine aQ (k+1) (by show d.rules.length - (k+1)<d.rules.length - k;omega) ⟨by omega,?_⟩;rw[bX hr];intro x hx;rcases dX.1 hx with hx|hx
   ·exact zP x hx
   ·rw[bH.1 hx];exact hR
 have hkr:k=d.rules.length:=by omega
 subst hkr;rw[bK]at zP;clear hk h1;refine go ?_;refine bi (λk:Nat=>d.aI.length - k) (λk=>[(5,.int .i64 (k:Int))]) (λ_=>[]) (λ_=>[]) (λk=>k<=d.aI.length/\∀(i:Nat) (c:iP),i<k->d.aI[i]? =some c->(d.rules.map (·.aG)).count (i:Int)=1/\nL c) 0 ⟨cB _,λi c h=>by omega⟩ (body:=?_);rintro k ⟨hk,Ez⟩;refine go ?_;refine az rfl (λh1=>?_) (λh1=>?_)
 ·obtain⟨c,hc⟩:∃c,d.aI[k]? =some c:=⟨d.aI[k]'(by omega),cz _⟩
  refine go ?_;refine bi (λj:Nat=>d.rules.length - j) (λj=>[(7,.int .i64 (j:Int)),(6,.int .i64 (((d.rules.take j).map (·.aG)).count (k:Int):Nat))]) (λ_=>[]) (λ_=>[]) (λj=>j<=d.rules.length) 0 (cB _) (body:=?_);intro j hj;have hcn:((d.rules.take j).map (·.aG)).count (k:Int)<=4096:=by
   have:=Su (k:Int) ((d.rules.take j).map (·.aG));rw[bU,iy]at this;omega
  refine go ?_;refine az rfl (λh2=>?_) (λh2=>?_)
  ·refine go ?_;refine aZ aY (xs:=d.rules) (next:=λ_ _ r (vv:Value×Value) hr=>?_);have hst:((d.rules.take (j+1)).map (·.aG)).count (k:Int)=((d.rules.take j).map (·.aG)).count (k:Int)+if r.aG=(k:Int)then 1 else 0:=by
    rw[bX hr,dY,oh,List.count_append,List.count_singleton];congr 1;by_cases e:r.aG=(k:Int)<;>simp[e]
   refine go ?_;refine az rfl (λh3=>?_) (λh3=>?_)
   ·rw[if_pos h3]at hst;refine go ?_;refine aQ (j+1) (by omega) (by omega) (hl:=⟨rfl,by rw[hst];rfl,by repeat (first|exact trivial|refine⟨rfl,?_⟩)⟩)
   ·rw[if_neg h3]at hst;refine go ?_;refine aQ (j+1) (by omega) (by omega) (hl:=⟨rfl,by rw[hst];rfl,by repeat (first|exact trivial|refine⟨rfl,?_⟩)⟩)
  have hjr:j=d.rules.length:=by omega
  subst hjr;rw[bK]at hcn⊢;refine go ?_;first|with_reducible refine aL (λh3=>?_) (λh3=>?_)|with_reducible refine aO (λh3=>?_) (λh3=>?_)|with_reducible refine aM (λh3=>?_) (λh3=>?_)
  ·refine go ?_;refine aZ bJ (xs:=d.aI) (next:=λ_ _ c' (_:Unit) hc'=>?_);cases hc.symm.trans hc';refine go ?_;refine ax (agq (c:=c)) (next:=λ_ _=>?_);refine go ?_;refine eO rfl (λh4=>?_) (λh4=>?_)
   ·refine go ?_;exact ae false (hv:=rfl) (hp:=⟨(λh=>by cases h),λh=>absurd (h.jk k c hc).2 h4⟩)
   ·refine go ?_;refine aQ (k+1) (by show d.aI.length - (k+1)<d.aI.length - k;omega) ⟨by omega,λi x hi hx=>?_⟩;by_cases hik:i=k
    ·subst hik;rw[hc]at hx;cases hx;exact⟨by omega,h4⟩
    ·exact Ez i x (by omega) hx
  ·refine go ?_;exact ae false (hv:=rfl) (hp:=⟨(λh=>by cases h),λh=>by exfalso;have:=(h.jk k c hc).1;omega⟩)
 have hkc:k=d.aI.length:=by omega
 subst hkc;refine go ?_;exact ae true (hv:=rfl) (hp:=⟨λ_=>⟨hall,zP,λi c hc=>Ez i c (bN.1 hc).1 hc⟩,λ_=>rfl⟩)
theorem agM{d:bD}{vh vs vr vc vu:Value}(hT:sV d):bz Tryz.prog (.func 90) [.agg ⟨gq d vh vs vr vc vu⟩] [] [] (kG d vh vs vr vc vu) (λe:Int=>.int .i64 e) (λ_=>[]) (λ_=>[]) (λe=>e=0↔EA d):=by
 have hD:=hT.s;have hsl:=hD.dO;have hrl:=hD.regs;have hcl:=hD.jk;have xZ:=hD.kg;refine aK _ (aP 90) λB w0=>?_;refine aV (E:=fA) (v:=vs) (xs:=d.symbols) (by simp) λlF cs1 es=>?_;subst es;refine aV (E:=ed) (v:=vr) (xs:=d.regions) (by simp) λar cr er=>?_;subst er;refine aV (E:=bJ) (v:=vc) (xs:=d.aI) (by simp) λac cc ec=>?_;subst ec;refine aV (E:=aY) (v:=vu) (xs:=d.rules) (by simp) λau cu eu=>?_;subst eu;refine go ?_;intro b1;refine bC (eH (b:=b1)) (h:=?_);refine go ?_;first|with_reducible refine aL (λk1=>?_) (λk1=>?_)|with_reducible refine aO (λk1=>?_) (λk1=>?_)|with_reducible refine aM (λk1=>?_) (λk1=>?_)
 rotate_left
 ·refine go ?_;refine ae 2 (hv:=rfl) (hp:=⟨λh=>?_,λh=>?_⟩)
  ·exact absurd h (by omega)
  exfalso
  have:=h.lim.s0;omega
 refine go ?_;first|with_reducible refine aL (λk2=>?_) (λk2=>?_)|with_reducible refine aO (λk2=>?_) (λk2=>?_)|with_reducible refine aM (λk2=>?_) (λk2=>?_)
 rotate_left
 ·refine go ?_;refine ae 2 (hv:=rfl) (hp:=⟨λh=>?_,λh=>?_⟩)
  ·exact absurd h (by omega)
  exfalso
  have:=h.lim.s1;omega
 refine go ?_;first|with_reducible refine aL (λk3=>?_) (λk3=>?_)|with_reducible refine aO (λk3=>?_) (λk3=>?_)|with_reducible refine aM (λk3=>?_) (λk3=>?_)
 rotate_left
 ·refine go ?_;refine ae 2 (hv:=rfl) (hp:=⟨λh=>?_,λh=>?_⟩)
  ·exact absurd h (by omega)
  exfalso
  have:=h.lim.r;omega
 refine go ?_;first|with_reducible refine aL (λk4=>?_) (λk4=>?_)|with_reducible refine aO (λk4=>?_) (λk4=>?_)|with_reducible refine aM (λk4=>?_) (λk4=>?_)
 rotate_left
 ·refine go ?_;refine ae 2 (hv:=rfl) (hp:=⟨λh=>?_,λh=>?_⟩)
  ·exact absurd h (by omega)
  exfalso
  have:=h.lim.c;omega
 refine go ?_;refine az rfl (λk5=>?_) (λk5=>?_)
 ·refine go ?_;refine ae 2 (hv:=rfl) (hp:=⟨λh=>?_,λh=>?_⟩)
  ·exact absurd h (by omega)
  exfalso
  have:=h.lim.u;omega
 refine go ?_;refine ax (UD (d:=d) (vh:=vh) (vs:=.slice lF d.symbols.length cs1) (vr:=.slice ar d.regions.length cr) (vc:=.slice ac d.aI.length cc) (vu:=.slice au d.rules.length cu) hD) (next:=λy hy=>?_);obtain⟨ok,e,v1,v2⟩:=y;cases ok with
 |false=>
  obtain⟨he,hno⟩:=hy.2 rfl;have he:e≠0:=he;dsimp only[cond,qw,nJ,List.nil_append];refine go ?_;intro b3;refine go ?_;refine az rfl (λk6=>?_) (λk6=>?_)
  rotate_left
  ·exact absurd (iK.1 k6) he
  refine go ?_;exact ae e (hv:=rfl) (hp:=⟨λh=>absurd h he,λh=>absurd h.rs hno⟩)
 |true=>
 obtain⟨he,hres⟩:=hy.1 rfl;have he:e=0:=he;subst he;clear hy;dsimp only[cond,qw,nJ,List.cons_append,List.nil_append];refine go ?_;intro b3;refine go ?_;refine fu (ah aa vh (Kd.bF d).holes) (λw hw=>hw (ah aa vh d.holes) (by simp)) ?_;refine fu (ah fA (.slice lF d.symbols.length cs1) (Kd.bF d).symbols) (λw hw=>hw (ah fA (.slice lF d.symbols.length cs1) d.symbols) (by simp)) ?_;refine fu (ah ed (.slice ar d.regions.length cr) (Kd.bF d).regions) (λw hw=>hw (ah ed (.slice ar d.regions.length cr) d.regions) (by simp)) ?_;refine ax (agj (x:=Kd.bF d) (y:=d) (h1:=vh) (s1:=.slice lF d.symbols.length cs1) (r1:=.slice ar d.regions.length cr) (c1:=v1) (u1:=v2) (h2:=vh) (s2:=.slice lF d.symbols.length cs1) (r2:=.slice ar d.regions.length cr) (c2:=.slice ac d.aI.length cc) (u2:=.slice au d.rules.length cu) hD.bF) (next:=λ_ _=>?_);refine go ?_;refine aO (λk7=>?_) (λk7=>?_)
 rotate_left
 ·refine go ?_;refine ae 170 (hv:=rfl) (hp:=⟨λh=>?_,λh=>?_⟩)
  ·exact absurd h (by omega)
  exfalso
  exact k7 h.same
 refine go ?_;first|with_reducible refine aL (λk8=>?_) (λk8=>?_)|with_reducible refine aO (λk8=>?_) (λk8=>?_)|with_reducible refine aM (λk8=>?_) (λk8=>?_)
 rotate_left
 ·refine go ?_;refine ae 170 (hv:=rfl) (hp:=⟨λh=>?_,λh=>?_⟩)
  ·exact absurd h (by omega)
  exfalso
  have:=h.MZ;omega
 refine go ?_;refine az rfl (λk9=>?_) (λk9=>?_)
 ·refine go ?_;refine ae 170 (hv:=rfl) (hp:=⟨λh=>?_,λh=>?_⟩)
  ·exact absurd h (by omega)
  exfalso
  have:=h.MZ;omega
 refine go ?_;refine ax (Nc (s:=d.shape) (w:=d.w) (h:=d.h) (holes:=d.holes) (vh:=vh) hT.w hT.h hT.holes) (next:=λy hy=>?_);obtain⟨ok,gh,gc⟩:=y;cases ok with
 |false=>
  have hno:¬nG d.shape d.w d.h d.holes:=λh=>by have:=hy.2 h;cases this
  dsimp only[mkV,nX,cond,List.nil_append];refine go ?_;intro b5;refine go ?_;exact ae 130 (hv:=rfl) (hp:=⟨(λh=>by cases h),λh=>absurd h.BN hno⟩)
 |true=>
 have hmk:=hy.1 rfl;clear hy;dsimp only[cond,mkV,nX];rw[show uG d.shape d.w d.h d.holes=aN d from rfl];dsimp only[je,iI,List.cons_append,List.nil_append];refine go ?_;intro b5;refine go ?_;have htr:=agp (d:=d) (vh:=vh) (vs:=.slice lF d.symbols.length cs1) (vr:=.slice ar d.regions.length cr) (vc:=.slice ac d.aI.length cc) (vu:=.slice au d.rules.length cu) (gh:=gh) (gc:=gc) (g:=aN d) hD (EB hmk);dsimp only[je,iI]at htr;refine ax htr (next:=λe he=>?_);refine go ?_;refine az rfl (λk10=>?_) (λk10=>?_)
 ·refine go ?_;exact ae e (hv:=rfl) (hp:=⟨λh=>absurd h k10,λh=>absurd (he.2 h.zQ) k10⟩)
 have hrg:=he.1 (iK.1 k10);clear he k10;refine go ?_;refine ax (agL (d:=d) (vh:=vh) (vs:=.slice lF d.symbols.length cs1) (vr:=.slice ar d.regions.length cr) (vc:=.slice ac d.aI.length cc) (vu:=.slice au d.rules.length cu) hD) (next:=λb hb=>?_);cases b with
 |false=>
  refine go ?_;exact ae 170 (hv:=rfl) (hp:=⟨(λh=>by cases h),λh=>absurd (hb.2 h.form) (by simp)⟩)
 |true=>
 have hfm:=hb.1 rfl;clear hb;refine go ?_;refine ax (agu (d:=d) (vh:=vh) (vs:=.slice lF d.symbols.length cs1) (vr:=.slice ar d.regions.length cr) (vc:=.slice ac d.aI.length cc) (vu:=.slice au d.rules.length cu) xZ) (next:=λa3 _=>?_);refine go ?_;refine az rfl (λk11=>?_) (λk11=>?_)
 ·refine go ?_;refine ae 171 (hv:=rfl) (hp:=⟨λh=>?_,λh=>?_⟩)
  ·exact absurd h (by omega)
  exfalso
  rw[h.read]at k11;simp at k11
 refine go ?_;exact ae 0 (hv:=rfl) (hp:=⟨λ_=>⟨⟨by omega,by omega,by omega,by omega,by omega⟩,hres,k7,⟨by omega,by omega⟩,hmk,hrg,hfm,jI.1 (by omega)⟩,λ_=>rfl⟩)
