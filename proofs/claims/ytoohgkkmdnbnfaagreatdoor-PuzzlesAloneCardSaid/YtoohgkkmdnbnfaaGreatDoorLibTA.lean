/-
  The reference's types: a rule, of every kind; declarations that are well-formed.
-/
import Derived.Test.YtoohgkkmdnbnfaaGreatDoorLibSA
import Derived.Test.YtoohgkkmdnbnfaaGreatDoorLibRA
set_option linter.all false
set_option maxRecDepth 10000
set_option maxHeartbeats 4000000
namespace Go.Proofs.YtoohgkkmdnbnfaaGreatDoor
open Go.Ideal Kd
theorem ahC{d:bE}{r:aU}{vh vs vr vc vu v1 v2:Value}(hk:r.kind=8)(hcl:d.aJ.length<=4096)(h1:r.names.length<9223372036854775808)(h2:r.others.length<9223372036854775808):jH d r vh vs vr vc vu v1 v2:=by
 obtain⟨rn,iq,rk,rf,dm,dn,rs,iw,iy,iA,iB,iC⟩:=r;dsimp only at hk h1 h2;subst hk;dsimp only[jH];rw[show fQ 8=⟨false,true,true,false,false,true,true,0⟩from by rfl];refine aK pg ql λB w0=>?_;refine aS (E:=aR) (v:=v1) (xs:=dm) (by simp) λa1 c1 e1=>?_;subst e1;refine aS (E:=aR) (v:=v2) (xs:=dn) (by simp) λa2 c2 e2=>?_;subst e2;refine go ?_;intro b2 b3;iterate 16 (all_goals (first
  |(refine ax (qX (d:=d) (r:=⟨rn,iq,8,rf,dm,dn,rs,iw,iy,iA,iB,iC⟩) (vh:=vh) (vs:=vs) (vr:=vr) (vc:=vc) (vu:=vu) (v1:=.slice a1 dm.length c1) (v2:=.slice a2 dn.length c2) hcl) (next:=λbb hbb=>?_))
  |(refine ax (qj (d:=d) (r:=⟨rn,iq,8,rf,dm,dn,rs,iw,iy,iA,iB,iC⟩) (vh:=vh) (vs:=vs) (vr:=vr) (vc:=vc) (vu:=vu) (v1:=.slice a1 dm.length c1) (v2:=.slice a2 dn.length c2) hcl) (next:=λbb hbb=>?_))
  |(refine go ?_;first
   |with_reducible refine aN (λ_=>?_) (λ_=>?_)
   |with_reducible refine aM (λ_=>?_) (λ_=>?_)
   |with_reducible refine aL (λ_=>?_) (λ_=>?_)
   |refine aA rfl (λ_=>?_) (λ_=>?_)
   |refine eU rfl (λ_=>?_) (λ_=>?_)
   |refine j6 rfl (λ_=>?_) (λ_=>?_)
   |skip)))
 all_goals (try simp only[dY]at *)
 all_goals (first
  |(refine ae false (hv:=by rfl) (hp:=⟨(λh=>by cases h),λh=>?_⟩)
    exfalso
    rw[jA rfl rfl (by decide)]at h;obtain⟨⟨q1,q2,q3,q4,q5,q6⟩,h7⟩:=h;dsimp only at q1 q2 q3 q4 q5 q6 h7;first
     |(simp_all;done)
     |(obtain⟨⟨p1,p2,p3⟩,p4,p5,p6⟩:=h7;dsimp only at p1 p2 p3 p4 p5 p6;first|(simp_all;done)|(simp_all;omega)|omega))
  |(refine ae true (hv:=by rfl) (hp:=⟨λ_=>?_,λ_=>rfl⟩)
    rw[jA rfl rfl (by decide)];first
     |(refine⟨⟨?_,?_,?_,?_,?_,?_⟩,⟨?_,?_,?_⟩,?_,?_,?_⟩<;>dsimp only<;>first|(simp_all;done)|(simp_all;omega)|omega)
     |(refine⟨⟨?_,?_,?_,?_,?_,?_⟩,?_⟩<;>first|(simp_all;done)|(simp_all;omega)))
  |(refine ae bb (hv:=by rfl) (hp:=?_)
    rw[jA rfl rfl (by decide)];constructor
    ·intro hb;refine⟨⟨?_,?_,?_,?_,?_,?_⟩,⟨?_,?_,?_⟩,?_,?_,?_⟩<;>dsimp only<;>first|(simp_all;done)|(simp_all;omega)|omega
    ·rintro⟨⟨q1,q2,q3,q4,q5,q6⟩,⟨p1,p2,p3⟩,p4,p5,p6⟩;dsimp only at q1 q2 q3 q4 q5 q6 p1 p2 p3 p4 p5 p6
     simp_all))
theorem ahD{d:bE}{r:aU}{vh vs vr vc vu v1 v2:Value}(hk:r.kind=9)(hcl:d.aJ.length<=4096)(h1:r.names.length<9223372036854775808)(h2:r.others.length<9223372036854775808):jH d r vh vs vr vc vu v1 v2:=by
 obtain⟨rn,iq,rk,rf,dm,dn,rs,iw,iy,iA,iB,iC⟩:=r;dsimp only at hk h1 h2;subst hk;dsimp only[jH];rw[show fQ 9=⟨false,true,false,false,false,true,true,0⟩from by rfl];refine aK pg ql λB w0=>?_;refine aS (E:=aR) (v:=v1) (xs:=dm) (by simp) λa1 c1 e1=>?_;subst e1;refine aS (E:=aR) (v:=v2) (xs:=dn) (by simp) λa2 c2 e2=>?_;subst e2;refine go ?_;intro b2 b3;iterate 16 (all_goals (first
  |(refine ax (qX (d:=d) (r:=⟨rn,iq,9,rf,dm,dn,rs,iw,iy,iA,iB,iC⟩) (vh:=vh) (vs:=vs) (vr:=vr) (vc:=vc) (vu:=vu) (v1:=.slice a1 dm.length c1) (v2:=.slice a2 dn.length c2) hcl) (next:=λbb hbb=>?_))
  |(refine ax (qj (d:=d) (r:=⟨rn,iq,9,rf,dm,dn,rs,iw,iy,iA,iB,iC⟩) (vh:=vh) (vs:=vs) (vr:=vr) (vc:=vc) (vu:=vu) (v1:=.slice a1 dm.length c1) (v2:=.slice a2 dn.length c2) hcl) (next:=λbb hbb=>?_))
  |(refine go ?_;first
   |with_reducible refine aN (λ_=>?_) (λ_=>?_)
   |with_reducible refine aM (λ_=>?_) (λ_=>?_)
   |with_reducible refine aL (λ_=>?_) (λ_=>?_)
   |refine aA rfl (λ_=>?_) (λ_=>?_)
   |refine eU rfl (λ_=>?_) (λ_=>?_)
   |refine j6 rfl (λ_=>?_) (λ_=>?_)
   |skip)))
 all_goals (try simp only[dY]at *)
 all_goals (first
  |(refine ae false (hv:=by rfl) (hp:=⟨(λh=>by cases h),λh=>?_⟩)
    exfalso
    rw[jA rfl rfl (by decide)]at h;obtain⟨⟨q1,q2,q3,q4,q5,q6⟩,h7⟩:=h;dsimp only at q1 q2 q3 q4 q5 q6 h7;first
     |(simp_all;done)
     |(obtain⟨⟨p1,p2,p3⟩,p4,p5,p6⟩:=h7;dsimp only at p1 p2 p3 p4 p5 p6;first|(simp_all;done)|(simp_all;omega)|omega))
  |(refine ae true (hv:=by rfl) (hp:=⟨λ_=>?_,λ_=>rfl⟩)
    rw[jA rfl rfl (by decide)];first
     |(refine⟨⟨?_,?_,?_,?_,?_,?_⟩,⟨?_,?_,?_⟩,?_,?_,?_⟩<;>dsimp only<;>first|(simp_all;done)|(simp_all;omega)|omega)
     |(refine⟨⟨?_,?_,?_,?_,?_,?_⟩,?_⟩<;>first|(simp_all;done)|(simp_all;omega)))
  |(refine ae bb (hv:=by rfl) (hp:=?_)
    rw[jA rfl rfl (by decide)];constructor
    ·intro hb;refine⟨⟨?_,?_,?_,?_,?_,?_⟩,⟨?_,?_,?_⟩,?_,?_,?_⟩<;>dsimp only<;>first|(simp_all;done)|(simp_all;omega)|omega
    ·rintro⟨⟨q1,q2,q3,q4,q5,q6⟩,⟨p1,p2,p3⟩,p4,p5,p6⟩;dsimp only at q1 q2 q3 q4 q5 q6 p1 p2 p3 p4 p5 p6
     simp_all))
theorem ahE{d:bE}{r:aU}{vh vs vr vc vu v1 v2:Value}(hk:r.kind=10)(hcl:d.aJ.length<=4096)(h1:r.names.length<9223372036854775808)(h2:r.others.length<9223372036854775808):jH d r vh vs vr vc vu v1 v2:=by
 obtain⟨rn,iq,rk,rf,dm,dn,rs,iw,iy,iA,iB,iC⟩:=r;dsimp only at hk h1 h2;subst hk;dsimp only[jH];rw[show fQ 10=⟨false,true,false,false,false,true,true,0⟩from by rfl];refine aK pg ql λB w0=>?_;refine aS (E:=aR) (v:=v1) (xs:=dm) (by simp) λa1 c1 e1=>?_;subst e1;refine aS (E:=aR) (v:=v2) (xs:=dn) (by simp) λa2 c2 e2=>?_;subst e2;refine go ?_;intro b2 b3;iterate 16 (all_goals (first
  |(refine ax (qX (d:=d) (r:=⟨rn,iq,10,rf,dm,dn,rs,iw,iy,iA,iB,iC⟩) (vh:=vh) (vs:=vs) (vr:=vr) (vc:=vc) (vu:=vu) (v1:=.slice a1 dm.length c1) (v2:=.slice a2 dn.length c2) hcl) (next:=λbb hbb=>?_))
  |(refine ax (qj (d:=d) (r:=⟨rn,iq,10,rf,dm,dn,rs,iw,iy,iA,iB,iC⟩) (vh:=vh) (vs:=vs) (vr:=vr) (vc:=vc) (vu:=vu) (v1:=.slice a1 dm.length c1) (v2:=.slice a2 dn.length c2) hcl) (next:=λbb hbb=>?_))
  |(refine go ?_;first
   |with_reducible refine aN (λ_=>?_) (λ_=>?_)
   |with_reducible refine aM (λ_=>?_) (λ_=>?_)
   |with_reducible refine aL (λ_=>?_) (λ_=>?_)
   |refine aA rfl (λ_=>?_) (λ_=>?_)
   |refine eU rfl (λ_=>?_) (λ_=>?_)
   |refine j6 rfl (λ_=>?_) (λ_=>?_)
   |skip)))
 all_goals (try simp only[dY]at *)
 all_goals (first
  |(refine ae false (hv:=by rfl) (hp:=⟨(λh=>by cases h),λh=>?_⟩)
    exfalso
    rw[jA rfl rfl (by decide)]at h;obtain⟨⟨q1,q2,q3,q4,q5,q6⟩,h7⟩:=h;dsimp only at q1 q2 q3 q4 q5 q6 h7;first
     |(simp_all;done)
     |(obtain⟨⟨p1,p2,p3⟩,p4,p5,p6⟩:=h7;dsimp only at p1 p2 p3 p4 p5 p6;first|(simp_all;done)|(simp_all;omega)|omega))
  |(refine ae true (hv:=by rfl) (hp:=⟨λ_=>?_,λ_=>rfl⟩)
    rw[jA rfl rfl (by decide)];first
     |(refine⟨⟨?_,?_,?_,?_,?_,?_⟩,⟨?_,?_,?_⟩,?_,?_,?_⟩<;>dsimp only<;>first|(simp_all;done)|(simp_all;omega)|omega)
     |(refine⟨⟨?_,?_,?_,?_,?_,?_⟩,?_⟩<;>first|(simp_all;done)|(simp_all;omega)))
  |(refine ae bb (hv:=by rfl) (hp:=?_)
    rw[jA rfl rfl (by decide)];constructor
    ·intro hb;refine⟨⟨?_,?_,?_,?_,?_,?_⟩,⟨?_,?_,?_⟩,?_,?_,?_⟩<;>dsimp only<;>first|(simp_all;done)|(simp_all;omega)|omega
    ·rintro⟨⟨q1,q2,q3,q4,q5,q6⟩,⟨p1,p2,p3⟩,p4,p5,p6⟩;dsimp only at q1 q2 q3 q4 q5 q6 p1 p2 p3 p4 p5 p6
     simp_all))
theorem ahF{d:bE}{r:aU}{vh vs vr vc vu v1 v2:Value}(hk:r.kind=11)(hcl:d.aJ.length<=4096)(h1:r.names.length<9223372036854775808)(h2:r.others.length<9223372036854775808):jH d r vh vs vr vc vu v1 v2:=by
 obtain⟨rn,iq,rk,rf,dm,dn,rs,iw,iy,iA,iB,iC⟩:=r;dsimp only at hk h1 h2;subst hk;dsimp only[jH];rw[show fQ 11=⟨false,false,false,false,false,true,true,1⟩from by rfl];refine aK pg ql λB w0=>?_;refine aS (E:=aR) (v:=v1) (xs:=dm) (by simp) λa1 c1 e1=>?_;subst e1;refine aS (E:=aR) (v:=v2) (xs:=dn) (by simp) λa2 c2 e2=>?_;subst e2;refine go ?_;intro b2 b3;iterate 16 (all_goals (first
  |(refine ax (qX (d:=d) (r:=⟨rn,iq,11,rf,dm,dn,rs,iw,iy,iA,iB,iC⟩) (vh:=vh) (vs:=vs) (vr:=vr) (vc:=vc) (vu:=vu) (v1:=.slice a1 dm.length c1) (v2:=.slice a2 dn.length c2) hcl) (next:=λbb hbb=>?_))
  |(refine ax (qj (d:=d) (r:=⟨rn,iq,11,rf,dm,dn,rs,iw,iy,iA,iB,iC⟩) (vh:=vh) (vs:=vs) (vr:=vr) (vc:=vc) (vu:=vu) (v1:=.slice a1 dm.length c1) (v2:=.slice a2 dn.length c2) hcl) (next:=λbb hbb=>?_))
  |(refine go ?_;first
   |with_reducible refine aN (λ_=>?_) (λ_=>?_)
   |with_reducible refine aM (λ_=>?_) (λ_=>?_)
   |with_reducible refine aL (λ_=>?_) (λ_=>?_)
   |refine aA rfl (λ_=>?_) (λ_=>?_)
   |refine eU rfl (λ_=>?_) (λ_=>?_)
   |refine j6 rfl (λ_=>?_) (λ_=>?_)
   |skip)))
 all_goals (try simp only[dY]at *)
 all_goals (first
  |(refine ae false (hv:=by rfl) (hp:=⟨(λh=>by cases h),λh=>?_⟩)
    exfalso
    rw[jA rfl rfl (by decide)]at h;obtain⟨⟨q1,q2,q3,q4,q5,q6⟩,h7⟩:=h;dsimp only at q1 q2 q3 q4 q5 q6 h7;first
     |(simp_all;done)
     |(obtain⟨⟨p1,p2,p3⟩,p4,p5,p6⟩:=h7;dsimp only at p1 p2 p3 p4 p5 p6;first|(simp_all;done)|(simp_all;omega)|omega))
  |(refine ae true (hv:=by rfl) (hp:=⟨λ_=>?_,λ_=>rfl⟩)
    rw[jA rfl rfl (by decide)];first
     |(refine⟨⟨?_,?_,?_,?_,?_,?_⟩,⟨?_,?_,?_⟩,?_,?_,?_⟩<;>dsimp only<;>first|(simp_all;done)|(simp_all;omega)|omega)
     |(refine⟨⟨?_,?_,?_,?_,?_,?_⟩,?_⟩<;>first|(simp_all;done)|(simp_all;omega)))
  |(refine ae bb (hv:=by rfl) (hp:=?_)
    rw[jA rfl rfl (by decide)];constructor
    ·intro hb;refine⟨⟨?_,?_,?_,?_,?_,?_⟩,⟨?_,?_,?_⟩,?_,?_,?_⟩<;>dsimp only<;>first|(simp_all;done)|(simp_all;omega)|omega
    ·rintro⟨⟨q1,q2,q3,q4,q5,q6⟩,⟨p1,p2,p3⟩,p4,p5,p6⟩;dsimp only at q1 q2 q3 q4 q5 q6 p1 p2 p3 p4 p5 p6
     simp_all))
theorem ahG{d:bE}{r:aU}{vh vs vr vc vu v1 v2:Value}(hk:r.kind=12)(hcl:d.aJ.length<=4096)(h1:r.names.length<9223372036854775808)(h2:r.others.length<9223372036854775808):jH d r vh vs vr vc vu v1 v2:=by
 obtain⟨rn,iq,rk,rf,dm,dn,rs,iw,iy,iA,iB,iC⟩:=r;dsimp only at hk h1 h2;subst hk;dsimp only[jH];rw[show fQ 12=⟨true,false,false,false,false,false,true,0⟩from by rfl];refine aK pg ql λB w0=>?_;refine aS (E:=aR) (v:=v1) (xs:=dm) (by simp) λa1 c1 e1=>?_;subst e1;refine aS (E:=aR) (v:=v2) (xs:=dn) (by simp) λa2 c2 e2=>?_;subst e2;refine go ?_;intro b2 b3;iterate 16 (all_goals (first
  |(refine ax (qX (d:=d) (r:=⟨rn,iq,12,rf,dm,dn,rs,iw,iy,iA,iB,iC⟩) (vh:=vh) (vs:=vs) (vr:=vr) (vc:=vc) (vu:=vu) (v1:=.slice a1 dm.length c1) (v2:=.slice a2 dn.length c2) hcl) (next:=λbb hbb=>?_))
  |(refine ax (qj (d:=d) (r:=⟨rn,iq,12,rf,dm,dn,rs,iw,iy,iA,iB,iC⟩) (vh:=vh) (vs:=vs) (vr:=vr) (vc:=vc) (vu:=vu) (v1:=.slice a1 dm.length c1) (v2:=.slice a2 dn.length c2) hcl) (next:=λbb hbb=>?_))
  |(refine go ?_;first
   |with_reducible refine aN (λ_=>?_) (λ_=>?_)
   |with_reducible refine aM (λ_=>?_) (λ_=>?_)
   |with_reducible refine aL (λ_=>?_) (λ_=>?_)
   |refine aA rfl (λ_=>?_) (λ_=>?_)
   |refine eU rfl (λ_=>?_) (λ_=>?_)
   |refine j6 rfl (λ_=>?_) (λ_=>?_)
   |skip)))
 all_goals (try simp only[dY]at *)
 all_goals (first
  |(refine ae false (hv:=by rfl) (hp:=⟨(λh=>by cases h),λh=>?_⟩)
    exfalso
    rw[jA rfl rfl (by decide)]at h;obtain⟨⟨q1,q2,q3,q4,q5,q6⟩,h7⟩:=h;dsimp only at q1 q2 q3 q4 q5 q6 h7;first
     |(simp_all;done)
     |(obtain⟨⟨p1,p2,p3⟩,p4,p5,p6⟩:=h7;dsimp only at p1 p2 p3 p4 p5 p6;first|(simp_all;done)|(simp_all;omega)|omega))
  |(refine ae true (hv:=by rfl) (hp:=⟨λ_=>?_,λ_=>rfl⟩)
    rw[jA rfl rfl (by decide)];first
     |(refine⟨⟨?_,?_,?_,?_,?_,?_⟩,⟨?_,?_,?_⟩,?_,?_,?_⟩<;>dsimp only<;>first|(simp_all;done)|(simp_all;omega)|omega)
     |(refine⟨⟨?_,?_,?_,?_,?_,?_⟩,?_⟩<;>first|(simp_all;done)|(simp_all;omega)))
  |(refine ae bb (hv:=by rfl) (hp:=?_)
    rw[jA rfl rfl (by decide)];constructor
    ·intro hb;refine⟨⟨?_,?_,?_,?_,?_,?_⟩,⟨?_,?_,?_⟩,?_,?_,?_⟩<;>dsimp only<;>first|(simp_all;done)|(simp_all;omega)|omega
    ·rintro⟨⟨q1,q2,q3,q4,q5,q6⟩,⟨p1,p2,p3⟩,p4,p5,p6⟩;dsimp only at q1 q2 q3 q4 q5 q6 p1 p2 p3 p4 p5 p6
     simp_all))
theorem ahH{d:bE}{r:aU}{vh vs vr vc vu v1 v2:Value}(hk:r.kind=13)(hcl:d.aJ.length<=4096)(h1:r.names.length<9223372036854775808)(h2:r.others.length<9223372036854775808):jH d r vh vs vr vc vu v1 v2:=by
 obtain⟨rn,iq,rk,rf,dm,dn,rs,iw,iy,iA,iB,iC⟩:=r;dsimp only at hk h1 h2;subst hk;dsimp only[jH];rw[show fQ 13=⟨false,false,false,true,false,false,true,0⟩from by rfl];refine aK pg ql λB w0=>?_;refine aS (E:=aR) (v:=v1) (xs:=dm) (by simp) λa1 c1 e1=>?_;subst e1;refine aS (E:=aR) (v:=v2) (xs:=dn) (by simp) λa2 c2 e2=>?_;subst e2;refine go ?_;intro b2 b3;iterate 16 (all_goals (first
  |(refine ax (qX (d:=d) (r:=⟨rn,iq,13,rf,dm,dn,rs,iw,iy,iA,iB,iC⟩) (vh:=vh) (vs:=vs) (vr:=vr) (vc:=vc) (vu:=vu) (v1:=.slice a1 dm.length c1) (v2:=.slice a2 dn.length c2) hcl) (next:=λbb hbb=>?_))
  |(refine ax (qj (d:=d) (r:=⟨rn,iq,13,rf,dm,dn,rs,iw,iy,iA,iB,iC⟩) (vh:=vh) (vs:=vs) (vr:=vr) (vc:=vc) (vu:=vu) (v1:=.slice a1 dm.length c1) (v2:=.slice a2 dn.length c2) hcl) (next:=λbb hbb=>?_))
  |(refine go ?_;first
   |with_reducible refine aN (λ_=>?_) (λ_=>?_)
   |with_reducible refine aM (λ_=>?_) (λ_=>?_)
   |with_reducible refine aL (λ_=>?_) (λ_=>?_)
   |refine aA rfl (λ_=>?_) (λ_=>?_)
   |refine eU rfl (λ_=>?_) (λ_=>?_)
   |refine j6 rfl (λ_=>?_) (λ_=>?_)
   |skip)))
 all_goals (try simp only[dY]at *)
 all_goals (first
  |(refine ae false (hv:=by rfl) (hp:=⟨(λh=>by cases h),λh=>?_⟩)
    exfalso
    rw[wT rfl rfl rfl rfl]at h;obtain⟨⟨q1,q2,q3,q4,q5,q6⟩,h7⟩:=h;dsimp only at q1 q2 q3 q4 q5 q6 h7;first
     |(simp_all;done)
     |(obtain⟨⟨p1,p2,p3⟩,p4,p5,p6⟩:=h7;dsimp only at p1 p2 p3 p4 p5 p6;first|(simp_all;done)|(simp_all;omega)|omega))
  |(refine ae true (hv:=by rfl) (hp:=⟨λ_=>?_,λ_=>rfl⟩)
    rw[wT rfl rfl rfl rfl];first
     |(refine⟨⟨?_,?_,?_,?_,?_,?_⟩,⟨?_,?_,?_⟩,?_,?_,?_⟩<;>dsimp only<;>first|(simp_all;done)|(simp_all;omega)|omega)
     |(refine⟨⟨?_,?_,?_,?_,?_,?_⟩,?_⟩<;>first|(simp_all;done)|(simp_all;omega)))
  |(refine ae bb (hv:=by rfl) (hp:=?_)
    rw[wT rfl rfl rfl rfl];constructor
    ·intro hb;refine⟨⟨?_,?_,?_,?_,?_,?_⟩,⟨?_,?_,?_⟩,?_,?_,?_⟩<;>dsimp only<;>first|(simp_all;done)|(simp_all;omega)|omega
    ·rintro⟨⟨q1,q2,q3,q4,q5,q6⟩,⟨p1,p2,p3⟩,p4,p5,p6⟩;dsimp only at q1 q2 q3 q4 q5 q6 p1 p2 p3 p4 p5 p6
     simp_all))
theorem ahI{d:bE}{r:aU}{vh vs vr vc vu v1 v2:Value}(hk:¬(1<=r.kind/\r.kind<=13)):jH d r vh vs vr vc vu v1 v2:=by
 dsimp only[jH];have hx:¬qP (fQ r.kind) d.aJ r:=λh=>by
  have h1:=h.known;by_cases h0:r.kind=0
  ·rw[h0]at h1;cases h1
  ·rw[Ct (by omega)]at h1;cases h1
 refine aK pg ql λB w0=>?_;refine go ?_;intro b2 b3;iterate 13 (refine go ?_;refine aA rfl (λh=>?_) (λ_=>?_);(exfalso;omega))
 refine go ?_;exact ae false (hv:=rfl) (hp:=⟨(λh=>by cases h),λh=>absurd h hx⟩)
theorem ahJ{d:bE}{r:aU}{vh vs vr vc vu v1 v2:Value}(hcl:d.aJ.length<=4096)(h1:r.names.length<9223372036854775808)(h2:r.others.length<9223372036854775808):jH d r vh vs vr vc vu v1 v2:=by
 by_cases h:1<=r.kind/\r.kind<=13
 ·rcases(show r.kind=1\/r.kind=2\/r.kind=3\/r.kind=4\/r.kind=5\/r.kind=6\/r.kind=7\/r.kind=8\/r.kind=9\/r.kind=10\/r.kind=11\/r.kind=12\/r.kind=13 by omega)with hk|hk|hk|hk|hk|hk|hk|hk|hk|hk|hk|hk|hk
  ·exact ahv hk hcl h1 h2
  ·exact ahw hk hcl h1 h2
  ·exact ahx hk hcl h1 h2
  ·exact ahy hk hcl h1 h2
  ·exact ahz hk hcl h1 h2
  ·exact ahA hk hcl h1 h2
  ·exact ahB hk hcl h1 h2
  ·exact ahC hk hcl h1 h2
  ·exact ahD hk hcl h1 h2
  ·exact ahE hk hcl h1 h2
  ·exact ahF hk hcl h1 h2
  ·exact ahG hk hcl h1 h2
  ·exact ahH hk hcl h1 h2
 ·exact ahI h
theorem ahK{d:bE}{vh vs vr vc vu:Value}(hS:mq d):
 bi Tryz.prog (.func 129) [.agg ⟨gF d vh vs vr vc vu⟩] [] [] [ah fF vs d.symbols,ah bM vc d.aJ,ah aY vu d.rules] (λb:Bool=>.bool b) (λ_=>[]) (λ_=>[]) (λb=>b=true↔Jd d):=by
 have hsl:=hS.dP;have hcl:=hS.jv;have yG:=hS.kG;refine aK _ (aP 129) λB w0=>?_;refine aS (E:=fF) (v:=vs) (xs:=d.symbols) (by simp) λlV cs1 es=>?_;subst es;refine aS (E:=bM) (v:=vc) (xs:=d.aJ) (by simp) λac cc ec=>?_;subst ec;refine aS (E:=aY) (v:=vu) (xs:=d.rules) (by simp) λau cu eu=>?_;subst eu;refine go ?_;intro b1;refine bD (eO (b:=b1)) (h:=?_);refine go ?_;refine aZ (λk:Nat=>d.symbols.length - k) (λk=>[(3,.int .i64 (k:Int))]) (λ_=>[]) (λ_=>[]) (λk=>k<=d.symbols.length/\∀s∈d.symbols.take k,0<=s.value/\s.value<=99) 0 ⟨cz _,by simp⟩ (body:=?_);rintro k ⟨hk,hall⟩;refine go ?_;refine aA rfl (λh1=>?_) (λh1=>?_)
 ·refine go ?_;refine bz fF (xs:=d.symbols) (next:=λ_ _ s (_:Unit) hs=>?_);have hsm:=bG hs;refine go ?_;first|with_reducible refine aN (λh2=>?_) (λh2=>?_)|with_reducible refine aM (λh2=>?_) (λh2=>?_)|with_reducible refine aL (λh2=>?_) (λh2=>?_)
  rotate_left
  ·refine go ?_;exact ae false (hv:=rfl) (hp:=⟨(λh=>by cases h),λh=>by exfalso;have:=h.dP s hsm;omega⟩)
  refine go ?_;refine bz fF (xs:=d.symbols) (next:=λ_ _ s' (_:Unit) hs'=>?_);cases hs.symm.trans hs';refine go ?_;refine aA rfl (λh3=>?_) (λh3=>?_)
  ·refine go ?_;exact ae false (hv:=rfl) (hp:=⟨(λh=>by cases h),λh=>by exfalso;have:=h.dP s hsm;omega⟩)
  refine go ?_;refine aQ (k+1) (by show d.symbols.length - (k+1)<d.symbols.length - k;omega) ⟨by omega,?_⟩;rw[bY hs];intro x hx;rcases dV.1 hx with hx|hx
  ·exact hall x hx
  ·rw[bH.1 hx];omega
 have hks:k=d.symbols.length:=by omega
 subst hks;rw[bK]at hall;clear hk h1;refine go ?_;refine aZ (λk:Nat=>d.rules.length - k) (λk=>[(4,.int .i64 (k:Int))]) (λ_=>[]) (λ_=>[]) (λk=>k<=d.rules.length/\∀r∈d.rules.take k,qP (fQ r.kind) d.aJ r) 0 ⟨cz _,by simp⟩ (body:=?_);rintro k ⟨hk,Am⟩;refine go ?_;refine aA rfl (λh1=>?_) (λh1=>?_)
 ·refine go ?_;refine bz aY (xs:=d.rules) (next:=λ_ _ r (vv:Value×Value) hr=>?_);have hrm:=bG hr;have hrn:=hS.qM r hrm;refine go ?_;refine ax (ahJ (d:=d) (r:=r) (vh:=vh) (vs:=.slice lV d.symbols.length cs1) (vr:=vr) (vc:=.slice ac d.aJ.length cc) (vu:=.slice au d.rules.length cu) (v1:=vv.1) (v2:=vv.2) hcl hrn.1 hrn.2) (next:=λb hb=>?_);cases b with
  |false=>
   refine go ?_;exact ae false (hv:=rfl) (hp:=⟨(λh=>by cases h),λh=>absurd (hb.2 (h.kG r hrm)) (by simp)⟩)
  |true=>
   have hR:=hb.1 rfl;refine go ?_;refine aQ (k+1) (by show d.rules.length - (k+1)<d.rules.length - k;omega) ⟨by omega,?_⟩;rw[bY hr];intro x hx;rcases dV.1 hx with hx|hx
   ·exact Am x hx
   ·rw[bH.1 hx];exact hR
 have hkr:k=d.rules.length:=by omega
 subst hkr;rw[bK]at Am;clear hk h1;refine go ?_;refine aZ (λk:Nat=>d.aJ.length - k) (λk=>[(5,.int .i64 (k:Int))]) (λ_=>[]) (λ_=>[]) (λk=>k<=d.aJ.length/\∀(i:Nat) (c:iY),i<k->d.aJ[i]? =some c->(d.rules.map (·.aG)).count (i:Int)=1/\nY c) 0 ⟨cz _,λi c h=>by omega⟩ (body:=?_);rintro k ⟨hk,FU⟩;refine go ?_;refine aA rfl (λh1=>?_) (λh1=>?_)
 ·obtain⟨c,hc⟩:∃c,d.aJ[k]? =some c:=⟨d.aJ[k]'(by omega),cB _⟩
  refine go ?_;refine aZ (λj:Nat=>d.rules.length - j) (λj=>[(7,.int .i64 (j:Int)),(6,.int .i64 (((d.rules.take j).map (·.aG)).count (k:Int):Nat))]) (λ_=>[]) (λ_=>[]) (λj=>j<=d.rules.length) 0 (cz _) (body:=?_);intro j hj;have hcn:((d.rules.take j).map (·.aG)).count (k:Int)<=4096:=by
   have:=Tv (k:Int) ((d.rules.take j).map (·.aG));rw[bR,gM]at this;omega
  refine go ?_;refine aA rfl (λh2=>?_) (λh2=>?_)
  ·refine go ?_;refine bz aY (xs:=d.rules) (next:=λ_ _ r (vv:Value×Value) hr=>?_);have hst:((d.rules.take (j+1)).map (·.aG)).count (k:Int)=((d.rules.take j).map (·.aG)).count (k:Int)+if r.aG=(k:Int)then 1 else 0:=by
    rw[bY hr,dW,oK,List.count_append,List.count_singleton];congr 1;by_cases e:r.aG=(k:Int)<;>simp[e]
   refine go ?_;refine aA rfl (λh3=>?_) (λh3=>?_)
   ·rw[if_pos h3]at hst;refine go ?_;refine aQ (j+1) (by omega) (by omega) (hl:=⟨rfl,by rw[hst];rfl,by repeat (first|exact trivial|refine⟨rfl,?_⟩)⟩)
   ·rw[if_neg h3]at hst;refine go ?_;refine aQ (j+1) (by omega) (by omega) (hl:=⟨rfl,by rw[hst];rfl,by repeat (first|exact trivial|refine⟨rfl,?_⟩)⟩)
  have hjr:j=d.rules.length:=by omega
  subst hjr;rw[bK]at hcn⊢;refine go ?_;first|with_reducible refine aN (λh3=>?_) (λh3=>?_)|with_reducible refine aM (λh3=>?_) (λh3=>?_)|with_reducible refine aL (λh3=>?_) (λh3=>?_)
  ·refine go ?_;refine bz bM (xs:=d.aJ) (next:=λ_ _ c' (_:Unit) hc'=>?_);cases hc.symm.trans hc';refine go ?_;refine ax (ahq (c:=c)) (next:=λ_ _=>?_);refine go ?_;refine eU rfl (λh4=>?_) (λh4=>?_)
   ·refine go ?_;exact ae false (hv:=rfl) (hp:=⟨(λh=>by cases h),λh=>absurd (h.jv k c hc).2 h4⟩)
   ·refine go ?_;refine aQ (k+1) (by show d.aJ.length - (k+1)<d.aJ.length - k;omega) ⟨by omega,λi x hi hx=>?_⟩;by_cases hik:i=k
    ·subst hik;rw[hc]at hx;cases hx;exact⟨by omega,h4⟩
    ·exact FU i x (by omega) hx
  ·refine go ?_;exact ae false (hv:=rfl) (hp:=⟨(λh=>by cases h),λh=>by exfalso;have:=(h.jv k c hc).1;omega⟩)
 have hkc:k=d.aJ.length:=by omega
 subst hkc;refine go ?_;exact ae true (hv:=rfl) (hp:=⟨λ_=>⟨hall,Am,λi c hc=>FU i c (bO.1 hc).1 hc⟩,λ_=>rfl⟩)
theorem ahL{d:bE}{vh vs vr vc vu:Value}(hT:tY d):bi Tryz.prog (.func 90) [.agg ⟨gF d vh vs vr vc vu⟩] [] [] (kT d vh vs vr vc vu) (λe:Int=>.int .i64 e) (λ_=>[]) (λ_=>[]) (λe=>e=0↔FV d):=by
 have hD:=hT.s;have hsl:=hD.dP;have hrl:=hD.regs;have hcl:=hD.jv;have yG:=hD.kG;refine aK _ (aP 90) λB w0=>?_;refine aS (E:=fF) (v:=vs) (xs:=d.symbols) (by simp) λlV cs1 es=>?_;subst es;refine aS (E:=eH) (v:=vr) (xs:=d.regions) (by simp) λar cr er=>?_;subst er;refine aS (E:=bM) (v:=vc) (xs:=d.aJ) (by simp) λac cc ec=>?_;subst ec;refine aS (E:=aY) (v:=vu) (xs:=d.rules) (by simp) λau cu eu=>?_;subst eu;refine go ?_;intro b1;refine bD (eO (b:=b1)) (h:=?_);refine go ?_;first|with_reducible refine aN (λk1=>?_) (λk1=>?_)|with_reducible refine aM (λk1=>?_) (λk1=>?_)|with_reducible refine aL (λk1=>?_) (λk1=>?_)
 rotate_left
 ·refine go ?_;refine ae 2 (hv:=rfl) (hp:=⟨λh=>?_,λh=>?_⟩)
  ·exact absurd h (by omega)
  exfalso
  have:=h.lim.s0;omega
 refine go ?_;first|with_reducible refine aN (λk2=>?_) (λk2=>?_)|with_reducible refine aM (λk2=>?_) (λk2=>?_)|with_reducible refine aL (λk2=>?_) (λk2=>?_)
 rotate_left
 ·refine go ?_;refine ae 2 (hv:=rfl) (hp:=⟨λh=>?_,λh=>?_⟩)
  ·exact absurd h (by omega)
  exfalso
  have:=h.lim.s1;omega
 refine go ?_;first|with_reducible refine aN (λk3=>?_) (λk3=>?_)|with_reducible refine aM (λk3=>?_) (λk3=>?_)|with_reducible refine aL (λk3=>?_) (λk3=>?_)
 rotate_left
 ·refine go ?_;refine ae 2 (hv:=rfl) (hp:=⟨λh=>?_,λh=>?_⟩)
  ·exact absurd h (by omega)
  exfalso
  have:=h.lim.r;omega
 refine go ?_;first|with_reducible refine aN (λk4=>?_) (λk4=>?_)|with_reducible refine aM (λk4=>?_) (λk4=>?_)|with_reducible refine aL (λk4=>?_) (λk4=>?_)
 rotate_left
 ·refine go ?_;refine ae 2 (hv:=rfl) (hp:=⟨λh=>?_,λh=>?_⟩)
  ·exact absurd h (by omega)
  exfalso
  have:=h.lim.c;omega
 refine go ?_;refine aA rfl (λk5=>?_) (λk5=>?_)
 ·refine go ?_;refine ae 2 (hv:=rfl) (hp:=⟨λh=>?_,λh=>?_⟩)
  ·exact absurd h (by omega)
  exfalso
  have:=h.lim.u;omega
 refine go ?_;refine ax (Vr (d:=d) (vh:=vh) (vs:=.slice lV d.symbols.length cs1) (vr:=.slice ar d.regions.length cr) (vc:=.slice ac d.aJ.length cc) (vu:=.slice au d.rules.length cu) hD) (next:=λy hy=>?_);obtain⟨ok,e,v1,v2⟩:=y;cases ok with
 |false=>
  obtain⟨he,hno⟩:=hy.2 rfl;have he:e≠0:=he;dsimp only[cond,qL,nW,List.nil_append];refine go ?_;intro b3;refine go ?_;refine aA rfl (λk6=>?_) (λk6=>?_)
  rotate_left
  ·exact absurd (iO.1 k6) he
  refine go ?_;exact ae e (hv:=rfl) (hp:=⟨λh=>absurd h he,λh=>absurd h.rs hno⟩)
 |true=>
 obtain⟨he,hres⟩:=hy.1 rfl;have he:e=0:=he;subst he;clear hy;dsimp only[cond,qL,nW,List.cons_append,List.nil_append];refine go ?_;intro b3;refine go ?_;refine eX (ah aa vh (Kd.bF d).holes) (λw hw=>hw (ah aa vh d.holes) (by simp)) ?_;refine eX (ah fF (.slice lV d.symbols.length cs1) (Kd.bF d).symbols) (λw hw=>hw (ah fF (.slice lV d.symbols.length cs1) d.symbols) (by simp)) ?_;refine eX (ah eH (.slice ar d.regions.length cr) (Kd.bF d).regions) (λw hw=>hw (ah eH (.slice ar d.regions.length cr) d.regions) (by simp)) ?_;refine ax (ahk (x:=Kd.bF d) (y:=d) (h1:=vh) (s1:=.slice lV d.symbols.length cs1) (r1:=.slice ar d.regions.length cr) (c1:=v1) (u1:=v2) (h2:=vh) (s2:=.slice lV d.symbols.length cs1) (r2:=.slice ar d.regions.length cr) (c2:=.slice ac d.aJ.length cc) (u2:=.slice au d.rules.length cu) hD.bF) (next:=λ_ _=>?_);refine go ?_;refine aM (λk7=>?_) (λk7=>?_)
 rotate_left
 ·refine go ?_;refine ae 170 (hv:=rfl) (hp:=⟨λh=>?_,λh=>?_⟩)
  ·exact absurd h (by omega)
  exfalso
  exact k7 h.same
 refine go ?_;first|with_reducible refine aN (λk8=>?_) (λk8=>?_)|with_reducible refine aM (λk8=>?_) (λk8=>?_)|with_reducible refine aL (λk8=>?_) (λk8=>?_)
 rotate_left
 ·refine go ?_;refine ae 170 (hv:=rfl) (hp:=⟨λh=>?_,λh=>?_⟩)
  ·exact absurd h (by omega)
  exfalso
  have:=h.NB;omega
 refine go ?_;refine aA rfl (λk9=>?_) (λk9=>?_)
 ·refine go ?_;refine ae 170 (hv:=rfl) (hp:=⟨λh=>?_,λh=>?_⟩)
  ·exact absurd h (by omega)
  exfalso
  have:=h.NB;omega
 refine go ?_;refine ax (NR (s:=d.shape) (w:=d.w) (h:=d.h) (holes:=d.holes) (vh:=vh) hT.w hT.h hT.holes) (next:=λy hy=>?_);obtain⟨ok,gh,gc⟩:=y;cases ok with
 |false=>
  have hno:¬nT d.shape d.w d.h d.holes:=λh=>by have:=hy.2 h;cases this
  dsimp only[mkV,oG,cond,List.nil_append];refine go ?_;intro b5;refine go ?_;exact ae 130 (hv:=rfl) (hp:=⟨(λh=>by cases h),λh=>absurd h.Cu hno⟩)
 |true=>
 have hmk:=hy.1 rfl;clear hy;dsimp only[cond,mkV,oG];rw[show uS d.shape d.w d.h d.holes=aO d from rfl];dsimp only[jy,iM,List.cons_append,List.nil_append];refine go ?_;intro b5;refine go ?_;have htr:=ahp (d:=d) (vh:=vh) (vs:=.slice lV d.symbols.length cs1) (vr:=.slice ar d.regions.length cr) (vc:=.slice ac d.aJ.length cc) (vu:=.slice au d.rules.length cu) (gh:=gh) (gc:=gc) (g:=aO d) hD (FW hmk);dsimp only[jy,iM]at htr;refine ax htr (next:=λe he=>?_);refine go ?_;refine aA rfl (λk10=>?_) (λk10=>?_)
 ·refine go ?_;exact ae e (hv:=rfl) (hp:=⟨λh=>absurd h k10,λh=>absurd (he.2 h.Ao) k10⟩)
 have hrg:=he.1 (iO.1 k10);clear he k10;refine go ?_;refine ax (ahK (d:=d) (vh:=vh) (vs:=.slice lV d.symbols.length cs1) (vr:=.slice ar d.regions.length cr) (vc:=.slice ac d.aJ.length cc) (vu:=.slice au d.rules.length cu) hD) (next:=λb hb=>?_);cases b with
 |false=>
  refine go ?_;exact ae 170 (hv:=rfl) (hp:=⟨(λh=>by cases h),λh=>absurd (hb.2 h.form) (by simp)⟩)
 |true=>
 have hfm:=hb.1 rfl;clear hb;refine go ?_;refine ax (aht (d:=d) (vh:=vh) (vs:=.slice lV d.symbols.length cs1) (vr:=.slice ar d.regions.length cr) (vc:=.slice ac d.aJ.length cc) (vu:=.slice au d.rules.length cu) yG) (next:=λa3 _=>?_);refine go ?_;refine aA rfl (λk11=>?_) (λk11=>?_)
 ·refine go ?_;refine ae 171 (hv:=rfl) (hp:=⟨λh=>?_,λh=>?_⟩)
  ·exact absurd h (by omega)
  exfalso
  rw[h.read]at k11;simp at k11
 refine go ?_;exact ae 0 (hv:=rfl) (hp:=⟨λ_=>⟨⟨by omega,by omega,by omega,by omega,by omega⟩,hres,k7,⟨by omega,by omega⟩,hmk,hrg,hfm,ji.1 (by omega)⟩,λ_=>rfl⟩)
