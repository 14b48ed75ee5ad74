/-
  The reference's types: a rule, of every kind; declarations that are well-formed.
-/
import Derived.Test.YtoohgkkmdnbnfaaGreatDoorLibSB
import Derived.Test.YtoohgkkmdnbnfaaGreatDoorLibRB
set_option linter.all false
set_option maxRecDepth 10000
set_option maxHeartbeats 4000000
namespace Go.Proofs.YtoohgkkmdnbnfaaGreatDoor
open Go.Ideal Kd
theorem ae7{d:bq}{r:bM}{vh vs vr vc vu v1 v2:Value}(hk:r.kind=8)(hcl:d.aF.length<=4096)(h1:r.names.length<9223372036854775808)(h2:r.others.length<9223372036854775808):jd d r vh vs vr vc vu v1 v2:=by
 obtain⟨rn,gQ,rk,rf,bZ,cz,rs,gT,gU,gV,gW,gX⟩:=r;dsimp only at hk h1 h2;subst hk;dsimp only[jd];rw[show gz 8=⟨false,true,true,false,false,true,true,0⟩from by rfl];refine aG oh pg λB w0=>?_;refine aT (E:=aN) (v:=v1) (xs:=bZ) (by simp) λa1 c1 e1=>?_;subst e1;refine aT (E:=aN) (v:=v2) (xs:=cz) (by simp) λa2 c2 e2=>?_;subst e2;refine go ?_;intro b2 b3;iterate 16 (all_goals (first
  |(refine ak (qm (d:=d) (r:=⟨rn,gQ,8,rf,bZ,cz,rs,gT,gU,gV,gW,gX⟩) (vh:=vh) (vs:=vs) (vr:=vr) (vc:=vc) (vu:=vu) (v1:=.slice a1 bZ.length c1) (v2:=.slice a2 cz.length c2) hcl) (next:=λbb hbb=>?_))
  |(refine ak (o9 (d:=d) (r:=⟨rn,gQ,8,rf,bZ,cz,rs,gT,gU,gV,gW,gX⟩) (vh:=vh) (vs:=vs) (vr:=vr) (vc:=vc) (vu:=vu) (v1:=.slice a1 bZ.length c1) (v2:=.slice a2 cz.length c2) hcl) (next:=λbb hbb=>?_))
  |(refine go ?_;first
   |with_reducible refine aL (λ_=>?_) (λ_=>?_)
   |with_reducible refine aK (λ_=>?_) (λ_=>?_)
   |with_reducible refine aI (λ_=>?_) (λ_=>?_)
   |refine az rfl (λ_=>?_) (λ_=>?_)
   |refine ed rfl (λ_=>?_) (λ_=>?_)
   |refine jJ rfl (λ_=>?_) (λ_=>?_)
   |skip)))
 all_goals (try simp only[dQ]at *)
 all_goals (first
  |(refine aa false (hv:=by rfl) (hp:=⟨(λh=>by cases h),λh=>?_⟩)
    exfalso
    rw[iX rfl rfl (by decide)]at h;obtain⟨⟨q1,q2,q3,q4,q5,q6⟩,h7⟩:=h;dsimp only at q1 q2 q3 q4 q5 q6 h7;first
     |(simp_all;done)
     |(obtain⟨⟨p1,p2,p3⟩,p4,p5,p6⟩:=h7;dsimp only at p1 p2 p3 p4 p5 p6;first|(simp_all;done)|(simp_all;omega)|omega))
  |(refine aa true (hv:=by rfl) (hp:=⟨λ_=>?_,λ_=>rfl⟩)
    rw[iX rfl rfl (by decide)];first
     |(refine⟨⟨?_,?_,?_,?_,?_,?_⟩,⟨?_,?_,?_⟩,?_,?_,?_⟩<;>dsimp only<;>first|(simp_all;done)|(simp_all;omega)|omega)
     |(refine⟨⟨?_,?_,?_,?_,?_,?_⟩,?_⟩<;>first|(simp_all;done)|(simp_all;omega)))
  |(refine aa bb (hv:=by rfl) (hp:=?_)
    rw[iX rfl rfl (by decide)];constructor
    ·intro hb;refine⟨⟨?_,?_,?_,?_,?_,?_⟩,⟨?_,?_,?_⟩,?_,?_,?_⟩<;>dsimp only<;>first|(simp_all;done)|(simp_all;omega)|omega
    ·rintro⟨⟨q1,q2,q3,q4,q5,q6⟩,⟨p1,p2,p3⟩,p4,p5,p6⟩;dsimp only at q1 q2 q3 q4 q5 q6 p1 p2 p3 p4 p5 p6
     simp_all))
theorem ae8{d:bq}{r:bM}{vh vs vr vc vu v1 v2:Value}(hk:r.kind=9)(hcl:d.aF.length<=4096)(h1:r.names.length<9223372036854775808)(h2:r.others.length<9223372036854775808):jd d r vh vs vr vc vu v1 v2:=by
 obtain⟨rn,gQ,rk,rf,bZ,cz,rs,gT,gU,gV,gW,gX⟩:=r;dsimp only at hk h1 h2;subst hk;dsimp only[jd];rw[show gz 9=⟨false,true,false,false,false,true,true,0⟩from by rfl];refine aG oh pg λB w0=>?_;refine aT (E:=aN) (v:=v1) (xs:=bZ) (by simp) λa1 c1 e1=>?_;subst e1;refine aT (E:=aN) (v:=v2) (xs:=cz) (by simp) λa2 c2 e2=>?_;subst e2;refine go ?_;intro b2 b3;iterate 16 (all_goals (first
  |(refine ak (qm (d:=d) (r:=⟨rn,gQ,9,rf,bZ,cz,rs,gT,gU,gV,gW,gX⟩) (vh:=vh) (vs:=vs) (vr:=vr) (vc:=vc) (vu:=vu) (v1:=.slice a1 bZ.length c1) (v2:=.slice a2 cz.length c2) hcl) (next:=λbb hbb=>?_))
  |(refine ak (o9 (d:=d) (r:=⟨rn,gQ,9,rf,bZ,cz,rs,gT,gU,gV,gW,gX⟩) (vh:=vh) (vs:=vs) (vr:=vr) (vc:=vc) (vu:=vu) (v1:=.slice a1 bZ.length c1) (v2:=.slice a2 cz.length c2) hcl) (next:=λbb hbb=>?_))
  |(refine go ?_;first
   |with_reducible refine aL (λ_=>?_) (λ_=>?_)
   |with_reducible refine aK (λ_=>?_) (λ_=>?_)
   |with_reducible refine aI (λ_=>?_) (λ_=>?_)
   |refine az rfl (λ_=>?_) (λ_=>?_)
   |refine ed rfl (λ_=>?_) (λ_=>?_)
   |refine jJ rfl (λ_=>?_) (λ_=>?_)
   |skip)))
 all_goals (try simp only[dQ]at *)
 all_goals (first
  |(refine aa false (hv:=by rfl) (hp:=⟨(λh=>by cases h),λh=>?_⟩)
    exfalso
    rw[iX rfl rfl (by decide)]at h;obtain⟨⟨q1,q2,q3,q4,q5,q6⟩,h7⟩:=h;dsimp only at q1 q2 q3 q4 q5 q6 h7;first
     |(simp_all;done)
     |(obtain⟨⟨p1,p2,p3⟩,p4,p5,p6⟩:=h7;dsimp only at p1 p2 p3 p4 p5 p6;first|(simp_all;done)|(simp_all;omega)|omega))
  |(refine aa true (hv:=by rfl) (hp:=⟨λ_=>?_,λ_=>rfl⟩)
    rw[iX rfl rfl (by decide)];first
     |(refine⟨⟨?_,?_,?_,?_,?_,?_⟩,⟨?_,?_,?_⟩,?_,?_,?_⟩<;>dsimp only<;>first|(simp_all;done)|(simp_all;omega)|omega)
     |(refine⟨⟨?_,?_,?_,?_,?_,?_⟩,?_⟩<;>first|(simp_all;done)|(simp_all;omega)))
  |(refine aa bb (hv:=by rfl) (hp:=?_)
    rw[iX rfl rfl (by decide)];constructor
    ·intro hb;refine⟨⟨?_,?_,?_,?_,?_,?_⟩,⟨?_,?_,?_⟩,?_,?_,?_⟩<;>dsimp only<;>first|(simp_all;done)|(simp_all;omega)|omega
    ·rintro⟨⟨q1,q2,q3,q4,q5,q6⟩,⟨p1,p2,p3⟩,p4,p5,p6⟩;dsimp only at q1 q2 q3 q4 q5 q6 p1 p2 p3 p4 p5 p6
     simp_all))
theorem ae9{d:bq}{r:bM}{vh vs vr vc vu v1 v2:Value}(hk:r.kind=10)(hcl:d.aF.length<=4096)(h1:r.names.length<9223372036854775808)(h2:r.others.length<9223372036854775808):jd d r vh vs vr vc vu v1 v2:=by
 obtain⟨rn,gQ,rk,rf,bZ,cz,rs,gT,gU,gV,gW,gX⟩:=r;dsimp only at hk h1 h2;subst hk;dsimp only[jd];rw[show gz 10=⟨false,true,false,false,false,true,true,0⟩from by rfl];refine aG oh pg λB w0=>?_;refine aT (E:=aN) (v:=v1) (xs:=bZ) (by simp) λa1 c1 e1=>?_;subst e1;refine aT (E:=aN) (v:=v2) (xs:=cz) (by simp) λa2 c2 e2=>?_;subst e2;refine go ?_;intro b2 b3;iterate 16 (all_goals (first
  |(refine ak (qm (d:=d) (r:=⟨rn,gQ,10,rf,bZ,cz,rs,gT,gU,gV,gW,gX⟩) (vh:=vh) (vs:=vs) (vr:=vr) (vc:=vc) (vu:=vu) (v1:=.slice a1 bZ.length c1) (v2:=.slice a2 cz.length c2) hcl) (next:=λbb hbb=>?_))
  |(refine ak (o9 (d:=d) (r:=⟨rn,gQ,10,rf,bZ,cz,rs,gT,gU,gV,gW,gX⟩) (vh:=vh) (vs:=vs) (vr:=vr) (vc:=vc) (vu:=vu) (v1:=.slice a1 bZ.length c1) (v2:=.slice a2 cz.length c2) hcl) (next:=λbb hbb=>?_))
  |(refine go ?_;first
   |with_reducible refine aL (λ_=>?_) (λ_=>?_)
   |with_reducible refine aK (λ_=>?_) (λ_=>?_)
   |with_reducible refine aI (λ_=>?_) (λ_=>?_)
   |refine az rfl (λ_=>?_) (λ_=>?_)
   |refine ed rfl (λ_=>?_) (λ_=>?_)
   |refine jJ rfl (λ_=>?_) (λ_=>?_)
   |skip)))
 all_goals (try simp only[dQ]at *)
 all_goals (first
  |(refine aa false (hv:=by rfl) (hp:=⟨(λh=>by cases h),λh=>?_⟩)
    exfalso
    rw[iX rfl rfl (by decide)]at h;obtain⟨⟨q1,q2,q3,q4,q5,q6⟩,h7⟩:=h;dsimp only at q1 q2 q3 q4 q5 q6 h7;first
     |(simp_all;done)
     |(obtain⟨⟨p1,p2,p3⟩,p4,p5,p6⟩:=h7;dsimp only at p1 p2 p3 p4 p5 p6;first|(simp_all;done)|(simp_all;omega)|omega))
  |(refine aa true (hv:=by rfl) (hp:=⟨λ_=>?_,λ_=>rfl⟩)
    rw[iX rfl rfl (by decide)];first
     |(refine⟨⟨?_,?_,?_,?_,?_,?_⟩,⟨?_,?_,?_⟩,?_,?_,?_⟩<;>dsimp only<;>first|(simp_all;done)|(simp_all;omega)|omega)
     |(refine⟨⟨?_,?_,?_,?_,?_,?_⟩,?_⟩<;>first|(simp_all;done)|(simp_all;omega)))
  |(refine aa bb (hv:=by rfl) (hp:=?_)
    rw[iX rfl rfl (by decide)];constructor
    ·intro hb;refine⟨⟨?_,?_,?_,?_,?_,?_⟩,⟨?_,?_,?_⟩,?_,?_,?_⟩<;>dsimp only<;>first|(simp_all;done)|(simp_all;omega)|omega
    ·rintro⟨⟨q1,q2,q3,q4,q5,q6⟩,⟨p1,p2,p3⟩,p4,p5,p6⟩;dsimp only at q1 q2 q3 q4 q5 q6 p1 p2 p3 p4 p5 p6
     simp_all))
theorem afa{d:bq}{r:bM}{vh vs vr vc vu v1 v2:Value}(hk:r.kind=11)(hcl:d.aF.length<=4096)(h1:r.names.length<9223372036854775808)(h2:r.others.length<9223372036854775808):jd d r vh vs vr vc vu v1 v2:=by
 obtain⟨rn,gQ,rk,rf,bZ,cz,rs,gT,gU,gV,gW,gX⟩:=r;dsimp only at hk h1 h2;subst hk;dsimp only[jd];rw[show gz 11=⟨false,false,false,false,false,true,true,1⟩from by rfl];refine aG oh pg λB w0=>?_;refine aT (E:=aN) (v:=v1) (xs:=bZ) (by simp) λa1 c1 e1=>?_;subst e1;refine aT (E:=aN) (v:=v2) (xs:=cz) (by simp) λa2 c2 e2=>?_;subst e2;refine go ?_;intro b2 b3;iterate 16 (all_goals (first
  |(refine ak (qm (d:=d) (r:=⟨rn,gQ,11,rf,bZ,cz,rs,gT,gU,gV,gW,gX⟩) (vh:=vh) (vs:=vs) (vr:=vr) (vc:=vc) (vu:=vu) (v1:=.slice a1 bZ.length c1) (v2:=.slice a2 cz.length c2) hcl) (next:=λbb hbb=>?_))
  |(refine ak (o9 (d:=d) (r:=⟨rn,gQ,11,rf,bZ,cz,rs,gT,gU,gV,gW,gX⟩) (vh:=vh) (vs:=vs) (vr:=vr) (vc:=vc) (vu:=vu) (v1:=.slice a1 bZ.length c1) (v2:=.slice a2 cz.length c2) hcl) (next:=λbb hbb=>?_))
  |(refine go ?_;first
   |with_reducible refine aL (λ_=>?_) (λ_=>?_)
   |with_reducible refine aK (λ_=>?_) (λ_=>?_)
   |with_reducible refine aI (λ_=>?_) (λ_=>?_)
   |refine az rfl (λ_=>?_) (λ_=>?_)
   |refine ed rfl (λ_=>?_) (λ_=>?_)
   |refine jJ rfl (λ_=>?_) (λ_=>?_)
   |skip)))
 all_goals (try simp only[dQ]at *)
 all_goals (first
  |(refine aa false (hv:=by rfl) (hp:=⟨(λh=>by cases h),λh=>?_⟩)
    exfalso
    rw[iX rfl rfl (by decide)]at h;obtain⟨⟨q1,q2,q3,q4,q5,q6⟩,h7⟩:=h;dsimp only at q1 q2 q3 q4 q5 q6 h7;first
     |(simp_all;done)
     |(obtain⟨⟨p1,p2,p3⟩,p4,p5,p6⟩:=h7;dsimp only at p1 p2 p3 p4 p5 p6;first|(simp_all;done)|(simp_all;omega)|omega))
  |(refine aa true (hv:=by rfl) (hp:=⟨λ_=>?_,λ_=>rfl⟩)
    rw[iX rfl rfl (by decide)];first
     |(refine⟨⟨?_,?_,?_,?_,?_,?_⟩,⟨?_,?_,?_⟩,?_,?_,?_⟩<;>dsimp only<;>first|(simp_all;done)|(simp_all;omega)|omega)
     |(refine⟨⟨?_,?_,?_,?_,?_,?_⟩,?_⟩<;>first|(simp_all;done)|(simp_all;omega)))
  |(refine aa bb (hv:=by rfl) (hp:=?_)
    rw[iX rfl rfl (by decide)];constructor
    ·intro hb;refine⟨⟨?_,?_,?_,?_,?_,?_⟩,⟨?_,?_,?_⟩,?_,?_,?_⟩<;>dsimp only<;>first|(simp_all;done)|(simp_all;omega)|omega
    ·rintro⟨⟨q1,q2,q3,q4,q5,q6⟩,⟨p1,p2,p3⟩,p4,p5,p6⟩;dsimp only at q1 q2 q3 q4 q5 q6 p1 p2 p3 p4 p5 p6
     simp_all))
theorem afb{d:bq}{r:bM}{vh vs vr vc vu v1 v2:Value}(hk:r.kind=12)(hcl:d.aF.length<=4096)(h1:r.names.length<9223372036854775808)(h2:r.others.length<9223372036854775808):jd d r vh vs vr vc vu v1 v2:=by
 obtain⟨rn,gQ,rk,rf,bZ,cz,rs,gT,gU,gV,gW,gX⟩:=r;dsimp only at hk h1 h2;subst hk;dsimp only[jd];rw[show gz 12=⟨true,false,false,false,false,false,true,0⟩from by rfl];refine aG oh pg λB w0=>?_;refine aT (E:=aN) (v:=v1) (xs:=bZ) (by simp) λa1 c1 e1=>?_;subst e1;refine aT (E:=aN) (v:=v2) (xs:=cz) (by simp) λa2 c2 e2=>?_;subst e2;refine go ?_;intro b2 b3;iterate 16 (all_goals (first
  |(refine ak (qm (d:=d) (r:=⟨rn,gQ,12,rf,bZ,cz,rs,gT,gU,gV,gW,gX⟩) (vh:=vh) (vs:=vs) (vr:=vr) (vc:=vc) (vu:=vu) (v1:=.slice a1 bZ.length c1) (v2:=.slice a2 cz.length c2) hcl) (next:=λbb hbb=>?_))
  |(refine ak (o9 (d:=d) (r:=⟨rn,gQ,12,rf,bZ,cz,rs,gT,gU,gV,gW,gX⟩) (vh:=vh) (vs:=vs) (vr:=vr) (vc:=vc) (vu:=vu) (v1:=.slice a1 bZ.length c1) (v2:=.slice a2 cz.length c2) hcl) (next:=λbb hbb=>?_))
  |(refine go ?_;first
   |with_reducible refine aL (λ_=>?_) (λ_=>?_)
   |with_reducible refine aK (λ_=>?_) (λ_=>?_)
   |with_reducible refine aI (λ_=>?_) (λ_=>?_)
   |refine az rfl (λ_=>?_) (λ_=>?_)
   |refine ed rfl (λ_=>?_) (λ_=>?_)
   |refine jJ rfl (λ_=>?_) (λ_=>?_)
   |skip)))
 all_goals (try simp only[dQ]at *)
 all_goals (first
  |(refine aa false (hv:=by rfl) (hp:=⟨(λh=>by cases h),λh=>?_⟩)
    exfalso
    rw[iX rfl rfl (by decide)]at h;obtain⟨⟨q1,q2,q3,q4,q5,q6⟩,h7⟩:=h;dsimp only at q1 q2 q3 q4 q5 q6 h7;first
     |(simp_all;done)
     |(obtain⟨⟨p1,p2,p3⟩,p4,p5,p6⟩:=h7;dsimp only at p1 p2 p3 p4 p5 p6;first|(simp_all;done)|(simp_all;omega)|omega))
  |(refine aa true (hv:=by rfl) (hp:=⟨λ_=>?_,λ_=>rfl⟩)
    rw[iX rfl rfl (by decide)];first
     |(refine⟨⟨?_,?_,?_,?_,?_,?_⟩,⟨?_,?_,?_⟩,?_,?_,?_⟩<;>dsimp only<;>first|(simp_all;done)|(simp_all;omega)|omega)
     |(refine⟨⟨?_,?_,?_,?_,?_,?_⟩,?_⟩<;>first|(simp_all;done)|(simp_all;omega)))
  |(refine aa bb (hv:=by rfl) (hp:=?_)
    rw[iX rfl rfl (by decide)];constructor
    ·intro hb;refine⟨⟨?_,?_,?_,?_,?_,?_⟩,⟨?_,?_,?_⟩,?_,?_,?_⟩<;>dsimp only<;>first|(simp_all;done)|(simp_all;omega)|omega
    ·rintro⟨⟨q1,q2,q3,q4,q5,q6⟩,⟨p1,p2,p3⟩,p4,p5,p6⟩;dsimp only at q1 q2 q3 q4 q5 q6 p1 p2 p3 p4 p5 p6
     simp_all))
theorem afc{d:bq}{r:bM}{vh vs vr vc vu v1 v2:Value}(hk:r.kind=13)(hcl:d.aF.length<=4096)(h1:r.names.length<9223372036854775808)(h2:r.others.length<9223372036854775808):jd d r vh vs vr vc vu v1 v2:=by
 obtain⟨rn,gQ,rk,rf,bZ,cz,rs,gT,gU,gV,gW,gX⟩:=r;dsimp only at hk h1 h2;subst hk;dsimp only[jd];rw[show gz 13=⟨false,false,false,true,false,false,true,0⟩from by rfl];refine aG oh pg λB w0=>?_;refine aT (E:=aN) (v:=v1) (xs:=bZ) (by simp) λa1 c1 e1=>?_;subst e1;refine aT (E:=aN) (v:=v2) (xs:=cz) (by simp) λa2 c2 e2=>?_;subst e2;refine go ?_;intro b2 b3;iterate 16 (all_goals (first
  |(refine ak (qm (d:=d) (r:=⟨rn,gQ,13,rf,bZ,cz,rs,gT,gU,gV,gW,gX⟩) (vh:=vh) (vs:=vs) (vr:=vr) (vc:=vc) (vu:=vu) (v1:=.slice a1 bZ.length c1) (v2:=.slice a2 cz.length c2) hcl) (next:=λbb hbb=>?_))
  |(refine ak (o9 (d:=d) (r:=⟨rn,gQ,13,rf,bZ,cz,rs,gT,gU,gV,gW,gX⟩) (vh:=vh) (vs:=vs) (vr:=vr) (vc:=vc) (vu:=vu) (v1:=.slice a1 bZ.length c1) (v2:=.slice a2 cz.length c2) hcl) (next:=λbb hbb=>?_))
  |(refine go ?_;first
   |with_reducible refine aL (λ_=>?_) (λ_=>?_)
   |with_reducible refine aK (λ_=>?_) (λ_=>?_)
   |with_reducible refine aI (λ_=>?_) (λ_=>?_)
   |refine az rfl (λ_=>?_) (λ_=>?_)
   |refine ed rfl (λ_=>?_) (λ_=>?_)
   |refine jJ rfl (λ_=>?_) (λ_=>?_)
   |skip)))
 all_goals (try simp only[dQ]at *)
 all_goals (first
  |(refine aa false (hv:=by rfl) (hp:=⟨(λh=>by cases h),λh=>?_⟩)
    exfalso
    rw[vN rfl rfl rfl rfl]at h;obtain⟨⟨q1,q2,q3,q4,q5,q6⟩,h7⟩:=h;dsimp only at q1 q2 q3 q4 q5 q6 h7;first
     |(simp_all;done)
     |(obtain⟨⟨p1,p2,p3⟩,p4,p5,p6⟩:=h7;dsimp only at p1 p2 p3 p4 p5 p6;first|(simp_all;done)|(simp_all;omega)|omega))
  |(refine aa true (hv:=by rfl) (hp:=⟨λ_=>?_,λ_=>rfl⟩)
    rw[vN rfl rfl rfl rfl];first
     |(refine⟨⟨?_,?_,?_,?_,?_,?_⟩,⟨?_,?_,?_⟩,?_,?_,?_⟩<;>dsimp only<;>first|(simp_all;done)|(simp_all;omega)|omega)
     |(refine⟨⟨?_,?_,?_,?_,?_,?_⟩,?_⟩<;>first|(simp_all;done)|(simp_all;omega)))
  |(refine aa bb (hv:=by rfl) (hp:=?_)
    rw[vN rfl rfl rfl rfl];constructor
    ·intro hb;refine⟨⟨?_,?_,?_,?_,?_,?_⟩,⟨?_,?_,?_⟩,?_,?_,?_⟩<;>dsimp only<;>first|(simp_all;done)|(simp_all;omega)|omega
    ·rintro⟨⟨q1,q2,q3,q4,q5,q6⟩,⟨p1,p2,p3⟩,p4,p5,p6⟩;dsimp only at q1 q2 q3 q4 q5 q6 p1 p2 p3 p4 p5 p6
     simp_all))
theorem afd{d:bq}{r:bM}{vh vs vr vc vu v1 v2:Value}(hk:¬(1<=r.kind/\r.kind<=13)):jd d r vh vs vr vc vu v1 v2:=by
 dsimp only[jd];have hx:¬tY (gz r.kind) d.aF r:=λh=>by
  have h1:=h.known;by_cases h0:r.kind=0
  ·rw[h0]at h1;cases h1
  ·rw[Eg (by omega)]at h1;cases h1
 refine aG oh pg λB w0=>?_;refine go ?_;intro b2 b3;iterate 13 (refine go ?_;refine az rfl (λh=>?_) (λ_=>?_);(exfalso;omega))
 refine go ?_;exact aa false (hv:=rfl) (hp:=⟨(λh=>by cases h),λh=>absurd h hx⟩)
theorem afe{d:bq}{r:bM}{vh vs vr vc vu v1 v2:Value}(hcl:d.aF.length<=4096)(h1:r.names.length<9223372036854775808)(h2:r.others.length<9223372036854775808):jd d r vh vs vr vc vu v1 v2:=by
 by_cases h:1<=r.kind/\r.kind<=13
 ·rcases(show r.kind=1\/r.kind=2\/r.kind=3\/r.kind=4\/r.kind=5\/r.kind=6\/r.kind=7\/r.kind=8\/r.kind=9\/r.kind=10\/r.kind=11\/r.kind=12\/r.kind=13 by omega)with hk|hk|hk|hk|hk|hk|hk|hk|hk|hk|hk|hk|hk
  ·exact ae0 hk hcl h1 h2
  ·exact ae1 hk hcl h1 h2
  ·exact ae2 hk hcl h1 h2
  ·exact ae3 hk hcl h1 h2
  ·exact ae4 hk hcl h1 h2
  ·exact ae5 hk hcl h1 h2
  ·exact ae6 hk hcl h1 h2
  ·exact ae7 hk hcl h1 h2
  ·exact ae8 hk hcl h1 h2
  ·exact ae9 hk hcl h1 h2
  ·exact afa hk hcl h1 h2
  ·exact afb hk hcl h1 h2
  ·exact afc hk hcl h1 h2
 ·exact afd h
theorem aff{d:bq}{vh vs vr vc vu:Value}(hS:lC d):
 aZ Tryz.prog (.func 129) [.agg ⟨fO d vh vs vr vc vu⟩] [] [] [ah fu vs d.symbols,ah bC vc d.aF,ah aW vu d.rules] (λb:Bool=>.bool b) (λ_=>[]) (λ_=>[]) (λb=>b=true↔GJ d):=by
 have hsl:=hS.dU;have hcl:=hS.ja;have xe:=hS.ko;refine aG _ (aM 129) λB w0=>?_;refine aT (E:=fu) (v:=vs) (xs:=d.symbols) (by simp) λnY cs1 es=>?_;subst es;refine aT (E:=bC) (v:=vc) (xs:=d.aF) (by simp) λac cc ec=>?_;subst ec;refine aT (E:=aW) (v:=vu) (xs:=d.rules) (by simp) λau cu eu=>?_;subst eu;refine go ?_;intro b1;refine bB (fG (b:=b1)) (h:=?_);refine go ?_;refine aX (λk:Nat=>d.symbols.length - k) (λk=>[(3,.int .i64 (k:Int))]) (λ_=>[]) (λ_=>[]) (λk=>k<=d.symbols.length/\∀s∈d.symbols.take k,0<=s.value/\s.value<=99) 0 ⟨bX _,by simp⟩ (body:=?_);rintro k ⟨hk,hall⟩;refine go ?_;refine az rfl (λh1=>?_) (λh1=>?_)
 ·refine go ?_;refine aY fu (xs:=d.symbols) (next:=λ_ _ s (_:Unit) hs=>?_);have hsm:=bJ hs;refine go ?_;first|with_reducible refine aL (λh2=>?_) (λh2=>?_)|with_reducible refine aK (λh2=>?_) (λh2=>?_)|with_reducible refine aI (λh2=>?_) (λh2=>?_)
  rotate_left
  ·refine go ?_;exact aa false (hv:=rfl) (hp:=⟨(λh=>by cases h),λh=>by exfalso;have:=h.dU s hsm;omega⟩)
  refine go ?_;refine aY fu (xs:=d.symbols) (next:=λ_ _ s' (_:Unit) hs'=>?_);cases hs.symm.trans hs';refine go ?_;refine az rfl (λh3=>?_) (λh3=>?_)
  ·refine go ?_;exact aa false (hv:=rfl) (hp:=⟨(λh=>by cases h),λh=>by exfalso;have:=h.dU s hsm;omega⟩)
  refine go ?_;refine aO (k+1) (by show d.symbols.length - (k+1)<d.symbols.length - k;omega) ⟨by omega,?_⟩;rw[bV hs];intro x hx;rcases dZ.1 hx with hx|hx
  ·exact hall x hx
  ·rw[bG.1 hx];omega
 have hks:k=d.symbols.length:=by omega
 subst hks;rw[bK]at hall;clear hk h1;refine go ?_;refine aX (λk:Nat=>d.rules.length - k) (λk=>[(4,.int .i64 (k:Int))]) (λ_=>[]) (λ_=>[]) (λk=>k<=d.rules.length/\∀r∈d.rules.take k,tY (gz r.kind) d.aF r) 0 ⟨bX _,by simp⟩ (body:=?_);rintro k ⟨hk,zg⟩;refine go ?_;refine az rfl (λh1=>?_) (λh1=>?_)
 ·refine go ?_;refine aY aW (xs:=d.rules) (next:=λ_ _ r (vv:Value×Value) hr=>?_);have hrm:=bJ hr;have hrn:=hS.qc r hrm;refine go ?_;refine ak (afe (d:=d) (r:=r) (vh:=vh) (vs:=.slice nY d.symbols.length cs1) (vr:=vr) (vc:=.slice ac d.aF.length cc) (vu:=.slice au d.rules.length cu) (v1:=vv.1) (v2:=vv.2) hcl hrn.1 hrn.2) (next:=λb hb=>?_);cases b with
  |false=>
   refine go ?_;exact aa false (hv:=rfl) (hp:=⟨(λh=>by cases h),λh=>absurd (hb.2 (h.ko r hrm)) (by simp)⟩)
  |true=>
   have hR:=hb.1 rfl;refine go ?_;refine aO (k+1) (by show d.rules.length - (k+1)<d.rules.length - k;omega) ⟨by omega,?_⟩;rw[bV hr];intro x hx;rcases dZ.1 hx with hx|hx
   ·exact zg x hx
   ·rw[bG.1 hx];exact hR
 have hkr:k=d.rules.length:=by omega
 subst hkr;rw[bK]at zg;clear hk h1;refine go ?_;refine aX (λk:Nat=>d.aF.length - k) (λk=>[(5,.int .i64 (k:Int))]) (λ_=>[]) (λ_=>[]) (λk=>k<=d.aF.length/\∀(i:Nat) (c:iP),i<k->d.aF[i]? =some c->(d.rules.map (·.aQ)).count (i:Int)=1/\qg c) 0 ⟨bX _,λi c h=>by omega⟩ (body:=?_);rintro k ⟨hk,Eh⟩;refine go ?_;refine az rfl (λh1=>?_) (λh1=>?_)
 ·obtain⟨c,hc⟩:∃c,d.aF[k]? =some c:=⟨d.aF[k]'(by omega),cK _⟩
  refine go ?_;refine aX (λj:Nat=>d.rules.length - j) (λj=>[(7,.int .i64 (j:Int)),(6,.int .i64 (((d.rules.take j).map (·.aQ)).count (k:Int):Nat))]) (λ_=>[]) (λ_=>[]) (λj=>j<=d.rules.length) 0 (bX _) (body:=?_);intro j hj;have hcn:((d.rules.take j).map (·.aQ)).count (k:Int)<=4096:=by
   have:=Q7 (k:Int) ((d.rules.take j).map (·.aQ));rw[di,gM]at this;omega
  refine go ?_;refine az rfl (λh2=>?_) (λh2=>?_)
  ·refine go ?_;refine aY aW (xs:=d.rules) (next:=λ_ _ r (vv:Value×Value) hr=>?_);have hst:((d.rules.take (j+1)).map (·.aQ)).count (k:Int)=((d.rules.take j).map (·.aQ)).count (k:Int)+if r.aQ=(k:Int)then 1 else 0:=by
    rw[bV hr,eX,sS,List.count_append,List.count_singleton];congr 1;by_cases e:r.aQ=(k:Int)<;>simp[e]
   refine go ?_;refine az rfl (λh3=>?_) (λh3=>?_)
   ·rw[if_pos h3]at hst;refine go ?_;refine aO (j+1) (by omega) (by omega) (hl:=⟨rfl,by rw[hst];rfl,by repeat (first|exact trivial|refine⟨rfl,?_⟩)⟩)
   ·rw[if_neg h3]at hst;refine go ?_;refine aO (j+1) (by omega) (by omega) (hl:=⟨rfl,by rw[hst];rfl,by repeat (first|exact trivial|refine⟨rfl,?_⟩)⟩)
  have hjr:j=d.rules.length:=by omega
  subst hjr;rw[bK]at hcn⊢;refine go ?_;first|with_reducible refine aL (λh3=>?_) (λh3=>?_)|with_reducible refine aK (λh3=>?_) (λh3=>?_)|with_reducible refine aI (λh3=>?_) (λh3=>?_)
  ·refine go ?_;refine aY bC (xs:=d.aF) (next:=λ_ _ c' (_:Unit) hc'=>?_);cases hc.symm.trans hc';refine go ?_;refine ak (aeV (c:=c)) (next:=λ_ _=>?_);refine go ?_;refine ed rfl (λh4=>?_) (λh4=>?_)
   ·refine go ?_;exact aa false (hv:=rfl) (hp:=⟨(λh=>by cases h),λh=>absurd (h.ja k c hc).2 h4⟩)
   ·refine go ?_;refine aO (k+1) (by show d.aF.length - (k+1)<d.aF.length - k;omega) ⟨by omega,λi x hi hx=>?_⟩;by_cases hik:i=k
    ·subst hik;rw[hc]at hx;cases hx;exact⟨by omega,h4⟩
    ·exact Eh i x (by omega) hx
  ·refine go ?_;exact aa false (hv:=rfl) (hp:=⟨(λh=>by cases h),λh=>by exfalso;have:=(h.ja k c hc).1;omega⟩)
 have hkc:k=d.aF.length:=by omega
 subst hkc;refine go ?_;exact aa true (hv:=rfl) (hp:=⟨λ_=>⟨hall,zg,λi c hc=>Eh i c (bT.1 hc).1 hc⟩,λ_=>rfl⟩)
theorem afg{d:bq}{vh vs vr vc vu:Value}(hT:sN d):aZ Tryz.prog (.func 90) [.agg ⟨fO d vh vs vr vc vu⟩] [] [] (j6 d vh vs vr vc vu) (λe:Int=>.int .i64 e) (λ_=>[]) (λ_=>[]) (λe=>e=0↔Ei d):=by
 have hD:=hT.s;have hsl:=hD.dU;have hrl:=hD.regs;have hcl:=hD.ja;have xe:=hD.ko;refine aG _ (aM 90) λB w0=>?_;refine aT (E:=fu) (v:=vs) (xs:=d.symbols) (by simp) λnY cs1 es=>?_;subst es;refine aT (E:=dW) (v:=vr) (xs:=d.regions) (by simp) λar cr er=>?_;subst er;refine aT (E:=bC) (v:=vc) (xs:=d.aF) (by simp) λac cc ec=>?_;subst ec;refine aT (E:=aW) (v:=vu) (xs:=d.rules) (by simp) λau cu eu=>?_;subst eu;refine go ?_;intro b1;refine bB (fG (b:=b1)) (h:=?_);refine go ?_;first|with_reducible refine aL (λk1=>?_) (λk1=>?_)|with_reducible refine aK (λk1=>?_) (λk1=>?_)|with_reducible refine aI (λk1=>?_) (λk1=>?_)
 rotate_left
 ·refine go ?_;refine aa 2 (hv:=rfl) (hp:=⟨λh=>?_,λh=>?_⟩)
  ·exact absurd h (by omega)
  exfalso
  have:=h.lim.s0;omega
 refine go ?_;first|with_reducible refine aL (λk2=>?_) (λk2=>?_)|with_reducible refine aK (λk2=>?_) (λk2=>?_)|with_reducible refine aI (λk2=>?_) (λk2=>?_)
 rotate_left
 ·refine go ?_;refine aa 2 (hv:=rfl) (hp:=⟨λh=>?_,λh=>?_⟩)
  ·exact absurd h (by omega)
  exfalso
  have:=h.lim.s1;omega
 refine go ?_;first|with_reducible refine aL (λk3=>?_) (λk3=>?_)|with_reducible refine aK (λk3=>?_) (λk3=>?_)|with_reducible refine aI (λk3=>?_) (λk3=>?_)
 rotate_left
 ·refine go ?_;refine aa 2 (hv:=rfl) (hp:=⟨λh=>?_,λh=>?_⟩)
  ·exact absurd h (by omega)
  exfalso
  have:=h.lim.r;omega
 refine go ?_;first|with_reducible refine aL (λk4=>?_) (λk4=>?_)|with_reducible refine aK (λk4=>?_) (λk4=>?_)|with_reducible refine aI (λk4=>?_) (λk4=>?_)
 rotate_left
 ·refine go ?_;refine aa 2 (hv:=rfl) (hp:=⟨λh=>?_,λh=>?_⟩)
  ·exact absurd h (by omega)
  exfalso
  have:=h.lim.c;omega
 refine go ?_;refine az rfl (λk5=>?_) (λk5=>?_)
 ·refine go ?_;refine aa 2 (hv:=rfl) (hp:=⟨λh=>?_,λh=>?_⟩)
  ·exact absurd h (by omega)
  exfalso
  have:=h.lim.u;omega
 refine go ?_;refine ak (Tg (d:=d) (vh:=vh) (vs:=.slice nY d.symbols.length cs1) (vr:=.slice ar d.regions.length cr) (vc:=.slice ac d.aF.length cc) (vu:=.slice au d.rules.length cu) hD) (next:=λy hy=>?_);obtain⟨ok,e,v1,v2⟩:=y;cases ok with
 |false=>
  obtain⟨he,hno⟩:=hy.2 rfl;have he:e≠0:=he;dsimp only[cond,qb,mV,List.nil_append];refine go ?_;intro b3;refine go ?_;refine az rfl (λk6=>?_) (λk6=>?_)
  rotate_left
  ·exact absurd (iF.1 k6) he
  refine go ?_;exact aa e (hv:=rfl) (hp:=⟨λh=>absurd h he,λh=>absurd h.rs hno⟩)
 |true=>
 obtain⟨he,hres⟩:=hy.1 rfl;have he:e=0:=he;subst he;clear hy;dsimp only[cond,qb,mV,List.cons_append,List.nil_append];refine go ?_;intro b3;refine go ?_;refine eO (ah ae vh (Kd.bi d).holes) (λw hw=>hw (ah ae vh d.holes) (by simp)) ?_;refine eO (ah fu (.slice nY d.symbols.length cs1) (Kd.bi d).symbols) (λw hw=>hw (ah fu (.slice nY d.symbols.length cs1) d.symbols) (by simp)) ?_;refine eO (ah dW (.slice ar d.regions.length cr) (Kd.bi d).regions) (λw hw=>hw (ah dW (.slice ar d.regions.length cr) d.regions) (by simp)) ?_;refine ak (aeP (x:=Kd.bi d) (y:=d) (h1:=vh) (s1:=.slice nY d.symbols.length cs1) (r1:=.slice ar d.regions.length cr) (c1:=v1) (u1:=v2) (h2:=vh) (s2:=.slice nY d.symbols.length cs1) (r2:=.slice ar d.regions.length cr) (c2:=.slice ac d.aF.length cc) (u2:=.slice au d.rules.length cu) hD.bi) (next:=λ_ _=>?_);refine go ?_;refine aK (λk7=>?_) (λk7=>?_)
 rotate_left
 ·refine go ?_;refine aa 170 (hv:=rfl) (hp:=⟨λh=>?_,λh=>?_⟩)
  ·exact absurd h (by omega)
  exfalso
  exact k7 h.same
 refine go ?_;first|with_reducible refine aL (λk8=>?_) (λk8=>?_)|with_reducible refine aK (λk8=>?_) (λk8=>?_)|with_reducible refine aI (λk8=>?_) (λk8=>?_)
 rotate_left
 ·refine go ?_;refine aa 170 (hv:=rfl) (hp:=⟨λh=>?_,λh=>?_⟩)
  ·exact absurd h (by omega)
  exfalso
  have:=h.LC;omega
 refine go ?_;refine az rfl (λk9=>?_) (λk9=>?_)
 ·refine go ?_;refine aa 170 (hv:=rfl) (hp:=⟨λh=>?_,λh=>?_⟩)
  ·exact absurd h (by omega)
  exfalso
  have:=h.LC;omega
 refine go ?_;refine ak (LY (s:=d.shape) (w:=d.w) (h:=d.h) (holes:=d.holes) (vh:=vh) hT.w hT.h hT.holes) (next:=λy hy=>?_);obtain⟨ok,gh,gc⟩:=y;cases ok with
 |false=>
  have hno:¬mU d.shape d.w d.h d.holes:=λh=>by have:=hy.2 h;cases this
  dsimp only[mkV,nJ,cond,List.nil_append];refine go ?_;intro b5;refine go ?_;exact aa 130 (hv:=rfl) (hp:=⟨(λh=>by cases h),λh=>absurd h.A8 hno⟩)
 |true=>
 have hmk:=hy.1 rfl;clear hy;dsimp only[cond,mkV,nJ];rw[show tT d.shape d.w d.h d.holes=aP d from rfl];dsimp only[iV,iw,List.cons_append,List.nil_append];refine go ?_;intro b5;refine go ?_;have htr:=aeU (d:=d) (vh:=vh) (vs:=.slice nY d.symbols.length cs1) (vr:=.slice ar d.regions.length cr) (vc:=.slice ac d.aF.length cc) (vu:=.slice au d.rules.length cu) (gh:=gh) (gc:=gc) (g:=aP d) hD (Ej hmk);dsimp only[iV,iw]at htr;refine ak htr (next:=λe he=>?_);refine go ?_;refine az rfl (λk10=>?_) (λk10=>?_)
 ·refine go ?_;exact aa e (hv:=rfl) (hp:=⟨λh=>absurd h k10,λh=>absurd (he.2 h.GK) k10⟩)
 have hrg:=he.1 (iF.1 k10);clear he k10;refine go ?_;refine ak (aff (d:=d) (vh:=vh) (vs:=.slice nY d.symbols.length cs1) (vr:=.slice ar d.regions.length cr) (vc:=.slice ac d.aF.length cc) (vu:=.slice au d.rules.length cu) hD) (next:=λb hb=>?_);cases b with
 |false=>
  refine go ?_;exact aa 170 (hv:=rfl) (hp:=⟨(λh=>by cases h),λh=>absurd (hb.2 h.form) (by simp)⟩)
 |true=>
 have hfm:=hb.1 rfl;clear hb;refine go ?_;refine ak (aeY (d:=d) (vh:=vh) (vs:=.slice nY d.symbols.length cs1) (vr:=.slice ar d.regions.length cr) (vc:=.slice ac d.aF.length cc) (vu:=.slice au d.rules.length cu) xe) (next:=λa3 _=>?_);refine go ?_;refine az rfl (λk11=>?_) (λk11=>?_)
 ·refine go ?_;refine aa 171 (hv:=rfl) (hp:=⟨λh=>?_,λh=>?_⟩)
  ·exact absurd h (by omega)
  exfalso
  rw[h.read]at k11;simp at k11
 refine go ?_;exact aa 0 (hv:=rfl) (hp:=⟨λ_=>⟨⟨by omega,by omega,by omega,by omega,by omega⟩,hres,k7,⟨by omega,by omega⟩,hmk,hrg,hfm,jl.1 (by omega)⟩,λ_=>rfl⟩)
