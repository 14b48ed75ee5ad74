/-
  Part LibSR.
-/
import Derived.Test.YtpkieeggilkagaaGreatLibRR
import Derived.Test.YtpkieeggilkagaaGreatLibQR
set_option linter.all false
set_option maxRecDepth 10000
set_option maxHeartbeats 4000000
namespace Go.Proofs.YtpkieeggilkagaaGreat
open Go.Ideal Kd
theorem aiw{d:bG}{r:bB}{vh vs vr vc vu v1 v2:Value}(hk:r.kind=8)(hcl:d.aM.length<=4096)(h1:r.names.length<9223372036854775808)(h2:r.others.length<9223372036854775808):jL d r vh vs vr vc vu v1 v2:=by
 obtain⟨rn,iG,rk,rf,dz,dA,rs,iH,iI,iJ,iK,iL⟩:=r;dsimp only at hk h1 h2;subst hk;dsimp only[jL];rw[show fF 8=⟨false,true,true,false,false,true,true,0⟩from by rfl];refine aC qj qR λB w0=>?_;refine aT (E:=bF) (v:=v1) (xs:=dz) (by simp) λa1 c1 e1=>?_;subst e1;refine aT (E:=bF) (v:=v2) (xs:=dA) (by simp) λa2 c2 e2=>?_;subst e2;refine go ?_;intro b2 b3;iterate 16 (all_goals (first
  |(refine aj (r9 (d:=d) (r:=⟨rn,iG,8,rf,dz,dA,rs,iH,iI,iJ,iK,iL⟩) (v1:=.slice a1 dz.length c1) (v2:=.slice a2 dA.length c2) hcl) (next:=λbb hbb=>?_))
  |(refine aj (qQ (d:=d) (r:=⟨rn,iG,8,rf,dz,dA,rs,iH,iI,iJ,iK,iL⟩) (v1:=.slice a1 dz.length c1) (v2:=.slice a2 dA.length c2) hcl) (next:=λbb hbb=>?_))
  |(refine go ?_;first
   |with_reducible refine lV (λ_=>?_) (λ_=>?_)
   |with_reducible refine kV (λ_=>?_) (λ_=>?_)
   |with_reducible refine lD (λ_=>?_) (λ_=>?_)
   |refine ay rfl (λ_=>?_) (λ_=>?_)
   |refine eX rfl (λ_=>?_) (λ_=>?_)
   |refine iZ rfl (λ_=>?_) (λ_=>?_)
   |skip)))
 all_goals (try simp only[eO]at *)
 all_goals (first
  |(refine ae false (hv:=by rfl) (hp:=⟨(λh=>by cases h),λh=>?_⟩)
    exfalso
    rw[jE rfl rfl (by decide)]at h;obtain⟨⟨q1,q2,q3,q4,q5,q6⟩,h7⟩:=h;dsimp only at q1 q2 q3 q4 q5 q6 h7;first
     |(simp_all;done)
     |(obtain⟨⟨p1,p2,p3⟩,p4,p5,p6⟩:=h7;dsimp only at p1 p2 p3 p4 p5 p6;first|(simp_all;done)|(simp_all;omega)|omega))
  |(refine ae true (hv:=by rfl) (hp:=⟨λ_=>?_,λ_=>rfl⟩)
    rw[jE rfl rfl (by decide)];first
     |(refine⟨⟨?_,?_,?_,?_,?_,?_⟩,⟨?_,?_,?_⟩,?_,?_,?_⟩<;>dsimp only<;>first|(simp_all;done)|(simp_all;omega)|omega)
     |(refine⟨⟨?_,?_,?_,?_,?_,?_⟩,?_⟩<;>first|(simp_all;done)|(simp_all;omega)))
  |(refine ae bb (hv:=by rfl) (hp:=?_)
    rw[jE rfl rfl (by decide)];constructor
    ·intro hb;refine⟨⟨?_,?_,?_,?_,?_,?_⟩,⟨?_,?_,?_⟩,?_,?_,?_⟩<;>dsimp only<;>first|(simp_all;done)|(simp_all;omega)|omega
    ·rintro⟨⟨q1,q2,q3,q4,q5,q6⟩,⟨p1,p2,p3⟩,p4,p5,p6⟩;dsimp only at q1 q2 q3 q4 q5 q6 p1 p2 p3 p4 p5 p6
     simp_all))
theorem aix{d:bG}{r:bB}{vh vs vr vc vu v1 v2:Value}(hk:r.kind=9)(hcl:d.aM.length<=4096)(h1:r.names.length<9223372036854775808)(h2:r.others.length<9223372036854775808):jL d r vh vs vr vc vu v1 v2:=by
 obtain⟨rn,iG,rk,rf,dz,dA,rs,iH,iI,iJ,iK,iL⟩:=r;dsimp only at hk h1 h2;subst hk;dsimp only[jL];rw[show fF 9=⟨false,true,false,false,false,true,true,0⟩from by rfl];refine aC qj qR λB w0=>?_;refine aT (E:=bF) (v:=v1) (xs:=dz) (by simp) λa1 c1 e1=>?_;subst e1;refine aT (E:=bF) (v:=v2) (xs:=dA) (by simp) λa2 c2 e2=>?_;subst e2;refine go ?_;intro b2 b3;iterate 16 (all_goals (first
  |(refine aj (r9 (d:=d) (r:=⟨rn,iG,9,rf,dz,dA,rs,iH,iI,iJ,iK,iL⟩) (v1:=.slice a1 dz.length c1) (v2:=.slice a2 dA.length c2) hcl) (next:=λbb hbb=>?_))
  |(refine aj (qQ (d:=d) (r:=⟨rn,iG,9,rf,dz,dA,rs,iH,iI,iJ,iK,iL⟩) (v1:=.slice a1 dz.length c1) (v2:=.slice a2 dA.length c2) hcl) (next:=λbb hbb=>?_))
  |(refine go ?_;first
   |with_reducible refine lV (λ_=>?_) (λ_=>?_)
   |with_reducible refine kV (λ_=>?_) (λ_=>?_)
   |with_reducible refine lD (λ_=>?_) (λ_=>?_)
   |refine ay rfl (λ_=>?_) (λ_=>?_)
   |refine eX rfl (λ_=>?_) (λ_=>?_)
   |refine iZ rfl (λ_=>?_) (λ_=>?_)
   |skip)))
 all_goals (try simp only[eO]at *)
 all_goals (first
  |(refine ae false (hv:=by rfl) (hp:=⟨(λh=>by cases h),λh=>?_⟩)
    exfalso
    rw[jE rfl rfl (by decide)]at h;obtain⟨⟨q1,q2,q3,q4,q5,q6⟩,h7⟩:=h;dsimp only at q1 q2 q3 q4 q5 q6 h7;first
     |(simp_all;done)
     |(obtain⟨⟨p1,p2,p3⟩,p4,p5,p6⟩:=h7;dsimp only at p1 p2 p3 p4 p5 p6;first|(simp_all;done)|(simp_all;omega)|omega))
  |(refine ae true (hv:=by rfl) (hp:=⟨λ_=>?_,λ_=>rfl⟩)
    rw[jE rfl rfl (by decide)];first
     |(refine⟨⟨?_,?_,?_,?_,?_,?_⟩,⟨?_,?_,?_⟩,?_,?_,?_⟩<;>dsimp only<;>first|(simp_all;done)|(simp_all;omega)|omega)
     |(refine⟨⟨?_,?_,?_,?_,?_,?_⟩,?_⟩<;>first|(simp_all;done)|(simp_all;omega)))
  |(refine ae bb (hv:=by rfl) (hp:=?_)
    rw[jE rfl rfl (by decide)];constructor
    ·intro hb;refine⟨⟨?_,?_,?_,?_,?_,?_⟩,⟨?_,?_,?_⟩,?_,?_,?_⟩<;>dsimp only<;>first|(simp_all;done)|(simp_all;omega)|omega
    ·rintro⟨⟨q1,q2,q3,q4,q5,q6⟩,⟨p1,p2,p3⟩,p4,p5,p6⟩;dsimp only at q1 q2 q3 q4 q5 q6 p1 p2 p3 p4 p5 p6
     simp_all))
theorem aiy{d:bG}{r:bB}{vh vs vr vc vu v1 v2:Value}(hk:r.kind=10)(hcl:d.aM.length<=4096)(h1:r.names.length<9223372036854775808)(h2:r.others.length<9223372036854775808):jL d r vh vs vr vc vu v1 v2:=by
 obtain⟨rn,iG,rk,rf,dz,dA,rs,iH,iI,iJ,iK,iL⟩:=r;dsimp only at hk h1 h2;subst hk;dsimp only[jL];rw[show fF 10=⟨false,true,false,false,false,true,true,0⟩from by rfl];refine aC qj qR λB w0=>?_;refine aT (E:=bF) (v:=v1) (xs:=dz) (by simp) λa1 c1 e1=>?_;subst e1;refine aT (E:=bF) (v:=v2) (xs:=dA) (by simp) λa2 c2 e2=>?_;subst e2;refine go ?_;intro b2 b3;iterate 16 (all_goals (first
  |(refine aj (r9 (d:=d) (r:=⟨rn,iG,10,rf,dz,dA,rs,iH,iI,iJ,iK,iL⟩) (v1:=.slice a1 dz.length c1) (v2:=.slice a2 dA.length c2) hcl) (next:=λbb hbb=>?_))
  |(refine aj (qQ (d:=d) (r:=⟨rn,iG,10,rf,dz,dA,rs,iH,iI,iJ,iK,iL⟩) (v1:=.slice a1 dz.length c1) (v2:=.slice a2 dA.length c2) hcl) (next:=λbb hbb=>?_))
  |(refine go ?_;first
   |with_reducible refine lV (λ_=>?_) (λ_=>?_)
   |with_reducible refine kV (λ_=>?_) (λ_=>?_)
   |with_reducible refine lD (λ_=>?_) (λ_=>?_)
   |refine ay rfl (λ_=>?_) (λ_=>?_)
   |refine eX rfl (λ_=>?_) (λ_=>?_)
   |refine iZ rfl (λ_=>?_) (λ_=>?_)
   |skip)))
 all_goals (try simp only[eO]at *)
 all_goals (first
  |(refine ae false (hv:=by rfl) (hp:=⟨(λh=>by cases h),λh=>?_⟩)
    exfalso
    rw[jE rfl rfl (by decide)]at h;obtain⟨⟨q1,q2,q3,q4,q5,q6⟩,h7⟩:=h;dsimp only at q1 q2 q3 q4 q5 q6 h7;first
     |(simp_all;done)
     |(obtain⟨⟨p1,p2,p3⟩,p4,p5,p6⟩:=h7;dsimp only at p1 p2 p3 p4 p5 p6;first|(simp_all;done)|(simp_all;omega)|omega))
  |(refine ae true (hv:=by rfl) (hp:=⟨λ_=>?_,λ_=>rfl⟩)
    rw[jE rfl rfl (by decide)];first
     |(refine⟨⟨?_,?_,?_,?_,?_,?_⟩,⟨?_,?_,?_⟩,?_,?_,?_⟩<;>dsimp only<;>first|(simp_all;done)|(simp_all;omega)|omega)
     |(refine⟨⟨?_,?_,?_,?_,?_,?_⟩,?_⟩<;>first|(simp_all;done)|(simp_all;omega)))
  |(refine ae bb (hv:=by rfl) (hp:=?_)
    rw[jE rfl rfl (by decide)];constructor
    ·intro hb;refine⟨⟨?_,?_,?_,?_,?_,?_⟩,⟨?_,?_,?_⟩,?_,?_,?_⟩<;>dsimp only<;>first|(simp_all;done)|(simp_all;omega)|omega
    ·rintro⟨⟨q1,q2,q3,q4,q5,q6⟩,⟨p1,p2,p3⟩,p4,p5,p6⟩;dsimp only at q1 q2 q3 q4 q5 q6 p1 p2 p3 p4 p5 p6
     simp_all))
theorem aiz{d:bG}{r:bB}{vh vs vr vc vu v1 v2:Value}(hk:r.kind=11)(hcl:d.aM.length<=4096)(h1:r.names.length<9223372036854775808)(h2:r.others.length<9223372036854775808):jL d r vh vs vr vc vu v1 v2:=by
 obtain⟨rn,iG,rk,rf,dz,dA,rs,iH,iI,iJ,iK,iL⟩:=r;dsimp only at hk h1 h2;subst hk;dsimp only[jL];rw[show fF 11=⟨false,false,false,false,false,true,true,1⟩from by rfl];refine aC qj qR λB w0=>?_;refine aT (E:=bF) (v:=v1) (xs:=dz) (by simp) λa1 c1 e1=>?_;subst e1;refine aT (E:=bF) (v:=v2) (xs:=dA) (by simp) λa2 c2 e2=>?_;subst e2;refine go ?_;intro b2 b3;iterate 16 (all_goals (first
  |(refine aj (r9 (d:=d) (r:=⟨rn,iG,11,rf,dz,dA,rs,iH,iI,iJ,iK,iL⟩) (v1:=.slice a1 dz.length c1) (v2:=.slice a2 dA.length c2) hcl) (next:=λbb hbb=>?_))
  |(refine aj (qQ (d:=d) (r:=⟨rn,iG,11,rf,dz,dA,rs,iH,iI,iJ,iK,iL⟩) (v1:=.slice a1 dz.length c1) (v2:=.slice a2 dA.length c2) hcl) (next:=λbb hbb=>?_))
  |(refine go ?_;first
   |with_reducible refine lV (λ_=>?_) (λ_=>?_)
   |with_reducible refine kV (λ_=>?_) (λ_=>?_)
   |with_reducible refine lD (λ_=>?_) (λ_=>?_)
   |refine ay rfl (λ_=>?_) (λ_=>?_)
   |refine eX rfl (λ_=>?_) (λ_=>?_)
   |refine iZ rfl (λ_=>?_) (λ_=>?_)
   |skip)))
 all_goals (try simp only[eO]at *)
 all_goals (first
  |(refine ae false (hv:=by rfl) (hp:=⟨(λh=>by cases h),λh=>?_⟩)
    exfalso
    rw[jE rfl rfl (by decide)]at h;obtain⟨⟨q1,q2,q3,q4,q5,q6⟩,h7⟩:=h;dsimp only at q1 q2 q3 q4 q5 q6 h7;first
     |(simp_all;done)
     |(obtain⟨⟨p1,p2,p3⟩,p4,p5,p6⟩:=h7;dsimp only at p1 p2 p3 p4 p5 p6;first|(simp_all;done)|(simp_all;omega)|omega))
  |(refine ae true (hv:=by rfl) (hp:=⟨λ_=>?_,λ_=>rfl⟩)
    rw[jE rfl rfl (by decide)];first
     |(refine⟨⟨?_,?_,?_,?_,?_,?_⟩,⟨?_,?_,?_⟩,?_,?_,?_⟩<;>dsimp only<;>first|(simp_all;done)|(simp_all;omega)|omega)
     |(refine⟨⟨?_,?_,?_,?_,?_,?_⟩,?_⟩<;>first|(simp_all;done)|(simp_all;omega)))
  |(refine ae bb (hv:=by rfl) (hp:=?_)
    rw[jE rfl rfl (by decide)];constructor
    ·intro hb;refine⟨⟨?_,?_,?_,?_,?_,?_⟩,⟨?_,?_,?_⟩,?_,?_,?_⟩<;>dsimp only<;>first|(simp_all;done)|(simp_all;omega)|omega
    ·rintro⟨⟨q1,q2,q3,q4,q5,q6⟩,⟨p1,p2,p3⟩,p4,p5,p6⟩;dsimp only at q1 q2 q3 q4 q5 q6 p1 p2 p3 p4 p5 p6
     simp_all))
theorem aiA{d:bG}{r:bB}{vh vs vr vc vu v1 v2:Value}(hk:r.kind=12)(hcl:d.aM.length<=4096)(h1:r.names.length<9223372036854775808)(h2:r.others.length<9223372036854775808):jL d r vh vs vr vc vu v1 v2:=by
 obtain⟨rn,iG,rk,rf,dz,dA,rs,iH,iI,iJ,iK,iL⟩:=r;dsimp only at hk h1 h2;subst hk;dsimp only[jL];rw[show fF 12=⟨true,false,false,false,false,false,true,0⟩from by rfl];refine aC qj qR λB w0=>?_;refine aT (E:=bF) (v:=v1) (xs:=dz) (by simp) λa1 c1 e1=>?_;subst e1;refine aT (E:=bF) (v:=v2) (xs:=dA) (by simp) λa2 c2 e2=>?_;subst e2;refine go ?_;intro b2 b3;iterate 16 (all_goals (first
  |(refine aj (r9 (d:=d) (r:=⟨rn,iG,12,rf,dz,dA,rs,iH,iI,iJ,iK,iL⟩) (v1:=.slice a1 dz.length c1) (v2:=.slice a2 dA.length c2) hcl) (next:=λbb hbb=>?_))
  |(refine aj (qQ (d:=d) (r:=⟨rn,iG,12,rf,dz,dA,rs,iH,iI,iJ,iK,iL⟩) (v1:=.slice a1 dz.length c1) (v2:=.slice a2 dA.length c2) hcl) (next:=λbb hbb=>?_))
  |(refine go ?_;first
   |with_reducible refine lV (λ_=>?_) (λ_=>?_)
   |with_reducible refine kV (λ_=>?_) (λ_=>?_)
   |with_reducible refine lD (λ_=>?_) (λ_=>?_)
   |refine ay rfl (λ_=>?_) (λ_=>?_)
   |refine eX rfl (λ_=>?_) (λ_=>?_)
   |refine iZ rfl (λ_=>?_) (λ_=>?_)
   |skip)))
 all_goals (try simp only[eO]at *)
 all_goals (first
  |(refine ae false (hv:=by rfl) (hp:=⟨(λh=>by cases h),λh=>?_⟩)
    exfalso
    rw[jE rfl rfl (by decide)]at h;obtain⟨⟨q1,q2,q3,q4,q5,q6⟩,h7⟩:=h;dsimp only at q1 q2 q3 q4 q5 q6 h7;first
     |(simp_all;done)
     |(obtain⟨⟨p1,p2,p3⟩,p4,p5,p6⟩:=h7;dsimp only at p1 p2 p3 p4 p5 p6;first|(simp_all;done)|(simp_all;omega)|omega))
  |(refine ae true (hv:=by rfl) (hp:=⟨λ_=>?_,λ_=>rfl⟩)
    rw[jE rfl rfl (by decide)];first
     |(refine⟨⟨?_,?_,?_,?_,?_,?_⟩,⟨?_,?_,?_⟩,?_,?_,?_⟩<;>dsimp only<;>first|(simp_all;done)|(simp_all;omega)|omega)
     |(refine⟨⟨?_,?_,?_,?_,?_,?_⟩,?_⟩<;>first|(simp_all;done)|(simp_all;omega)))
  |(refine ae bb (hv:=by rfl) (hp:=?_)
    rw[jE rfl rfl (by decide)];constructor
    ·intro hb;refine⟨⟨?_,?_,?_,?_,?_,?_⟩,⟨?_,?_,?_⟩,?_,?_,?_⟩<;>dsimp only<;>first|(simp_all;done)|(simp_all;omega)|omega
    ·rintro⟨⟨q1,q2,q3,q4,q5,q6⟩,⟨p1,p2,p3⟩,p4,p5,p6⟩;dsimp only at q1 q2 q3 q4 q5 q6 p1 p2 p3 p4 p5 p6
     simp_all))
theorem aiB{d:bG}{r:bB}{vh vs vr vc vu v1 v2:Value}(hk:r.kind=13)(hcl:d.aM.length<=4096)(h1:r.names.length<9223372036854775808)(h2:r.others.length<9223372036854775808):jL d r vh vs vr vc vu v1 v2:=by
 obtain⟨rn,iG,rk,rf,dz,dA,rs,iH,iI,iJ,iK,iL⟩:=r;dsimp only at hk h1 h2;subst hk;dsimp only[jL];rw[show fF 13=⟨false,false,false,true,false,false,true,0⟩from by rfl];refine aC qj qR λB w0=>?_;refine aT (E:=bF) (v:=v1) (xs:=dz) (by simp) λa1 c1 e1=>?_;subst e1;refine aT (E:=bF) (v:=v2) (xs:=dA) (by simp) λa2 c2 e2=>?_;subst e2;refine go ?_;intro b2 b3;iterate 16 (all_goals (first
  |(refine aj (r9 (d:=d) (r:=⟨rn,iG,13,rf,dz,dA,rs,iH,iI,iJ,iK,iL⟩) (v1:=.slice a1 dz.length c1) (v2:=.slice a2 dA.length c2) hcl) (next:=λbb hbb=>?_))
  |(refine aj (qQ (d:=d) (r:=⟨rn,iG,13,rf,dz,dA,rs,iH,iI,iJ,iK,iL⟩) (v1:=.slice a1 dz.length c1) (v2:=.slice a2 dA.length c2) hcl) (next:=λbb hbb=>?_))
  |(refine go ?_;first
   |with_reducible refine lV (λ_=>?_) (λ_=>?_)
   |with_reducible refine kV (λ_=>?_) (λ_=>?_)
   |with_reducible refine lD (λ_=>?_) (λ_=>?_)
   |refine ay rfl (λ_=>?_) (λ_=>?_)
   |refine eX rfl (λ_=>?_) (λ_=>?_)
   |refine iZ rfl (λ_=>?_) (λ_=>?_)
   |skip)))
 all_goals (try simp only[eO]at *)
 all_goals (first
  |(refine ae false (hv:=by rfl) (hp:=⟨(λh=>by cases h),λh=>?_⟩)
    exfalso
    rw[x9 rfl rfl rfl rfl]at h;obtain⟨⟨q1,q2,q3,q4,q5,q6⟩,h7⟩:=h;dsimp only at q1 q2 q3 q4 q5 q6 h7;first
     |(simp_all;done)
     |(obtain⟨⟨p1,p2,p3⟩,p4,p5,p6⟩:=h7;dsimp only at p1 p2 p3 p4 p5 p6;first|(simp_all;done)|(simp_all;omega)|omega))
  |(refine ae true (hv:=by rfl) (hp:=⟨λ_=>?_,λ_=>rfl⟩)
    rw[x9 rfl rfl rfl rfl];first
     |(refine⟨⟨?_,?_,?_,?_,?_,?_⟩,⟨?_,?_,?_⟩,?_,?_,?_⟩<;>dsimp only<;>first|(simp_all;done)|(simp_all;omega)|omega)
     |(refine⟨⟨?_,?_,?_,?_,?_,?_⟩,?_⟩<;>first|(simp_all;done)|(simp_all;omega)))
  |(refine ae bb (hv:=by rfl) (hp:=?_)
    rw[x9 rfl rfl rfl rfl];constructor
    ·intro hb;refine⟨⟨?_,?_,?_,?_,?_,?_⟩,⟨?_,?_,?_⟩,?_,?_,?_⟩<;>dsimp only<;>first|(simp_all;done)|(simp_all;omega)|omega
    ·rintro⟨⟨q1,q2,q3,q4,q5,q6⟩,⟨p1,p2,p3⟩,p4,p5,p6⟩;dsimp only at q1 q2 q3 q4 q5 q6 p1 p2 p3 p4 p5 p6
     simp_all))
theorem aiC{d:bG}{r:bB}{vh vs vr vc vu v1 v2:Value}(hk:¬(1<=r.kind/\r.kind<=13)):jL d r vh vs vr vc vu v1 v2:=by
 dsimp only[jL];have hx:¬uS (fF r.kind) d.aM r:=λh=>by
  have h1:=h.known;by_cases h0:r.kind=0
  ·rw[h0]at h1;cases h1
  ·rw[Df (by omega)]at h1;cases h1
 refine aC qj qR λB w0=>?_;refine go ?_;intro b2 b3;iterate 13 (refine go ?_;refine ay rfl (λh=>?_) (λ_=>?_);(exfalso;omega))
 refine go ?_;exact ae false (hv:=rfl) (hp:=⟨(λh=>by cases h),λh=>absurd h hx⟩)
theorem aiD{d:bG}{r:bB}{vh vs vr vc vu v1 v2:Value}(hcl:d.aM.length<=4096)(h1:r.names.length<9223372036854775808)(h2:r.others.length<9223372036854775808):jL d r vh vs vr vc vu v1 v2:=by
 by_cases h:1<=r.kind/\r.kind<=13
 ·rcases(show r.kind=1\/r.kind=2\/r.kind=3\/r.kind=4\/r.kind=5\/r.kind=6\/r.kind=7\/r.kind=8\/r.kind=9\/r.kind=10\/r.kind=11\/r.kind=12\/r.kind=13 by omega)with hk|hk|hk|hk|hk|hk|hk|hk|hk|hk|hk|hk|hk
  ·exact aip hk hcl h1 h2
  ·exact aiq hk hcl h1 h2
  ·exact air hk hcl h1 h2
  ·exact ais hk hcl h1 h2
  ·exact ait hk hcl h1 h2
  ·exact aiu hk hcl h1 h2
  ·exact aiv hk hcl h1 h2
  ·exact aiw hk hcl h1 h2
  ·exact aix hk hcl h1 h2
  ·exact aiy hk hcl h1 h2
  ·exact aiz hk hcl h1 h2
  ·exact aiA hk hcl h1 h2
  ·exact aiB hk hcl h1 h2
 ·exact aiC h
theorem aiE{d:bG}{vh vs vr vc vu:Value}(hS:mZ d):
 aV Tryz.prog (.func 169) [.agg ⟨gI d vh vs vr vc vu⟩] [] [] [ah fo vs d.symbols,ah bI vc d.aM,ah aZ vu d.rules] (λb:Bool=>.bool b) (λ_=>[]) (λ_=>[]) (λb=>b=true↔JN d):=by
 have hsl:=hS.cZ;have hcl:=hS.jB;have rU:=hS.jP;refine aC _ (aF 169) λB w0=>?_;refine aT (E:=fo) (v:=vs) (xs:=d.symbols) (by simp) λoz cs1 es=>?_;subst es;refine aT (E:=bI) (v:=vc) (xs:=d.aM) (by simp) λac cc ec=>?_;subst ec;refine aT (E:=aZ) (v:=vu) (xs:=d.rules) (by simp) λau cu eu=>?_;subst eu;refine go ?_;intro b1;refine aW (eB (b:=b1)) (h:=?_);refine go ?_;refine aR (λk:Nat=>d.symbols.length - k) (λk=>[(3,.int .i64 (k:Int))]) (λ_=>[]) (λ_=>[]) (λk=>k<=d.symbols.length/\∀s∈d.symbols.take k,0<=s.value/\s.value<=99) 0 ⟨bJ _,by simp⟩ (body:=?_);rintro k ⟨hk,hall⟩;refine go ?_;refine ay rfl (λh1=>?_) (λh1=>?_)
 ·refine go ?_;refine aU fo (xs:=d.symbols) (next:=λ_ _ s (_:Unit) hs=>?_);have hsm:=aP hs;refine go ?_;refine gG (λh2=>?_) (λh2=>?_)
  rotate_left
  ·refine go ?_;exact ae false (hv:=rfl) (hp:=⟨(λh=>by cases h),λh=>by exfalso;have:=h.cZ s hsm;omega⟩)
  refine go ?_;refine aU fo (xs:=d.symbols) (next:=λ_ _ s' (_:Unit) hs'=>?_);cases hs.symm.trans hs';refine go ?_;refine ay rfl (λh3=>?_) (λh3=>?_)
  ·refine go ?_;exact ae false (hv:=rfl) (hp:=⟨(λh=>by cases h),λh=>by exfalso;have:=h.cZ s hsm;omega⟩)
  refine go ?_;refine aD (k+1) (by show d.symbols.length - (k+1)<d.symbols.length - k;omega) ⟨by omega,?_⟩;rw[bS hs];intro x hx;rcases dB.1 hx with hx|hx
  ·exact hall x hx
  ·rw[bM.1 hx];omega
 have hks:k=d.symbols.length:=by omega
 subst hks;rw[bC]at hall;clear hk h1;refine go ?_;refine aR (λk:Nat=>d.rules.length - k) (λk=>[(4,.int .i64 (k:Int))]) (λ_=>[]) (λ_=>[]) (λk=>k<=d.rules.length/\∀r∈d.rules.take k,uS (fF r.kind) d.aM r) 0 ⟨bJ _,by simp⟩ (body:=?_);rintro k ⟨hk,Bc⟩;refine go ?_;refine ay rfl (λh1=>?_) (λh1=>?_)
 ·refine go ?_;refine aU aZ (xs:=d.rules) (next:=λ_ _ r (vv:Value×Value) hr=>?_);have hrm:=aP hr;have hrn:=hS.vY r hrm;refine go ?_;refine aj (aiD (d:=d) (r:=r) (vh:=vh) (vs:=.slice oz d.symbols.length cs1) (vr:=vr) (vc:=.slice ac d.aM.length cc) (vu:=.slice au d.rules.length cu) (v1:=vv.1) (v2:=vv.2) hcl hrn.1 hrn.2) (next:=λb hb=>?_);cases b with
  |false=>
   refine go ?_;exact ae false (hv:=rfl) (hp:=⟨(λh=>by cases h),λh=>absurd (hb.2 (h.jP r hrm)) (by simp)⟩)
  |true=>
   have hR:=hb.1 rfl;refine go ?_;refine aD (k+1) (by show d.rules.length - (k+1)<d.rules.length - k;omega) ⟨by omega,?_⟩;rw[bS hr];intro x hx;rcases dB.1 hx with hx|hx
   ·exact Bc x hx
   ·rw[bM.1 hx];exact hR
 have hkr:k=d.rules.length:=by omega
 subst hkr;rw[bC]at Bc;clear hk h1;refine go ?_;refine aR (λk:Nat=>d.aM.length - k) (λk=>[(5,.int .i64 (k:Int))]) (λ_=>[]) (λ_=>[]) (λk=>k<=d.aM.length/\∀(i:Nat) (c:jo),i<k->d.aM[i]? =some c->(d.rules.map (·.aB)).count (i:Int)=1/\ou c) 0 ⟨bJ _,λi c h=>by omega⟩ (body:=?_);rintro k ⟨hk,FV⟩;refine go ?_;refine ay rfl (λh1=>?_) (λh1=>?_)
 ·obtain⟨c,hc⟩:∃c,d.aM[k]? =some c:=⟨d.aM[k]'(by omega),bN _⟩
  refine go ?_;refine aR (λj:Nat=>d.rules.length - j) (λj=>[(7,.int .i64 (j:Int)),(6,.int .i64 (((d.rules.take j).map (·.aB)).count (k:Int):Nat))]) (λ_=>[]) (λ_=>[]) (λj=>j<=d.rules.length) 0 (bJ _) (body:=?_);intro j hj;have hcn:((d.rules.take j).map (·.aB)).count (k:Int)<=4096:=by
   have:=Ug (k:Int) ((d.rules.take j).map (·.aB));rw[dV,gL]at this;omega
  refine go ?_;refine ay rfl (λh2=>?_) (λh2=>?_)
  ·refine go ?_;refine aU aZ (xs:=d.rules) (next:=λ_ _ r (vv:Value×Value) hr=>?_);have hst:((d.rules.take (j+1)).map (·.aB)).count (k:Int)=((d.rules.take j).map (·.aB)).count (k:Int)+if r.aB=(k:Int)then 1 else 0:=by
    rw[bS hr,ed,oW,List.count_append,List.count_singleton];congr 1;by_cases e:r.aB=(k:Int)<;>simp[e]
   refine go ?_;refine ay rfl (λh3=>?_) (λh3=>?_)
   ·rw[if_pos h3]at hst;refine go ?_;refine aD (j+1) (by omega) (by omega) (hl:=⟨rfl,by rw[hst];rfl,by repeat (first|exact trivial|refine⟨rfl,?_⟩)⟩)
   ·rw[if_neg h3]at hst;refine go ?_;refine aD (j+1) (by omega) (by omega) (hl:=⟨rfl,by rw[hst];rfl,by repeat (first|exact trivial|refine⟨rfl,?_⟩)⟩)
  have hjr:j=d.rules.length:=by omega
  subst hjr;rw[bC]at hcn⊢;refine go ?_;refine gG (λh3=>?_) (λh3=>?_)
  ·refine go ?_;refine aU bI (xs:=d.aM) (next:=λ_ _ c' (_:Unit) hc'=>?_);cases hc.symm.trans hc';refine go ?_;refine aj (aij (c:=c)) (next:=λ_ _=>?_);refine go ?_;refine eX rfl (λh4=>?_) (λh4=>?_)
   ·refine go ?_;exact ae false (hv:=rfl) (hp:=⟨(λh=>by cases h),λh=>absurd (h.jB k c hc).2 h4⟩)
   ·refine go ?_;refine aD (k+1) (by show d.aM.length - (k+1)<d.aM.length - k;omega) ⟨by omega,λi x hi hx=>?_⟩;by_cases hik:i=k
    ·subst hik;rw[hc]at hx;cases hx;exact⟨by omega,h4⟩
    ·exact FV i x (by omega) hx
  ·refine go ?_;exact ae false (hv:=rfl) (hp:=⟨(λh=>by cases h),λh=>by exfalso;have:=(h.jB k c hc).1;omega⟩)
 have hkc:k=d.aM.length:=by omega
 subst hkc;refine go ?_;exact ae true (hv:=rfl) (hp:=⟨λ_=>⟨hall,Bc,λi c hc=>FV i c (bK.1 hc).1 hc⟩,λ_=>rfl⟩)
theorem aiF{d:bG}{vh vs vr vc vu:Value}(hT:uT d):aV Tryz.prog (.func 124) [.agg ⟨gI d vh vs vr vc vu⟩] [] [] (mi d vh vs vr vc vu) (λe:Int=>.int .i64 e) (λ_=>[]) (λ_=>[]) (λe=>e=0↔FW d):=by
 have hD:=hT.s;have hsl:=hD.cZ;have hrl:=hD.regs;have hcl:=hD.jB;have rU:=hD.jP;refine aC _ (aF 124) λB w0=>?_;refine aT (E:=fo) (v:=vs) (xs:=d.symbols) (by simp) λoz cs1 es=>?_;subst es;refine aT (E:=fA) (v:=vr) (xs:=d.regions) (by simp) λar cr er=>?_;subst er;refine aT (E:=bI) (v:=vc) (xs:=d.aM) (by simp) λac cc ec=>?_;subst ec;refine aT (E:=aZ) (v:=vu) (xs:=d.rules) (by simp) λau cu eu=>?_;subst eu;refine go ?_;intro b1;refine aW (eB (b:=b1)) (h:=?_);refine go ?_;refine gG (λk1=>?_) (λk1=>?_)
 rotate_left
 ·refine go ?_;refine ae 2 (hv:=rfl) (hp:=⟨λh=>?_,λh=>?_⟩)
  ·exact absurd h (by omega)
  exfalso
  have:=h.lim.s0;omega
 refine go ?_;refine gG (λk2=>?_) (λk2=>?_)
 rotate_left
 ·refine go ?_;refine ae 2 (hv:=rfl) (hp:=⟨λh=>?_,λh=>?_⟩)
  ·exact absurd h (by omega)
  exfalso
  have:=h.lim.s1;omega
 refine go ?_;refine gG (λk3=>?_) (λk3=>?_)
 rotate_left
 ·refine go ?_;refine ae 2 (hv:=rfl) (hp:=⟨λh=>?_,λh=>?_⟩)
  ·exact absurd h (by omega)
  exfalso
  have:=h.lim.r;omega
 refine go ?_;refine gG (λk4=>?_) (λk4=>?_)
 rotate_left
 ·refine go ?_;refine ae 2 (hv:=rfl) (hp:=⟨λh=>?_,λh=>?_⟩)
  ·exact absurd h (by omega)
  exfalso
  have:=h.lim.c;omega
 refine go ?_;refine ay rfl (λk5=>?_) (λk5=>?_)
 ·refine go ?_;refine ae 2 (hv:=rfl) (hp:=⟨λh=>?_,λh=>?_⟩)
  ·exact absurd h (by omega)
  exfalso
  have:=h.lim.u;omega
 refine go ?_;refine aj (Wp (d:=d) (vh:=vh) (vs:=.slice oz d.symbols.length cs1) (vr:=.slice ar d.regions.length cr) (vc:=.slice ac d.aM.length cc) (vu:=.slice au d.rules.length cu) hD) (next:=λy hy=>?_);obtain⟨ok,e,v1,v2⟩:=y;cases ok with
 |false=>
  obtain⟨he,hno⟩:=hy.2 rfl;have he:e≠0:=he;dsimp only[cond,rT,oO,List.nil_append];refine go ?_;intro b3;refine go ?_;refine ay rfl (λk6=>?_) (λk6=>?_)
  rotate_left
  ·exact absurd (gM.1 k6) he
  refine go ?_;exact ae e (hv:=rfl) (hp:=⟨λh=>absurd h he,λh=>absurd h.rs hno⟩)
 |true=>
 obtain⟨he,hres⟩:=hy.1 rfl;have he:e=0:=he;subst he;clear hy;dsimp only[cond,rT,oO,List.cons_append,List.nil_append];refine go ?_;intro b3;refine go ?_;refine fD (ah aa vh (Kd.bH d).holes) (λw hw=>hw (ah aa vh d.holes) (by simp)) ?_;refine fD (ah fo (.slice oz d.symbols.length cs1) (Kd.bH d).symbols) (λw hw=>hw (ah fo (.slice oz d.symbols.length cs1) d.symbols) (by simp)) ?_;refine fD (ah fA (.slice ar d.regions.length cr) (Kd.bH d).regions) (λw hw=>hw (ah fA (.slice ar d.regions.length cr) d.regions) (by simp)) ?_;refine aj (aic (x:=Kd.bH d) (y:=d) (h1:=vh) (s1:=.slice oz d.symbols.length cs1) (r1:=.slice ar d.regions.length cr) (c1:=v1) (u1:=v2) (h2:=vh) (s2:=.slice oz d.symbols.length cs1) (r2:=.slice ar d.regions.length cr) (c2:=.slice ac d.aM.length cc) (u2:=.slice au d.rules.length cu) hD.bH) (next:=λ_ _=>?_);refine go ?_;refine kV (λk7=>?_) (λk7=>?_)
 rotate_left
 ·refine go ?_;refine ae 170 (hv:=rfl) (hp:=⟨λh=>?_,λh=>?_⟩)
  ·exact absurd h (by omega)
  exfalso
  exact k7 h.same
 refine go ?_;refine gG (λk8=>?_) (λk8=>?_)
 rotate_left
 ·refine go ?_;refine ae 170 (hv:=rfl) (hp:=⟨λh=>?_,λh=>?_⟩)
  ·exact absurd h (by omega)
  exfalso
  have:=h.OD;omega
 refine go ?_;refine ay rfl (λk9=>?_) (λk9=>?_)
 ·refine go ?_;refine ae 170 (hv:=rfl) (hp:=⟨λh=>?_,λh=>?_⟩)
  ·exact absurd h (by omega)
  exfalso
  have:=h.OD;omega
 refine go ?_;refine aj (OX (s:=d.shape) (w:=d.w) (h:=d.h) (holes:=d.holes) (vh:=vh) hT.w hT.h hT.holes) (next:=λy hy=>?_);obtain⟨ok,gh,gc⟩:=y;cases ok with
 |false=>
  have hno:¬oM d.shape d.w d.h d.holes:=λh=>by have:=hy.2 h;cases this
  dsimp only[mkV,pG,cond,List.nil_append];refine go ?_;intro b5;refine go ?_;exact ae 130 (hv:=rfl) (hp:=⟨(λh=>by cases h),λh=>absurd h.Dg hno⟩)
 |true=>
 have hmk:=hy.1 rfl;clear hy;dsimp only[cond,mkV,pG];rw[show wm d.shape d.w d.h d.holes=aQ d from rfl];dsimp only[jD,iW,List.cons_append,List.nil_append];refine go ?_;intro b5;refine go ?_;have htr:=aii (d:=d) (vh:=vh) (vs:=.slice oz d.symbols.length cs1) (vr:=.slice ar d.regions.length cr) (vc:=.slice ac d.aM.length cc) (vu:=.slice au d.rules.length cu) (gh:=gh) (gc:=gc) (g:=aQ d) hD (FX hmk);dsimp only[jD,iW]at htr;refine aj htr (next:=λe he=>?_);refine go ?_;refine ay rfl (λk10=>?_) (λk10=>?_)
 ·refine go ?_;exact ae e (hv:=rfl) (hp:=⟨λh=>absurd h k10,λh=>absurd (he.2 h.Bd) k10⟩)
 have hrg:=he.1 (gM.1 k10);clear he k10;refine go ?_;refine aj (aiE (d:=d) (vh:=vh) (vs:=.slice oz d.symbols.length cs1) (vr:=.slice ar d.regions.length cr) (vc:=.slice ac d.aM.length cc) (vu:=.slice au d.rules.length cu) hD) (next:=λb hb=>?_);cases b with
 |false=>
  refine go ?_;exact ae 170 (hv:=rfl) (hp:=⟨(λh=>by cases h),λh=>absurd (hb.2 h.form) (by simp)⟩)
 |true=>
 have hfm:=hb.1 rfl;clear hb;refine go ?_;refine aj (aim (d:=d) (vh:=vh) (vs:=.slice oz d.symbols.length cs1) (vr:=.slice ar d.regions.length cr) (vc:=.slice ac d.aM.length cc) (vu:=.slice au d.rules.length cu) rU) (next:=λa3 _=>?_);refine go ?_;refine ay rfl (λk11=>?_) (λk11=>?_)
 ·refine go ?_;refine ae 171 (hv:=rfl) (hp:=⟨λh=>?_,λh=>?_⟩)
  ·exact absurd h (by omega)
  exfalso
  rw[h.read]at k11;simp at k11
 refine go ?_;exact ae 0 (hv:=rfl) (hp:=⟨λ_=>⟨⟨by omega,by omega,by omega,by omega,by omega⟩,hres,k7,⟨by omega,by omega⟩,hmk,hrg,hfm,jQ.1 (by omega)⟩,λ_=>rfl⟩)
