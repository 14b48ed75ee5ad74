/- Part. -/
import Derived.Test.YtignbinlipkmfaaGreatDoorLibWK
set_option linter.all false
set_option maxRecDepth 10000
set_option maxHeartbeats 4000000
namespace Go.Proofs.YtignbinlipkmfaaGreatDoor
open Go.Ideal Kd
variable{d:bG}{vh vs vr vc vu v1 v2:ah}{r:bE}
def alU(hk:r.kind=8)(hcl:d.aR.length<=4096)(h1:r.names.length<2^63)(h2:r.others.length<2^63):kg d r vh vs vr vc vu v1 v2:=by
 obtain⟨rn,ja,rk,rf,di,dm,rs,jc,iK,iL,iM,iN⟩:=r;dsimp only at hk h1 h2;subst hk;dsimp only[kg];rw[show gy 8=⟨false,true,true,false,false,true,true,0⟩from tw];refine jH qW sG λB w0=>?_;refine gF aV v1 di λa1 c1 e1=>?_;subst e1;refine gF aV v2 dm λa2 c2 e2=>?_;subst e2;refine go ?_;intro b2 b3;iterate 16 (all_goals (first
  |(refine eO (uk (d:=d) (r:=⟨rn,ja,8,rf,di,dm,rs,jc,iK,iL,iM,iN⟩) (v1:=.slice a1 di.length c1) (v2:=.slice a2 dm.length c2) hcl) (next:=λbb hbb=>?_))
  |(refine eO (sF (d:=d) (r:=⟨rn,ja,8,rf,di,dm,rs,jc,iK,iL,iM,iN⟩) (v1:=.slice a1 di.length c1) (v2:=.slice a2 dm.length c2) hcl) (next:=λbb hbb=>?_))
  |(refine go ?_;first
   |with_reducible refine p9 (λ_=>?_) (λ_=>?_)
   |with_reducible refine oD (λ_=>?_) (λ_=>?_)
   |with_reducible refine mQ (λ_=>?_) (λ_=>?_)
   |refine jC rfl ?_ ?_<;>intro _
   |refine fu rfl (λ_=>?_) (λ_=>?_)
   |refine jS rfl (λ_=>?_) (λ_=>?_)
   |skip)))
 all_goals (try simp only[ed]at *)
 all_goals (first
  |(refine fE false (hv:=tw) (hp:=⟨(λh=>by cases h),λh=>?_⟩)
    exfalso
    rw[jV rfl rfl tA]at h;obtain⟨⟨q1,q2,q3,q4,q5,q6⟩,h7⟩:=h;dsimp only at q1 q2 q3 q4 q5 q6 h7;first
     |(simp_all;done)
     |(obtain⟨⟨p1,p2,p3⟩,p4,p5,p6⟩:=h7;dsimp only at p1 p2 p3 p4 p5 p6;first|(simp_all;done)|(simp_all;omega)|omega))
  |(refine fE true (hv:=tw) (hp:=⟨λ_=>?_,λ_=>rfl⟩)
    rw[jV rfl rfl tA];first
     |(refine⟨⟨?_,?_,?_,?_,?_,?_⟩,⟨?_,?_,?_⟩,?_,?_,?_⟩<;>dsimp only<;>first|(simp_all;done)|(simp_all;omega)|omega)
     |(refine⟨⟨?_,?_,?_,?_,?_,?_⟩,?_⟩<;>first|(simp_all;done)|(simp_all;omega)))
  |(refine fE bb (hv:=tw) (hp:=?_)
    rw[jV rfl rfl tA];constructor
    .exact bh
    .exact bj))
def alV(hk:r.kind=9)(hcl:d.aR.length<=4096)(h1:r.names.length<2^63)(h2:r.others.length<2^63):kg d r vh vs vr vc vu v1 v2:=by
 obtain⟨rn,ja,rk,rf,di,dm,rs,jc,iK,iL,iM,iN⟩:=r;dsimp only at hk h1 h2;subst hk;dsimp only[kg];rw[show gy 9=⟨false,true,false,false,false,true,true,0⟩from tw];refine jH qW sG λB w0=>?_;refine gF aV v1 di λa1 c1 e1=>?_;subst e1;refine gF aV v2 dm λa2 c2 e2=>?_;subst e2;refine go ?_;intro b2 b3;iterate 16 (all_goals (first
  |(refine eO (uk (d:=d) (r:=⟨rn,ja,9,rf,di,dm,rs,jc,iK,iL,iM,iN⟩) (v1:=.slice a1 di.length c1) (v2:=.slice a2 dm.length c2) hcl) (next:=λbb hbb=>?_))
  |(refine eO (sF (d:=d) (r:=⟨rn,ja,9,rf,di,dm,rs,jc,iK,iL,iM,iN⟩) (v1:=.slice a1 di.length c1) (v2:=.slice a2 dm.length c2) hcl) (next:=λbb hbb=>?_))
  |(refine go ?_;first
   |with_reducible refine p9 (λ_=>?_) (λ_=>?_)
   |with_reducible refine oD (λ_=>?_) (λ_=>?_)
   |with_reducible refine mQ (λ_=>?_) (λ_=>?_)
   |refine jC rfl ?_ ?_<;>intro _
   |refine fu rfl (λ_=>?_) (λ_=>?_)
   |refine jS rfl (λ_=>?_) (λ_=>?_)
   |skip)))
 all_goals (try simp only[ed]at *)
 all_goals (first
  |(refine fE false (hv:=tw) (hp:=⟨(λh=>by cases h),λh=>?_⟩)
    exfalso
    rw[jV rfl rfl tA]at h;obtain⟨⟨q1,q2,q3,q4,q5,q6⟩,h7⟩:=h;dsimp only at q1 q2 q3 q4 q5 q6 h7;first
     |(simp_all;done)
     |(obtain⟨⟨p1,p2,p3⟩,p4,p5,p6⟩:=h7;dsimp only at p1 p2 p3 p4 p5 p6;first|(simp_all;done)|(simp_all;omega)|omega))
  |(refine fE true (hv:=tw) (hp:=⟨λ_=>?_,λ_=>rfl⟩)
    rw[jV rfl rfl tA];first
     |(refine⟨⟨?_,?_,?_,?_,?_,?_⟩,⟨?_,?_,?_⟩,?_,?_,?_⟩<;>dsimp only<;>first|(simp_all;done)|(simp_all;omega)|omega)
     |(refine⟨⟨?_,?_,?_,?_,?_,?_⟩,?_⟩<;>first|(simp_all;done)|(simp_all;omega)))
  |(refine fE bb (hv:=tw) (hp:=?_)
    rw[jV rfl rfl tA];constructor
    .exact bh
    .exact bj))
def alW(hk:r.kind=10)(hcl:d.aR.length<=4096)(h1:r.names.length<2^63)(h2:r.others.length<2^63):kg d r vh vs vr vc vu v1 v2:=by
 obtain⟨rn,ja,rk,rf,di,dm,rs,jc,iK,iL,iM,iN⟩:=r;dsimp only at hk h1 h2;subst hk;dsimp only[kg];rw[show gy 10=⟨false,true,false,false,false,true,true,0⟩from tw];refine jH qW sG λB w0=>?_;refine gF aV v1 di λa1 c1 e1=>?_;subst e1;refine gF aV v2 dm λa2 c2 e2=>?_;subst e2;refine go ?_;intro b2 b3;iterate 16 (all_goals (first
  |(refine eO (uk (d:=d) (r:=⟨rn,ja,10,rf,di,dm,rs,jc,iK,iL,iM,iN⟩) (v1:=.slice a1 di.length c1) (v2:=.slice a2 dm.length c2) hcl) (next:=λbb hbb=>?_))
  |(refine eO (sF (d:=d) (r:=⟨rn,ja,10,rf,di,dm,rs,jc,iK,iL,iM,iN⟩) (v1:=.slice a1 di.length c1) (v2:=.slice a2 dm.length c2) hcl) (next:=λbb hbb=>?_))
  |(refine go ?_;first
   |with_reducible refine p9 (λ_=>?_) (λ_=>?_)
   |with_reducible refine oD (λ_=>?_) (λ_=>?_)
   |with_reducible refine mQ (λ_=>?_) (λ_=>?_)
   |refine jC rfl ?_ ?_<;>intro _
   |refine fu rfl (λ_=>?_) (λ_=>?_)
   |refine jS rfl (λ_=>?_) (λ_=>?_)
   |skip)))
 all_goals (try simp only[ed]at *)
 all_goals (first
  |(refine fE false (hv:=tw) (hp:=⟨(λh=>by cases h),λh=>?_⟩)
    exfalso
    rw[jV rfl rfl tA]at h;obtain⟨⟨q1,q2,q3,q4,q5,q6⟩,h7⟩:=h;dsimp only at q1 q2 q3 q4 q5 q6 h7;first
     |(simp_all;done)
     |(obtain⟨⟨p1,p2,p3⟩,p4,p5,p6⟩:=h7;dsimp only at p1 p2 p3 p4 p5 p6;first|(simp_all;done)|(simp_all;omega)|omega))
  |(refine fE true (hv:=tw) (hp:=⟨λ_=>?_,λ_=>rfl⟩)
    rw[jV rfl rfl tA];first
     |(refine⟨⟨?_,?_,?_,?_,?_,?_⟩,⟨?_,?_,?_⟩,?_,?_,?_⟩<;>dsimp only<;>first|(simp_all;done)|(simp_all;omega)|omega)
     |(refine⟨⟨?_,?_,?_,?_,?_,?_⟩,?_⟩<;>first|(simp_all;done)|(simp_all;omega)))
  |(refine fE bb (hv:=tw) (hp:=?_)
    rw[jV rfl rfl tA];constructor
    .exact bh
    .exact bj))
def alX(hk:r.kind=11)(hcl:d.aR.length<=4096)(h1:r.names.length<2^63)(h2:r.others.length<2^63):kg d r vh vs vr vc vu v1 v2:=by
 obtain⟨rn,ja,rk,rf,di,dm,rs,jc,iK,iL,iM,iN⟩:=r;dsimp only at hk h1 h2;subst hk;dsimp only[kg];rw[show gy 11=⟨false,false,false,false,false,true,true,1⟩from tw];refine jH qW sG λB w0=>?_;refine gF aV v1 di λa1 c1 e1=>?_;subst e1;refine gF aV v2 dm λa2 c2 e2=>?_;subst e2;refine go ?_;intro b2 b3;iterate 16 (all_goals (first
  |(refine eO (uk (d:=d) (r:=⟨rn,ja,11,rf,di,dm,rs,jc,iK,iL,iM,iN⟩) (v1:=.slice a1 di.length c1) (v2:=.slice a2 dm.length c2) hcl) (next:=λbb hbb=>?_))
  |(refine eO (sF (d:=d) (r:=⟨rn,ja,11,rf,di,dm,rs,jc,iK,iL,iM,iN⟩) (v1:=.slice a1 di.length c1) (v2:=.slice a2 dm.length c2) hcl) (next:=λbb hbb=>?_))
  |(refine go ?_;first
   |with_reducible refine p9 (λ_=>?_) (λ_=>?_)
   |with_reducible refine oD (λ_=>?_) (λ_=>?_)
   |with_reducible refine mQ (λ_=>?_) (λ_=>?_)
   |refine jC rfl ?_ ?_<;>intro _
   |refine fu rfl (λ_=>?_) (λ_=>?_)
   |refine jS rfl (λ_=>?_) (λ_=>?_)
   |skip)))
 all_goals (try simp only[ed]at *)
 all_goals (first
  |(refine fE false (hv:=tw) (hp:=⟨(λh=>by cases h),λh=>?_⟩)
    exfalso
    rw[jV rfl rfl tA]at h;obtain⟨⟨q1,q2,q3,q4,q5,q6⟩,h7⟩:=h;dsimp only at q1 q2 q3 q4 q5 q6 h7;first
     |(simp_all;done)
     |(obtain⟨⟨p1,p2,p3⟩,p4,p5,p6⟩:=h7;dsimp only at p1 p2 p3 p4 p5 p6;first|(simp_all;done)|(simp_all;omega)|omega))
  |(refine fE true (hv:=tw) (hp:=⟨λ_=>?_,λ_=>rfl⟩)
    rw[jV rfl rfl tA];first
     |(refine⟨⟨?_,?_,?_,?_,?_,?_⟩,⟨?_,?_,?_⟩,?_,?_,?_⟩<;>dsimp only<;>first|(simp_all;done)|(simp_all;omega)|omega)
     |(refine⟨⟨?_,?_,?_,?_,?_,?_⟩,?_⟩<;>first|(simp_all;done)|(simp_all;omega)))
  |(refine fE bb (hv:=tw) (hp:=?_)
    rw[jV rfl rfl tA];constructor
    .exact bh
    .exact bj))
def alY(hk:r.kind=12)(hcl:d.aR.length<=4096)(h1:r.names.length<2^63)(h2:r.others.length<2^63):kg d r vh vs vr vc vu v1 v2:=by
 obtain⟨rn,ja,rk,rf,di,dm,rs,jc,iK,iL,iM,iN⟩:=r;dsimp only at hk h1 h2;subst hk;dsimp only[kg];rw[show gy 12=⟨true,false,false,false,false,false,true,0⟩from tw];refine jH qW sG λB w0=>?_;refine gF aV v1 di λa1 c1 e1=>?_;subst e1;refine gF aV v2 dm λa2 c2 e2=>?_;subst e2;refine go ?_;intro b2 b3;iterate 16 (all_goals (first
  |(refine eO (uk (d:=d) (r:=⟨rn,ja,12,rf,di,dm,rs,jc,iK,iL,iM,iN⟩) (v1:=.slice a1 di.length c1) (v2:=.slice a2 dm.length c2) hcl) (next:=λbb hbb=>?_))
  |(refine eO (sF (d:=d) (r:=⟨rn,ja,12,rf,di,dm,rs,jc,iK,iL,iM,iN⟩) (v1:=.slice a1 di.length c1) (v2:=.slice a2 dm.length c2) hcl) (next:=λbb hbb=>?_))
  |(refine go ?_;first
   |with_reducible refine p9 (λ_=>?_) (λ_=>?_)
   |with_reducible refine oD (λ_=>?_) (λ_=>?_)
   |with_reducible refine mQ (λ_=>?_) (λ_=>?_)
   |refine jC rfl ?_ ?_<;>intro _
   |refine fu rfl (λ_=>?_) (λ_=>?_)
   |refine jS rfl (λ_=>?_) (λ_=>?_)
   |skip)))
 all_goals (try simp only[ed]at *)
 all_goals (first
  |(refine fE false (hv:=tw) (hp:=⟨(λh=>by cases h),λh=>?_⟩)
    exfalso
    rw[jV rfl rfl tA]at h;obtain⟨⟨q1,q2,q3,q4,q5,q6⟩,h7⟩:=h;dsimp only at q1 q2 q3 q4 q5 q6 h7;first
     |(simp_all;done)
     |(obtain⟨⟨p1,p2,p3⟩,p4,p5,p6⟩:=h7;dsimp only at p1 p2 p3 p4 p5 p6;first|(simp_all;done)|(simp_all;omega)|omega))
  |(refine fE true (hv:=tw) (hp:=⟨λ_=>?_,λ_=>rfl⟩)
    rw[jV rfl rfl tA];first
     |(refine⟨⟨?_,?_,?_,?_,?_,?_⟩,⟨?_,?_,?_⟩,?_,?_,?_⟩<;>dsimp only<;>first|(simp_all;done)|(simp_all;omega)|omega)
     |(refine⟨⟨?_,?_,?_,?_,?_,?_⟩,?_⟩<;>first|(simp_all;done)|(simp_all;omega)))
  |(refine fE bb (hv:=tw) (hp:=?_)
    rw[jV rfl rfl tA];constructor
    .exact bh
    .exact bj))
def alZ(hk:r.kind=13)(hcl:d.aR.length<=4096)(h1:r.names.length<2^63)(h2:r.others.length<2^63):kg d r vh vs vr vc vu v1 v2:=by
 obtain⟨rn,ja,rk,rf,di,dm,rs,jc,iK,iL,iM,iN⟩:=r;dsimp only at hk h1 h2;subst hk;dsimp only[kg];rw[show gy 13=⟨false,false,false,true,false,false,true,0⟩from tw];refine jH qW sG λB w0=>?_;refine gF aV v1 di λa1 c1 e1=>?_;subst e1;refine gF aV v2 dm λa2 c2 e2=>?_;subst e2;refine go ?_;intro b2 b3;iterate 16 (all_goals (first
  |(refine eO (uk (d:=d) (r:=⟨rn,ja,13,rf,di,dm,rs,jc,iK,iL,iM,iN⟩) (v1:=.slice a1 di.length c1) (v2:=.slice a2 dm.length c2) hcl) (next:=λbb hbb=>?_))
  |(refine eO (sF (d:=d) (r:=⟨rn,ja,13,rf,di,dm,rs,jc,iK,iL,iM,iN⟩) (v1:=.slice a1 di.length c1) (v2:=.slice a2 dm.length c2) hcl) (next:=λbb hbb=>?_))
  |(refine go ?_;first
   |with_reducible refine p9 (λ_=>?_) (λ_=>?_)
   |with_reducible refine oD (λ_=>?_) (λ_=>?_)
   |with_reducible refine mQ (λ_=>?_) (λ_=>?_)
   |refine jC rfl ?_ ?_<;>intro _
   |refine fu rfl (λ_=>?_) (λ_=>?_)
   |refine jS rfl (λ_=>?_) (λ_=>?_)
   |skip)))
 all_goals (try simp only[ed]at *)
 all_goals (first
  |(refine fE false (hv:=tw) (hp:=⟨(λh=>by cases h),λh=>?_⟩)
    exfalso
    rw[zn rfl rfl rfl rfl]at h;obtain⟨⟨q1,q2,q3,q4,q5,q6⟩,h7⟩:=h;dsimp only at q1 q2 q3 q4 q5 q6 h7;first
     |(simp_all;done)
     |(obtain⟨⟨p1,p2,p3⟩,p4,p5,p6⟩:=h7;dsimp only at p1 p2 p3 p4 p5 p6;first|(simp_all;done)|(simp_all;omega)|omega))
  |(refine fE true (hv:=tw) (hp:=⟨λ_=>?_,λ_=>rfl⟩)
    rw[zn rfl rfl rfl rfl];first
     |(refine⟨⟨?_,?_,?_,?_,?_,?_⟩,⟨?_,?_,?_⟩,?_,?_,?_⟩<;>dsimp only<;>first|(simp_all;done)|(simp_all;omega)|omega)
     |(refine⟨⟨?_,?_,?_,?_,?_,?_⟩,?_⟩<;>first|(simp_all;done)|(simp_all;omega)))
  |(refine fE bb (hv:=tw) (hp:=?_)
    rw[zn rfl rfl rfl rfl];constructor
    .exact bh
    .exact bj))
def al0(hk:¬(1<=r.kind/\r.kind<=13)):kg d r vh vs vr vc vu v1 v2:=by
 dsimp only[kg];have hx:¬wM (gy r.kind) d.aR r:=λh=>by
  have h1:=h.known;by_cases h0:r.kind=0
  .rw[h0]at h1;cases h1
  .rw[Ei tr]at h1;cases h1
 refine jH qW sG λB w0=>?_;refine go ?_;intro b2 b3;iterate 13 (refine go ?_;refine jC rfl (λh=>?_) (λ_=>?_);(exfalso;omega))
 refine go ?_;exact gQ false ⟨(λh=>by cases h),λh=>absurd h hx⟩
def al1(hcl:d.aR.length<=4096)(h1:r.names.length<2^63)(h2:r.others.length<2^63):kg d r vh vs vr vc vu v1 v2:=by
 by_cases h:1<=r.kind/\r.kind<=13
 .rcases(show r.kind=1\/r.kind=2\/r.kind=3\/r.kind=4\/r.kind=5\/r.kind=6\/r.kind=7\/r.kind=8\/r.kind=9\/r.kind=10\/r.kind=11\/r.kind=12\/r.kind=13 by omega)with hk|hk|hk|hk|hk|hk|hk|hk|hk|hk|hk|hk|hk
  .exact alN hk hcl h1 h2
  .exact alO hk hcl h1 h2
  .exact alP hk hcl h1 h2
  .exact alQ hk hcl h1 h2
  .exact alR hk hcl h1 h2
  .exact alS hk hcl h1 h2
  .exact alT hk hcl h1 h2
  .exact alU hk hcl h1 h2
  .exact alV hk hcl h1 h2
  .exact alW hk hcl h1 h2
  .exact alX hk hcl h1 h2
  .exact alY hk hcl h1 h2
  .exact alZ hk hcl h1 h2
 .exact al0 h
def al2(hS:nW d):
 fC Tryz.prog 136 [.agg ⟨gW d vh vs vr vc vu⟩] [aj eT vs d.symbols,aj bV vc d.aR,aj bz vu d.rules] (λb:Bool=>.bool b) (λb=>b=true↔Lb d):=by
 have hsl:=hS.dG;have hcl:=hS.kD;have xO:=hS.l7;refine gB 136 λB w0=>?_;refine gF eT vs d.symbols λpg cs1 es=>?_;subst es;refine gF bV vc d.aR λac cc ec=>?_;subst ec;refine gF bz vu d.rules λau cu eu=>?_;subst eu;refine go ?_;intro b1;refine gP b1 ?_;refine gN d.symbols.length 3 (λk=>k<=d.symbols.length/\∀s∈d.symbols.take k,0<=s.value/\s.value<=99) ⟨bP _,tt⟩ ?_;rintro k ⟨hk,hall⟩;refine aB ?_ ?_<;>intro h1
 .refine gX eT (xs:=d.symbols) λ_ _ s (_:Unit) hs=>?_;have hsm:=aS hs;refine gH ?_ ?_<;>intro h2
  rotate_left
  .exact dl
  refine gX eT (xs:=d.symbols) λ_ _ s' (_:Unit) hs'=>?_;cases hs.symm.trans hs';refine aB ?_ ?_<;>intro h3
  .exact dl
  exact eW
 have hks:k=d.symbols.length:=tr
 subst hks;rw[bM]at hall;clear hk h1;refine gN d.rules.length 4 (λk=>k<=d.rules.length/\∀r∈d.rules.take k,wM (gy r.kind) d.aR r) ⟨bP _,tt⟩ ?_;rintro k ⟨hk,Ci⟩;refine aB ?_ ?_<;>intro h1
 .refine gX bz (xs:=d.rules) λ_ _ r (vv:ah×ah) hr=>?_;have hrm:=aS hr;have hrn:=hS.tT r hrm;refine gC (al1 (d:=d) (r:=r) (v1:=vv.1) (v2:=vv.2) hcl hrn.1 hrn.2) λb hb=>?_;cases b with
  |false=>
   exact nw
  |true=>
   have hR:=hb.1 rfl;exact fa
 have hkr:k=d.rules.length:=tr
 subst hkr;rw[bM]at Ci;clear hk h1;refine gN d.aR.length 5 (λk=>k<=d.aR.length/\∀(i:Nat) (c:jo),i<k->d.aR[i]? =some c->(d.rules.map (·.aX)).count (i:Int)=1/\qg c) ⟨bP _,λi c h=>by omega⟩ ?_;rintro k ⟨hk,GQ⟩;refine aB ?_ ?_<;>intro h1
 .obtain⟨c,hc⟩:∃c,d.aR[k]? =some c:=⟨d.aR[k]'(tr),bX _⟩
  refine gL (λj:Nat=>d.rules.length - j) (λj=>[(7,iV (j:Int)),(6,iV (((d.rules.take j).map (·.aX)).count (k:Int):Nat))]) (λj=>j<=d.rules.length) 0 (bP _) ?_;intro j hj;have hcn:((d.rules.take j).map (·.aX)).count (k:Int)<=4096:=by
   have:=Wp (k:Int) ((d.rules.take j).map (·.aX));rw[bZ,iY]at this;omega
  refine aB ?_ ?_<;>intro h2
  .refine gX bz (xs:=d.rules) λ_ _ r (vv:ah×ah) hr=>?_;have hst:((d.rules.take (j+1)).map (·.aX)).count (k:Int)=((d.rules.take j).map (·.aX)).count (k:Int)+if r.aX=(k:Int)then 1 else 0:=by
    rw[cB hr,fG,sN,List.count_append,List.count_singleton];congr 1;by_cases e:r.aX=(k:Int)<;>simp[e]
   refine aB ?_ ?_<;>intro h3
   .rw[if_pos h3]at hst;exact jj
   .rw[if_neg h3]at hst;exact jj
  have hjr:j=d.rules.length:=tr
  subst hjr;rw[bM]at hcn⊢;refine gH ?_ ?_<;>intro h3
  .refine gX bV (xs:=d.aR) λ_ _ c' (_:Unit) hc'=>?_;cases hc.symm.trans hc';refine gC (alI (c:=c)) λ_ _=>?_;refine go ?_;refine fu rfl (λh4=>?_) (λh4=>?_)
   .refine go ?_;exact gQ false ⟨(λh=>by cases h),λh=>absurd (h.kD k c hc).2 h4⟩
   .refine go ?_;refine aQ (k+1) AD ⟨tr,λi x hi hx=>?_⟩;by_cases hik:i=k
    .subst hik;rw[hc]at hx;cases hx;exact⟨tr,h4⟩
    .exact GQ i x tr hx
  .exact nn
 have hkc:k=d.aR.length:=tr
 subst hkc;refine go ?_;exact gQ true ⟨λ_=>⟨hall,Ci,λi c hc=>GQ i c (bC.1 hc).1 hc⟩,λ_=>rfl⟩
def al3(hT:wN d):fC Tryz.prog 86 [.agg ⟨gW d vh vs vr vc vu⟩] (mH d vh vs vr vc vu) (λe:Int=>iV e) (λe=>e=0↔GR d):=by
 have hD:=hT.s;have hsl:=hD.dG;have hrl:=hD.regs;have hcl:=hD.kD;have xO:=hD.l7;refine gB 86 λB w0=>?_;refine gF eT vs d.symbols λpg cs1 es=>?_;subst es;refine gF fw vr d.regions λar cr er=>?_;subst er;refine gF bV vc d.aR λac cc ec=>?_;subst ec;refine gF bz vu d.rules λau cu eu=>?_;subst eu;refine go ?_;intro b1;refine gP b1 ?_;refine gH ?_ ?_<;>intro k1
 rotate_left
 .refine go ?_;refine gQ 2 ⟨λh=>?_,λh=>?_⟩
  .exact i6
  exfalso
  have:=h.lim.s0;omega
 refine gH ?_ ?_<;>intro k2
 rotate_left
 .refine go ?_;refine gQ 2 ⟨λh=>?_,λh=>?_⟩
  .exact i6
  exfalso
  have:=h.lim.s1;omega
 refine gH ?_ ?_<;>intro k3
 rotate_left
 .refine go ?_;refine gQ 2 ⟨λh=>?_,λh=>?_⟩
  .exact i6
  exfalso
  have:=h.lim.r;omega
 refine gH ?_ ?_<;>intro k4
 rotate_left
 .refine go ?_;refine gQ 2 ⟨λh=>?_,λh=>?_⟩
  .exact i6
  exfalso
  have:=h.lim.c;omega
 refine aB ?_ ?_<;>intro k5
 .refine go ?_;refine gQ 2 ⟨λh=>?_,λh=>?_⟩
  .exact i6
  exfalso
  have:=h.lim.u;omega
 refine gC (YF (d:=d) hD) λy hy=>?_;obtain⟨ok,e,v1,v2⟩:=y;cases ok with
 |false=>
  obtain⟨he,hno⟩:=hy.2 rfl;have he:e≠0:=he;dsimp only[cond,tQ,qf,List.nil_append];refine go ?_;intro b3;refine aB ?_ ?_<;>intro k6
  rotate_left
  .exact absurd (iD.1 k6) he
  refine go ?_;exact gQ e ⟨λh=>absurd h he,λh=>absurd h.rs hno⟩
 |true=>
 obtain⟨he,hres⟩:=hy.1 rfl;have he:e=0:=he;subst he;clear hy;dsimp only[cond,tQ,qf,List.cons_append,List.nil_append];refine go ?_;intro b3;refine go ?_;refine fM (aj ai vh (Kd.bH d).holes) (λw hw=>hw (aj ai vh d.holes) tt) ?_;refine fM (aj eT (.slice pg d.symbols.length cs1) (Kd.bH d).symbols) (λw hw=>hw (aj eT (.slice pg d.symbols.length cs1) d.symbols) tt) ?_;refine fM (aj fw (.slice ar d.regions.length cr) (Kd.bH d).regions) (λw hw=>hw (aj fw (.slice ar d.regions.length cr) d.regions) tt) ?_;refine eO (alC (x:=Kd.bH d) (y:=d) (h1:=vh) (s1:=.slice pg d.symbols.length cs1) (r1:=.slice ar d.regions.length cr) (c1:=v1) (u1:=v2) (h2:=vh) (s2:=.slice pg d.symbols.length cs1) (r2:=.slice ar d.regions.length cr) (c2:=.slice ac d.aR.length cc) (u2:=.slice au d.rules.length cu) hD.bH) (next:=λ_ _=>?_);refine go ?_;refine oD (λk7=>?_) (λk7=>?_)
 rotate_left
 .refine go ?_;refine gQ 170 ⟨λh=>?_,λh=>?_⟩
  .exact i6
  exfalso
  exact k7 h.same
 refine gH ?_ ?_<;>intro k8
 rotate_left
 .exact tj
 refine aB ?_ ?_<;>intro k9
 .exact tj
 refine gC (QS (s:=d.shape) (w:=d.w) (h:=d.h) (holes:=d.holes) (vh:=vh) hT.w hT.h hT.holes) λy hy=>?_;obtain⟨ok,gh,gc⟩:=y;cases ok with
 |false=>
  have hno:¬qc d.shape d.w d.h d.holes:=λh=>by have:=hy.2 h;cases this
  dsimp only[mkV,qB,cond,List.nil_append];refine go ?_;intro b5;refine go ?_;exact gQ 130 ⟨(λh=>by cases h),λh=>absurd h.Ej hno⟩
 |true=>
 have hmk:=hy.1 rfl;clear hy;dsimp only[cond,mkV,qB];rw[show xQ d.shape d.w d.h d.holes=aU d from rfl];dsimp only[jU,jm,List.cons_append,List.nil_append];refine go ?_;intro b5;refine go ?_;have htr:=alH (d:=d) (vh:=vh) (vs:=.slice pg d.symbols.length cs1) (vr:=.slice ar d.regions.length cr) (vc:=.slice ac d.aR.length cc) (vu:=.slice au d.rules.length cu) (gh:=gh) (gc:=gc) (g:=aU d) hD (GU hmk);dsimp only[jU,jm]at htr;refine eO htr (next:=λe he=>?_);refine aB ?_ ?_<;>intro k10
 .refine go ?_;exact gQ e ⟨λh=>absurd h k10,λh=>absurd (he.2 h.Av) k10⟩
 have hrg:=he.1 (iD.1 k10);clear he k10;refine gC (al2 (d:=d) hD) λb hb=>?_;cases b with
 |false=>
  refine go ?_;exact gQ 170 ⟨(λh=>by cases h),λh=>absurd (hb.2 h.form) tt⟩
 |true=>
 have hfm:=hb.1 rfl;clear hb;refine gC (alL (d:=d) xO) λa3 _=>?_;refine aB ?_ ?_<;>intro k11
 .refine go ?_;refine gQ 171 ⟨λh=>?_,λh=>?_⟩
  .exact i6
  exfalso
  rw[h.read]at k11;simp at k11
 refine go ?_;exact gQ 0 ⟨λ_=>⟨⟨tr,tr,tr,tr,tr⟩,hres,k7,⟨tr,tr⟩,hmk,hrg,hfm,jX.1 tr⟩,λ_=>rfl⟩
