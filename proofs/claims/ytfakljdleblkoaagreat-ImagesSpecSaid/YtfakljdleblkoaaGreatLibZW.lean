/-
  Part LibZW.
-/
import Derived.Test.YtfakljdleblkoaaGreatLibWW
import Derived.Test.YtfakljdleblkoaaGreatLibVW
set_option linter.all false
set_option maxRecDepth 10000
set_option maxHeartbeats 4000000
namespace Go.Proofs.YtfakljdleblkoaaGreat
open Go.Ideal Kd
variable{d:bE}{vh vs vr vc vu v1 v2:Value}{r:bA}
theorem ahY(hk:r.kind=8)(hcl:d.aJ.length<=4096)(h1:r.names.length<9223372036854775808)(h2:r.others.length<9223372036854775808):jr d r vh vs vr vc vu v1 v2:=by
 obtain⟨rn,iy,rk,rf,cB,cK,rs,iC,gL,gM,gN,gP⟩:=r;dsimp only at hk h1 h2;subst hk;dsimp only[jr];rw[show fH 8=⟨false,true,true,false,false,true,true,0⟩from wg];refine aH pY qG λB w0=>?_;refine aT (E:=bD) (v:=v1) (xs:=cB) vm λa1 c1 e1=>?_;subst e1;refine aT (E:=bD) (v:=v2) (xs:=cK) vm λa2 c2 e2=>?_;subst e2;refine go ?_;intro b2 b3;iterate 16 (all_goals (first
  |(refine ax (rU (d:=d) (r:=⟨rn,iy,8,rf,cB,cK,rs,iC,gL,gM,gN,gP⟩) (v1:=.slice a1 cB.length c1) (v2:=.slice a2 cK.length c2) hcl) (next:=λbb hbb=>?_))
  |(refine ax (qF (d:=d) (r:=⟨rn,iy,8,rf,cB,cK,rs,iC,gL,gM,gN,gP⟩) (v1:=.slice a1 cB.length c1) (v2:=.slice a2 cK.length c2) hcl) (next:=λbb hbb=>?_))
  |(refine go ?_;first
   |with_reducible refine og (λ_=>?_) (λ_=>?_)
   |with_reducible refine nu (λ_=>?_) (λ_=>?_)
   |with_reducible refine lH (λ_=>?_) (λ_=>?_)
   |refine az rfl (λ_=>?_) (λ_=>?_)
   |refine eO rfl (λ_=>?_) (λ_=>?_)
   |refine jh rfl (λ_=>?_) (λ_=>?_)
   |skip)))
 all_goals (try simp only[dY]at *)
 all_goals (first
  |(refine ah false (hv:=wg) (hp:=⟨(λh=>by cases h),λh=>?_⟩)
    exfalso
    rw[jl rfl rfl wj]at h;obtain⟨⟨q1,q2,q3,q4,q5,q6⟩,h7⟩:=h;dsimp only at q1 q2 q3 q4 q5 q6 h7;first
     |(simp_all;done)
     |(obtain⟨⟨p1,p2,p3⟩,p4,p5,p6⟩:=h7;dsimp only at p1 p2 p3 p4 p5 p6;first|(simp_all;done)|(simp_all;omega)|omega))
  |(refine ah true (hv:=wg) (hp:=⟨λ_=>?_,λ_=>rfl⟩)
    rw[jl rfl rfl wj];first
     |(refine⟨⟨?_,?_,?_,?_,?_,?_⟩,⟨?_,?_,?_⟩,?_,?_,?_⟩<;>dsimp only<;>first|(simp_all;done)|(simp_all;omega)|omega)
     |(refine⟨⟨?_,?_,?_,?_,?_,?_⟩,?_⟩<;>first|(simp_all;done)|(simp_all;omega)))
  |(refine ah bb (hv:=wg) (hp:=?_)
    rw[jl rfl rfl wj];constructor
    ·exact cw
    ·exact cD))
theorem ahZ(hk:r.kind=9)(hcl:d.aJ.length<=4096)(h1:r.names.length<9223372036854775808)(h2:r.others.length<9223372036854775808):jr d r vh vs vr vc vu v1 v2:=by
 obtain⟨rn,iy,rk,rf,cB,cK,rs,iC,gL,gM,gN,gP⟩:=r;dsimp only at hk h1 h2;subst hk;dsimp only[jr];rw[show fH 9=⟨false,true,false,false,false,true,true,0⟩from wg];refine aH pY qG λB w0=>?_;refine aT (E:=bD) (v:=v1) (xs:=cB) vm λa1 c1 e1=>?_;subst e1;refine aT (E:=bD) (v:=v2) (xs:=cK) vm λa2 c2 e2=>?_;subst e2;refine go ?_;intro b2 b3;iterate 16 (all_goals (first
  |(refine ax (rU (d:=d) (r:=⟨rn,iy,9,rf,cB,cK,rs,iC,gL,gM,gN,gP⟩) (v1:=.slice a1 cB.length c1) (v2:=.slice a2 cK.length c2) hcl) (next:=λbb hbb=>?_))
  |(refine ax (qF (d:=d) (r:=⟨rn,iy,9,rf,cB,cK,rs,iC,gL,gM,gN,gP⟩) (v1:=.slice a1 cB.length c1) (v2:=.slice a2 cK.length c2) hcl) (next:=λbb hbb=>?_))
  |(refine go ?_;first
   |with_reducible refine og (λ_=>?_) (λ_=>?_)
   |with_reducible refine nu (λ_=>?_) (λ_=>?_)
   |with_reducible refine lH (λ_=>?_) (λ_=>?_)
   |refine az rfl (λ_=>?_) (λ_=>?_)
   |refine eO rfl (λ_=>?_) (λ_=>?_)
   |refine jh rfl (λ_=>?_) (λ_=>?_)
   |skip)))
 all_goals (try simp only[dY]at *)
 all_goals (first
  |(refine ah false (hv:=wg) (hp:=⟨(λh=>by cases h),λh=>?_⟩)
    exfalso
    rw[jl rfl rfl wj]at h;obtain⟨⟨q1,q2,q3,q4,q5,q6⟩,h7⟩:=h;dsimp only at q1 q2 q3 q4 q5 q6 h7;first
     |(simp_all;done)
     |(obtain⟨⟨p1,p2,p3⟩,p4,p5,p6⟩:=h7;dsimp only at p1 p2 p3 p4 p5 p6;first|(simp_all;done)|(simp_all;omega)|omega))
  |(refine ah true (hv:=wg) (hp:=⟨λ_=>?_,λ_=>rfl⟩)
    rw[jl rfl rfl wj];first
     |(refine⟨⟨?_,?_,?_,?_,?_,?_⟩,⟨?_,?_,?_⟩,?_,?_,?_⟩<;>dsimp only<;>first|(simp_all;done)|(simp_all;omega)|omega)
     |(refine⟨⟨?_,?_,?_,?_,?_,?_⟩,?_⟩<;>first|(simp_all;done)|(simp_all;omega)))
  |(refine ah bb (hv:=wg) (hp:=?_)
    rw[jl rfl rfl wj];constructor
    ·exact cw
    ·exact cD))
theorem ah0(hk:r.kind=10)(hcl:d.aJ.length<=4096)(h1:r.names.length<9223372036854775808)(h2:r.others.length<9223372036854775808):jr d r vh vs vr vc vu v1 v2:=by
 obtain⟨rn,iy,rk,rf,cB,cK,rs,iC,gL,gM,gN,gP⟩:=r;dsimp only at hk h1 h2;subst hk;dsimp only[jr];rw[show fH 10=⟨false,true,false,false,false,true,true,0⟩from wg];refine aH pY qG λB w0=>?_;refine aT (E:=bD) (v:=v1) (xs:=cB) vm λa1 c1 e1=>?_;subst e1;refine aT (E:=bD) (v:=v2) (xs:=cK) vm λa2 c2 e2=>?_;subst e2;refine go ?_;intro b2 b3;iterate 16 (all_goals (first
  |(refine ax (rU (d:=d) (r:=⟨rn,iy,10,rf,cB,cK,rs,iC,gL,gM,gN,gP⟩) (v1:=.slice a1 cB.length c1) (v2:=.slice a2 cK.length c2) hcl) (next:=λbb hbb=>?_))
  |(refine ax (qF (d:=d) (r:=⟨rn,iy,10,rf,cB,cK,rs,iC,gL,gM,gN,gP⟩) (v1:=.slice a1 cB.length c1) (v2:=.slice a2 cK.length c2) hcl) (next:=λbb hbb=>?_))
  |(refine go ?_;first
   |with_reducible refine og (λ_=>?_) (λ_=>?_)
   |with_reducible refine nu (λ_=>?_) (λ_=>?_)
   |with_reducible refine lH (λ_=>?_) (λ_=>?_)
   |refine az rfl (λ_=>?_) (λ_=>?_)
   |refine eO rfl (λ_=>?_) (λ_=>?_)
   |refine jh rfl (λ_=>?_) (λ_=>?_)
   |skip)))
 all_goals (try simp only[dY]at *)
 all_goals (first
  |(refine ah false (hv:=wg) (hp:=⟨(λh=>by cases h),λh=>?_⟩)
    exfalso
    rw[jl rfl rfl wj]at h;obtain⟨⟨q1,q2,q3,q4,q5,q6⟩,h7⟩:=h;dsimp only at q1 q2 q3 q4 q5 q6 h7;first
     |(simp_all;done)
     |(obtain⟨⟨p1,p2,p3⟩,p4,p5,p6⟩:=h7;dsimp only at p1 p2 p3 p4 p5 p6;first|(simp_all;done)|(simp_all;omega)|omega))
  |(refine ah true (hv:=wg) (hp:=⟨λ_=>?_,λ_=>rfl⟩)
    rw[jl rfl rfl wj];first
     |(refine⟨⟨?_,?_,?_,?_,?_,?_⟩,⟨?_,?_,?_⟩,?_,?_,?_⟩<;>dsimp only<;>first|(simp_all;done)|(simp_all;omega)|omega)
     |(refine⟨⟨?_,?_,?_,?_,?_,?_⟩,?_⟩<;>first|(simp_all;done)|(simp_all;omega)))
  |(refine ah bb (hv:=wg) (hp:=?_)
    rw[jl rfl rfl wj];constructor
    ·exact cw
    ·exact cD))
theorem ah1(hk:r.kind=11)(hcl:d.aJ.length<=4096)(h1:r.names.length<9223372036854775808)(h2:r.others.length<9223372036854775808):jr d r vh vs vr vc vu v1 v2:=by
 obtain⟨rn,iy,rk,rf,cB,cK,rs,iC,gL,gM,gN,gP⟩:=r;dsimp only at hk h1 h2;subst hk;dsimp only[jr];rw[show fH 11=⟨false,false,false,false,false,true,true,1⟩from wg];refine aH pY qG λB w0=>?_;refine aT (E:=bD) (v:=v1) (xs:=cB) vm λa1 c1 e1=>?_;subst e1;refine aT (E:=bD) (v:=v2) (xs:=cK) vm λa2 c2 e2=>?_;subst e2;refine go ?_;intro b2 b3;iterate 16 (all_goals (first
  |(refine ax (rU (d:=d) (r:=⟨rn,iy,11,rf,cB,cK,rs,iC,gL,gM,gN,gP⟩) (v1:=.slice a1 cB.length c1) (v2:=.slice a2 cK.length c2) hcl) (next:=λbb hbb=>?_))
  |(refine ax (qF (d:=d) (r:=⟨rn,iy,11,rf,cB,cK,rs,iC,gL,gM,gN,gP⟩) (v1:=.slice a1 cB.length c1) (v2:=.slice a2 cK.length c2) hcl) (next:=λbb hbb=>?_))
  |(refine go ?_;first
   |with_reducible refine og (λ_=>?_) (λ_=>?_)
   |with_reducible refine nu (λ_=>?_) (λ_=>?_)
   |with_reducible refine lH (λ_=>?_) (λ_=>?_)
   |refine az rfl (λ_=>?_) (λ_=>?_)
   |refine eO rfl (λ_=>?_) (λ_=>?_)
   |refine jh rfl (λ_=>?_) (λ_=>?_)
   |skip)))
 all_goals (try simp only[dY]at *)
 all_goals (first
  |(refine ah false (hv:=wg) (hp:=⟨(λh=>by cases h),λh=>?_⟩)
    exfalso
    rw[jl rfl rfl wj]at h;obtain⟨⟨q1,q2,q3,q4,q5,q6⟩,h7⟩:=h;dsimp only at q1 q2 q3 q4 q5 q6 h7;first
     |(simp_all;done)
     |(obtain⟨⟨p1,p2,p3⟩,p4,p5,p6⟩:=h7;dsimp only at p1 p2 p3 p4 p5 p6;first|(simp_all;done)|(simp_all;omega)|omega))
  |(refine ah true (hv:=wg) (hp:=⟨λ_=>?_,λ_=>rfl⟩)
    rw[jl rfl rfl wj];first
     |(refine⟨⟨?_,?_,?_,?_,?_,?_⟩,⟨?_,?_,?_⟩,?_,?_,?_⟩<;>dsimp only<;>first|(simp_all;done)|(simp_all;omega)|omega)
     |(refine⟨⟨?_,?_,?_,?_,?_,?_⟩,?_⟩<;>first|(simp_all;done)|(simp_all;omega)))
  |(refine ah bb (hv:=wg) (hp:=?_)
    rw[jl rfl rfl wj];constructor
    ·exact cw
    ·exact cD))
theorem ah2(hk:r.kind=12)(hcl:d.aJ.length<=4096)(h1:r.names.length<9223372036854775808)(h2:r.others.length<9223372036854775808):jr d r vh vs vr vc vu v1 v2:=by
 obtain⟨rn,iy,rk,rf,cB,cK,rs,iC,gL,gM,gN,gP⟩:=r;dsimp only at hk h1 h2;subst hk;dsimp only[jr];rw[show fH 12=⟨true,false,false,false,false,false,true,0⟩from wg];refine aH pY qG λB w0=>?_;refine aT (E:=bD) (v:=v1) (xs:=cB) vm λa1 c1 e1=>?_;subst e1;refine aT (E:=bD) (v:=v2) (xs:=cK) vm λa2 c2 e2=>?_;subst e2;refine go ?_;intro b2 b3;iterate 16 (all_goals (first
  |(refine ax (rU (d:=d) (r:=⟨rn,iy,12,rf,cB,cK,rs,iC,gL,gM,gN,gP⟩) (v1:=.slice a1 cB.length c1) (v2:=.slice a2 cK.length c2) hcl) (next:=λbb hbb=>?_))
  |(refine ax (qF (d:=d) (r:=⟨rn,iy,12,rf,cB,cK,rs,iC,gL,gM,gN,gP⟩) (v1:=.slice a1 cB.length c1) (v2:=.slice a2 cK.length c2) hcl) (next:=λbb hbb=>?_))
  |(refine go ?_;first
   |with_reducible refine og (λ_=>?_) (λ_=>?_)
   |with_reducible refine nu (λ_=>?_) (λ_=>?_)
   |with_reducible refine lH (λ_=>?_) (λ_=>?_)
   |refine az rfl (λ_=>?_) (λ_=>?_)
   |refine eO rfl (λ_=>?_) (λ_=>?_)
   |refine jh rfl (λ_=>?_) (λ_=>?_)
   |skip)))
 all_goals (try simp only[dY]at *)
 all_goals (first
  |(refine ah false (hv:=wg) (hp:=⟨(λh=>by cases h),λh=>?_⟩)
    exfalso
    rw[jl rfl rfl wj]at h;obtain⟨⟨q1,q2,q3,q4,q5,q6⟩,h7⟩:=h;dsimp only at q1 q2 q3 q4 q5 q6 h7;first
     |(simp_all;done)
     |(obtain⟨⟨p1,p2,p3⟩,p4,p5,p6⟩:=h7;dsimp only at p1 p2 p3 p4 p5 p6;first|(simp_all;done)|(simp_all;omega)|omega))
  |(refine ah true (hv:=wg) (hp:=⟨λ_=>?_,λ_=>rfl⟩)
    rw[jl rfl rfl wj];first
     |(refine⟨⟨?_,?_,?_,?_,?_,?_⟩,⟨?_,?_,?_⟩,?_,?_,?_⟩<;>dsimp only<;>first|(simp_all;done)|(simp_all;omega)|omega)
     |(refine⟨⟨?_,?_,?_,?_,?_,?_⟩,?_⟩<;>first|(simp_all;done)|(simp_all;omega)))
  |(refine ah bb (hv:=wg) (hp:=?_)
    rw[jl rfl rfl wj];constructor
    ·exact cw
    ·exact cD))
theorem ah3(hk:r.kind=13)(hcl:d.aJ.length<=4096)(h1:r.names.length<9223372036854775808)(h2:r.others.length<9223372036854775808):jr d r vh vs vr vc vu v1 v2:=by
 obtain⟨rn,iy,rk,rf,cB,cK,rs,iC,gL,gM,gN,gP⟩:=r;dsimp only at hk h1 h2;subst hk;dsimp only[jr];rw[show fH 13=⟨false,false,false,true,false,false,true,0⟩from wg];refine aH pY qG λB w0=>?_;refine aT (E:=bD) (v:=v1) (xs:=cB) vm λa1 c1 e1=>?_;subst e1;refine aT (E:=bD) (v:=v2) (xs:=cK) vm λa2 c2 e2=>?_;subst e2;refine go ?_;intro b2 b3;iterate 16 (all_goals (first
  |(refine ax (rU (d:=d) (r:=⟨rn,iy,13,rf,cB,cK,rs,iC,gL,gM,gN,gP⟩) (v1:=.slice a1 cB.length c1) (v2:=.slice a2 cK.length c2) hcl) (next:=λbb hbb=>?_))
  |(refine ax (qF (d:=d) (r:=⟨rn,iy,13,rf,cB,cK,rs,iC,gL,gM,gN,gP⟩) (v1:=.slice a1 cB.length c1) (v2:=.slice a2 cK.length c2) hcl) (next:=λbb hbb=>?_))
  |(refine go ?_;first
   |with_reducible refine og (λ_=>?_) (λ_=>?_)
   |with_reducible refine nu (λ_=>?_) (λ_=>?_)
   |with_reducible refine lH (λ_=>?_) (λ_=>?_)
   |refine az rfl (λ_=>?_) (λ_=>?_)
   |refine eO rfl (λ_=>?_) (λ_=>?_)
   |refine jh rfl (λ_=>?_) (λ_=>?_)
   |skip)))
 all_goals (try simp only[dY]at *)
 all_goals (first
  |(refine ah false (hv:=wg) (hp:=⟨(λh=>by cases h),λh=>?_⟩)
    exfalso
    rw[xN rfl rfl rfl rfl]at h;obtain⟨⟨q1,q2,q3,q4,q5,q6⟩,h7⟩:=h;dsimp only at q1 q2 q3 q4 q5 q6 h7;first
     |(simp_all;done)
     |(obtain⟨⟨p1,p2,p3⟩,p4,p5,p6⟩:=h7;dsimp only at p1 p2 p3 p4 p5 p6;first|(simp_all;done)|(simp_all;omega)|omega))
  |(refine ah true (hv:=wg) (hp:=⟨λ_=>?_,λ_=>rfl⟩)
    rw[xN rfl rfl rfl rfl];first
     |(refine⟨⟨?_,?_,?_,?_,?_,?_⟩,⟨?_,?_,?_⟩,?_,?_,?_⟩<;>dsimp only<;>first|(simp_all;done)|(simp_all;omega)|omega)
     |(refine⟨⟨?_,?_,?_,?_,?_,?_⟩,?_⟩<;>first|(simp_all;done)|(simp_all;omega)))
  |(refine ah bb (hv:=wg) (hp:=?_)
    rw[xN rfl rfl rfl rfl];constructor
    ·exact cw
    ·exact cD))
theorem ah4(hk:¬(1<=r.kind/\r.kind<=13)):jr d r vh vs vr vc vu v1 v2:=by
 dsimp only[jr];have hx:¬uJ (fH r.kind) d.aJ r:=λh=>by
  have h1:=h.known;by_cases h0:r.kind=0
  ·rw[h0]at h1;cases h1
  ·rw[Cx vj]at h1;cases h1
 refine aH pY qG λB w0=>?_;refine go ?_;intro b2 b3;iterate 13 (refine go ?_;refine az rfl (λh=>?_) (λ_=>?_);(exfalso;omega))
 refine go ?_;exact ah false (hv:=rfl) (hp:=⟨(λh=>by cases h),λh=>absurd h hx⟩)
theorem ah5(hcl:d.aJ.length<=4096)(h1:r.names.length<9223372036854775808)(h2:r.others.length<9223372036854775808):jr d r vh vs vr vc vu v1 v2:=by
 by_cases h:1<=r.kind/\r.kind<=13
 ·rcases(show r.kind=1\/r.kind=2\/r.kind=3\/r.kind=4\/r.kind=5\/r.kind=6\/r.kind=7\/r.kind=8\/r.kind=9\/r.kind=10\/r.kind=11\/r.kind=12\/r.kind=13 by omega)with hk|hk|hk|hk|hk|hk|hk|hk|hk|hk|hk|hk|hk
  ·exact ahR hk hcl h1 h2
  ·exact ahS hk hcl h1 h2
  ·exact ahT hk hcl h1 h2
  ·exact ahU hk hcl h1 h2
  ·exact ahV hk hcl h1 h2
  ·exact ahW hk hcl h1 h2
  ·exact ahX hk hcl h1 h2
  ·exact ahY hk hcl h1 h2
  ·exact ahZ hk hcl h1 h2
  ·exact ah0 hk hcl h1 h2
  ·exact ah1 hk hcl h1 h2
  ·exact ah2 hk hcl h1 h2
  ·exact ah3 hk hcl h1 h2
 ·exact ah4 h
theorem ah6(hS:mM d):
 aU Tryz.prog (.func 164) [.agg ⟨gu d vh vs vr vc vu⟩] [] [] [ai eP vs d.symbols,ai bP vc d.aJ,ai aY vu d.rules] (λb:Bool=>.bool b) (λ_=>[]) (λ_=>[]) (λb=>b=true↔Jm d):=by
 have hsl:=hS.dJ;have hcl:=hS.jR;have vV:=hS.lQ;refine aH _ (aN 164) λB w0=>?_;refine aT (E:=eP) (v:=vs) (xs:=d.symbols) vm λmh cs1 es=>?_;subst es;refine aT (E:=bP) (v:=vc) (xs:=d.aJ) vm λac cc ec=>?_;subst ec;refine aT (E:=aY) (v:=vu) (xs:=d.rules) vm λau cu eu=>?_;subst eu;refine go ?_;intro b1;refine bi (dR (b:=b1)) (h:=?_);refine go ?_;refine aW (λk:Nat=>d.symbols.length - k) (λk=>[(3,.int .i64 (k:Int))]) (λ_=>[]) (λ_=>[]) (λk=>k<=d.symbols.length/\∀s∈d.symbols.take k,0<=s.value/\s.value<=99) 0 ⟨bQ _,vm⟩ (body:=?_);rintro k ⟨hk,hall⟩;refine go ?_;refine az rfl (λh1=>?_) (λh1=>?_)
 ·refine go ?_;refine bq eP (xs:=d.symbols) (next:=λ_ _ s (_:Unit) hs=>?_);have hsm:=aP hs;refine go ?_;refine gG (λh2=>?_) (λh2=>?_)
  rotate_left
  ·exact e9
  refine go ?_;refine bq eP (xs:=d.symbols) (next:=λ_ _ s' (_:Unit) hs'=>?_);cases hs.symm.trans hs';refine go ?_;refine az rfl (λh3=>?_) (λh3=>?_)
  ·exact e9
  exact jn
 have hks:k=d.symbols.length:=vj
 subst hks;rw[bJ]at hall;clear hk h1;refine go ?_;refine aW (λk:Nat=>d.rules.length - k) (λk=>[(4,.int .i64 (k:Int))]) (λ_=>[]) (λ_=>[]) (λk=>k<=d.rules.length/\∀r∈d.rules.take k,uJ (fH r.kind) d.aJ r) 0 ⟨bQ _,vm⟩ (body:=?_);rintro k ⟨hk,AA⟩;refine go ?_;refine az rfl (λh1=>?_) (λh1=>?_)
 ·refine go ?_;refine bq aY (xs:=d.rules) (next:=λ_ _ r (vv:Value×Value) hr=>?_);have hrm:=aP hr;have hrn:=hS.vT r hrm;refine go ?_;refine ax (ah5 (d:=d) (r:=r) (vh:=vh) (vs:=.slice mh d.symbols.length cs1) (vr:=vr) (vc:=.slice ac d.aJ.length cc) (vu:=.slice au d.rules.length cu) (v1:=vv.1) (v2:=vv.2) hcl hrn.1 hrn.2) (next:=λb hb=>?_);cases b with
  |false=>
   exact oE
  |true=>
   have hR:=hb.1 rfl;exact js
 have hkr:k=d.rules.length:=vj
 subst hkr;rw[bJ]at AA;clear hk h1;refine go ?_;refine aW (λk:Nat=>d.aJ.length - k) (λk=>[(5,.int .i64 (k:Int))]) (λ_=>[]) (λ_=>[]) (λk=>k<=d.aJ.length/\∀(i:Nat) (c:iJ),i<k->d.aJ[i]? =some c->(d.rules.map (·.aQ)).count (i:Int)=1/\ow c) 0 ⟨bQ _,λi c h=>by omega⟩ (body:=?_);rintro k ⟨hk,EZ⟩;refine go ?_;refine az rfl (λh1=>?_) (λh1=>?_)
 ·obtain⟨c,hc⟩:∃c,d.aJ[k]? =some c:=⟨d.aJ[k]'(vj),bW _⟩
  refine go ?_;refine aW (λj:Nat=>d.rules.length - j) (λj=>[(7,.int .i64 (j:Int)),(6,.int .i64 (((d.rules.take j).map (·.aQ)).count (k:Int):Nat))]) (λ_=>[]) (λ_=>[]) (λj=>j<=d.rules.length) 0 (bQ _) (body:=?_);intro j hj;have hcn:((d.rules.take j).map (·.aQ)).count (k:Int)<=4096:=by
   have:=TC (k:Int) ((d.rules.take j).map (·.aQ));rw[cz,ig]at this;omega
  refine go ?_;refine az rfl (λh2=>?_) (λh2=>?_)
  ·refine go ?_;refine bq aY (xs:=d.rules) (next:=λ_ _ r (vv:Value×Value) hr=>?_);have hst:((d.rules.take (j+1)).map (·.aQ)).count (k:Int)=((d.rules.take j).map (·.aQ)).count (k:Int)+if r.aQ=(k:Int)then 1 else 0:=by
    rw[bU hr,fD,r9,List.count_append,List.count_singleton];congr 1;by_cases e:r.aQ=(k:Int)<;>simp[e]
   refine go ?_;refine az rfl (λh3=>?_) (λh3=>?_)
   ·rw[if_pos h3]at hst;exact nq
   ·rw[if_neg h3]at hst;exact nq
  have hjr:j=d.rules.length:=vj
  subst hjr;rw[bJ]at hcn⊢;refine go ?_;refine gG (λh3=>?_) (λh3=>?_)
  ·refine go ?_;refine bq bP (xs:=d.aJ) (next:=λ_ _ c' (_:Unit) hc'=>?_);cases hc.symm.trans hc';refine go ?_;refine ax (ahM (c:=c)) (next:=λ_ _=>?_);refine go ?_;refine eO rfl (λh4=>?_) (λh4=>?_)
   ·refine go ?_;exact ah false (hv:=rfl) (hp:=⟨(λh=>by cases h),λh=>absurd (h.jR k c hc).2 h4⟩)
   ·refine go ?_;refine aM (k+1) BY ⟨vj,λi x hi hx=>?_⟩;by_cases hik:i=k
    ·subst hik;rw[hc]at hx;cases hx;exact⟨vj,h4⟩
    ·exact EZ i x vj hx
  ·exact oA
 have hkc:k=d.aJ.length:=vj
 subst hkc;refine go ?_;exact ah true (hv:=rfl) (hp:=⟨λ_=>⟨hall,AA,λi c hc=>EZ i c (bC.1 hc).1 hc⟩,λ_=>rfl⟩)
theorem ah7(hT:uK d):aU Tryz.prog (.func 119) [.agg ⟨gu d vh vs vr vc vu⟩] [] [] (lZ d vh vs vr vc vu) (λe:Int=>.int .i64 e) (λ_=>[]) (λ_=>[]) (λe=>e=0↔E8 d):=by
 have hD:=hT.s;have hsl:=hD.dJ;have hrl:=hD.regs;have hcl:=hD.jR;have vV:=hD.lQ;refine aH _ (aN 119) λB w0=>?_;refine aT (E:=eP) (v:=vs) (xs:=d.symbols) vm λmh cs1 es=>?_;subst es;refine aT (E:=eZ) (v:=vr) (xs:=d.regions) vm λar cr er=>?_;subst er;refine aT (E:=bP) (v:=vc) (xs:=d.aJ) vm λac cc ec=>?_;subst ec;refine aT (E:=aY) (v:=vu) (xs:=d.rules) vm λau cu eu=>?_;subst eu;refine go ?_;intro b1;refine bi (dR (b:=b1)) (h:=?_);refine go ?_;refine gG (λk1=>?_) (λk1=>?_)
 rotate_left
 ·refine go ?_;refine ah 2 (hv:=rfl) (hp:=⟨λh=>?_,λh=>?_⟩)
  ·exact nh
  exfalso
  have:=h.lim.s0;omega
 refine go ?_;refine gG (λk2=>?_) (λk2=>?_)
 rotate_left
 ·refine go ?_;refine ah 2 (hv:=rfl) (hp:=⟨λh=>?_,λh=>?_⟩)
  ·exact nh
  exfalso
  have:=h.lim.s1;omega
 refine go ?_;refine gG (λk3=>?_) (λk3=>?_)
 rotate_left
 ·refine go ?_;refine ah 2 (hv:=rfl) (hp:=⟨λh=>?_,λh=>?_⟩)
  ·exact nh
  exfalso
  have:=h.lim.r;omega
 refine go ?_;refine gG (λk4=>?_) (λk4=>?_)
 rotate_left
 ·refine go ?_;refine ah 2 (hv:=rfl) (hp:=⟨λh=>?_,λh=>?_⟩)
  ·exact nh
  exfalso
  have:=h.lim.c;omega
 refine go ?_;refine az rfl (λk5=>?_) (λk5=>?_)
 ·refine go ?_;refine ah 2 (hv:=rfl) (hp:=⟨λh=>?_,λh=>?_⟩)
  ·exact nh
  exfalso
  have:=h.lim.u;omega
 refine go ?_;refine ax (VY (d:=d) (vh:=vh) (vs:=.slice mh d.symbols.length cs1) (vr:=.slice ar d.regions.length cr) (vc:=.slice ac d.aJ.length cc) (vu:=.slice au d.rules.length cu) hD) (next:=λy hy=>?_);obtain⟨ok,e,v1,v2⟩:=y;cases ok with
 |false=>
  obtain⟨he,hno⟩:=hy.2 rfl;have he:e≠0:=he;dsimp only[cond,rG,ou,List.nil_append];refine go ?_;intro b3;refine go ?_;refine az rfl (λk6=>?_) (λk6=>?_)
  rotate_left
  ·exact absurd (gT.1 k6) he
  refine go ?_;exact ah e (hv:=rfl) (hp:=⟨λh=>absurd h he,λh=>absurd h.rs hno⟩)
 |true=>
 obtain⟨he,hres⟩:=hy.1 rfl;have he:e=0:=he;subst he;clear hy;dsimp only[cond,rG,ou,List.cons_append,List.nil_append];refine go ?_;intro b3;refine go ?_;refine fK (ai ae vh (Kd.bF d).holes) (λw hw=>hw (ai ae vh d.holes) vm) ?_;refine fK (ai eP (.slice mh d.symbols.length cs1) (Kd.bF d).symbols) (λw hw=>hw (ai eP (.slice mh d.symbols.length cs1) d.symbols) vm) ?_;refine fK (ai eZ (.slice ar d.regions.length cr) (Kd.bF d).regions) (λw hw=>hw (ai eZ (.slice ar d.regions.length cr) d.regions) vm) ?_;refine ax (ahG (x:=Kd.bF d) (y:=d) (h1:=vh) (s1:=.slice mh d.symbols.length cs1) (r1:=.slice ar d.regions.length cr) (c1:=v1) (u1:=v2) (h2:=vh) (s2:=.slice mh d.symbols.length cs1) (r2:=.slice ar d.regions.length cr) (c2:=.slice ac d.aJ.length cc) (u2:=.slice au d.rules.length cu) hD.bF) (next:=λ_ _=>?_);refine go ?_;refine nu (λk7=>?_) (λk7=>?_)
 rotate_left
 ·refine go ?_;refine ah 170 (hv:=rfl) (hp:=⟨λh=>?_,λh=>?_⟩)
  ·exact nh
  exfalso
  exact k7 h.same
 refine go ?_;refine gG (λk8=>?_) (λk8=>?_)
 rotate_left
 ·exact us
 refine go ?_;refine az rfl (λk9=>?_) (λk9=>?_)
 ·exact us
 refine go ?_;refine ax (Oi (s:=d.shape) (w:=d.w) (h:=d.h) (holes:=d.holes) (vh:=vh) hT.w hT.h hT.holes) (next:=λy hy=>?_);obtain⟨ok,gh,gc⟩:=y;cases ok with
 |false=>
  have hno:¬om d.shape d.w d.h d.holes:=λh=>by have:=hy.2 h;cases this
  dsimp only[mkV,oU,cond,List.nil_append];refine go ?_;intro b5;refine go ?_;exact ah 130 (hv:=rfl) (hp:=⟨(λh=>by cases h),λh=>absurd h.Cy hno⟩)
 |true=>
 have hmk:=hy.1 rfl;clear hy;dsimp only[cond,mkV,oU];rw[show vX d.shape d.w d.h d.holes=aO d from rfl];dsimp only[jk,iH,List.cons_append,List.nil_append];refine go ?_;intro b5;refine go ?_;have htr:=ahL (d:=d) (vh:=vh) (vs:=.slice mh d.symbols.length cs1) (vr:=.slice ar d.regions.length cr) (vc:=.slice ac d.aJ.length cc) (vu:=.slice au d.rules.length cu) (gh:=gh) (gc:=gc) (g:=aO d) hD (E9 hmk);dsimp only[jk,iH]at htr;refine ax htr (next:=λe he=>?_);refine go ?_;refine az rfl (λk10=>?_) (λk10=>?_)
 ·refine go ?_;exact ah e (hv:=rfl) (hp:=⟨λh=>absurd h k10,λh=>absurd (he.2 h.yX) k10⟩)
 have hrg:=he.1 (gT.1 k10);clear he k10;refine go ?_;refine ax (ah6 (d:=d) (vh:=vh) (vs:=.slice mh d.symbols.length cs1) (vr:=.slice ar d.regions.length cr) (vc:=.slice ac d.aJ.length cc) (vu:=.slice au d.rules.length cu) hD) (next:=λb hb=>?_);cases b with
 |false=>
  refine go ?_;exact ah 170 (hv:=rfl) (hp:=⟨(λh=>by cases h),λh=>absurd (hb.2 h.form) vm⟩)
 |true=>
 have hfm:=hb.1 rfl;clear hb;refine go ?_;refine ax (ahP (d:=d) (vh:=vh) (vs:=.slice mh d.symbols.length cs1) (vr:=.slice ar d.regions.length cr) (vc:=.slice ac d.aJ.length cc) (vu:=.slice au d.rules.length cu) vV) (next:=λa3 _=>?_);refine go ?_;refine az rfl (λk11=>?_) (λk11=>?_)
 ·refine go ?_;refine ah 171 (hv:=rfl) (hp:=⟨λh=>?_,λh=>?_⟩)
  ·exact nh
  exfalso
  rw[h.read]at k11;simp at k11
 refine go ?_;exact ah 0 (hv:=rfl) (hp:=⟨λ_=>⟨⟨vj,vj,vj,vj,vj⟩,hres,k7,⟨vj,vj⟩,hmk,hrg,hfm,jw.1 vj⟩,λ_=>rfl⟩)
