/- Part. -/
import Derived.Test.YtignbinlipkmfaaGreatDoorLibWR
set_option linter.all false
set_option maxRecDepth 10000
set_option maxHeartbeats 4000000
namespace Go.Proofs.YtignbinlipkmfaaGreatDoor
open Go.Ideal Kd
variable{d:bK}{vh vs vr vc vu v1 v2:ah}{r:bE}
def ati(hk:r.kind=8)(hcl:d.aQ.length<=4096)(h1:r.names.length<2^63)(h2:r.others.length<2^63):kK d r vh vs vr vc vu v1 v2:=by
 obtain⟨rn,jm,rk,rf,dI,dJ,rs,jo,ja,jc,jd,je⟩:=r;dsimp only at hk h1 h2;subst hk;dsimp only[kK];rw[show fK 8=⟨false,true,true,false,false,true,true,0⟩from tn];refine jD tJ uQ λB w0=>?_;refine gF aX v1 dI λa1 c1 e1=>?_;subst e1;refine gF aX v2 dJ λa2 c2 e2=>?_;subst e2;refine go ?_;intro b2 b3;iterate 16 (all_goals (first
  |(refine fD (vW (d:=d) (r:=⟨rn,jm,8,rf,dI,dJ,rs,jo,ja,jc,jd,je⟩) (v1:=.slice a1 dI.length c1) (v2:=.slice a2 dJ.length c2) hcl) (next:=λbb hbb=>?_))
  |(refine fD (uP (d:=d) (r:=⟨rn,jm,8,rf,dI,dJ,rs,jo,ja,jc,jd,je⟩) (v1:=.slice a1 dI.length c1) (v2:=.slice a2 dJ.length c2) hcl) (next:=λbb hbb=>?_))
  |(refine go ?_;first
   |with_reducible refine qW (λ_=>?_) (λ_=>?_)
   |with_reducible refine ql (λ_=>?_) (λ_=>?_)
   |with_reducible refine nW (λ_=>?_) (λ_=>?_)
   |refine kW rfl ?_ ?_<;>intro _
   |refine fP rfl (λ_=>?_) (λ_=>?_)
   |refine kX rfl (λ_=>?_) (λ_=>?_)
   |skip)))
 all_goals (try simp only[eZ]at *)
 all_goals (first
  |(refine fu false (hv:=tn) (hp:=⟨(λh=>by cases h),λh=>?_⟩)
    exfalso
    rw[ku rfl rfl tr]at h;obtain⟨⟨q1,q2,q3,q4,q5,q6⟩,h7⟩:=h;dsimp only at q1 q2 q3 q4 q5 q6 h7;first
     |(simp_all;done)
     |(obtain⟨⟨p1,p2,p3⟩,p4,p5,p6⟩:=h7;dsimp only at p1 p2 p3 p4 p5 p6;first|(simp_all;done)|(simp_all;omega)|omega))
  |(refine fu true (hv:=tn) (hp:=⟨λ_=>?_,λ_=>rfl⟩)
    rw[ku rfl rfl tr];first
     |(refine⟨⟨?_,?_,?_,?_,?_,?_⟩,⟨?_,?_,?_⟩,?_,?_,?_⟩<;>dsimp only<;>first|(simp_all;done)|(simp_all;omega)|omega)
     |(refine⟨⟨?_,?_,?_,?_,?_,?_⟩,?_⟩<;>first|(simp_all;done)|(simp_all;omega)))
  |(refine fu bb (hv:=tn) (hp:=?_)
    rw[ku rfl rfl tr];constructor
    .exact bj
    .exact ck))
def atj(hk:r.kind=9)(hcl:d.aQ.length<=4096)(h1:r.names.length<2^63)(h2:r.others.length<2^63):kK d r vh vs vr vc vu v1 v2:=by
 obtain⟨rn,jm,rk,rf,dI,dJ,rs,jo,ja,jc,jd,je⟩:=r;dsimp only at hk h1 h2;subst hk;dsimp only[kK];rw[show fK 9=⟨false,true,false,false,false,true,true,0⟩from tn];refine jD tJ uQ λB w0=>?_;refine gF aX v1 dI λa1 c1 e1=>?_;subst e1;refine gF aX v2 dJ λa2 c2 e2=>?_;subst e2;refine go ?_;intro b2 b3;iterate 16 (all_goals (first
  |(refine fD (vW (d:=d) (r:=⟨rn,jm,9,rf,dI,dJ,rs,jo,ja,jc,jd,je⟩) (v1:=.slice a1 dI.length c1) (v2:=.slice a2 dJ.length c2) hcl) (next:=λbb hbb=>?_))
  |(refine fD (uP (d:=d) (r:=⟨rn,jm,9,rf,dI,dJ,rs,jo,ja,jc,jd,je⟩) (v1:=.slice a1 dI.length c1) (v2:=.slice a2 dJ.length c2) hcl) (next:=λbb hbb=>?_))
  |(refine go ?_;first
   |with_reducible refine qW (λ_=>?_) (λ_=>?_)
   |with_reducible refine ql (λ_=>?_) (λ_=>?_)
   |with_reducible refine nW (λ_=>?_) (λ_=>?_)
   |refine kW rfl ?_ ?_<;>intro _
   |refine fP rfl (λ_=>?_) (λ_=>?_)
   |refine kX rfl (λ_=>?_) (λ_=>?_)
   |skip)))
 all_goals (try simp only[eZ]at *)
 all_goals (first
  |(refine fu false (hv:=tn) (hp:=⟨(λh=>by cases h),λh=>?_⟩)
    exfalso
    rw[ku rfl rfl tr]at h;obtain⟨⟨q1,q2,q3,q4,q5,q6⟩,h7⟩:=h;dsimp only at q1 q2 q3 q4 q5 q6 h7;first
     |(simp_all;done)
     |(obtain⟨⟨p1,p2,p3⟩,p4,p5,p6⟩:=h7;dsimp only at p1 p2 p3 p4 p5 p6;first|(simp_all;done)|(simp_all;omega)|omega))
  |(refine fu true (hv:=tn) (hp:=⟨λ_=>?_,λ_=>rfl⟩)
    rw[ku rfl rfl tr];first
     |(refine⟨⟨?_,?_,?_,?_,?_,?_⟩,⟨?_,?_,?_⟩,?_,?_,?_⟩<;>dsimp only<;>first|(simp_all;done)|(simp_all;omega)|omega)
     |(refine⟨⟨?_,?_,?_,?_,?_,?_⟩,?_⟩<;>first|(simp_all;done)|(simp_all;omega)))
  |(refine fu bb (hv:=tn) (hp:=?_)
    rw[ku rfl rfl tr];constructor
    .exact bj
    .exact ck))
def atl(hk:r.kind=10)(hcl:d.aQ.length<=4096)(h1:r.names.length<2^63)(h2:r.others.length<2^63):kK d r vh vs vr vc vu v1 v2:=by
 obtain⟨rn,jm,rk,rf,dI,dJ,rs,jo,ja,jc,jd,je⟩:=r;dsimp only at hk h1 h2;subst hk;dsimp only[kK];rw[show fK 10=⟨false,true,false,false,false,true,true,0⟩from tn];refine jD tJ uQ λB w0=>?_;refine gF aX v1 dI λa1 c1 e1=>?_;subst e1;refine gF aX v2 dJ λa2 c2 e2=>?_;subst e2;refine go ?_;intro b2 b3;iterate 16 (all_goals (first
  |(refine fD (vW (d:=d) (r:=⟨rn,jm,10,rf,dI,dJ,rs,jo,ja,jc,jd,je⟩) (v1:=.slice a1 dI.length c1) (v2:=.slice a2 dJ.length c2) hcl) (next:=λbb hbb=>?_))
  |(refine fD (uP (d:=d) (r:=⟨rn,jm,10,rf,dI,dJ,rs,jo,ja,jc,jd,je⟩) (v1:=.slice a1 dI.length c1) (v2:=.slice a2 dJ.length c2) hcl) (next:=λbb hbb=>?_))
  |(refine go ?_;first
   |with_reducible refine qW (λ_=>?_) (λ_=>?_)
   |with_reducible refine ql (λ_=>?_) (λ_=>?_)
   |with_reducible refine nW (λ_=>?_) (λ_=>?_)
   |refine kW rfl ?_ ?_<;>intro _
   |refine fP rfl (λ_=>?_) (λ_=>?_)
   |refine kX rfl (λ_=>?_) (λ_=>?_)
   |skip)))
 all_goals (try simp only[eZ]at *)
 all_goals (first
  |(refine fu false (hv:=tn) (hp:=⟨(λh=>by cases h),λh=>?_⟩)
    exfalso
    rw[ku rfl rfl tr]at h;obtain⟨⟨q1,q2,q3,q4,q5,q6⟩,h7⟩:=h;dsimp only at q1 q2 q3 q4 q5 q6 h7;first
     |(simp_all;done)
     |(obtain⟨⟨p1,p2,p3⟩,p4,p5,p6⟩:=h7;dsimp only at p1 p2 p3 p4 p5 p6;first|(simp_all;done)|(simp_all;omega)|omega))
  |(refine fu true (hv:=tn) (hp:=⟨λ_=>?_,λ_=>rfl⟩)
    rw[ku rfl rfl tr];first
     |(refine⟨⟨?_,?_,?_,?_,?_,?_⟩,⟨?_,?_,?_⟩,?_,?_,?_⟩<;>dsimp only<;>first|(simp_all;done)|(simp_all;omega)|omega)
     |(refine⟨⟨?_,?_,?_,?_,?_,?_⟩,?_⟩<;>first|(simp_all;done)|(simp_all;omega)))
  |(refine fu bb (hv:=tn) (hp:=?_)
    rw[ku rfl rfl tr];constructor
    .exact bj
    .exact ck))
def atm(hk:r.kind=11)(hcl:d.aQ.length<=4096)(h1:r.names.length<2^63)(h2:r.others.length<2^63):kK d r vh vs vr vc vu v1 v2:=by
 obtain⟨rn,jm,rk,rf,dI,dJ,rs,jo,ja,jc,jd,je⟩:=r;dsimp only at hk h1 h2;subst hk;dsimp only[kK];rw[show fK 11=⟨false,false,false,false,false,true,true,1⟩from tn];refine jD tJ uQ λB w0=>?_;refine gF aX v1 dI λa1 c1 e1=>?_;subst e1;refine gF aX v2 dJ λa2 c2 e2=>?_;subst e2;refine go ?_;intro b2 b3;iterate 16 (all_goals (first
  |(refine fD (vW (d:=d) (r:=⟨rn,jm,11,rf,dI,dJ,rs,jo,ja,jc,jd,je⟩) (v1:=.slice a1 dI.length c1) (v2:=.slice a2 dJ.length c2) hcl) (next:=λbb hbb=>?_))
  |(refine fD (uP (d:=d) (r:=⟨rn,jm,11,rf,dI,dJ,rs,jo,ja,jc,jd,je⟩) (v1:=.slice a1 dI.length c1) (v2:=.slice a2 dJ.length c2) hcl) (next:=λbb hbb=>?_))
  |(refine go ?_;first
   |with_reducible refine qW (λ_=>?_) (λ_=>?_)
   |with_reducible refine ql (λ_=>?_) (λ_=>?_)
   |with_reducible refine nW (λ_=>?_) (λ_=>?_)
   |refine kW rfl ?_ ?_<;>intro _
   |refine fP rfl (λ_=>?_) (λ_=>?_)
   |refine kX rfl (λ_=>?_) (λ_=>?_)
   |skip)))
 all_goals (try simp only[eZ]at *)
 all_goals (first
  |(refine fu false (hv:=tn) (hp:=⟨(λh=>by cases h),λh=>?_⟩)
    exfalso
    rw[ku rfl rfl tr]at h;obtain⟨⟨q1,q2,q3,q4,q5,q6⟩,h7⟩:=h;dsimp only at q1 q2 q3 q4 q5 q6 h7;first
     |(simp_all;done)
     |(obtain⟨⟨p1,p2,p3⟩,p4,p5,p6⟩:=h7;dsimp only at p1 p2 p3 p4 p5 p6;first|(simp_all;done)|(simp_all;omega)|omega))
  |(refine fu true (hv:=tn) (hp:=⟨λ_=>?_,λ_=>rfl⟩)
    rw[ku rfl rfl tr];first
     |(refine⟨⟨?_,?_,?_,?_,?_,?_⟩,⟨?_,?_,?_⟩,?_,?_,?_⟩<;>dsimp only<;>first|(simp_all;done)|(simp_all;omega)|omega)
     |(refine⟨⟨?_,?_,?_,?_,?_,?_⟩,?_⟩<;>first|(simp_all;done)|(simp_all;omega)))
  |(refine fu bb (hv:=tn) (hp:=?_)
    rw[ku rfl rfl tr];constructor
    .exact bj
    .exact ck))
def atn(hk:r.kind=12)(hcl:d.aQ.length<=4096)(h1:r.names.length<2^63)(h2:r.others.length<2^63):kK d r vh vs vr vc vu v1 v2:=by
 obtain⟨rn,jm,rk,rf,dI,dJ,rs,jo,ja,jc,jd,je⟩:=r;dsimp only at hk h1 h2;subst hk;dsimp only[kK];rw[show fK 12=⟨true,false,false,false,false,false,true,0⟩from tn];refine jD tJ uQ λB w0=>?_;refine gF aX v1 dI λa1 c1 e1=>?_;subst e1;refine gF aX v2 dJ λa2 c2 e2=>?_;subst e2;refine go ?_;intro b2 b3;iterate 16 (all_goals (first
  |(refine fD (vW (d:=d) (r:=⟨rn,jm,12,rf,dI,dJ,rs,jo,ja,jc,jd,je⟩) (v1:=.slice a1 dI.length c1) (v2:=.slice a2 dJ.length c2) hcl) (next:=λbb hbb=>?_))
  |(refine fD (uP (d:=d) (r:=⟨rn,jm,12,rf,dI,dJ,rs,jo,ja,jc,jd,je⟩) (v1:=.slice a1 dI.length c1) (v2:=.slice a2 dJ.length c2) hcl) (next:=λbb hbb=>?_))
  |(refine go ?_;first
   |with_reducible refine qW (λ_=>?_) (λ_=>?_)
   |with_reducible refine ql (λ_=>?_) (λ_=>?_)
   |with_reducible refine nW (λ_=>?_) (λ_=>?_)
   |refine kW rfl ?_ ?_<;>intro _
   |refine fP rfl (λ_=>?_) (λ_=>?_)
   |refine kX rfl (λ_=>?_) (λ_=>?_)
   |skip)))
 all_goals (try simp only[eZ]at *)
 all_goals (first
  |(refine fu false (hv:=tn) (hp:=⟨(λh=>by cases h),λh=>?_⟩)
    exfalso
    rw[ku rfl rfl tr]at h;obtain⟨⟨q1,q2,q3,q4,q5,q6⟩,h7⟩:=h;dsimp only at q1 q2 q3 q4 q5 q6 h7;first
     |(simp_all;done)
     |(obtain⟨⟨p1,p2,p3⟩,p4,p5,p6⟩:=h7;dsimp only at p1 p2 p3 p4 p5 p6;first|(simp_all;done)|(simp_all;omega)|omega))
  |(refine fu true (hv:=tn) (hp:=⟨λ_=>?_,λ_=>rfl⟩)
    rw[ku rfl rfl tr];first
     |(refine⟨⟨?_,?_,?_,?_,?_,?_⟩,⟨?_,?_,?_⟩,?_,?_,?_⟩<;>dsimp only<;>first|(simp_all;done)|(simp_all;omega)|omega)
     |(refine⟨⟨?_,?_,?_,?_,?_,?_⟩,?_⟩<;>first|(simp_all;done)|(simp_all;omega)))
  |(refine fu bb (hv:=tn) (hp:=?_)
    rw[ku rfl rfl tr];constructor
    .exact bj
    .exact ck))
def ato(hk:r.kind=13)(hcl:d.aQ.length<=4096)(h1:r.names.length<2^63)(h2:r.others.length<2^63):kK d r vh vs vr vc vu v1 v2:=by
 obtain⟨rn,jm,rk,rf,dI,dJ,rs,jo,ja,jc,jd,je⟩:=r;dsimp only at hk h1 h2;subst hk;dsimp only[kK];rw[show fK 13=⟨false,false,false,true,false,false,true,0⟩from tn];refine jD tJ uQ λB w0=>?_;refine gF aX v1 dI λa1 c1 e1=>?_;subst e1;refine gF aX v2 dJ λa2 c2 e2=>?_;subst e2;refine go ?_;intro b2 b3;iterate 16 (all_goals (first
  |(refine fD (vW (d:=d) (r:=⟨rn,jm,13,rf,dI,dJ,rs,jo,ja,jc,jd,je⟩) (v1:=.slice a1 dI.length c1) (v2:=.slice a2 dJ.length c2) hcl) (next:=λbb hbb=>?_))
  |(refine fD (uP (d:=d) (r:=⟨rn,jm,13,rf,dI,dJ,rs,jo,ja,jc,jd,je⟩) (v1:=.slice a1 dI.length c1) (v2:=.slice a2 dJ.length c2) hcl) (next:=λbb hbb=>?_))
  |(refine go ?_;first
   |with_reducible refine qW (λ_=>?_) (λ_=>?_)
   |with_reducible refine ql (λ_=>?_) (λ_=>?_)
   |with_reducible refine nW (λ_=>?_) (λ_=>?_)
   |refine kW rfl ?_ ?_<;>intro _
   |refine fP rfl (λ_=>?_) (λ_=>?_)
   |refine kX rfl (λ_=>?_) (λ_=>?_)
   |skip)))
 all_goals (try simp only[eZ]at *)
 all_goals (first
  |(refine fu false (hv:=tn) (hp:=⟨(λh=>by cases h),λh=>?_⟩)
    exfalso
    rw[Br rfl rfl rfl rfl]at h;obtain⟨⟨q1,q2,q3,q4,q5,q6⟩,h7⟩:=h;dsimp only at q1 q2 q3 q4 q5 q6 h7;first
     |(simp_all;done)
     |(obtain⟨⟨p1,p2,p3⟩,p4,p5,p6⟩:=h7;dsimp only at p1 p2 p3 p4 p5 p6;first|(simp_all;done)|(simp_all;omega)|omega))
  |(refine fu true (hv:=tn) (hp:=⟨λ_=>?_,λ_=>rfl⟩)
    rw[Br rfl rfl rfl rfl];first
     |(refine⟨⟨?_,?_,?_,?_,?_,?_⟩,⟨?_,?_,?_⟩,?_,?_,?_⟩<;>dsimp only<;>first|(simp_all;done)|(simp_all;omega)|omega)
     |(refine⟨⟨?_,?_,?_,?_,?_,?_⟩,?_⟩<;>first|(simp_all;done)|(simp_all;omega)))
  |(refine fu bb (hv:=tn) (hp:=?_)
    rw[Br rfl rfl rfl rfl];constructor
    .exact bj
    .exact ck))
def atp(hk:¬(1<=r.kind/\r.kind<=13)):kK d r vh vs vr vc vu v1 v2:=by
 dsimp only[kK];have hx:¬yJ (fK r.kind) d.aQ r:=λh=>by
  have h1:=h.known;by_cases h0:r.kind=0
  .rw[h0]at h1;cases h1
  .rw[G6 tf]at h1;cases h1
 refine jD tJ uQ λB w0=>?_;refine go ?_;intro b2 b3;iterate 13 (refine go ?_;refine kW rfl (λh=>?_) (λ_=>?_);(exfalso;omega))
 refine go ?_;exact gQ false ⟨(λh=>by cases h),λh=>absurd h hx⟩
def atq(hcl:d.aQ.length<=4096)(h1:r.names.length<2^63)(h2:r.others.length<2^63):kK d r vh vs vr vc vu v1 v2:=by
 by_cases h:1<=r.kind/\r.kind<=13
 .rcases(show r.kind=1\/r.kind=2\/r.kind=3\/r.kind=4\/r.kind=5\/r.kind=6\/r.kind=7\/r.kind=8\/r.kind=9\/r.kind=10\/r.kind=11\/r.kind=12\/r.kind=13 by omega)with hk|hk|hk|hk|hk|hk|hk|hk|hk|hk|hk|hk|hk
  .exact atb hk hcl h1 h2
  .exact atc hk hcl h1 h2
  .exact atd hk hcl h1 h2
  .exact ate hk hcl h1 h2
  .exact atf hk hcl h1 h2
  .exact atg hk hcl h1 h2
  .exact ath hk hcl h1 h2
  .exact ati hk hcl h1 h2
  .exact atj hk hcl h1 h2
  .exact atl hk hcl h1 h2
  .exact atm hk hcl h1 h2
  .exact atn hk hcl h1 h2
  .exact ato hk hcl h1 h2
 .exact atp h
def atr(hS:pI d):
 fC Tryz.prog 136 [.agg ⟨iD d vh vs vr vc vu⟩] [aj fG vs d.symbols,aj bZ vc d.aQ,aj bi vu d.rules] (λb:Bool=>.bool b) (λb=>b=true↔PM d):=by
 have hsl:=hS.dK;have hcl:=hS.jS;have oG:=hS.lH;refine gB 136 λB w0=>?_;refine gF fG vs d.symbols λrz cs1 es=>?_;subst es;refine gF bZ vc d.aQ λac cc ec=>?_;subst ec;refine gF bi vu d.rules λau cu eu=>?_;subst eu;refine go ?_;intro b1;refine gP b1 ?_;refine gN d.symbols.length 3 (λk=>k<=d.symbols.length/\∀s∈d.symbols.take k,0<=s.value/\s.value<=99) ⟨bH _,tg⟩ ?_;rintro k ⟨hk,hall⟩;refine aC ?_ ?_<;>intro h1
 .refine gX fG (xs:=d.symbols) λ_ _ s (_:Unit) hs=>?_;have hsm:=aU hs;refine gH ?_ ?_<;>intro h2
  rotate_left
  .exact eE
  refine gX fG (xs:=d.symbols) λ_ _ s' (_:Unit) hs'=>?_;cases hs.symm.trans hs';refine aC ?_ ?_<;>intro h3
  .exact eE
  exact fk
 have hks:k=d.symbols.length:=tf
 subst hks;rw[bP]at hall;clear hk h1;refine gN d.rules.length 4 (λk=>k<=d.rules.length/\∀r∈d.rules.take k,yJ (fK r.kind) d.aQ r) ⟨bH _,tg⟩ ?_;rintro k ⟨hk,EM⟩;refine aC ?_ ?_<;>intro h1
 .refine gX bi (xs:=d.rules) λ_ _ r (vv:ah×ah) hr=>?_;have hrm:=aU hr;have hrn:=hS.uF r hrm;refine gC (atq (d:=d) (r:=r) (v1:=vv.1) (v2:=vv.2) hcl hrn.1 hrn.2) λb hb=>?_;cases b with
  |false=>
   exact oc
  |true=>
   have hR:=hb.1 rfl;exact fL
 have hkr:k=d.rules.length:=tf
 subst hkr;rw[bP]at EM;clear hk h1;refine gN d.aQ.length 5 (λk=>k<=d.aQ.length/\∀(i:Nat) (c:iT),i<k->d.aQ[i]? =some c->(d.rules.map (·.aS)).count (i:Int)=1/\qG c) ⟨bH _,λi c h=>by omega⟩ ?_;rintro k ⟨hk,KG⟩;refine aC ?_ ?_<;>intro h1
 .obtain⟨c,hc⟩:∃c,d.aQ[k]? =some c:=⟨d.aQ[k]'(tf),bY _⟩
  refine gL (λj:Nat=>d.rules.length - j) (λj=>[(7,iV (j:Int)),(6,iV (((d.rules.take j).map (·.aS)).count (k:Int):Nat))]) (λj=>j<=d.rules.length) 0 (bH _) ?_;intro j hj;have hcn:((d.rules.take j).map (·.aS)).count (k:Int)<=4096:=by
   have:=aaI (k:Int) ((d.rules.take j).map (·.aS));rw[bC,gM]at this;omega
  refine aC ?_ ?_<;>intro h2
  .refine gX bi (xs:=d.rules) λ_ _ r (vv:ah×ah) hr=>?_;have hst:((d.rules.take (j+1)).map (·.aS)).count (k:Int)=((d.rules.take j).map (·.aS)).count (k:Int)+if r.aS=(k:Int)then 1 else 0:=by
    rw[bU hr,ek,ww,List.count_append,List.count_singleton];congr 1;by_cases e:r.aS=(k:Int)<;>simp[e]
   refine aC ?_ ?_<;>intro h3
   .rw[if_pos h3]at hst;exact j0
   .rw[if_neg h3]at hst;exact j0
  have hjr:j=d.rules.length:=tf
  subst hjr;rw[bP]at hcn⊢;refine gH ?_ ?_<;>intro h3
  .refine gX bZ (xs:=d.aQ) λ_ _ c' (_:Unit) hc'=>?_;cases hc.symm.trans hc';refine gC (as6 (c:=c)) λ_ _=>?_;refine go ?_;refine fP rfl (λh4=>?_) (λh4=>?_)
   .refine go ?_;exact gQ false ⟨(λh=>by cases h),λh=>absurd (h.jS k c hc).2 h4⟩
   .refine go ?_;refine aO (k+1) y6 ⟨tf,λi x hi hx=>?_⟩;by_cases hik:i=k
    .subst hik;rw[hc]at hx;cases hx;exact⟨tf,h4⟩
    .exact KG i x tf hx
  .exact n5
 have hkc:k=d.aQ.length:=tf
 subst hkc;refine go ?_;exact gQ true ⟨λ_=>⟨hall,EM,λi c hc=>KG i c (bJ.1 hc).1 hc⟩,λ_=>rfl⟩
def att(hT:vP d):fC Tryz.prog 86 [.agg ⟨iD d vh vs vr vc vu⟩] (nK d vh vs vr vc vu) (λe:Int=>iV e) (λe=>e=0↔EO d):=by
 have hD:=hT.s;have hsl:=hD.dK;have hrl:=hD.regs;have hcl:=hD.jS;have oG:=hD.lH;refine gB 86 λB w0=>?_;refine gF fG vs d.symbols λrz cs1 es=>?_;subst es;refine gF fw vr d.regions λar cr er=>?_;subst er;refine gF bZ vc d.aQ λac cc ec=>?_;subst ec;refine gF bi vu d.rules λau cu eu=>?_;subst eu;refine go ?_;intro b1;refine gP b1 ?_;refine gH ?_ ?_<;>intro k1
 rotate_left
 .refine go ?_;refine gQ 2 ⟨λh=>?_,λh=>?_⟩
  .exact ju
  exfalso
  have:=h.lim.s0;omega
 refine gH ?_ ?_<;>intro k2
 rotate_left
 .refine go ?_;refine gQ 2 ⟨λh=>?_,λh=>?_⟩
  .exact ju
  exfalso
  have:=h.lim.s1;omega
 refine gH ?_ ?_<;>intro k3
 rotate_left
 .refine go ?_;refine gQ 2 ⟨λh=>?_,λh=>?_⟩
  .exact ju
  exfalso
  have:=h.lim.r;omega
 refine gH ?_ ?_<;>intro k4
 rotate_left
 .refine go ?_;refine gQ 2 ⟨λh=>?_,λh=>?_⟩
  .exact ju
  exfalso
  have:=h.lim.c;omega
 refine aC ?_ ?_<;>intro k5
 .refine go ?_;refine gQ 2 ⟨λh=>?_,λh=>?_⟩
  .exact ju
  exfalso
  have:=h.lim.u;omega
 refine gC (adK (d:=d) hD) λy hy=>?_;obtain⟨ok,e,v1,v2⟩:=y;cases ok with
 |false=>
  obtain⟨he,hno⟩:=hy.2 rfl;have he:e≠0:=he;dsimp only[cond,vK,ry,List.nil_append];refine go ?_;intro b3;refine aC ?_ ?_<;>intro k6
  rotate_left
  .exact absurd (iX.1 k6) he
  refine go ?_;exact gQ e ⟨λh=>absurd h he,λh=>absurd h.rs hno⟩
 |true=>
 obtain⟨he,hres⟩:=hy.1 rfl;have he:e=0:=he;subst he;clear hy;dsimp only[cond,vK,ry,List.cons_append,List.nil_append];refine go ?_;intro b3;refine go ?_;refine fo (aj ai vh (Kd.bO d).holes) (λw hw=>hw (aj ai vh d.holes) tg) ?_;refine fo (aj fG (.slice rz d.symbols.length cs1) (Kd.bO d).symbols) (λw hw=>hw (aj fG (.slice rz d.symbols.length cs1) d.symbols) tg) ?_;refine fo (aj fw (.slice ar d.regions.length cr) (Kd.bO d).regions) (λw hw=>hw (aj fw (.slice ar d.regions.length cr) d.regions) tg) ?_;refine fD (asY (x:=Kd.bO d) (y:=d) (h1:=vh) (s1:=.slice rz d.symbols.length cs1) (r1:=.slice ar d.regions.length cr) (c1:=v1) (u1:=v2) (h2:=vh) (s2:=.slice rz d.symbols.length cs1) (r2:=.slice ar d.regions.length cr) (c2:=.slice ac d.aQ.length cc) (u2:=.slice au d.rules.length cu) hD.bO) (next:=λ_ _=>?_);refine go ?_;refine ql (λk7=>?_) (λk7=>?_)
 rotate_left
 .refine go ?_;refine gQ 170 ⟨λh=>?_,λh=>?_⟩
  .exact ju
  exfalso
  exact k7 h.same
 refine gH ?_ ?_<;>intro k8
 rotate_left
 .exact tc
 refine aC ?_ ?_<;>intro k9
 .exact tc
 refine gC (VV (s:=d.shape) (w:=d.w) (h:=d.h) (holes:=d.holes) (vh:=vh) hT.w hT.h hT.holes) λy hy=>?_;obtain⟨ok,gh,gc⟩:=y;cases ok with
 |false=>
  have hno:¬qZ d.shape d.w d.h d.holes:=λh=>by have:=hy.2 h;cases this
  dsimp only[mkV,rQ,cond,List.nil_append];refine go ?_;intro b5;refine go ?_;exact gQ 130 ⟨(λh=>by cases h),λh=>absurd h.EP hno⟩
 |true=>
 have hmk:=hy.1 rfl;clear hy;dsimp only[cond,mkV,rQ];rw[show zK d.shape d.w d.h d.holes=aT d from rfl];dsimp only[jU,iW,List.cons_append,List.nil_append];refine go ?_;intro b5;refine go ?_;have htr:=as5 (d:=d) (vh:=vh) (vs:=.slice rz d.symbols.length cs1) (vr:=.slice ar d.regions.length cr) (vc:=.slice ac d.aQ.length cc) (vu:=.slice au d.rules.length cu) (gh:=gh) (gc:=gc) (g:=aT d) hD (KH hmk);dsimp only[jU,iW]at htr;refine fD htr (next:=λe he=>?_);refine aC ?_ ?_<;>intro k10
 .refine go ?_;exact gQ e ⟨λh=>absurd h k10,λh=>absurd (he.2 h.zN) k10⟩
 have hrg:=he.1 (iX.1 k10);clear he k10;refine gC (atr (d:=d) hD) λb hb=>?_;cases b with
 |false=>
  refine go ?_;exact gQ 170 ⟨(λh=>by cases h),λh=>absurd (hb.2 h.form) tg⟩
 |true=>
 have hfm:=hb.1 rfl;clear hb;refine gC (as9 (d:=d) oG) λa3 _=>?_;refine aC ?_ ?_<;>intro k11
 .refine go ?_;refine gQ 171 ⟨λh=>?_,λh=>?_⟩
  .exact ju
  exfalso
  rw[h.read]at k11;simp at k11
 refine go ?_;exact gQ 0 ⟨λ_=>⟨⟨tf,tf,tf,tf,tf⟩,hres,k7,⟨tf,tf⟩,hmk,hrg,hfm,lW.1 tf⟩,λ_=>rfl⟩
