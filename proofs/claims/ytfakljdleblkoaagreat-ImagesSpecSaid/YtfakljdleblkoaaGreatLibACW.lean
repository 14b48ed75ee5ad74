/-
  Part LibACW.
-/
import Derived.Test.YtfakljdleblkoaaGreatLibABW
import Derived.Test.YtfakljdleblkoaaGreatLibAAW
set_option linter.all false
set_option maxRecDepth 10000
set_option maxHeartbeats 4000000
namespace Go.Proofs.YtfakljdleblkoaaGreat
open Go.Ideal Kd Canon
variable{k:bS}{s t:List Int}{vh vs vr vc vu gh gc vn vl sc st:Value}
theorem ain{r:bA}{v1 v2:Value}(hK:eF k)(hr:r∈k.decl.rules)(H:Oh k s t r):
 dL Tryz.prog 139 [.agg ⟨lC k vh vs vr vc vu gh gc vn vl⟩,.agg ⟨[sc,st]⟩,.agg ⟨jI r v1 v2⟩] (ckF k s t vs vn vl sc st) (.bool (keepR k s t r)):=by
 have hL:=H.JA;have hm:=H.m1;have hn:=H.n1;have hkd:=H.kind;obtain⟨sn,hs1,hs2⟩:=(hK.rf hr).s1;obtain⟨on,ho1,ho2⟩:=(hK.rf hr).s2;have hsb:=H.st;have Wy:=H.ot;have hD:CL k.grid.cells.length (k.lists.getD r.family.toNat []) s r.family:=⟨hL.iK,H.ps,hK.nodup hL.hL⟩
 have Fu:=λ(ord kQ:Bool)=>aij (ord:=ord) (kQ:=kQ) (vh:=vh) (vs:=vs) (vr:=vr) (vc:=vc) (vu:=vu) (gh:=gh) (gc:=gc) (vn:=vn) (vl:=vl) (vt:=sc) (v1:=v1) (v2:=v2) hL;have hval:=aic (vh:=vh) (vs:=vs) (vr:=vr) (vc:=vc) (vu:=vu) (gh:=gh) (gc:=gc) (vn:=vn) (vl:=vl) (vt:=st) (k:=k) (t:=t) rfl H.pt vj;have Wz:=aid (vh:=vh) (vs:=vs) (vr:=vr) (vc:=vc) (vu:=vu) (gh:=gh) (gc:=gc) (vn:=vn) (vl:=vl) (vt:=sc) (k:=k) (s:=s) H.aD H.ps vj H.VD;have hkeep:keepR k s t r=(lg sn on t&&jS k s t r):=by unfold keepR;rw[hs1,ho1,gy,gy]
 rw[hkeep];have hpt:=H.pt;rw[hs1,gy]at hsb;rw[ho1,gy]at Wy;clear H hL hkeep hr;unfold jS;obtain⟨rn,ro,rk,rf,cB,cK,Ju,Jv,gL,gM,gN,gP⟩:=r;dsimp only at hs1 ho1 hkd hD Fu⊢;subst hs1 ho1;refine aH _ (aN 139) λB w0=>?_;dsimp only[ckF];refine go ?_;intro b3 b4 b5;refine bi (dR (b:=b3)) (h:=?_);refine bi (dR (b:=b4)) (h:=?_);refine bi (dR (b:=b5)) (h:=?_);refine go ?_;refine ax (Wu (m:=k.decl.symbols.length) (n:=sn) (t:=t) hpt hm hsb.2) (next:=λo1 hi1=>?_);have e1:=Wv hpt hs2 hi1;refine go ?_;refine gG (λh1=>?_) (λh1=>?_)
 rotate_left
 ·have:lg sn on t=false:=by
   cases e:lg sn on t with
   |false=>rfl
   |true=>exact absurd (congrArg (λx:Nat=>(x:Int)) (e1.2 (OB.1 e).1)) h1
  rw[this,JV];exact de
 have h1:(o1:Int)=(sn:Int):=gT.1 h1;refine go ?_;refine ax (Wu (m:=k.decl.symbols.length) (n:=on) (t:=t) hpt hm Wy.2) (next:=λo2 hi2=>?_);have e2:=Wv hpt ho2 hi2;refine go ?_;refine az rfl (λh2=>?_) (λh2=>?_)
 ·have:lg sn on t=false:=by
   cases e:lg sn on t with
   |false=>rfl
   |true=>exact absurd (congrArg (λx:Nat=>(x:Int)) (e2.2 (OB.1 e).2)) h2
  rw[this,JV];exact de
 have h2:(o2:Int)=(on:Int):=gT.1 h2;have:lg sn on t=true:=OB.2 ⟨e1.1 vj,e2.1 vj⟩;rw[this,Bool.true_and];refine go ?_;by_cases k1:rk=1\/rk=2
 ·iterate 8 (all_goals (first|(exfalso;omega)|(refine az rfl (λhh=>?_) (λhh=>?_)<;>try dsimp only at hh)|(refine go ?_)))
  all_goals (
   refine ax (Fu false false) (next:=λ_ _=>?_);refine go ?_;refine ah () (hv:=?_) (hp:=trivial);rw[if_pos k1,Wx hD];rfl)
 by_cases k3:rk=3
 ·iterate 8 (all_goals (first|(exfalso;omega)|(refine az rfl (λhh=>?_) (λhh=>?_)<;>try dsimp only at hh)|(refine go ?_)))
  refine ax (Fu false false) (next:=λ_ _=>?_);rw[Wx hD,if_neg k1,if_pos k3];cases hb:iN (k.lists.getD rf.toNat []) s rf iT with
  |false=>
   exact de
  |true=>
  refine go ?_;refine ax hval (next:=λ_ _=>?_);refine go ?_;exact ah () (hv:=rfl) (hp:=trivial)
 by_cases k4:rk=4
 ·iterate 10 (all_goals (first|(exfalso;omega)|(refine az rfl (λhh=>?_) (λhh=>?_)<;>try dsimp only at hh)|(refine go ?_)))
  refine ax (Fu true false) (next:=λ_ _=>?_);rw[ail hD,if_neg k1,if_neg k3,if_pos k4];cases hb:iN (k.lists.getD rf.toNat []) s rf rF with
  |false=>
   exact de
  |true=>
  refine go ?_;refine ax hval (next:=λ_ _=>?_);refine go ?_;exact ah () (hv:=rfl) (hp:=trivial)
 by_cases k5:rk=5
 ·iterate 12 (all_goals (first|(exfalso;omega)|(refine az rfl (λhh=>?_) (λhh=>?_)<;>try dsimp only at hh)|(refine go ?_)))
  refine ax (Fu true true) (next:=λ_ _=>?_);refine go ?_;refine ah () (hv:=?_) (hp:=trivial);rw[if_neg k1,if_neg k3,if_neg k4,if_pos k5,aim hD];rfl
 by_cases k7:rk=7
 ·iterate 20 (all_goals (first|(exfalso;omega)|(refine az rfl (λhh=>?_) (λhh=>?_)<;>try dsimp only at hh)|(refine go ?_)))
  refine ax Wz (next:=λ_ _=>?_);rw[if_neg k1,if_neg k3,if_neg k4,if_neg k5,if_pos k7];cases hb:jC k.aD s with
  |false=>
   exact de
  |true=>
  refine go ?_;refine ax hval (next:=λ_ _=>?_);refine go ?_;exact ah () (hv:=rfl) (hp:=trivial)
 rw[if_neg k1,if_neg k3,if_neg k4,if_neg k5,if_neg k7];by_cases k6:rk=6\/rk=8\/rk=9\/rk=10
 ·rw[if_pos k6];iterate 20 (all_goals (first|(exfalso;omega)|(refine az rfl (λhh=>?_) (λhh=>?_)<;>try dsimp only at hh)|(refine go ?_)))
  all_goals (
   refine ax Wz (next:=λ_ _=>?_);refine go ?_;exact ah () (hv:=rfl) (hp:=trivial))
 rw[if_neg k6];iterate 22 (all_goals (first|(exfalso;omega)|(refine az rfl (λhh=>?_) (λhh=>?_)<;>try dsimp only at hh)|(refine go ?_)))
 exact ah () (hv:=rfl) (hp:=trivial)
theorem aio(hK:eF k)(hs:s.length<9223372036854775808)(ht:t.length<9223372036854775808):
 aU Tryz.prog (.func 59) [.agg ⟨lC k vh vs vr vc vu gh gc vn vl⟩,.agg ⟨[sc,st]⟩] [] [] (ai ae sc s::ai ae st t::ku k vh vs vr vc vu gh gc vn vl []) (λb:Bool=>.bool b) (λ_=>[]) (λ_=>[]) (λb=>b=true↔nN k s t):=by
 have hn:=hK.Ao;have hm:=hK.typ.lim.s1;have vV:=hK.typ.lim.u;refine aH _ (aN 59) λB w0=>?_;dsimp only[ku];refine aT (E:=ae) (v:=gc) (xs:=k.grid.cells) vm λag cg eg=>?_;subst eg;refine aT (E:=eP) (v:=vs) (xs:=k.decl.symbols) vm λmh cs1 es1=>?_;subst es1;refine aT (E:=aY) (v:=vu) (xs:=k.decl.rules) vm λau cu eu=>?_;subst eu;refine go ?_;intro b2 b3;refine bi (dR (b:=b2)) (h:=?_);refine bi (dR (b:=b3)) (h:=?_);refine go ?_;refine ax (Ws (xs:=s) (n:=k.grid.cells.length) vj hs) (next:=λe1 he1=>?_);cases e1 with
 |false=>
  refine go ?_;exact ah false (hv:=rfl) (hp:=⟨(λh=>by cases h),λh=>by have:=he1.2 h.pc;cases this⟩)
 |true=>
 have hps:=he1.1 rfl;refine go ?_;refine ax (Ws (xs:=t) (n:=k.decl.symbols.length) vj ht) (next:=λe2 he2=>?_);cases e2 with
 |false=>
  refine go ?_;exact ah false (hv:=rfl) (hp:=⟨(λh=>by cases h),λh=>by have:=he2.2 h.ps;cases this⟩)
 |true=>
 have hpt:=he2.1 rfl;refine go ?_;refine aW (λj:Nat=>k.decl.rules.length - j) (λj=>[(5,.int .i64 (j:Int))]) (λ_=>[]) (λ_=>[]) (λj=>j<=k.decl.rules.length/\∀r∈k.decl.rules.take j,keepR k s t r=true) 0 ⟨bQ _,vm⟩ (body:=?_);rintro j ⟨hj,hall⟩;refine go ?_;refine az rfl (λh3=>?_) (λh3=>?_)
 ·refine go ?_;refine bq aY (xs:=k.decl.rules) (next:=λ_ _ r (w:Value×Value) hr=>?_);have hrm:=aP hr;have H:=hK.VH hps hpt hrm;refine go ?_;refine ax (ain (vh:=vh) (vs:=.slice mh k.decl.symbols.length cs1) (vr:=vr) (vc:=vc) (vu:=.slice au k.decl.rules.length cu) (gh:=gh) (gc:=.slice ag k.grid.cells.length cg) (vn:=vn) (vl:=vl) (sc:=sc) (st:=st) (v1:=w.1) (v2:=w.2) hK hrm H) (next:=λ_ _=>?_);cases hkr:keepR k s t r with
  |false=>
   refine go ?_;exact ah false (hv:=rfl) (hp:=⟨(λe=>by cases e),λq=>by have:=q.nA r hrm;rw[hkr]at this;cases this⟩)
  |true=>
  refine go ?_;refine aM (j+1) C6 ⟨vj,λx hx=>?_⟩;rw[bU hr]at hx;rcases dW.1 hx with hx|hx
  ·exact hall x hx
  ·rw[bK.1 hx];exact hkr
 have gV:j=k.decl.rules.length:=vj
 subst gV;rw[bJ]at hall;refine go ?_;exact ah true (hv:=rfl) (hp:=⟨λ_=>⟨hps,hpt,hall⟩,λ_=>rfl⟩)
theorem aip(hS:tC k)(hs:s.length<9223372036854775808)(ht:t.length<9223372036854775808):
 aU Tryz.prog (.func 33) [.agg ⟨lC k vh vs vr vc vu gh gc vn vl⟩,.agg ⟨[sc,st]⟩] [] [] (ai ae sc s::ai ae st t::ku k vh vs vr vc vu gh gc vn vl []) (λy:Bool×Int=>.tuple ⟨[.bool y.1,.int .i64 y.2]⟩) (λ_=>[]) (λ_=>[]) (VM k s t):=by
 refine aH _ (aN 33) λB w0=>?_;dsimp only[ku];refine go ?_;intro b2 b3;refine go ?_;refine ax (Wi (k:=k) (vh:=vh) (vs:=vs) (vr:=vr) (vc:=vc) (vu:=vu) (gh:=gh) (gc:=gc) (vn:=vn) (vl:=vl) hS) (next:=λb hb=>?_);cases b with
 |false=>
  exact mz
 |true=>
 have hK:=hb.1 rfl;dsimp only[cond];refine go ?_;refine ax (aio (k:=k) (s:=s) (t:=t) (vh:=vh) (vs:=vs) (vr:=vr) (vc:=vc) (vu:=vu) (gh:=gh) (gc:=gc) (vn:=vn) (vl:=vl) (sc:=sc) (st:=st) hK hs ht) (next:=λc hc=>?_);refine go ?_;exact ah (c,0) (hv:=rfl) (hp:=⟨λh=>absurd hK h,λ_=>⟨rfl,hc⟩⟩)
theorem aiq(hS:tC k)(hs:s.length<9223372036854775808)(ht:t.length<9223372036854775808):
 aU Tryz.prog (.func 14) [.agg ⟨lC k vh vs vr vc vu gh gc vn vl⟩,.agg ⟨[sc,st]⟩] [] [] (ai ae sc s::ai ae st t::ku k vh vs vr vc vu gh gc vn vl []) (λe:Int=>.int .i64 e) (λ_=>[]) (λ_=>[]) (Fj k s t):=by
 refine aH _ (aN 14) λB w0=>?_;dsimp only[ku];refine go ?_;intro b2 b3;refine go ?_;refine ax (Wi (k:=k) (vh:=vh) (vs:=vs) (vr:=vr) (vc:=vc) (vu:=vu) (gh:=gh) (gc:=gc) (vn:=vn) (vl:=vl) hS) (next:=λb hb=>?_);cases b with
 |false=>
  exact cQ
 |true=>
 have hK:=hb.1 rfl;dsimp only[cond];refine go ?_;refine ax (aip (k:=k) (s:=s) (t:=t) (vh:=vh) (vs:=vs) (vr:=vr) (vc:=vc) (vu:=vu) (gh:=gh) (gc:=gc) (vn:=vn) (vl:=vl) (sc:=sc) (st:=st) hS hs ht) (next:=λy hy=>?_);obtain⟨c,e⟩:=y;obtain⟨he,hc⟩:=hy.ok hK;dsimp only at he hc;subst he;refine go ?_;cases c with
 |false=>
  exact mw
 |true=>
  exact pw
