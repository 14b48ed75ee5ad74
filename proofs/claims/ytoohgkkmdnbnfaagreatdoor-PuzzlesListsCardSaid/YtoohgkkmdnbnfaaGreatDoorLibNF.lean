/-
  Puzzles checked.
-/
import Derived.Test.YtoohgkkmdnbnfaaGreatDoorLibKF
import Derived.Test.YtoohgkkmdnbnfaaGreatDoorLibMF
import Derived.Test.YtoohgkkmdnbnfaaGreatDoorLibLF
set_option linter.all false
set_option maxRecDepth 10000
set_option maxHeartbeats 4000000
namespace Go.Proofs.YtoohgkkmdnbnfaaGreatDoor
open Go.Ideal Kd Canon
structure EG(p:List Clue):Prop where
 len:p.length<9223372036854775808
 vals:∀g∈p,g.values.length<9223372036854775808
theorem afk{k:bT}{g:Clue}{vh vs vr vc vu gh gc vn vl vv:Value}(hS:pO k)(hF:LX k)(hv:g.values.length<9223372036854775808):
 bz Tryz.prog (.func 37) [.agg ⟨l6 k vh vs vr vc vu gh gc vn vl⟩,HZ g vv] [] [] (ah aa vv g.values::mW k vh vs vr vc vu gh gc vn vl []) (λb:Bool=>.bool b) (λ_=>[]) (λ_=>[]) (λb=>b=true↔xU k g):=by
 have hcl:=hS.d.s.jk;have hsl:=hS.d.s.dO;refine aK _ (aP 37) λB w0=>?_;refine aV (E:=bJ) (v:=vc) (xs:=k.decl.aI) (by simp) λac cc ec=>?_;subst ec;refine aV (E:=fA) (v:=vs) (xs:=k.decl.symbols) (by simp) λlF cs1 es1=>?_;subst es1;refine aV (E:=aj (aj aa)) (v:=vl) (xs:=k.lists) (by simp) λal cl el=>?_;subst el;refine aV (E:=aa) (v:=vv) (xs:=g.values) (by simp) λav cv EF=>?_;subst EF;refine go ?_;intro b2 b3;refine bC (eH (b:=b2)) (h:=?_);refine bC (eH (b:=b3)) (h:=?_);refine go ?_;first|with_reducible refine aL (λh1=>?_) (λh1=>?_)|with_reducible refine aO (λh1=>?_) (λh1=>?_)|with_reducible refine aM (λh1=>?_) (λh1=>?_)
 rotate_left
 ·refine go ?_;exact ae false (hv:=rfl) (hp:=⟨(λh=>by cases h),λ⟨c,l,h,_⟩=>by omega⟩)
 refine go ?_;refine az rfl (λh2=>?_) (λh2=>?_)
 ·refine go ?_;refine ae false (hv:=rfl) (hp:=⟨(λh=>by cases h),λ⟨c,l,_,h,_⟩=>?_⟩);have:=(bN.1 h).1;omega
 obtain⟨ci,hci⟩:=tO (show 0<=g.aG by omega);have hg0:0<=g.aG:=by omega
 have Pn:ci<k.decl.aI.length:=by omega
 have htn:g.aG.toNat=ci:=by omega
 refine go ?_;rw[hci];refine aZ bJ (xs:=k.decl.aI) (next:=λ_ _ c (_:Unit) hc=>?_);obtain⟨hf0,hf1⟩:=hF c (bI hc);refine go ?_;intro b5;refine go ?_;first|with_reducible refine aL (λh3=>?_) (λh3=>?_)|with_reducible refine aO (λh3=>?_) (λh3=>?_)|with_reducible refine aM (λh3=>?_) (λh3=>?_)
 rotate_left
 ·refine go ?_;exact ae false (hv:=rfl) (hp:=⟨(λh=>by cases h),λ⟨c,l,_,_,_,h,_⟩=>by omega⟩)
 refine go ?_;obtain⟨fi,hfi⟩:=tO hf0;have Ul:c.family.toNat=fi:=by omega
 rw[hfi];refine aZ (aj (aj aa)) (xs:=k.lists) (next:=λ_ _ ls (EH:Value) hls=>?_);refine go ?_;refine az rfl (λh4=>?_) (λh4=>?_)
 ·refine go ?_;refine ae false (hv:=rfl) (hp:=⟨(λh=>by cases h),λ⟨c',l',_,q1,q2,q3,q4,_⟩=>?_⟩);rw[htn,hc]at q1;cases q1;rw[Ul,hls]at q2;cases q2;omega
 have hR:∀b:Bool,(b=true↔((c.type=1/\g.values.length=1/\∀x∈g.values,0<=x/\x<=(k.decl.symbols.length:Int) - 1)\/(c.type=2/\g.values.length=1/\∀x∈g.values,c.lo<=x/\x<=c.hi)\/
  (c.type≠1/\c.type≠2/\g.values.length<=8/\∀x∈g.values,1<=x/\x<=256)))->(b=true↔xU k g):=λb hb=>by
  rw[hb];refine⟨λh=>⟨c,ls,hg0,by rw[htn];exact hc,by rw[Ul];exact hls,by omega,by omega,h⟩,λ⟨c',l',_,q1,_,_,_,h⟩=>?_⟩;rw[htn,hc]at q1;cases q1;exact h
 refine go ?_;refine az rfl (λh5=>?_) (λh5=>?_)
 ·refine go ?_;first|with_reducible refine aL (λh6=>?_) (λh6=>?_)|with_reducible refine aO (λh6=>?_) (λh6=>?_)|with_reducible refine aM (λh6=>?_) (λh6=>?_)
  ·refine go ?_;exact ae false (hv:=rfl) (hp:=hR _ ⟨(λh=>by cases h),λh=>by exfalso;omega⟩)
  refine go ?_;refine ax (Me (xs:=g.values) (lo:=0) (hi:=(k.decl.symbols.length:Int) - 1) hv) (next:=λ_ _=>?_);refine go ?_;refine ae (wm g.values 0 ((k.decl.symbols.length:Int) - 1)) (hv:=rfl) (hp:=hR _ ?_);unfold wm;rw[wO];exact⟨λh=>.inl ⟨h5,by omega,h⟩,λh=>by rcases h with h|h|h;exact h.2.2;exact absurd h5 (by omega);exact absurd h5 h.1⟩
 refine go ?_;refine az rfl (λh6=>?_) (λh6=>?_)
 ·refine go ?_;first|with_reducible refine aL (λh7=>?_) (λh7=>?_)|with_reducible refine aO (λh7=>?_) (λh7=>?_)|with_reducible refine aM (λh7=>?_) (λh7=>?_)
  ·refine go ?_;exact ae false (hv:=rfl) (hp:=hR _ ⟨(λh=>by cases h),λh=>by exfalso;omega⟩)
  refine go ?_;refine ax (Me (xs:=g.values) (lo:=c.lo) (hi:=c.hi) hv) (next:=λ_ _=>?_);refine go ?_;refine ae (wm g.values c.lo c.hi) (hv:=rfl) (hp:=hR _ ?_);unfold wm;rw[wO];exact⟨λh=>.inr (.inl ⟨h6,by omega,h⟩),λh=>by rcases h with h|h|h;exact absurd h.1 h5;exact h.2.2;exact absurd h6 h.2.1⟩
 refine go ?_;first|with_reducible refine aL (λh7=>?_) (λh7=>?_)|with_reducible refine aO (λh7=>?_) (λh7=>?_)|with_reducible refine aM (λh7=>?_) (λh7=>?_)
 ·refine go ?_;exact ae false (hv:=rfl) (hp:=hR _ ⟨(λh=>by cases h),λh=>by exfalso;omega⟩)
 refine go ?_;refine ax (Me (xs:=g.values) (lo:=1) (hi:=256) hv) (next:=λ_ _=>?_);refine go ?_;refine ae (wm g.values 1 256) (hv:=rfl) (hp:=hR _ ?_);unfold wm;rw[wO];exact⟨λh=>.inr (.inr ⟨h5,h6,by omega,h⟩),λh=>by rcases h with h|h|h;exact absurd h.1 h5;exact absurd h.1 h6;exact h.2.2.2⟩
end Go.Proofs.YtoohgkkmdnbnfaaGreatDoor
namespace Go.Proofs.YtoohgkkmdnbnfaaGreatDoor
open Go.Ideal Kd Canon
theorem fV.decl{k:bT}(h:fV k):k.decl=Kd.bF k.decl:=congrArg bT.decl h.e
theorem fV.lists{k:bT}(h:fV k):k.lists=kI k.decl:=by
 have:=congrArg bT.lists h.e;have h2:(jV (Kd.bF k.decl)).lists=kI (Kd.bF k.decl):=rfl;rw[h2,<- h.decl]at this;exact this
theorem fV.grid{k:bT}(h:fV k):k.grid=aN k.decl:=by
 have:=congrArg bT.grid h.e;have h2:(jV (Kd.bF k.decl)).grid=aN (Kd.bF k.decl):=rfl;rw[h2,<- h.decl]at this;exact this
theorem fV.bE{k:bT}(h:fV k):k.bE=bG (aN k.decl):=by
 have:=congrArg bT.bE h.e;have h2:(jV (Kd.bF k.decl)).bE=bG (aN (Kd.bF k.decl)):=rfl;rw[h2,<- h.decl]at this;exact this
theorem fV.typ{k:bT}(h:fV k):EA k.decl:=by
 have:=h.b.typ;rw[<- h.decl]at this;exact this
theorem fV.pG{k:bT}(h:fV k):LX k:=by
 intro c hc;rw[h.decl]at hc;obtain⟨q,hq,rfl⟩:=eG.1 (show c∈k.decl.aI.map (kN (bS k.decl))from hc);have h1:=xP (h.b.rs.LJ q hq);have h2:(bS k.decl).length=8+k.decl.regions.length:=by
  unfold bS;rw[gD,bU];rfl
 have h3:k.lists.length=8+k.decl.regions.length:=by
  rw[h.lists];unfold kI;rw[gD,bU,bU,Cn]
 show 0<=((dR q.on (bS k.decl):Nat):Int)/\((dR q.on (bS k.decl):Nat):Int)<_;omega
theorem afl{k:bT}{p:List Clue}{vh vs vr vc vu gh gc vn vl vp:Value}(hS:pO k)(hP:EG p):
 bz Tryz.prog (.func 15) [.agg ⟨l6 k vh vs vr vc vu gh gc vn vl⟩,.agg ⟨[vp]⟩] [] [] (ah j6 vp p::mW k vh vs vr vc vu gh gc vn vl []) (λe:Int=>.int .i64 e) (λ_=>[]) (λ_=>[])
  (λe=>(¬fV k->e=180)/\(fV k->¬kQ k p->e=190)/\(fV k->kQ k p->e=0)):=by
 refine aK _ (aP 15) λB w0=>?_;refine aV (E:=j6) (v:=vp) (xs:=p) (by simp) λap1 cp ep=>?_;subst ep;refine go ?_;intro b2 b3;refine bC (eH (b:=b2)) (h:=?_);refine bC (eH (b:=b3)) (h:=?_);refine go ?_;refine ax (aff (k:=k) (vh:=vh) (vs:=vs) (vr:=vr) (vc:=vc) (vu:=vu) (gh:=gh) (gc:=gc) (vn:=vn) (vl:=vl) hS) (next:=λb hb=>?_);cases b with
 |false=>
  have hno:¬fV k:=λh=>by have:=hb.2 h;cases this
  dsimp only[cond];refine go ?_;exact ae 180 (hv:=rfl) (hp:=⟨λ_=>rfl,λh=>absurd h hno,λh=>absurd h hno⟩)
 |true=>
 have hK:=hb.1 rfl;clear hb;have hend:¬kQ k p->(¬fV k->(190:Int)=180)/\(fV k->¬kQ k p->(190:Int)=190)/\(fV k->kQ k p->(190:Int)=0):=λhn=>⟨λh=>absurd hK h,λ_ _=>rfl,λ_ h=>absurd h hn⟩
 dsimp only[cond];refine go ?_;refine az rfl (λh1=>?_) (λh1=>?_)
 ·refine go ?_;exact ae 190 (hv:=rfl) (hp:=hend λh=>by have:=h.len;omega)
 refine go ?_;refine bi (λj:Nat=>p.length - j) (λj=>[(17,.int .i64 (j:Int))]) (λ_=>[]) (λ_=>[]) (λj=>j<=p.length/\(∀g∈p.take j,xU k g)/\∀(i:Nat) a b,i+1<j->p[i]? =some a->p[i+1]? =some b->fK a b<0) 0 ⟨cB _,by simp,λi a b h=>by omega⟩ (body:=?_);rintro j ⟨hj,hall,hs⟩;refine go ?_;refine az rfl (λh2=>?_) (λh2=>?_)
 ·refine go ?_;refine aZ j6 (xs:=p) (next:=λ_ _ g (vg:Value) hg=>?_);have hgm:=bI hg;have htk:=bX hg;refine go ?_;intro b6;refine go ?_;refine ax (afk (k:=k) (g:=g) (vh:=vh) (vs:=vs) (vr:=vr) (vc:=vc) (vu:=vu) (gh:=gh) (gc:=gc) (vn:=vn) (vl:=vl) (vv:=vg) hS hK.pG (hP.vals g hgm)) (next:=λb hb=>?_);cases b with
  |false=>
   refine go ?_;exact ae 190 (hv:=rfl) (hp:=hend λh=>by have:=hb.2 (h.right g hgm);cases this)
  |true=>
  have hR:=hb.1 rfl;have Um:∀x∈p.take (j+1),xU k x:=by
   rw[htk];intro x hx;rcases dX.1 hx with hx|hx
   ·exact hall x hx
   ·rw[bH.1 hx];exact hR
  refine go ?_;first|with_reducible refine aL (λh3=>?_) (λh3=>?_)|with_reducible refine aO (λh3=>?_) (λh3=>?_)|with_reducible refine aM (λh3=>?_) (λh3=>?_)
  ·have hj0:j=0:=by omega
   subst hj0;refine go ?_;exact aQ 1 (by show p.length - 1<p.length - 0;omega) ⟨by omega,Um,λi a b h=>by omega⟩
  obtain⟨i,rfl⟩:∃i,j=i+1:=⟨j - 1,by omega⟩
  refine go ?_;rw[show((i+1:Nat):Int) - 1=(i:Int)by omega];refine aZ j6 (xs:=p) (next:=λ_ _ g0 (vg0:Value) hg0=>?_);refine go ?_;refine ax (M6 (a:=g0) (b:=g) (va:=vg0) (vb:=vg)) (next:=λ_ _=>?_);refine go ?_;refine az rfl (λh4=>?_) (λh4=>?_)
  ·refine go ?_;exact ae 190 (hv:=rfl) (hp:=hend λh=>by have:=h.sorted i g0 g hg0 hg;omega)
  ·refine go ?_;refine aQ (i+1+1) (by show p.length - (i+1+1)<p.length - (i+1);omega) ⟨by omega,Um,λi' a b h ha hb=>?_⟩;by_cases e:i'=i
   ·subst e;rw[hg0]at ha;rw[hg]at hb;cases ha;cases hb;omega
   ·exact hs i' a b (by omega) ha hb
 have jr:j=p.length:=by omega
 subst jr;rw[bK]at hall;refine go ?_;exact ae 0 (hv:=rfl) (hp:=⟨λh=>absurd hK h,λ_ h=>absurd ⟨by omega,hall,λi a b ha hb=>hs i a b (bN.1 hb).1 ha hb⟩ h,λ_ _=>rfl⟩)
abbrev M8(k:bT)(grid:List Int):Prop:=Fin (k.grid.cells.length:Int) (k.decl.symbols.length:Int) grid
structure ais(k:bT)(p:List Clue)(grid:List Int)(e:Int):Prop where
 nk:¬fV k->e=180
 nf:fV k->¬M8 k grid->e=200
 np:fV k->M8 k grid->¬kQ k p->e=190
 ok:fV k->M8 k grid->kQ k p->e=0
end Go.Proofs.YtoohgkkmdnbnfaaGreatDoor
namespace Go.Proofs.YtoohgkkmdnbnfaaGreatDoor
open Go.Ideal Kd Canon
def EI(k:bT):List Int:=k.decl.symbols.map (·.value)
structure Un(k:bT)(r:aS):Prop where
 pG:0<=r.family/\r.family<k.lists.length
 aG:r.aG<k.decl.aI.length
end Go.Proofs.YtoohgkkmdnbnfaaGreatDoor
namespace Go.Proofs.YtoohgkkmdnbnfaaGreatDoor
open Go.Ideal Kd Canon
end Go.Proofs.YtoohgkkmdnbnfaaGreatDoor
namespace Go.Proofs.YtoohgkkmdnbnfaaGreatDoor
open Go.Ideal Kd Canon
end Go.Proofs.YtoohgkkmdnbnfaaGreatDoor
namespace Go.Proofs.YtoohgkkmdnbnfaaGreatDoor
open Go.Ideal Kd Canon
structure Uo(k:bT)(p:List Clue)(grid:List Int)(r:aS)(set other:Nat):Prop where
 s:pO k
 ps:EG p
 pG:LX k
 rin:Un k r
 right:∀g∈p,xU k g
 gri:Te grid
 cells:∀x∈H6 k p r,Tf grid x.1
 vals:Tg (EI k) grid
 bV:jR k.bE
 Ug:grid.length=k.bE.length
 st:r.set=(set:Int)/\set<9223372036854775808
 ot:r.other=(other:Int)/\other<9223372036854775808
 kind:1<=r.kind/\r.kind<=11
 giv:r.kind=2\/r.kind=3\/r.kind=11->∀x∈H6 k p r,0<x.2.length
 few:∀x∈H6 k p r,x.1.length<=4096
 one:r.kind=11->∀x∈H6 k p r,0<x.1.length
theorem Uq{l:List Int}{y:Int}(h:l[0]? =some y):l.getD 0 0=y:=uu h
section
variable {k:bT} {p:List Clue} {grid:List Int} {r:aS} {set other:Nat} {bv br:Nat} {vh vs vr vc vu gh gc vn vl vp vg vv v1 v2:Value}
theorem Uo.bE(H:Uo k p grid r set other):∀l∈k.bE,∀b∈l,0<=b/\b<grid.length:=by
 intro l hl b hb;obtain⟨i,hi⟩:=mH hl;obtain⟨j,hj⟩:=mH hb;have:=H.bV.ok i l hi j b hj;have:=H.Ug;omega
end
end Go.Proofs.YtoohgkkmdnbnfaaGreatDoor
namespace Go.Proofs.YtoohgkkmdnbnfaaGreatDoor
open Go.Ideal Kd Canon
end Go.Proofs.YtoohgkkmdnbnfaaGreatDoor
namespace Go.Proofs.YtoohgkkmdnbnfaaGreatDoor
open Go.Ideal Kd Canon
theorem afp{k:Int}(h:(fO k).read=true):1<=k/\k<=11:=by
 apply Classical.byContradiction;intro hn;have hc:(k<0\/14<=k)\/k=0\/k=12\/k=13:=by omega
 rcases hc with hc|rfl|rfl|rfl
 ·rw[BM hc]at h;cases h
 ·cases h
 ·cases h
 ·cases h
theorem fV.uw{k:bT}(h:fV k){r:aS}(hr:r∈k.decl.rules):∃q∈k.decl.rules,r=lT (bO k.decl) (bS k.decl) (dH k.decl) q:=by
 have h1:r∈(Kd.bF k.decl).rules:=by rw[<- h.decl];exact hr
 obtain⟨q,hq,e⟩:=eG.1 (show r∈k.decl.rules.map (lT (bO k.decl) (bS k.decl) (dH k.decl))from h1);exact⟨q,hq,e.symm⟩
theorem fV.gV{k:bT}(h:fV k):k.lists.length=8+k.decl.regions.length:=by
 rw[h.lists];unfold kI;rw[gD,bU,bU,Cn]
theorem fV.bV{k:bT}(h:fV k):eP (aN k.decl):=⟨h.typ.BN,rfl⟩
theorem fV.inr{k:bT}(h:fV k){r:aS}(hr:r∈k.decl.rules):Un k r:=by
 obtain⟨q,hq,rfl⟩:=h.uw hr;have hro:=h.b.rs.uw q hq;have hl:=h.gV;have hfl:(bS k.decl).length=8+k.decl.regions.length:=by
  unfold bS;rw[gD,bU];rfl
 refine⟨?_,?_⟩
 ·show 0<=(if q.on=⟨⟨[]⟩⟩then(0:Int)else(dR q.on (bS k.decl):Int))/\(if q.on=⟨⟨[]⟩⟩then(0:Int)else(dR q.on (bS k.decl):Int))<_;by_cases e:q.on=⟨⟨[]⟩⟩
  ·rw[if_pos e];omega
  ·rw[if_neg e];have:=xP (hro.on.resolve_left e);omega
 ·show(if q.bW=⟨⟨[]⟩⟩then(-1:Int)else(dR q.bW (dH k.decl):Int))<_;by_cases e:q.bW=⟨⟨[]⟩⟩
  ·rw[if_pos e];omega
  ·rw[if_neg e];have h1:=xP (hro.bW.resolve_left e);have h2:(dH k.decl).length=k.decl.aI.length:=by unfold dH;rw[bU]
   omega
end Go.Proofs.YtoohgkkmdnbnfaaGreatDoor
namespace Go.Proofs.YtoohgkkmdnbnfaaGreatDoor
open Go.Ideal Kd Canon
structure BV(k:bT):Prop where
 dw:jU k.decl.w
 dh:jU k.decl.h
 gw:jU k.grid.w
 gh:jU k.grid.h
 holes:k.decl.holes.length<9223372036854775808
 dO:k.decl.symbols.length<9223372036854775808
 regs:k.decl.regions.length<9223372036854775808
 qy:∀r∈k.decl.regions,r.lists.length<9223372036854775808/\∀l∈r.lists,l.length<9223372036854775808
 jk:k.decl.aI.length<9223372036854775808
 kg:k.decl.rules.length<9223372036854775808
 qx:∀r∈k.decl.rules,r.names.length<9223372036854775808/\r.others.length<9223372036854775808
 IG:k.grid.holes.length<9223372036854775808
 cells:k.grid.cells.length<9223372036854775808
 bE:k.bE.length<9223372036854775808/\∀l∈k.bE,l.length<9223372036854775808
 lists:k.lists.length<9223372036854775808/\∀l∈k.lists,l.length<9223372036854775808/\∀m∈l,m.length<9223372036854775808
structure afq(k:bT):Prop where
 cells:k.grid.cells.length<=16
 IG:k.grid.holes.length<=256
 bE:k.bE.length<=20
 lists:k.lists.length<=12
 dO:k.decl.symbols.length<=6
 regs:k.decl.regions.length<=6
 jk:k.decl.aI.length<=6
 kg:k.decl.rules.length<=10
 holes:k.decl.holes.length<=256
 each:∀l∈k.lists,l.length<=40
 reg:∀r∈k.decl.regions,r.lists.length<=20
theorem pO.of{k:bT}(hB:BV k)(hF:afq k):pO k:=by
 have f1:=hF.cells;have f2:=hF.IG;have f5:=hF.dO;have f6:=hF.regs;have f7:=hF.jk;have f8:=hF.kg;have f9:=hF.holes;exact⟨⟨⟨by omega,by omega,by omega,by omega,hB.qx,hB.holes,hB.qy⟩,hB.dw,hB.dh,by omega⟩,⟨hB.gw,hB.gh,by omega,by omega⟩,hB.bE,hB.lists⟩
end Go.Proofs.YtoohgkkmdnbnfaaGreatDoor
namespace Go.Proofs.YtoohgkkmdnbnfaaGreatDoor
open Go.Ideal Kd Canon
structure WoY where
 v:Value
 e:Int
end Go.Proofs.YtoohgkkmdnbnfaaGreatDoor
namespace Go.Proofs.YtoohgkkmdnbnfaaGreatDoor
open Go.Ideal Kd Canon
theorem M9{v:Value}{xs:List (List Int)}(hl:xs.length<9223372036854775808)(hll:∀l∈xs,l.length<9223372036854775808):bz Tryz.prog (.func 64) [v] [] [] [ah (aj aa) v xs] (λn:Int=>.int .i64 n) (λ_=>[]) (λ_=>[]) (λn=>0<=n/\n<=2001):=by
 refine aK _ (aP 64) λB w0=>?_;refine aV (E:=aj aa) (v:=v) (xs:=xs) (by simp) λa1 c1 e1=>?_;subst e1;refine go ?_;refine bi (λx:Nat×Int=>xs.length - x.1) (λx=>[(4,.int .i64 (x.1:Int)),(3,.int .i64 x.2)]) (λ_=>[]) (λ_=>[]) (λx=>x.1<=xs.length/\0<=x.2/\x.2<=4003) (0,0) ⟨cB _,by decide,by decide⟩ (body:=?_);rintro⟨i,n⟩ ⟨hi,h0,h1⟩;dsimp only at hi h0 h1⊢;refine go ?_;first|with_reducible refine aL (λh2=>?_) (λh2=>?_)|with_reducible refine aO (λh2=>?_) (λh2=>?_)|with_reducible refine aM (λh2=>?_) (λh2=>?_)
 ·refine go ?_;refine(fJ rfl rfl (GR rfl rfl)).h ?_;refine go ?_;exact ae (min n 2001) (hv:=rfl) (hp:=by omega)
 refine go ?_;refine az rfl (λh3=>?_) (λh3=>?_)
 rotate_left
 ·refine go ?_;refine(fJ rfl rfl (GR rfl rfl)).h ?_;refine go ?_;exact ae (min n 2001) (hv:=rfl) (hp:=by omega)
 refine go ?_;refine(fJ rfl rfl (GR rfl rfl)).h ?_;refine go ?_;refine aZ (aj aa) (xs:=xs) (next:=λ_ _ x (vx:Value) hx=>?_);refine go ?_;refine(fJ rfl rfl (GR rfl rfl)).h ?_;refine go ?_;exact aQ (i+1,min n 2001+1+min (x.length:Int) 2001) (by show xs.length - (i+1)<xs.length - i;omega) ⟨by dsimp only;omega,by dsimp only;omega,by dsimp only;omega⟩
structure Na(d:bD):Prop where
 holes:d.holes.length<=40
 dO:d.symbols.length<=20
 regs:d.regions.length<=8
 jk:d.aI.length<=8
 kg:d.rules.length<=20
theorem Ur{d:bD}{vh vs vr vc vu:Value}(hr:∀r∈d.regions,r.lists.length<9223372036854775808/\∀l∈r.lists,l.length<9223372036854775808)(hn:∀r∈d.rules,r.names.length<9223372036854775808/\r.others.length<9223372036854775808):
 bz Tryz.prog (.func 65) [.agg ⟨gq d vh vs vr vc vu⟩] [] [] (kG d vh vs vr vc vu) (λb:Bool=>.bool b) (λ_=>[]) (λ_=>[]) (λb=>b=true->Na d):=by
 refine aK _ (aP 65) λB w0=>?_;dsimp only[kG];refine aV (E:=ed) (v:=vr) (xs:=d.regions) (by simp) λar cr er=>?_;subst er;refine aV (E:=aY) (v:=vu) (xs:=d.rules) (by simp) λau cu eu=>?_;subst eu;refine go ?_;intro b1;refine bC (eH (b:=b1)) (h:=?_);refine go ?_;first|with_reducible refine aL (λh1=>?_) (λh1=>?_)|with_reducible refine aO (λh1=>?_) (λh1=>?_)|with_reducible refine aM (λh1=>?_) (λh1=>?_)
 rotate_left
 ·refine go ?_;exact ae false (hv:=rfl) (hp:=λh=>by cases h)
 refine go ?_;first|with_reducible refine aL (λh2=>?_) (λh2=>?_)|with_reducible refine aO (λh2=>?_) (λh2=>?_)|with_reducible refine aM (λh2=>?_) (λh2=>?_)
 rotate_left
 ·refine go ?_;exact ae false (hv:=rfl) (hp:=λh=>by cases h)
 refine go ?_;first|with_reducible refine aL (λh3=>?_) (λh3=>?_)|with_reducible refine aO (λh3=>?_) (λh3=>?_)|with_reducible refine aM (λh3=>?_) (λh3=>?_)
 rotate_left
 ·refine go ?_;exact ae false (hv:=rfl) (hp:=λh=>by cases h)
 refine go ?_;first|with_reducible refine aL (λh4=>?_) (λh4=>?_)|with_reducible refine aO (λh4=>?_) (λh4=>?_)|with_reducible refine aM (λh4=>?_) (λh4=>?_)
 rotate_left
 ·refine go ?_;exact ae false (hv:=rfl) (hp:=λh=>by cases h)
 refine go ?_;refine az rfl (λh5=>?_) (λh5=>?_)
 ·refine go ?_;exact ae false (hv:=rfl) (hp:=λh=>by cases h)
 have hD:Na d:=⟨by omega,by omega,by omega,by omega,by omega⟩
 refine go ?_;refine bi (λj:Nat=>d.regions.length - j) (λj=>[(3,.int .i64 (j:Int))]) (λ_=>[]) (λ_=>[]) (λj=>j<=d.regions.length) 0 (cB _) (body:=?_);intro j hj;refine go ?_;refine az rfl (λa1=>?_) (λa1=>?_)
 ·have hx:d.regions[j]? =some (d.regions[j]'(by omega)):=cz _;generalize d.regions[j]'(by omega)=x at hx;obtain⟨hx1,hx2⟩:=hr x (bI hx);refine go ?_;refine aZ ed (xs:=d.regions) (next:=λ_ _ x1 (vl1:Value) hx1=>?_);cases hx.symm.trans hx1;refine go ?_;refine az rfl (λa2=>?_) (λa2=>?_)
  ·refine go ?_;exact ae false (hv:=rfl) (hp:=λh=>by cases h)
  refine go ?_;refine bi (λi:Nat=>x.lists.length - i) (λi=>[(4,.int .i64 (i:Int))]) (λ_=>[]) (λ_=>[]) (λi=>i<=x.lists.length) 0 (cB _) (body:=?_);intro i hi;refine go ?_;refine aZ ed (xs:=d.regions) (next:=λ_ _ x2 (vl2:Value) hx2=>?_);cases hx.symm.trans hx2;refine go ?_;refine az rfl (λa3=>?_) (λa3=>?_)
  ·refine go ?_;refine aZ ed (xs:=d.regions) (next:=λ_ _ x3 (vl3:Value) hx3=>?_);cases hx.symm.trans hx3;refine go ?_;refine aZ (aj aa) (xs:=x.lists) (next:=λ_ _ l (vl4:Value) hl=>?_);refine go ?_;refine az rfl (λa4=>?_) (λa4=>?_)
   ·refine go ?_;exact ae false (hv:=rfl) (hp:=λh=>by cases h)
   refine go ?_;exact aQ (i+1) (by show x.lists.length - (i+1)<x.lists.length - i;omega) (by show i+1<=_;omega)
  refine go ?_;exact aQ (j+1) (by show d.regions.length - (j+1)<d.regions.length - j;omega) (by show j+1<=_;omega)
 refine go ?_;refine bi (λj:Nat=>d.rules.length - j) (λj=>[(5,.int .i64 (j:Int))]) (λ_=>[]) (λ_=>[]) (λj=>j<=d.rules.length) 0 (cB _) (body:=?_);intro j hj;refine go ?_;refine az rfl (λa1=>?_) (λa1=>?_)
 ·have hx:d.rules[j]? =some (d.rules[j]'(by omega)):=cz _;generalize d.rules[j]'(by omega)=x at hx;obtain⟨hx1,hx2⟩:=hn x (bI hx);refine go ?_;refine aZ aY (xs:=d.rules) (next:=λ_ _ x1 (w:Value×Value) hx1=>?_);cases hx.symm.trans hx1;refine go ?_;first|with_reducible refine aL (λa2=>?_) (λa2=>?_)|with_reducible refine aO (λa2=>?_) (λa2=>?_)|with_reducible refine aM (λa2=>?_) (λa2=>?_)
  rotate_left
  ·refine go ?_;exact ae false (hv:=rfl) (hp:=λh=>by cases h)
  refine go ?_;refine aZ aY (xs:=d.rules) (next:=λ_ _ x2 (w2:Value×Value) hx2=>?_);cases hx.symm.trans hx2;refine go ?_;refine az rfl (λa3=>?_) (λa3=>?_)
  ·refine go ?_;exact ae false (hv:=rfl) (hp:=λh=>by cases h)
  refine go ?_;exact aQ (j+1) (by show d.rules.length - (j+1)<d.rules.length - j;omega) (by show j+1<=_;omega)
 refine go ?_;exact ae true (hv:=rfl) (hp:=λ_=>hD)
structure Nb(k:bT):Prop where
 d:Na k.decl
 cells:k.grid.cells.length<=256
 IG:k.grid.holes.length<=300
theorem pO.ofE{k:bT}(hB:BV k)(hF:Nb k):pO k:=by
 have f1:=hF.cells;have f2:=hF.IG;have f5:=hF.d.dO;have f6:=hF.d.regs;have f7:=hF.d.jk;have f8:=hF.d.kg;have f9:=hF.d.holes;exact⟨⟨⟨by omega,by omega,by omega,by omega,hB.qx,hB.holes,hB.qy⟩,hB.dw,hB.dh,by omega⟩,⟨hB.gw,hB.gh,by omega,by omega⟩,hB.bE,hB.lists⟩
theorem afs{k:bT}{vh vs vr vc vu gh gc vn vl:Value}(hB:BV k):bz Tryz.prog (.func 34) [.agg ⟨l6 k vh vs vr vc vu gh gc vn vl⟩] [] [] (mW k vh vs vr vc vu gh gc vn vl []) (λb:Bool=>.bool b) (λ_=>[]) (λ_=>[]) (λb=>b=true->Nb k):=by
 obtain⟨n1,n2⟩:=hB.bE;obtain⟨l1,l2⟩:=hB.lists;refine aK _ (aP 34) λB w0=>?_;dsimp only[mW];refine aV (E:=aj (aj aa)) (v:=vl) (xs:=k.lists) (by simp) λal cl el=>?_;subst el;refine go ?_;intro b1;refine go ?_;refine bi (λx:Nat×Int=>k.lists.length - x.1) (λx=>[(4,.int .i64 (x.1:Int)),(3,.int .i64 x.2)]) (λ_=>[]) (λ_=>[]) (λx=>x.1<=k.lists.length/\0<=x.2/\x.2<=4001) (0,0) ⟨cB _,by decide,by decide⟩ (body:=?_);rintro⟨i,n⟩ ⟨hi,h0,h1⟩;dsimp only at hi h0 h1⊢;refine go ?_;first|with_reducible refine aL (λh2=>?_) (λh2=>?_)|with_reducible refine aO (λh2=>?_) (λh2=>?_)|with_reducible refine aM (λh2=>?_) (λh2=>?_)
 ·refine go ?_;first|with_reducible refine aL (λt1=>?_) (λt1=>?_)|with_reducible refine aO (λt1=>?_) (λt1=>?_)|with_reducible refine aM (λt1=>?_) (λt1=>?_)
  ·refine go ?_;exact ae false (hv:=rfl) (hp:=λh=>by cases h)
  refine go ?_;refine ax (M9 (xs:=k.bE) n1 n2) (next:=λm hm=>?_);refine go ?_;first|with_reducible refine aL (λt2=>?_) (λt2=>?_)|with_reducible refine aO (λt2=>?_) (λt2=>?_)|with_reducible refine aM (λt2=>?_) (λt2=>?_)
  ·refine go ?_;exact ae false (hv:=rfl) (hp:=λh=>by cases h)
  refine go ?_;first|with_reducible refine aL (λt3=>?_) (λt3=>?_)|with_reducible refine aO (λt3=>?_) (λt3=>?_)|with_reducible refine aM (λt3=>?_) (λt3=>?_)
  ·refine go ?_;exact ae false (hv:=rfl) (hp:=λh=>by cases h)
  refine go ?_;first|with_reducible refine aL (λt4=>?_) (λt4=>?_)|with_reducible refine aO (λt4=>?_) (λt4=>?_)|with_reducible refine aM (λt4=>?_) (λt4=>?_)
  ·refine go ?_;exact ae false (hv:=rfl) (hp:=λh=>by cases h)
  refine go ?_;refine ax (Ur (d:=k.decl) (vh:=vh) (vs:=vs) (vr:=vr) (vc:=vc) (vu:=vu) hB.qy hB.qx) (next:=λb hb=>?_);refine go ?_;exact ae b (hv:=rfl) (hp:=λh=>⟨hb h,by omega,by omega⟩)
 refine go ?_;refine az rfl (λh3=>?_) (λh3=>?_)
 rotate_left
 ·refine go ?_;first|with_reducible refine aL (λt1=>?_) (λt1=>?_)|with_reducible refine aO (λt1=>?_) (λt1=>?_)|with_reducible refine aM (λt1=>?_) (λt1=>?_)
  ·refine go ?_;exact ae false (hv:=rfl) (hp:=λh=>by cases h)
  refine go ?_;refine ax (M9 (xs:=k.bE) n1 n2) (next:=λm hm=>?_);refine go ?_;first|with_reducible refine aL (λt2=>?_) (λt2=>?_)|with_reducible refine aO (λt2=>?_) (λt2=>?_)|with_reducible refine aM (λt2=>?_) (λt2=>?_)
  ·refine go ?_;exact ae false (hv:=rfl) (hp:=λh=>by cases h)
  refine go ?_;first|with_reducible refine aL (λt3=>?_) (λt3=>?_)|with_reducible refine aO (λt3=>?_) (λt3=>?_)|with_reducible refine aM (λt3=>?_) (λt3=>?_)
  ·refine go ?_;exact ae false (hv:=rfl) (hp:=λh=>by cases h)
  refine go ?_;first|with_reducible refine aL (λt4=>?_) (λt4=>?_)|with_reducible refine aO (λt4=>?_) (λt4=>?_)|with_reducible refine aM (λt4=>?_) (λt4=>?_)
  ·refine go ?_;exact ae false (hv:=rfl) (hp:=λh=>by cases h)
  refine go ?_;refine ax (Ur (d:=k.decl) (vh:=vh) (vs:=vs) (vr:=vr) (vc:=vc) (vu:=vu) hB.qy hB.qx) (next:=λb hb=>?_);refine go ?_;exact ae b (hv:=rfl) (hp:=λh=>⟨hb h,by omega,by omega⟩)
 refine go ?_;refine aZ (aj (aj aa)) (xs:=k.lists) (next:=λ_ _ x (vx:Value) hx=>?_);obtain⟨x1,x2⟩:=l2 x (bI hx);refine go ?_;refine ax (M9 (xs:=x) x1 x2) (next:=λm hm=>?_);refine go ?_;exact aQ (i+1,n+m) (by show k.lists.length - (i+1)<k.lists.length - i;omega) ⟨by dsimp only;omega,by dsimp only;omega,by dsimp only;omega⟩
theorem aft{k:bT}{p:List Clue}{vh vs vr vc vu gh gc vn vl vp:Value}(hB:BV k)(hp:p.length<9223372036854775808):
 bz Tryz.prog (.func 11) [.agg ⟨l6 k vh vs vr vc vu gh gc vn vl⟩,.agg ⟨[vp]⟩] [] [] (ah j6 vp p::mW k vh vs vr vc vu gh gc vn vl []) (λb:Bool=>.bool b) (λ_=>[]) (λ_=>[]) (λb=>b=true->Nb k/\k.grid.cells.length<=16/\p.length<=60/\∀g∈p,g.values.length<=20):=by
 refine aK _ (aP 11) λB w0=>?_;dsimp only[mW];refine go ?_;intro b2 b3;refine go ?_;refine ax (afs (k:=k) (vh:=vh) (vs:=vs) (vr:=vr) (vc:=vc) (vu:=vu) (gh:=gh) (gc:=gc) (vn:=vn) (vl:=vl) hB) (next:=λb hb=>?_);cases b with
 |false=>
  refine go ?_;exact ae false (hv:=rfl) (hp:=λh=>by cases h)
 |true=>
 have hk:=hb rfl;refine go ?_;first|with_reducible refine aL (λh1=>?_) (λh1=>?_)|with_reducible refine aO (λh1=>?_) (λh1=>?_)|with_reducible refine aM (λh1=>?_) (λh1=>?_)
 ·refine go ?_;exact ae false (hv:=rfl) (hp:=λh=>by cases h)
 refine go ?_;first|with_reducible refine aL (λh2=>?_) (λh2=>?_)|with_reducible refine aO (λh2=>?_) (λh2=>?_)|with_reducible refine aM (λh2=>?_) (λh2=>?_)
 ·refine go ?_;exact ae false (hv:=rfl) (hp:=λh=>by cases h)
 refine go ?_;refine ax (afj (xs:=p) (va:=vp) hp) (next:=λb hb=>?_);refine go ?_;exact ae b (hv:=rfl) (hp:=λh=>⟨hk,by omega,hb h⟩)
