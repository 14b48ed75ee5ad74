/-
  Puzzles checked.
-/
import Derived.Test.YtoohgkkmdnbnfaaGreatDoorLibKE
import Derived.Test.YtoohgkkmdnbnfaaGreatDoorLibME
import Derived.Test.YtoohgkkmdnbnfaaGreatDoorLibLE
set_option linter.all false
set_option maxRecDepth 10000
set_option maxHeartbeats 4000000
namespace Go.Proofs.YtoohgkkmdnbnfaaGreatDoor
open Go.Ideal Kd Canon
structure Dv(p:List Clue):Prop where
 len:p.length<9223372036854775808
 vals:∀g∈p,g.values.length<9223372036854775808
theorem adH{k:bP}{g:Clue}{vh vs vr vc vu gh gc vn vl vv:Value}(hS:og k)(hF:JX k)(hv:g.values.length<9223372036854775808):
 aV Tryz.prog (.func 37) [.agg ⟨mO k vh vs vr vc vu gh gc vn vl⟩,FE g vv] [] [] (ai ae vv g.values::nZ k vh vs vr vc vu gh gc vn vl []) (λb:Bool=>.bool b) (λ_=>[]) (λ_=>[]) (λb=>b=true↔ww k g):=by
 have hcl:=hS.d.s.jZ;have hsl:=hS.d.s.dA;refine aS _ (aQ 37) λB w0=>?_;refine fq (E:=dH) (v:=vc) (xs:=k.decl.bI) (by simp) λac cc ec=>?_;subst ec;refine fq (E:=jM) (v:=vs) (xs:=k.decl.symbols) (by simp) λwG cs1 es1=>?_;subst es1;refine fq (E:=aC (aC ae)) (v:=vl) (xs:=k.lists) (by simp) λal cl el=>?_;subst el;refine fq (E:=ae) (v:=vv) (xs:=g.values) (by simp) λav cv Du=>?_;subst Du;refine go ?_;intro b2 b3;refine aZ (fo (b:=b2)) (h:=?_);refine aZ (fo (b:=b3)) (h:=?_);refine go ?_;first|with_reducible refine aN (λh1=>?_) (λh1=>?_)|with_reducible refine aO (λh1=>?_) (λh1=>?_)|with_reducible refine aL (λh1=>?_) (λh1=>?_)
 rotate_left
 ·refine go ?_;exact aa false (hv:=rfl) (hp:=⟨(λh=>by cases h),λ⟨c,l,h,_⟩=>by omega⟩)
 refine go ?_;refine aG rfl (λh2=>?_) (λh2=>?_)
 ·refine go ?_;refine aa false (hv:=rfl) (hp:=⟨(λh=>by cases h),λ⟨c,l,_,h,_⟩=>?_⟩);have:=(bA.1 h).1;omega
 obtain⟨ci,hci⟩:=qB (show 0<=g.aJ by omega);have hg0:0<=g.aJ:=by omega
 have NB:ci<k.decl.bI.length:=by omega
 have htn:g.aJ.toNat=ci:=by omega
 refine go ?_;rw[hci];refine dm dH (xs:=k.decl.bI) (next:=λ_ _ c (_:Unit) hc=>?_);obtain⟨hf0,hf1⟩:=hF c (bG hc);refine go ?_;intro b5;refine go ?_;first|with_reducible refine aN (λh3=>?_) (λh3=>?_)|with_reducible refine aO (λh3=>?_) (λh3=>?_)|with_reducible refine aL (λh3=>?_) (λh3=>?_)
 rotate_left
 ·refine go ?_;exact aa false (hv:=rfl) (hp:=⟨(λh=>by cases h),λ⟨c,l,_,_,_,h,_⟩=>by omega⟩)
 refine go ?_;obtain⟨fi,hfi⟩:=qB hf0;have Ti:c.family.toNat=fi:=by omega
 rw[hfi];refine dm (aC (aC ae)) (xs:=k.lists) (next:=λ_ _ ls (vls:Value) hls=>?_);refine go ?_;refine aG rfl (λh4=>?_) (λh4=>?_)
 ·refine go ?_;refine aa false (hv:=rfl) (hp:=⟨(λh=>by cases h),λ⟨c',l',_,q1,q2,q3,q4,_⟩=>?_⟩);rw[htn,hc]at q1;cases q1;rw[Ti,hls]at q2;cases q2;omega
 have hR:∀b:Bool,(b=true↔((c.type=1/\g.values.length=1/\∀x∈g.values,0<=x/\x<=(k.decl.symbols.length:Int) - 1)\/(c.type=2/\g.values.length=1/\∀x∈g.values,c.lo<=x/\x<=c.hi)\/
  (c.type≠1/\c.type≠2/\g.values.length<=8/\∀x∈g.values,1<=x/\x<=256)))->(b=true↔ww k g):=λb hb=>by
  rw[hb];refine⟨λh=>⟨c,ls,hg0,by rw[htn];exact hc,by rw[Ti];exact hls,by omega,by omega,h⟩,λ⟨c',l',_,q1,_,_,_,h⟩=>?_⟩;rw[htn,hc]at q1;cases q1;exact h
 refine go ?_;refine aG rfl (λh5=>?_) (λh5=>?_)
 ·refine go ?_;first|with_reducible refine aN (λh6=>?_) (λh6=>?_)|with_reducible refine aO (λh6=>?_) (λh6=>?_)|with_reducible refine aL (λh6=>?_) (λh6=>?_)
  ·refine go ?_;exact aa false (hv:=rfl) (hp:=hR _ ⟨(λh=>by cases h),λh=>by exfalso;omega⟩)
  refine go ?_;refine ax (yE (xs:=g.values) (lo:=0) (hi:=(k.decl.symbols.length:Int) - 1) hv) (next:=λ_ _=>?_);refine go ?_;refine aa (gK g.values 0 ((k.decl.symbols.length:Int) - 1)) (hv:=rfl) (hp:=hR _ ?_);unfold gK;rw[wU];exact⟨λh=>.inl ⟨h5,by omega,h⟩,λh=>by rcases h with h|h|h;exact h.2.2;exact absurd h5 (by omega);exact absurd h5 h.1⟩
 refine go ?_;refine aG rfl (λh6=>?_) (λh6=>?_)
 ·refine go ?_;first|with_reducible refine aN (λh7=>?_) (λh7=>?_)|with_reducible refine aO (λh7=>?_) (λh7=>?_)|with_reducible refine aL (λh7=>?_) (λh7=>?_)
  ·refine go ?_;exact aa false (hv:=rfl) (hp:=hR _ ⟨(λh=>by cases h),λh=>by exfalso;omega⟩)
  refine go ?_;refine ax (yE (xs:=g.values) (lo:=c.lo) (hi:=c.hi) hv) (next:=λ_ _=>?_);refine go ?_;refine aa (gK g.values c.lo c.hi) (hv:=rfl) (hp:=hR _ ?_);unfold gK;rw[wU];exact⟨λh=>.inr (.inl ⟨h6,by omega,h⟩),λh=>by rcases h with h|h|h;exact absurd h.1 h5;exact h.2.2;exact absurd h6 h.2.1⟩
 refine go ?_;first|with_reducible refine aN (λh7=>?_) (λh7=>?_)|with_reducible refine aO (λh7=>?_) (λh7=>?_)|with_reducible refine aL (λh7=>?_) (λh7=>?_)
 ·refine go ?_;exact aa false (hv:=rfl) (hp:=hR _ ⟨(λh=>by cases h),λh=>by exfalso;omega⟩)
 refine go ?_;refine ax (yE (xs:=g.values) (lo:=1) (hi:=256) hv) (next:=λ_ _=>?_);refine go ?_;refine aa (gK g.values 1 256) (hv:=rfl) (hp:=hR _ ?_);unfold gK;rw[wU];exact⟨λh=>.inr (.inr ⟨h5,h6,by omega,h⟩),λh=>by rcases h with h|h|h;exact absurd h.1 h5;exact absurd h.1 h6;exact h.2.2.2⟩
end Go.Proofs.YtoohgkkmdnbnfaaGreatDoor
namespace Go.Proofs.YtoohgkkmdnbnfaaGreatDoor
open Go.Ideal Kd Canon
theorem eY.decl{k:bP}(h:eY k):k.decl=Kd.cB k.decl:=congrArg bP.decl h.e
theorem eY.lists{k:bP}(h:eY k):k.lists=lY k.decl:=by
 have:=congrArg bP.lists h.e;have h2:(ny (Kd.cB k.decl)).lists=lY (Kd.cB k.decl):=rfl;rw[h2,<- h.decl]at this;exact this
theorem eY.grid{k:bP}(h:eY k):k.grid=aX k.decl:=by
 have:=congrArg bP.grid h.e;have h2:(ny (Kd.cB k.decl)).grid=aX (Kd.cB k.decl):=rfl;rw[h2,<- h.decl]at this;exact this
theorem eY.aK{k:bP}(h:eY k):k.aK=dY (aX k.decl):=by
 have:=congrArg bP.aK h.e;have h2:(ny (Kd.cB k.decl)).aK=dY (aX (Kd.cB k.decl)):=rfl;rw[h2,<- h.decl]at this;exact this
theorem eY.typ{k:bP}(h:eY k):F5 k.decl:=by
 have:=h.b.typ;rw[<- h.decl]at this;exact this
theorem eY.oU{k:bP}(h:eY k):JX k:=by
 intro c hc;rw[h.decl]at hc;obtain⟨q,hq,rfl⟩:=ed.1 (show c∈k.decl.bI.map (AC (fw k.decl))from hc);have h1:=yo (h.b.rs.QY q hq);have h2:(fw k.decl).length=8+k.decl.regions.length:=by
  unfold fw;rw[fK,bT];rfl
 have h3:k.lists.length=8+k.decl.regions.length:=by
  rw[h.lists];unfold lY;rw[fK,bT,bT,DR]
 show 0<=((gX q.on (fw k.decl):Nat):Int)/\((gX q.on (fw k.decl):Nat):Int)<_;omega
theorem adJ{k:bP}{p:List Clue}{vh vs vr vc vu gh gc vn vl vp:Value}(hS:og k)(hP:Dv p):
 aV Tryz.prog (.func 15) [.agg ⟨mO k vh vs vr vc vu gh gc vn vl⟩,.agg ⟨[vp]⟩] [] [] (ai kI vp p::nZ k vh vs vr vc vu gh gc vn vl []) (λe:Int=>.int .i64 e) (λ_=>[]) (λ_=>[])
  (λe=>(¬eY k->e=180)/\(eY k->¬j5 k p->e=190)/\(eY k->j5 k p->e=0)):=by
 refine aS _ (aQ 15) λB w0=>?_;refine fq (E:=kI) (v:=vp) (xs:=p) (by simp) λap1 cp ep=>?_;subst ep;refine go ?_;intro b2 b3;refine aZ (fo (b:=b2)) (h:=?_);refine aZ (fo (b:=b3)) (h:=?_);refine go ?_;refine ax (adw (k:=k) (vh:=vh) (vs:=vs) (vr:=vr) (vc:=vc) (vu:=vu) (gh:=gh) (gc:=gc) (vn:=vn) (vl:=vl) hS) (next:=λb hb=>?_);cases b with
 |false=>
  have hno:¬eY k:=λh=>by have:=hb.2 h;cases this
  dsimp only[cond];refine go ?_;exact aa 180 (hv:=rfl) (hp:=⟨λ_=>rfl,λh=>absurd h hno,λh=>absurd h hno⟩)
 |true=>
 have hK:=hb.1 rfl;clear hb;have hend:¬j5 k p->(¬eY k->(190:Int)=180)/\(eY k->¬j5 k p->(190:Int)=190)/\(eY k->j5 k p->(190:Int)=0):=λhn=>⟨λh=>absurd hK h,λ_ _=>rfl,λ_ h=>absurd h hn⟩
 dsimp only[cond];refine go ?_;refine aG rfl (λh1=>?_) (λh1=>?_)
 ·refine go ?_;exact aa 190 (hv:=rfl) (hp:=hend λh=>by have:=h.len;omega)
 refine go ?_;refine bJ (λj:Nat=>p.length - j) (λj=>[(17,.int .i64 (j:Int))]) (λ_=>[]) (λ_=>[]) (λj=>j<=p.length/\(∀g∈p.take j,ww k g)/\∀(i:Nat) a b,i+1<j->p[i]? =some a->p[i+1]? =some b->eP a b<0) 0 ⟨dD _,by simp,λi a b h=>by omega⟩ (body:=?_);rintro j ⟨hj,hall,hs⟩;refine go ?_;refine aG rfl (λh2=>?_) (λh2=>?_)
 ·refine go ?_;refine dm kI (xs:=p) (next:=λ_ _ g (vg:Value) hg=>?_);have hgm:=bG hg;have htk:=j4 hg;refine go ?_;intro b6;refine go ?_;refine ax (adH (k:=k) (g:=g) (vh:=vh) (vs:=vs) (vr:=vr) (vc:=vc) (vu:=vu) (gh:=gh) (gc:=gc) (vn:=vn) (vl:=vl) (vv:=vg) hS hK.oU (hP.vals g hgm)) (next:=λb hb=>?_);cases b with
  |false=>
   refine go ?_;exact aa 190 (hv:=rfl) (hp:=hend λh=>by have:=hb.2 (h.right g hgm);cases this)
  |true=>
  have hR:=hb.1 rfl;have F9:∀x∈p.take (j+1),ww k x:=by
   rw[htk];intro x hx;rcases eZ.1 hx with hx|hx
   ·exact hall x hx
   ·rw[bC.1 hx];exact hR
  refine go ?_;first|with_reducible refine aN (λh3=>?_) (λh3=>?_)|with_reducible refine aO (λh3=>?_) (λh3=>?_)|with_reducible refine aL (λh3=>?_) (λh3=>?_)
  ·have hj0:j=0:=by omega
   subst hj0;refine go ?_;exact bi 1 (by show p.length - 1<p.length - 0;omega) ⟨by omega,F9,λi a b h=>by omega⟩
  obtain⟨i,rfl⟩:∃i,j=i+1:=⟨j - 1,by omega⟩
  refine go ?_;rw[show((i+1:Nat):Int) - 1=(i:Int)by omega];refine dm kI (xs:=p) (next:=λ_ _ g0 (vg0:Value) hg0=>?_);refine go ?_;refine ax (Li (a:=g0) (b:=g) (va:=vg0) (vb:=vg)) (next:=λ_ _=>?_);refine go ?_;refine aG rfl (λh4=>?_) (λh4=>?_)
  ·refine go ?_;exact aa 190 (hv:=rfl) (hp:=hend λh=>by have:=h.sorted i g0 g hg0 hg;omega)
  ·refine go ?_;refine bi (i+1+1) (by show p.length - (i+1+1)<p.length - (i+1);omega) ⟨by omega,F9,λi' a b h ha hb=>?_⟩;by_cases e:i'=i
   ·subst e;rw[hg0]at ha;rw[hg]at hb;cases ha;cases hb;omega
   ·exact hs i' a b (by omega) ha hb
 have o8:j=p.length:=by omega
 subst o8;rw[eB]at hall;refine go ?_;exact aa 0 (hv:=rfl) (hp:=⟨λh=>absurd hK h,λ_ h=>absurd ⟨by omega,hall,λi a b ha hb=>hs i a b (bA.1 hb).1 ha hb⟩ h,λ_ _=>rfl⟩)
abbrev Ll(k:bP)(grid:List Int):Prop:=Fin (k.grid.cells.length:Int) (k.decl.symbols.length:Int) grid
structure afy(k:bP)(p:List Clue)(grid:List Int)(e:Int):Prop where
 nk:¬eY k->e=180
 nf:eY k->¬Ll k grid->e=200
 np:eY k->Ll k grid->¬j5 k p->e=190
 ok:eY k->Ll k grid->j5 k p->e=0
end Go.Proofs.YtoohgkkmdnbnfaaGreatDoor
namespace Go.Proofs.YtoohgkkmdnbnfaaGreatDoor
open Go.Ideal Kd Canon
def sO(k:bP):List Int:=k.decl.symbols.map (·.value)
structure Tj(k:bP)(r:aW):Prop where
 oU:0<=r.family/\r.family<k.lists.length
 aJ:r.aJ<k.decl.bI.length
end Go.Proofs.YtoohgkkmdnbnfaaGreatDoor
namespace Go.Proofs.YtoohgkkmdnbnfaaGreatDoor
open Go.Ideal Kd Canon
end Go.Proofs.YtoohgkkmdnbnfaaGreatDoor
namespace Go.Proofs.YtoohgkkmdnbnfaaGreatDoor
open Go.Ideal Kd Canon
end Go.Proofs.YtoohgkkmdnbnfaaGreatDoor
namespace Go.Proofs.YtoohgkkmdnbnfaaGreatDoor
open Go.Ideal Kd Canon
structure Tk(k:bP)(p:List Clue)(grid:List Int)(r:aW)(set other:Nat):Prop where
 s:og k
 ps:Dv p
 oU:JX k
 rin:Tj k r
 right:∀g∈p,ww k g
 gri:RB grid
 cells:∀x∈FH k p r,RG grid x.1
 vals:RH (sO k) grid
 bE:gQ k.aK
 Bd:grid.length=k.aK.length
 st:r.set=(set:Int)/\set<9223372036854775808
 ot:r.other=(other:Int)/\other<9223372036854775808
 kind:1<=r.kind/\r.kind<=11
 giv:r.kind=2\/r.kind=3\/r.kind=11->∀x∈FH k p r,0<x.2.length
 few:∀x∈FH k p r,x.1.length<=4096
 one:r.kind=11->∀x∈FH k p r,0<x.1.length
theorem Tm{l:List Int}{y:Int}(h:l[0]? =some y):l.getD 0 0=y:=uq h
section
variable {k:bP} {p:List Clue} {grid:List Int} {r:aW} {set other:Nat} {bv br:Nat} {vh vs vr vc vu gh gc vn vl vp vg vv v1 v2:Value}
theorem Tk.aK(H:Tk k p grid r set other):∀l∈k.aK,∀b∈l,0<=b/\b<grid.length:=by
 intro l hl b hb;obtain⟨i,hi⟩:=ku hl;obtain⟨j,hj⟩:=ku hb;have:=H.bE.ok i l hi j b hj;have:=H.Bd;omega
end
end Go.Proofs.YtoohgkkmdnbnfaaGreatDoor
namespace Go.Proofs.YtoohgkkmdnbnfaaGreatDoor
open Go.Ideal Kd Canon
end Go.Proofs.YtoohgkkmdnbnfaaGreatDoor
namespace Go.Proofs.YtoohgkkmdnbnfaaGreatDoor
open Go.Ideal Kd Canon
theorem adL{k:Int}(h:(gU k).read=true):1<=k/\k<=11:=by
 apply Classical.byContradiction;intro hn;have hc:(k<0\/14<=k)\/k=0\/k=12\/k=13:=by omega
 rcases hc with hc|rfl|rfl|rfl
 ·rw[F4 hc]at h;cases h
 ·cases h
 ·cases h
 ·cases h
theorem eY.uy{k:bP}(h:eY k){r:aW}(hr:r∈k.decl.rules):∃q∈k.decl.rules,r=qY (gD k.decl) (fw k.decl) (jk k.decl) q:=by
 have h1:r∈(Kd.cB k.decl).rules:=by rw[<- h.decl];exact hr
 obtain⟨q,hq,e⟩:=ed.1 (show r∈k.decl.rules.map (qY (gD k.decl) (fw k.decl) (jk k.decl))from h1);exact⟨q,hq,e.symm⟩
theorem eY.gq{k:bP}(h:eY k):k.lists.length=8+k.decl.regions.length:=by
 rw[h.lists];unfold lY;rw[fK,bT,bT,DR]
theorem eY.bE{k:bP}(h:eY k):gH (aX k.decl):=⟨h.typ.Dq,rfl⟩
theorem eY.inr{k:bP}(h:eY k){r:aW}(hr:r∈k.decl.rules):Tj k r:=by
 obtain⟨q,hq,rfl⟩:=h.uy hr;have hro:=h.b.rs.uy q hq;have hl:=h.gq;have hfl:(fw k.decl).length=8+k.decl.regions.length:=by
  unfold fw;rw[fK,bT];rfl
 refine⟨?_,?_⟩
 ·show 0<=(if q.on=⟨⟨[]⟩⟩then(0:Int)else(gX q.on (fw k.decl):Int))/\(if q.on=⟨⟨[]⟩⟩then(0:Int)else(gX q.on (fw k.decl):Int))<_;by_cases e:q.on=⟨⟨[]⟩⟩
  ·rw[if_pos e];omega
  ·rw[if_neg e];have:=yo (hro.on.resolve_left e);omega
 ·show(if q.eU=⟨⟨[]⟩⟩then(-1:Int)else(gX q.eU (jk k.decl):Int))<_;by_cases e:q.eU=⟨⟨[]⟩⟩
  ·rw[if_pos e];omega
  ·rw[if_neg e];have h1:=yo (hro.eU.resolve_left e);have h2:(jk k.decl).length=k.decl.bI.length:=by unfold jk;rw[bT]
   omega
end Go.Proofs.YtoohgkkmdnbnfaaGreatDoor
namespace Go.Proofs.YtoohgkkmdnbnfaaGreatDoor
open Go.Ideal Kd Canon
structure Bf(k:bP):Prop where
 dw:jK k.decl.w
 dh:jK k.decl.h
 gw:jK k.grid.w
 gh:jK k.grid.h
 holes:k.decl.holes.length<9223372036854775808
 dA:k.decl.symbols.length<9223372036854775808
 regs:k.decl.regions.length<9223372036854775808
 uD:∀r∈k.decl.regions,r.lists.length<9223372036854775808/\∀l∈r.lists,l.length<9223372036854775808
 jZ:k.decl.bI.length<9223372036854775808
 l5:k.decl.rules.length<9223372036854775808
 uC:∀r∈k.decl.rules,r.names.length<9223372036854775808/\r.others.length<9223372036854775808
 Gc:k.grid.holes.length<9223372036854775808
 cells:k.grid.cells.length<9223372036854775808
 aK:k.aK.length<9223372036854775808/\∀l∈k.aK,l.length<9223372036854775808
 lists:k.lists.length<9223372036854775808/\∀l∈k.lists,l.length<9223372036854775808/\∀m∈l,m.length<9223372036854775808
structure adM(k:bP):Prop where
 cells:k.grid.cells.length<=16
 Gc:k.grid.holes.length<=256
 aK:k.aK.length<=20
 lists:k.lists.length<=12
 dA:k.decl.symbols.length<=6
 regs:k.decl.regions.length<=6
 jZ:k.decl.bI.length<=6
 l5:k.decl.rules.length<=10
 holes:k.decl.holes.length<=256
 each:∀l∈k.lists,l.length<=40
 reg:∀r∈k.decl.regions,r.lists.length<=20
theorem og.of{k:bP}(hB:Bf k)(hF:adM k):og k:=by
 have f1:=hF.cells;have f2:=hF.Gc;have f5:=hF.dA;have f6:=hF.regs;have f7:=hF.jZ;have f8:=hF.l5;have f9:=hF.holes;exact⟨⟨⟨by omega,by omega,by omega,by omega,hB.uC,hB.holes,hB.uD⟩,hB.dw,hB.dh,by omega⟩,⟨hB.gw,hB.gh,by omega,by omega⟩,hB.aK,hB.lists⟩
end Go.Proofs.YtoohgkkmdnbnfaaGreatDoor
namespace Go.Proofs.YtoohgkkmdnbnfaaGreatDoor
open Go.Ideal Kd Canon
structure WoY where
 v:Value
 e:Int
end Go.Proofs.YtoohgkkmdnbnfaaGreatDoor
namespace Go.Proofs.YtoohgkkmdnbnfaaGreatDoor
open Go.Ideal Kd Canon
theorem Lm{v:Value}{xs:List (List Int)}(hl:xs.length<9223372036854775808)(hll:∀l∈xs,l.length<9223372036854775808):aV Tryz.prog (.func 64) [v] [] [] [ai (aC ae) v xs] (λn:Int=>.int .i64 n) (λ_=>[]) (λ_=>[]) (λn=>0<=n/\n<=2001):=by
 refine aS _ (aQ 64) λB w0=>?_;refine fq (E:=aC ae) (v:=v) (xs:=xs) (by simp) λa1 c1 e1=>?_;subst e1;refine go ?_;refine bJ (λx:Nat×Int=>xs.length - x.1) (λx=>[(4,.int .i64 (x.1:Int)),(3,.int .i64 x.2)]) (λ_=>[]) (λ_=>[]) (λx=>x.1<=xs.length/\0<=x.2/\x.2<=4003) (0,0) ⟨dD _,by decide,by decide⟩ (body:=?_);rintro⟨i,n⟩ ⟨hi,h0,h1⟩;dsimp only at hi h0 h1⊢;refine go ?_;first|with_reducible refine aN (λh2=>?_) (λh2=>?_)|with_reducible refine aO (λh2=>?_) (λh2=>?_)|with_reducible refine aL (λh2=>?_) (λh2=>?_)
 ·refine go ?_;refine(fP rfl rfl (ES rfl rfl)).h ?_;refine go ?_;exact aa (min n 2001) (hv:=rfl) (hp:=by omega)
 refine go ?_;refine aG rfl (λh3=>?_) (λh3=>?_)
 rotate_left
 ·refine go ?_;refine(fP rfl rfl (ES rfl rfl)).h ?_;refine go ?_;exact aa (min n 2001) (hv:=rfl) (hp:=by omega)
 refine go ?_;refine(fP rfl rfl (ES rfl rfl)).h ?_;refine go ?_;refine dm (aC ae) (xs:=xs) (next:=λ_ _ x (vx:Value) hx=>?_);refine go ?_;refine(fP rfl rfl (ES rfl rfl)).h ?_;refine go ?_;exact bi (i+1,min n 2001+1+min (x.length:Int) 2001) (by show xs.length - (i+1)<xs.length - i;omega) ⟨by dsimp only;omega,by dsimp only;omega,by dsimp only;omega⟩
structure Lp(d:bR):Prop where
 holes:d.holes.length<=40
 dA:d.symbols.length<=20
 regs:d.regions.length<=8
 jZ:d.bI.length<=8
 l5:d.rules.length<=20
theorem Tn{d:bR}{vh vs vr vc vu:Value}(hr:∀r∈d.regions,r.lists.length<9223372036854775808/\∀l∈r.lists,l.length<9223372036854775808)(hn:∀r∈d.rules,r.names.length<9223372036854775808/\r.others.length<9223372036854775808):
 aV Tryz.prog (.func 65) [.agg ⟨jY d vh vs vr vc vu⟩] [] [] (nT d vh vs vr vc vu) (λb:Bool=>.bool b) (λ_=>[]) (λ_=>[]) (λb=>b=true->Lp d):=by
 refine aS _ (aQ 65) λB w0=>?_;dsimp only[nT];refine fq (E:=iV) (v:=vr) (xs:=d.regions) (by simp) λar cr er=>?_;subst er;refine fq (E:=bq) (v:=vu) (xs:=d.rules) (by simp) λau cu eu=>?_;subst eu;refine go ?_;intro b1;refine aZ (fo (b:=b1)) (h:=?_);refine go ?_;first|with_reducible refine aN (λh1=>?_) (λh1=>?_)|with_reducible refine aO (λh1=>?_) (λh1=>?_)|with_reducible refine aL (λh1=>?_) (λh1=>?_)
 rotate_left
 ·refine go ?_;exact aa false (hv:=rfl) (hp:=λh=>by cases h)
 refine go ?_;first|with_reducible refine aN (λh2=>?_) (λh2=>?_)|with_reducible refine aO (λh2=>?_) (λh2=>?_)|with_reducible refine aL (λh2=>?_) (λh2=>?_)
 rotate_left
 ·refine go ?_;exact aa false (hv:=rfl) (hp:=λh=>by cases h)
 refine go ?_;first|with_reducible refine aN (λh3=>?_) (λh3=>?_)|with_reducible refine aO (λh3=>?_) (λh3=>?_)|with_reducible refine aL (λh3=>?_) (λh3=>?_)
 rotate_left
 ·refine go ?_;exact aa false (hv:=rfl) (hp:=λh=>by cases h)
 refine go ?_;first|with_reducible refine aN (λh4=>?_) (λh4=>?_)|with_reducible refine aO (λh4=>?_) (λh4=>?_)|with_reducible refine aL (λh4=>?_) (λh4=>?_)
 rotate_left
 ·refine go ?_;exact aa false (hv:=rfl) (hp:=λh=>by cases h)
 refine go ?_;refine aG rfl (λh5=>?_) (λh5=>?_)
 ·refine go ?_;exact aa false (hv:=rfl) (hp:=λh=>by cases h)
 have hD:Lp d:=⟨by omega,by omega,by omega,by omega,by omega⟩
 refine go ?_;refine bJ (λj:Nat=>d.regions.length - j) (λj=>[(3,.int .i64 (j:Int))]) (λ_=>[]) (λ_=>[]) (λj=>j<=d.regions.length) 0 (dD _) (body:=?_);intro j hj;refine go ?_;refine aG rfl (λa1=>?_) (λa1=>?_)
 ·have hx:d.regions[j]? =some (d.regions[j]'(by omega)):=dz _;generalize d.regions[j]'(by omega)=x at hx;obtain⟨hx1,hx2⟩:=hr x (bG hx);refine go ?_;refine dm iV (xs:=d.regions) (next:=λ_ _ x1 (vl1:Value) hx1=>?_);cases hx.symm.trans hx1;refine go ?_;refine aG rfl (λa2=>?_) (λa2=>?_)
  ·refine go ?_;exact aa false (hv:=rfl) (hp:=λh=>by cases h)
  refine go ?_;refine bJ (λi:Nat=>x.lists.length - i) (λi=>[(4,.int .i64 (i:Int))]) (λ_=>[]) (λ_=>[]) (λi=>i<=x.lists.length) 0 (dD _) (body:=?_);intro i hi;refine go ?_;refine dm iV (xs:=d.regions) (next:=λ_ _ x2 (vl2:Value) hx2=>?_);cases hx.symm.trans hx2;refine go ?_;refine aG rfl (λa3=>?_) (λa3=>?_)
  ·refine go ?_;refine dm iV (xs:=d.regions) (next:=λ_ _ x3 (vl3:Value) hx3=>?_);cases hx.symm.trans hx3;refine go ?_;refine dm (aC ae) (xs:=x.lists) (next:=λ_ _ l (vl4:Value) hl=>?_);refine go ?_;refine aG rfl (λa4=>?_) (λa4=>?_)
   ·refine go ?_;exact aa false (hv:=rfl) (hp:=λh=>by cases h)
   refine go ?_;exact bi (i+1) (by show x.lists.length - (i+1)<x.lists.length - i;omega) (by show i+1<=_;omega)
  refine go ?_;exact bi (j+1) (by show d.regions.length - (j+1)<d.regions.length - j;omega) (by show j+1<=_;omega)
 refine go ?_;refine bJ (λj:Nat=>d.rules.length - j) (λj=>[(5,.int .i64 (j:Int))]) (λ_=>[]) (λ_=>[]) (λj=>j<=d.rules.length) 0 (dD _) (body:=?_);intro j hj;refine go ?_;refine aG rfl (λa1=>?_) (λa1=>?_)
 ·have hx:d.rules[j]? =some (d.rules[j]'(by omega)):=dz _;generalize d.rules[j]'(by omega)=x at hx;obtain⟨hx1,hx2⟩:=hn x (bG hx);refine go ?_;refine dm bq (xs:=d.rules) (next:=λ_ _ x1 (w:Value×Value) hx1=>?_);cases hx.symm.trans hx1;refine go ?_;first|with_reducible refine aN (λa2=>?_) (λa2=>?_)|with_reducible refine aO (λa2=>?_) (λa2=>?_)|with_reducible refine aL (λa2=>?_) (λa2=>?_)
  rotate_left
  ·refine go ?_;exact aa false (hv:=rfl) (hp:=λh=>by cases h)
  refine go ?_;refine dm bq (xs:=d.rules) (next:=λ_ _ x2 (w2:Value×Value) hx2=>?_);cases hx.symm.trans hx2;refine go ?_;refine aG rfl (λa3=>?_) (λa3=>?_)
  ·refine go ?_;exact aa false (hv:=rfl) (hp:=λh=>by cases h)
  refine go ?_;exact bi (j+1) (by show d.rules.length - (j+1)<d.rules.length - j;omega) (by show j+1<=_;omega)
 refine go ?_;exact aa true (hv:=rfl) (hp:=λ_=>hD)
structure Lr(k:bP):Prop where
 d:Lp k.decl
 cells:k.grid.cells.length<=256
 Gc:k.grid.holes.length<=300
theorem og.Tp{k:bP}(hB:Bf k)(hF:Lr k):og k:=by
 have f1:=hF.cells;have f2:=hF.Gc;have f5:=hF.d.dA;have f6:=hF.d.regs;have f7:=hF.d.jZ;have f8:=hF.d.l5;have f9:=hF.d.holes;exact⟨⟨⟨by omega,by omega,by omega,by omega,hB.uC,hB.holes,hB.uD⟩,hB.dw,hB.dh,by omega⟩,⟨hB.gw,hB.gh,by omega,by omega⟩,hB.aK,hB.lists⟩
theorem adN{k:bP}{vh vs vr vc vu gh gc vn vl:Value}(hB:Bf k):aV Tryz.prog (.func 34) [.agg ⟨mO k vh vs vr vc vu gh gc vn vl⟩] [] [] (nZ k vh vs vr vc vu gh gc vn vl []) (λb:Bool=>.bool b) (λ_=>[]) (λ_=>[]) (λb=>b=true->Lr k):=by
 obtain⟨n1,n2⟩:=hB.aK;obtain⟨l1,l2⟩:=hB.lists;refine aS _ (aQ 34) λB w0=>?_;dsimp only[nZ];refine fq (E:=aC (aC ae)) (v:=vl) (xs:=k.lists) (by simp) λal cl el=>?_;subst el;refine go ?_;intro b1;refine go ?_;refine bJ (λx:Nat×Int=>k.lists.length - x.1) (λx=>[(4,.int .i64 (x.1:Int)),(3,.int .i64 x.2)]) (λ_=>[]) (λ_=>[]) (λx=>x.1<=k.lists.length/\0<=x.2/\x.2<=4001) (0,0) ⟨dD _,by decide,by decide⟩ (body:=?_);rintro⟨i,n⟩ ⟨hi,h0,h1⟩;dsimp only at hi h0 h1⊢;refine go ?_;first|with_reducible refine aN (λh2=>?_) (λh2=>?_)|with_reducible refine aO (λh2=>?_) (λh2=>?_)|with_reducible refine aL (λh2=>?_) (λh2=>?_)
 ·refine go ?_;first|with_reducible refine aN (λt1=>?_) (λt1=>?_)|with_reducible refine aO (λt1=>?_) (λt1=>?_)|with_reducible refine aL (λt1=>?_) (λt1=>?_)
  ·refine go ?_;exact aa false (hv:=rfl) (hp:=λh=>by cases h)
  refine go ?_;refine ax (Lm (xs:=k.aK) n1 n2) (next:=λm hm=>?_);refine go ?_;first|with_reducible refine aN (λt2=>?_) (λt2=>?_)|with_reducible refine aO (λt2=>?_) (λt2=>?_)|with_reducible refine aL (λt2=>?_) (λt2=>?_)
  ·refine go ?_;exact aa false (hv:=rfl) (hp:=λh=>by cases h)
  refine go ?_;first|with_reducible refine aN (λt3=>?_) (λt3=>?_)|with_reducible refine aO (λt3=>?_) (λt3=>?_)|with_reducible refine aL (λt3=>?_) (λt3=>?_)
  ·refine go ?_;exact aa false (hv:=rfl) (hp:=λh=>by cases h)
  refine go ?_;first|with_reducible refine aN (λt4=>?_) (λt4=>?_)|with_reducible refine aO (λt4=>?_) (λt4=>?_)|with_reducible refine aL (λt4=>?_) (λt4=>?_)
  ·refine go ?_;exact aa false (hv:=rfl) (hp:=λh=>by cases h)
  refine go ?_;refine ax (Tn (d:=k.decl) (vh:=vh) (vs:=vs) (vr:=vr) (vc:=vc) (vu:=vu) hB.uD hB.uC) (next:=λb hb=>?_);refine go ?_;exact aa b (hv:=rfl) (hp:=λh=>⟨hb h,by omega,by omega⟩)
 refine go ?_;refine aG rfl (λh3=>?_) (λh3=>?_)
 rotate_left
 ·refine go ?_;first|with_reducible refine aN (λt1=>?_) (λt1=>?_)|with_reducible refine aO (λt1=>?_) (λt1=>?_)|with_reducible refine aL (λt1=>?_) (λt1=>?_)
  ·refine go ?_;exact aa false (hv:=rfl) (hp:=λh=>by cases h)
  refine go ?_;refine ax (Lm (xs:=k.aK) n1 n2) (next:=λm hm=>?_);refine go ?_;first|with_reducible refine aN (λt2=>?_) (λt2=>?_)|with_reducible refine aO (λt2=>?_) (λt2=>?_)|with_reducible refine aL (λt2=>?_) (λt2=>?_)
  ·refine go ?_;exact aa false (hv:=rfl) (hp:=λh=>by cases h)
  refine go ?_;first|with_reducible refine aN (λt3=>?_) (λt3=>?_)|with_reducible refine aO (λt3=>?_) (λt3=>?_)|with_reducible refine aL (λt3=>?_) (λt3=>?_)
  ·refine go ?_;exact aa false (hv:=rfl) (hp:=λh=>by cases h)
  refine go ?_;first|with_reducible refine aN (λt4=>?_) (λt4=>?_)|with_reducible refine aO (λt4=>?_) (λt4=>?_)|with_reducible refine aL (λt4=>?_) (λt4=>?_)
  ·refine go ?_;exact aa false (hv:=rfl) (hp:=λh=>by cases h)
  refine go ?_;refine ax (Tn (d:=k.decl) (vh:=vh) (vs:=vs) (vr:=vr) (vc:=vc) (vu:=vu) hB.uD hB.uC) (next:=λb hb=>?_);refine go ?_;exact aa b (hv:=rfl) (hp:=λh=>⟨hb h,by omega,by omega⟩)
 refine go ?_;refine dm (aC (aC ae)) (xs:=k.lists) (next:=λ_ _ x (vx:Value) hx=>?_);obtain⟨x1,x2⟩:=l2 x (bG hx);refine go ?_;refine ax (Lm (xs:=x) x1 x2) (next:=λm hm=>?_);refine go ?_;exact bi (i+1,n+m) (by show k.lists.length - (i+1)<k.lists.length - i;omega) ⟨by dsimp only;omega,by dsimp only;omega,by dsimp only;omega⟩
theorem Tq{k:bP}{p:List Clue}{vh vs vr vc vu gh gc vn vl vp:Value}(hB:Bf k)(hp:p.length<9223372036854775808):
 aV Tryz.prog (.func 11) [.agg ⟨mO k vh vs vr vc vu gh gc vn vl⟩,.agg ⟨[vp]⟩] [] [] (ai kI vp p::nZ k vh vs vr vc vu gh gc vn vl []) (λb:Bool=>.bool b) (λ_=>[]) (λ_=>[]) (λb=>b=true->Lr k/\k.grid.cells.length<=16/\p.length<=60/\∀g∈p,g.values.length<=20):=by
 refine aS _ (aQ 11) λB w0=>?_;dsimp only[nZ];refine go ?_;intro b2 b3;refine go ?_;refine ax (adN (k:=k) (vh:=vh) (vs:=vs) (vr:=vr) (vc:=vc) (vu:=vu) (gh:=gh) (gc:=gc) (vn:=vn) (vl:=vl) hB) (next:=λb hb=>?_);cases b with
 |false=>
  refine go ?_;exact aa false (hv:=rfl) (hp:=λh=>by cases h)
 |true=>
 have hk:=hb rfl;refine go ?_;first|with_reducible refine aN (λh1=>?_) (λh1=>?_)|with_reducible refine aO (λh1=>?_) (λh1=>?_)|with_reducible refine aL (λh1=>?_) (λh1=>?_)
 ·refine go ?_;exact aa false (hv:=rfl) (hp:=λh=>by cases h)
 refine go ?_;first|with_reducible refine aN (λh2=>?_) (λh2=>?_)|with_reducible refine aO (λh2=>?_) (λh2=>?_)|with_reducible refine aL (λh2=>?_) (λh2=>?_)
 ·refine go ?_;exact aa false (hv:=rfl) (hp:=λh=>by cases h)
 refine go ?_;refine ax (adG (xs:=p) (va:=vp) hp) (next:=λb hb=>?_);refine go ?_;exact aa b (hv:=rfl) (hp:=λh=>⟨hk,by omega,hb h⟩)
