/-
  Puzzles checked.
-/
import Derived.Test.YtoohgkkmdnbnfaaGreatDoorLibKD
import Derived.Test.YtoohgkkmdnbnfaaGreatDoorLibMD
import Derived.Test.YtoohgkkmdnbnfaaGreatDoorLibLD
set_option linter.all false
set_option maxRecDepth 10000
set_option maxHeartbeats 4000000
namespace Go.Proofs.YtoohgkkmdnbnfaaGreatDoor
open Go.Ideal Kd Canon
structure yF(p:List Clue):Prop where
 len:p.length<9223372036854775808
 vals:∀g∈p,g.values.length<9223372036854775808
theorem afw{k:bS}{g:Clue}{vh vs vr vc vu gh gc vn vl vv:Value}(hS:nu k)(hF:Em k)(hv:g.values.length<9223372036854775808):
 bn Tryz.prog (.func 37) [.agg ⟨kD k vh vs vr vc vu gh gc vn vl⟩,zN g vv] [] [] (ah aa vv g.values::kX k vh vs vr vc vu gh gc vn vl []) (λb:Bool=>.bool b) (λ_=>[]) (λ_=>[]) (λb=>b=true↔rU k g):=by
 have hcl:=hS.d.s.jm;have hsl:=hS.d.s.dO;refine aI _ (aO 37) λB w0=>?_;refine aS (E:=bM) (v:=vc) (xs:=k.decl.aJ) (by simp) λac cc ec=>?_;subst ec;refine aS (E:=fq) (v:=vs) (xs:=k.decl.symbols) (by simp) λkC cs1 es1=>?_;subst es1;refine aS (E:=aj (aj aa)) (v:=vl) (xs:=k.lists) (by simp) λal cl el=>?_;subst el;refine aS (E:=aa) (v:=vv) (xs:=g.values) (by simp) λav cv wJ=>?_;subst wJ;refine go ?_;intro b2 b3;refine bA (eD (b:=b2)) (h:=?_);refine bA (eD (b:=b3)) (h:=?_);refine go ?_;first|with_reducible refine aN (λh1=>?_) (λh1=>?_)|with_reducible refine aM (λh1=>?_) (λh1=>?_)|with_reducible refine aK (λh1=>?_) (λh1=>?_)
 rotate_left
 ·refine go ?_;exact ae false (hv:=rfl) (hp:=⟨(λh=>by cases h),λ⟨c,l,h,_⟩=>by omega⟩)
 refine go ?_;refine ay rfl (λh2=>?_) (λh2=>?_)
 ·refine go ?_;refine ae false (hv:=rfl) (hp:=⟨(λh=>by cases h),λ⟨c,l,_,h,_⟩=>?_⟩);have:=(bP.1 h).1;omega
 obtain⟨ci,hci⟩:=qf (show 0<=g.aH by omega);have hg0:0<=g.aH:=by omega
 have KD:ci<k.decl.aJ.length:=by omega
 have htn:g.aH.toNat=ci:=by omega
 refine go ?_;rw[hci];refine bi bM (xs:=k.decl.aJ) (next:=λ_ _ c (_:Unit) hc=>?_);obtain⟨hf0,hf1⟩:=hF c (bH hc);refine go ?_;intro b5;refine go ?_;first|with_reducible refine aN (λh3=>?_) (λh3=>?_)|with_reducible refine aM (λh3=>?_) (λh3=>?_)|with_reducible refine aK (λh3=>?_) (λh3=>?_)
 rotate_left
 ·refine go ?_;exact ae false (hv:=rfl) (hp:=⟨(λh=>by cases h),λ⟨c,l,_,_,_,h,_⟩=>by omega⟩)
 refine go ?_;obtain⟨fi,hfi⟩:=qf hf0;have EM:c.family.toNat=fi:=by omega
 rw[hfi];refine bi (aj (aj aa)) (xs:=k.lists) (next:=λ_ _ ls (Nu:Value) hls=>?_);refine go ?_;refine ay rfl (λh4=>?_) (λh4=>?_)
 ·refine go ?_;refine ae false (hv:=rfl) (hp:=⟨(λh=>by cases h),λ⟨c',l',_,q1,q2,q3,q4,_⟩=>?_⟩);rw[htn,hc]at q1;cases q1;rw[EM,hls]at q2;cases q2;omega
 have hR:∀b:Bool,(b=true↔((c.type=1/\g.values.length=1/\∀x∈g.values,0<=x/\x<=(k.decl.symbols.length:Int) - 1)\/(c.type=2/\g.values.length=1/\∀x∈g.values,c.lo<=x/\x<=c.hi)\/
  (c.type≠1/\c.type≠2/\g.values.length<=8/\∀x∈g.values,1<=x/\x<=256)))->(b=true↔rU k g):=λb hb=>by
  rw[hb];refine⟨λh=>⟨c,ls,hg0,by rw[htn];exact hc,by rw[EM];exact hls,by omega,by omega,h⟩,λ⟨c',l',_,q1,_,_,_,h⟩=>?_⟩;rw[htn,hc]at q1;cases q1;exact h
 refine go ?_;refine ay rfl (λh5=>?_) (λh5=>?_)
 ·refine go ?_;first|with_reducible refine aN (λh6=>?_) (λh6=>?_)|with_reducible refine aM (λh6=>?_) (λh6=>?_)|with_reducible refine aK (λh6=>?_) (λh6=>?_)
  ·refine go ?_;exact ae false (hv:=rfl) (hp:=hR _ ⟨(λh=>by cases h),λh=>by exfalso;omega⟩)
  refine go ?_;refine ax (MC (xs:=g.values) (lo:=0) (hi:=(k.decl.symbols.length:Int) - 1) hv) (next:=λ_ _=>?_);refine go ?_;refine ae (wC g.values 0 ((k.decl.symbols.length:Int) - 1)) (hv:=rfl) (hp:=hR _ ?_);unfold wC;rw[qg];exact⟨λh=>.inl ⟨h5,by omega,h⟩,λh=>by rcases h with h|h|h;exact h.2.2;exact absurd h5 (by omega);exact absurd h5 h.1⟩
 refine go ?_;refine ay rfl (λh6=>?_) (λh6=>?_)
 ·refine go ?_;first|with_reducible refine aN (λh7=>?_) (λh7=>?_)|with_reducible refine aM (λh7=>?_) (λh7=>?_)|with_reducible refine aK (λh7=>?_) (λh7=>?_)
  ·refine go ?_;exact ae false (hv:=rfl) (hp:=hR _ ⟨(λh=>by cases h),λh=>by exfalso;omega⟩)
  refine go ?_;refine ax (MC (xs:=g.values) (lo:=c.lo) (hi:=c.hi) hv) (next:=λ_ _=>?_);refine go ?_;refine ae (wC g.values c.lo c.hi) (hv:=rfl) (hp:=hR _ ?_);unfold wC;rw[qg];exact⟨λh=>.inr (.inl ⟨h6,by omega,h⟩),λh=>by rcases h with h|h|h;exact absurd h.1 h5;exact h.2.2;exact absurd h6 h.2.1⟩
 refine go ?_;first|with_reducible refine aN (λh7=>?_) (λh7=>?_)|with_reducible refine aM (λh7=>?_) (λh7=>?_)|with_reducible refine aK (λh7=>?_) (λh7=>?_)
 ·refine go ?_;exact ae false (hv:=rfl) (hp:=hR _ ⟨(λh=>by cases h),λh=>by exfalso;omega⟩)
 refine go ?_;refine ax (MC (xs:=g.values) (lo:=1) (hi:=256) hv) (next:=λ_ _=>?_);refine go ?_;refine ae (wC g.values 1 256) (hv:=rfl) (hp:=hR _ ?_);unfold wC;rw[qg];exact⟨λh=>.inr (.inr ⟨h5,h6,by omega,h⟩),λh=>by rcases h with h|h|h;exact absurd h.1 h5;exact absurd h.1 h6;exact h.2.2.2⟩
end Go.Proofs.YtoohgkkmdnbnfaaGreatDoor
namespace Go.Proofs.YtoohgkkmdnbnfaaGreatDoor
open Go.Ideal Kd Canon
theorem fC.decl{k:bS}(h:fC k):k.decl=Kd.bG k.decl:=congrArg bS.decl h.e
theorem fC.lists{k:bS}(h:fC k):k.lists=lG k.decl:=by
 have:=congrArg bS.lists h.e;have h2:(j4 (Kd.bG k.decl)).lists=lG (Kd.bG k.decl):=rfl;rw[h2,<- h.decl]at this;exact this
theorem fC.grid{k:bS}(h:fC k):k.grid=aR k.decl:=by
 have:=congrArg bS.grid h.e;have h2:(j4 (Kd.bG k.decl)).grid=aR (Kd.bG k.decl):=rfl;rw[h2,<- h.decl]at this;exact this
theorem fC.bq{k:bS}(h:fC k):k.bq=bJ (aR k.decl):=by
 have:=congrArg bS.bq h.e;have h2:(j4 (Kd.bG k.decl)).bq=bJ (aR (Kd.bG k.decl)):=rfl;rw[h2,<- h.decl]at this;exact this
theorem fC.typ{k:bS}(h:fC k):EH k.decl:=by
 have:=h.b.typ;rw[<- h.decl]at this;exact this
theorem fC.oM{k:bS}(h:fC k):Em k:=by
 intro c hc;rw[h.decl]at hc;obtain⟨q,hq,rfl⟩:=fE.1 (show c∈k.decl.aJ.map (kU (bV k.decl))from hc);have h1:=xX (h.b.rs.Mf q hq);have h2:(bV k.decl).length=8+k.decl.regions.length:=by
  unfold bV;rw[gH,cz];rfl
 have h3:k.lists.length=8+k.decl.regions.length:=by
  rw[h.lists];unfold lG;rw[gH,cz,cz,Fh]
 show 0<=((dU q.on (bV k.decl):Nat):Int)/\((dU q.on (bV k.decl):Nat):Int)<_;omega
theorem afx{k:bS}{p:List Clue}{vh vs vr vc vu gh gc vn vl vp:Value}(hS:nu k)(hP:yF p):
 bn Tryz.prog (.func 15) [.agg ⟨kD k vh vs vr vc vu gh gc vn vl⟩,.agg ⟨[vp]⟩] [] [] (ah iV vp p::kX k vh vs vr vc vu gh gc vn vl []) (λe:Int=>.int .i64 e) (λ_=>[]) (λ_=>[])
  (λe=>(¬fC k->e=180)/\(fC k->¬jR k p->e=190)/\(fC k->jR k p->e=0)):=by
 refine aI _ (aO 15) λB w0=>?_;refine aS (E:=iV) (v:=vp) (xs:=p) (by simp) λEN cp ep=>?_;subst ep;refine go ?_;intro b2 b3;refine bA (eD (b:=b2)) (h:=?_);refine bA (eD (b:=b3)) (h:=?_);refine go ?_;refine ax (afq (k:=k) (vh:=vh) (vs:=vs) (vr:=vr) (vc:=vc) (vu:=vu) (gh:=gh) (gc:=gc) (vn:=vn) (vl:=vl) hS) (next:=λb hb=>?_);cases b with
 |false=>
  have hno:¬fC k:=λh=>by have:=hb.2 h;cases this
  dsimp only[cond];refine go ?_;exact ae 180 (hv:=rfl) (hp:=⟨λ_=>rfl,λh=>absurd h hno,λh=>absurd h hno⟩)
 |true=>
 have hK:=hb.1 rfl;clear hb;have hend:¬jR k p->(¬fC k->(190:Int)=180)/\(fC k->¬jR k p->(190:Int)=190)/\(fC k->jR k p->(190:Int)=0):=λhn=>⟨λh=>absurd hK h,λ_ _=>rfl,λ_ h=>absurd h hn⟩
 dsimp only[cond];refine go ?_;refine ay rfl (λh1=>?_) (λh1=>?_)
 ·refine go ?_;exact ae 190 (hv:=rfl) (hp:=hend λh=>by have:=h.len;omega)
 refine go ?_;refine aZ (λj:Nat=>p.length - j) (λj=>[(17,.int .i64 (j:Int))]) (λ_=>[]) (λ_=>[]) (λj=>j<=p.length/\(∀g∈p.take j,rU k g)/\∀(i:Nat) a b,i+1<j->p[i]? =some a->p[i+1]? =some b->gu a b<0) 0 ⟨bY _,by simp,λi a b h=>by omega⟩ (body:=?_);rintro j ⟨hj,hall,hs⟩;refine go ?_;refine ay rfl (λh2=>?_) (λh2=>?_)
 ·refine go ?_;refine bi iV (xs:=p) (next:=λ_ _ g (vg:Value) hg=>?_);have hgm:=bH hg;have htk:=bU hg;refine go ?_;intro b6;refine go ?_;refine ax (afw (k:=k) (g:=g) (vh:=vh) (vs:=vs) (vr:=vr) (vc:=vc) (vu:=vu) (gh:=gh) (gc:=gc) (vn:=vn) (vl:=vl) (vv:=vg) hS hK.oM (hP.vals g hgm)) (next:=λb hb=>?_);cases b with
  |false=>
   refine go ?_;exact ae 190 (hv:=rfl) (hp:=hend λh=>by have:=hb.2 (h.right g hgm);cases this)
  |true=>
  have hR:=hb.1 rfl;have EO:∀x∈p.take (j+1),rU k x:=by
   rw[htk];intro x hx;rcases dZ.1 hx with hx|hx
   ·exact hall x hx
   ·rw[bI.1 hx];exact hR
  refine go ?_;first|with_reducible refine aN (λh3=>?_) (λh3=>?_)|with_reducible refine aM (λh3=>?_) (λh3=>?_)|with_reducible refine aK (λh3=>?_) (λh3=>?_)
  ·have hj0:j=0:=by omega
   subst hj0;refine go ?_;exact aP 1 (by show p.length - 1<p.length - 0;omega) ⟨by omega,EO,λi a b h=>by omega⟩
  obtain⟨i,rfl⟩:∃i,j=i+1:=⟨j - 1,by omega⟩
  refine go ?_;rw[show((i+1:Nat):Int) - 1=(i:Int)by omega];refine bi iV (xs:=p) (next:=λ_ _ g0 (Nv:Value) hg0=>?_);refine go ?_;refine ax (Ns (a:=g0) (b:=g) (va:=Nv) (vb:=vg)) (next:=λ_ _=>?_);refine go ?_;refine ay rfl (λh4=>?_) (λh4=>?_)
  ·refine go ?_;exact ae 190 (hv:=rfl) (hp:=hend λh=>by have:=h.sorted i g0 g hg0 hg;omega)
  ·refine go ?_;refine aP (i+1+1) (by show p.length - (i+1+1)<p.length - (i+1);omega) ⟨by omega,EO,λi' a b h ha hb=>?_⟩;by_cases e:i'=i
   ·subst e;rw[hg0]at ha;rw[hg]at hb;cases ha;cases hb;omega
   ·exact hs i' a b (by omega) ha hb
 have ig:j=p.length:=by omega
 subst ig;rw[bK]at hall;refine go ?_;exact ae 0 (hv:=rfl) (hp:=⟨λh=>absurd hK h,λ_ h=>absurd ⟨by omega,hall,λi a b ha hb=>hs i a b (bP.1 hb).1 ha hb⟩ h,λ_ _=>rfl⟩)
abbrev Nw(k:bS)(grid:List Int):Prop:=Fin (k.grid.cells.length:Int) (k.decl.symbols.length:Int) grid
structure aiT(k:bS)(p:List Clue)(grid:List Int)(e:Int):Prop where
 nk:¬fC k->e=180
 nf:fC k->¬Nw k grid->e=200
 np:fC k->Nw k grid->¬jR k p->e=190
 ok:fC k->Nw k grid->jR k p->e=0
end Go.Proofs.YtoohgkkmdnbnfaaGreatDoor
namespace Go.Proofs.YtoohgkkmdnbnfaaGreatDoor
open Go.Ideal Kd Canon
def uR(k:bS):List Int:=k.decl.symbols.map (·.value)
structure UE(k:bS)(r:aQ):Prop where
 oM:0<=r.family/\r.family<k.lists.length
 aH:r.aH<k.decl.aJ.length
end Go.Proofs.YtoohgkkmdnbnfaaGreatDoor
namespace Go.Proofs.YtoohgkkmdnbnfaaGreatDoor
open Go.Ideal Kd Canon
end Go.Proofs.YtoohgkkmdnbnfaaGreatDoor
namespace Go.Proofs.YtoohgkkmdnbnfaaGreatDoor
open Go.Ideal Kd Canon
end Go.Proofs.YtoohgkkmdnbnfaaGreatDoor
namespace Go.Proofs.YtoohgkkmdnbnfaaGreatDoor
open Go.Ideal Kd Canon
structure UF(k:bS)(p:List Clue)(grid:List Int)(r:aQ)(set other:Nat):Prop where
 s:nu k
 ps:yF p
 oM:Em k
 rin:UE k r
 right:∀g∈p,rU k g
 gri:TD grid
 cells:∀x∈Io k p r,TE grid x.1
 vals:TF (uR k) grid
 bX:jX k.bq
 UA:grid.length=k.bq.length
 st:r.set=(set:Int)/\set<9223372036854775808
 ot:r.other=(other:Int)/\other<9223372036854775808
 kind:1<=r.kind/\r.kind<=11
 EP:r.kind=2\/r.kind=3\/r.kind=11->∀x∈Io k p r,0<x.2.length
 few:∀x∈Io k p r,x.1.length<=4096
 one:r.kind=11->∀x∈Io k p r,0<x.1.length
theorem I6{l:List Int}{y:Int}(h:l[0]? =some y):l.getD 0 0=y:=uC h
section
variable {k:bS} {p:List Clue} {grid:List Int} {r:aQ} {set other:Nat} {bv br:Nat} {vh vs vr vc vu gh gc vn vl vp vg vv v1 v2:Value}
theorem UF.bq(H:UF k p grid r set other):∀l∈k.bq,∀b∈l,0<=b/\b<grid.length:=by
 intro l hl b hb;obtain⟨i,hi⟩:=mP hl;obtain⟨j,hj⟩:=mP hb;have:=H.bX.ok i l hi j b hj;have:=H.UA;omega
end
end Go.Proofs.YtoohgkkmdnbnfaaGreatDoor
namespace Go.Proofs.YtoohgkkmdnbnfaaGreatDoor
open Go.Ideal Kd Canon
end Go.Proofs.YtoohgkkmdnbnfaaGreatDoor
namespace Go.Proofs.YtoohgkkmdnbnfaaGreatDoor
open Go.Ideal Kd Canon
theorem afy{k:Int}(h:(fQ k).read=true):1<=k/\k<=11:=by
 apply Classical.byContradiction;intro hn;have hc:(k<0\/14<=k)\/k=0\/k=12\/k=13:=by omega
 rcases hc with hc|rfl|rfl|rfl
 ·rw[BZ hc]at h;cases h
 ·cases h
 ·cases h
 ·cases h
theorem fC.uD{k:bS}(h:fC k){r:aQ}(hr:r∈k.decl.rules):∃q∈k.decl.rules,r=lY (bO k.decl) (bV k.decl) (dI k.decl) q:=by
 have h1:r∈(Kd.bG k.decl).rules:=by rw[<- h.decl];exact hr
 obtain⟨q,hq,e⟩:=fE.1 (show r∈k.decl.rules.map (lY (bO k.decl) (bV k.decl) (dI k.decl))from h1);exact⟨q,hq,e.symm⟩
theorem fC.iF{k:bS}(h:fC k):k.lists.length=8+k.decl.regions.length:=by
 rw[h.lists];unfold lG;rw[gH,cz,cz,Fh]
theorem fC.bX{k:bS}(h:fC k):fw (aR k.decl):=⟨h.typ.Ca,rfl⟩
theorem fC.inr{k:bS}(h:fC k){r:aQ}(hr:r∈k.decl.rules):UE k r:=by
 obtain⟨q,hq,rfl⟩:=h.uD hr;have hro:=h.b.rs.uD q hq;have hl:=h.iF;have hfl:(bV k.decl).length=8+k.decl.regions.length:=by
  unfold bV;rw[gH,cz];rfl
 refine⟨?_,?_⟩
 ·show 0<=(if q.on=⟨⟨[]⟩⟩then(0:Int)else(dU q.on (bV k.decl):Int))/\(if q.on=⟨⟨[]⟩⟩then(0:Int)else(dU q.on (bV k.decl):Int))<_;by_cases e:q.on=⟨⟨[]⟩⟩
  ·rw[if_pos e];omega
  ·rw[if_neg e];have:=xX (hro.on.resolve_left e);omega
 ·show(if q.bW=⟨⟨[]⟩⟩then(-1:Int)else(dU q.bW (dI k.decl):Int))<_;by_cases e:q.bW=⟨⟨[]⟩⟩
  ·rw[if_pos e];omega
  ·rw[if_neg e];have h1:=xX (hro.bW.resolve_left e);have h2:(dI k.decl).length=k.decl.aJ.length:=by unfold dI;rw[cz]
   omega
end Go.Proofs.YtoohgkkmdnbnfaaGreatDoor
namespace Go.Proofs.YtoohgkkmdnbnfaaGreatDoor
open Go.Ideal Kd Canon
structure Cg(k:bS):Prop where
 dw:j3 k.decl.w
 dh:j3 k.decl.h
 gw:j3 k.grid.w
 gh:j3 k.grid.h
 holes:k.decl.holes.length<9223372036854775808
 dO:k.decl.symbols.length<9223372036854775808
 regs:k.decl.regions.length<9223372036854775808
 qF:∀r∈k.decl.regions,r.lists.length<9223372036854775808/\∀l∈r.lists,l.length<9223372036854775808
 jm:k.decl.aJ.length<9223372036854775808
 kz:k.decl.rules.length<9223372036854775808
 qE:∀r∈k.decl.rules,r.names.length<9223372036854775808/\r.others.length<9223372036854775808
 I7:k.grid.holes.length<9223372036854775808
 cells:k.grid.cells.length<9223372036854775808
 bq:k.bq.length<9223372036854775808/\∀l∈k.bq,l.length<9223372036854775808
 lists:k.lists.length<9223372036854775808/\∀l∈k.lists,l.length<9223372036854775808/\∀m∈l,m.length<9223372036854775808
structure afz(k:bS):Prop where
 cells:k.grid.cells.length<=16
 I7:k.grid.holes.length<=256
 bq:k.bq.length<=20
 lists:k.lists.length<=12
 dO:k.decl.symbols.length<=6
 regs:k.decl.regions.length<=6
 jm:k.decl.aJ.length<=6
 kz:k.decl.rules.length<=10
 holes:k.decl.holes.length<=256
 each:∀l∈k.lists,l.length<=40
 reg:∀r∈k.decl.regions,r.lists.length<=20
theorem nu.of{k:bS}(hB:Cg k)(hF:afz k):nu k:=by
 have f1:=hF.cells;have f2:=hF.I7;have f5:=hF.dO;have f6:=hF.regs;have f7:=hF.jm;have f8:=hF.kz;have f9:=hF.holes;exact⟨⟨⟨by omega,by omega,by omega,by omega,hB.qE,hB.holes,hB.qF⟩,hB.dw,hB.dh,by omega⟩,⟨hB.gw,hB.gh,by omega,by omega⟩,hB.bq,hB.lists⟩
end Go.Proofs.YtoohgkkmdnbnfaaGreatDoor
namespace Go.Proofs.YtoohgkkmdnbnfaaGreatDoor
open Go.Ideal Kd Canon
structure WoY where
 v:Value
 e:Int
end Go.Proofs.YtoohgkkmdnbnfaaGreatDoor
namespace Go.Proofs.YtoohgkkmdnbnfaaGreatDoor
open Go.Ideal Kd Canon
theorem Ny{v:Value}{xs:List (List Int)}(hl:xs.length<9223372036854775808)(hll:∀l∈xs,l.length<9223372036854775808):bn Tryz.prog (.func 64) [v] [] [] [ah (aj aa) v xs] (λn:Int=>.int .i64 n) (λ_=>[]) (λ_=>[]) (λn=>0<=n/\n<=2001):=by
 refine aI _ (aO 64) λB w0=>?_;refine aS (E:=aj aa) (v:=v) (xs:=xs) (by simp) λa1 c1 e1=>?_;subst e1;refine go ?_;refine aZ (λx:Nat×Int=>xs.length - x.1) (λx=>[(4,.int .i64 (x.1:Int)),(3,.int .i64 x.2)]) (λ_=>[]) (λ_=>[]) (λx=>x.1<=xs.length/\0<=x.2/\x.2<=4003) (0,0) ⟨bY _,by decide,by decide⟩ (body:=?_);rintro⟨i,n⟩ ⟨hi,h0,h1⟩;dsimp only at hi h0 h1⊢;refine go ?_;first|with_reducible refine aN (λh2=>?_) (λh2=>?_)|with_reducible refine aM (λh2=>?_) (λh2=>?_)|with_reducible refine aK (λh2=>?_) (λh2=>?_)
 ·refine go ?_;refine(fJ rfl rfl (Ho rfl rfl)).h ?_;refine go ?_;exact ae (min n 2001) (hv:=rfl) (hp:=by omega)
 refine go ?_;refine ay rfl (λh3=>?_) (λh3=>?_)
 rotate_left
 ·refine go ?_;refine(fJ rfl rfl (Ho rfl rfl)).h ?_;refine go ?_;exact ae (min n 2001) (hv:=rfl) (hp:=by omega)
 refine go ?_;refine(fJ rfl rfl (Ho rfl rfl)).h ?_;refine go ?_;refine bi (aj aa) (xs:=xs) (next:=λ_ _ x (vx:Value) hx=>?_);refine go ?_;refine(fJ rfl rfl (Ho rfl rfl)).h ?_;refine go ?_;exact aP (i+1,min n 2001+1+min (x.length:Int) 2001) (by show xs.length - (i+1)<xs.length - i;omega) ⟨by dsimp only;omega,by dsimp only;omega,by dsimp only;omega⟩
structure Nz(d:bF):Prop where
 holes:d.holes.length<=40
 dO:d.symbols.length<=20
 regs:d.regions.length<=8
 jm:d.aJ.length<=8
 kz:d.rules.length<=20
theorem UG{d:bF}{vh vs vr vc vu:Value}(hr:∀r∈d.regions,r.lists.length<9223372036854775808/\∀l∈r.lists,l.length<9223372036854775808)(hn:∀r∈d.rules,r.names.length<9223372036854775808/\r.others.length<9223372036854775808):
 bn Tryz.prog (.func 65) [.agg ⟨gD d vh vs vr vc vu⟩] [] [] (kM d vh vs vr vc vu) (λb:Bool=>.bool b) (λ_=>[]) (λ_=>[]) (λb=>b=true->Nz d):=by
 refine aI _ (aO 65) λB w0=>?_;dsimp only[kM];refine aS (E:=eG) (v:=vr) (xs:=d.regions) (by simp) λar cr er=>?_;subst er;refine aS (E:=aY) (v:=vu) (xs:=d.rules) (by simp) λau cu eu=>?_;subst eu;refine go ?_;intro b1;refine bA (eD (b:=b1)) (h:=?_);refine go ?_;first|with_reducible refine aN (λh1=>?_) (λh1=>?_)|with_reducible refine aM (λh1=>?_) (λh1=>?_)|with_reducible refine aK (λh1=>?_) (λh1=>?_)
 rotate_left
 ·refine go ?_;exact ae false (hv:=rfl) (hp:=λh=>by cases h)
 refine go ?_;first|with_reducible refine aN (λh2=>?_) (λh2=>?_)|with_reducible refine aM (λh2=>?_) (λh2=>?_)|with_reducible refine aK (λh2=>?_) (λh2=>?_)
 rotate_left
 ·refine go ?_;exact ae false (hv:=rfl) (hp:=λh=>by cases h)
 refine go ?_;first|with_reducible refine aN (λh3=>?_) (λh3=>?_)|with_reducible refine aM (λh3=>?_) (λh3=>?_)|with_reducible refine aK (λh3=>?_) (λh3=>?_)
 rotate_left
 ·refine go ?_;exact ae false (hv:=rfl) (hp:=λh=>by cases h)
 refine go ?_;first|with_reducible refine aN (λh4=>?_) (λh4=>?_)|with_reducible refine aM (λh4=>?_) (λh4=>?_)|with_reducible refine aK (λh4=>?_) (λh4=>?_)
 rotate_left
 ·refine go ?_;exact ae false (hv:=rfl) (hp:=λh=>by cases h)
 refine go ?_;refine ay rfl (λh5=>?_) (λh5=>?_)
 ·refine go ?_;exact ae false (hv:=rfl) (hp:=λh=>by cases h)
 have hD:Nz d:=⟨by omega,by omega,by omega,by omega,by omega⟩
 refine go ?_;refine aZ (λj:Nat=>d.regions.length - j) (λj=>[(3,.int .i64 (j:Int))]) (λ_=>[]) (λ_=>[]) (λj=>j<=d.regions.length) 0 (bY _) (body:=?_);intro j hj;refine go ?_;refine ay rfl (λa1=>?_) (λa1=>?_)
 ·have hx:d.regions[j]? =some (d.regions[j]'(by omega)):=cO _;generalize d.regions[j]'(by omega)=x at hx;obtain⟨hx1,hx2⟩:=hr x (bH hx);refine go ?_;refine bi eG (xs:=d.regions) (next:=λ_ _ x1 (vl1:Value) hx1=>?_);cases hx.symm.trans hx1;refine go ?_;refine ay rfl (λa2=>?_) (λa2=>?_)
  ·refine go ?_;exact ae false (hv:=rfl) (hp:=λh=>by cases h)
  refine go ?_;refine aZ (λi:Nat=>x.lists.length - i) (λi=>[(4,.int .i64 (i:Int))]) (λ_=>[]) (λ_=>[]) (λi=>i<=x.lists.length) 0 (bY _) (body:=?_);intro i hi;refine go ?_;refine bi eG (xs:=d.regions) (next:=λ_ _ x2 (vl2:Value) hx2=>?_);cases hx.symm.trans hx2;refine go ?_;refine ay rfl (λa3=>?_) (λa3=>?_)
  ·refine go ?_;refine bi eG (xs:=d.regions) (next:=λ_ _ x3 (vl3:Value) hx3=>?_);cases hx.symm.trans hx3;refine go ?_;refine bi (aj aa) (xs:=x.lists) (next:=λ_ _ l (vl4:Value) hl=>?_);refine go ?_;refine ay rfl (λa4=>?_) (λa4=>?_)
   ·refine go ?_;exact ae false (hv:=rfl) (hp:=λh=>by cases h)
   refine go ?_;exact aP (i+1) (by show x.lists.length - (i+1)<x.lists.length - i;omega) (by show i+1<=_;omega)
  refine go ?_;exact aP (j+1) (by show d.regions.length - (j+1)<d.regions.length - j;omega) (by show j+1<=_;omega)
 refine go ?_;refine aZ (λj:Nat=>d.rules.length - j) (λj=>[(5,.int .i64 (j:Int))]) (λ_=>[]) (λ_=>[]) (λj=>j<=d.rules.length) 0 (bY _) (body:=?_);intro j hj;refine go ?_;refine ay rfl (λa1=>?_) (λa1=>?_)
 ·have hx:d.rules[j]? =some (d.rules[j]'(by omega)):=cO _;generalize d.rules[j]'(by omega)=x at hx;obtain⟨hx1,hx2⟩:=hn x (bH hx);refine go ?_;refine bi aY (xs:=d.rules) (next:=λ_ _ x1 (w:Value×Value) hx1=>?_);cases hx.symm.trans hx1;refine go ?_;first|with_reducible refine aN (λa2=>?_) (λa2=>?_)|with_reducible refine aM (λa2=>?_) (λa2=>?_)|with_reducible refine aK (λa2=>?_) (λa2=>?_)
  rotate_left
  ·refine go ?_;exact ae false (hv:=rfl) (hp:=λh=>by cases h)
  refine go ?_;refine bi aY (xs:=d.rules) (next:=λ_ _ x2 (w2:Value×Value) hx2=>?_);cases hx.symm.trans hx2;refine go ?_;refine ay rfl (λa3=>?_) (λa3=>?_)
  ·refine go ?_;exact ae false (hv:=rfl) (hp:=λh=>by cases h)
  refine go ?_;exact aP (j+1) (by show d.rules.length - (j+1)<d.rules.length - j;omega) (by show j+1<=_;omega)
 refine go ?_;exact ae true (hv:=rfl) (hp:=λ_=>hD)
structure NA(k:bS):Prop where
 d:Nz k.decl
 cells:k.grid.cells.length<=256
 I7:k.grid.holes.length<=300
theorem nu.ofE{k:bS}(hB:Cg k)(hF:NA k):nu k:=by
 have f1:=hF.cells;have f2:=hF.I7;have f5:=hF.d.dO;have f6:=hF.d.regs;have f7:=hF.d.jm;have f8:=hF.d.kz;have f9:=hF.d.holes;exact⟨⟨⟨by omega,by omega,by omega,by omega,hB.qE,hB.holes,hB.qF⟩,hB.dw,hB.dh,by omega⟩,⟨hB.gw,hB.gh,by omega,by omega⟩,hB.bq,hB.lists⟩
theorem afB{k:bS}{vh vs vr vc vu gh gc vn vl:Value}(hB:Cg k):bn Tryz.prog (.func 34) [.agg ⟨kD k vh vs vr vc vu gh gc vn vl⟩] [] [] (kX k vh vs vr vc vu gh gc vn vl []) (λb:Bool=>.bool b) (λ_=>[]) (λ_=>[]) (λb=>b=true->NA k):=by
 obtain⟨n1,n2⟩:=hB.bq;obtain⟨l1,l2⟩:=hB.lists;refine aI _ (aO 34) λB w0=>?_;dsimp only[kX];refine aS (E:=aj (aj aa)) (v:=vl) (xs:=k.lists) (by simp) λal cl el=>?_;subst el;refine go ?_;intro b1;refine go ?_;refine aZ (λx:Nat×Int=>k.lists.length - x.1) (λx=>[(4,.int .i64 (x.1:Int)),(3,.int .i64 x.2)]) (λ_=>[]) (λ_=>[]) (λx=>x.1<=k.lists.length/\0<=x.2/\x.2<=4001) (0,0) ⟨bY _,by decide,by decide⟩ (body:=?_);rintro⟨i,n⟩ ⟨hi,h0,h1⟩;dsimp only at hi h0 h1⊢;refine go ?_;first|with_reducible refine aN (λh2=>?_) (λh2=>?_)|with_reducible refine aM (λh2=>?_) (λh2=>?_)|with_reducible refine aK (λh2=>?_) (λh2=>?_)
 ·refine go ?_;first|with_reducible refine aN (λt1=>?_) (λt1=>?_)|with_reducible refine aM (λt1=>?_) (λt1=>?_)|with_reducible refine aK (λt1=>?_) (λt1=>?_)
  ·refine go ?_;exact ae false (hv:=rfl) (hp:=λh=>by cases h)
  refine go ?_;refine ax (Ny (xs:=k.bq) n1 n2) (next:=λm hm=>?_);refine go ?_;first|with_reducible refine aN (λt2=>?_) (λt2=>?_)|with_reducible refine aM (λt2=>?_) (λt2=>?_)|with_reducible refine aK (λt2=>?_) (λt2=>?_)
  ·refine go ?_;exact ae false (hv:=rfl) (hp:=λh=>by cases h)
  refine go ?_;first|with_reducible refine aN (λt3=>?_) (λt3=>?_)|with_reducible refine aM (λt3=>?_) (λt3=>?_)|with_reducible refine aK (λt3=>?_) (λt3=>?_)
  ·refine go ?_;exact ae false (hv:=rfl) (hp:=λh=>by cases h)
  refine go ?_;first|with_reducible refine aN (λt4=>?_) (λt4=>?_)|with_reducible refine aM (λt4=>?_) (λt4=>?_)|with_reducible refine aK (λt4=>?_) (λt4=>?_)
  ·refine go ?_;exact ae false (hv:=rfl) (hp:=λh=>by cases h)
  refine go ?_;refine ax (UG (d:=k.decl) (vh:=vh) (vs:=vs) (vr:=vr) (vc:=vc) (vu:=vu) hB.qF hB.qE) (next:=λb hb=>?_);refine go ?_;exact ae b (hv:=rfl) (hp:=λh=>⟨hb h,by omega,by omega⟩)
 refine go ?_;refine ay rfl (λh3=>?_) (λh3=>?_)
 rotate_left
 ·refine go ?_;first|with_reducible refine aN (λt1=>?_) (λt1=>?_)|with_reducible refine aM (λt1=>?_) (λt1=>?_)|with_reducible refine aK (λt1=>?_) (λt1=>?_)
  ·refine go ?_;exact ae false (hv:=rfl) (hp:=λh=>by cases h)
  refine go ?_;refine ax (Ny (xs:=k.bq) n1 n2) (next:=λm hm=>?_);refine go ?_;first|with_reducible refine aN (λt2=>?_) (λt2=>?_)|with_reducible refine aM (λt2=>?_) (λt2=>?_)|with_reducible refine aK (λt2=>?_) (λt2=>?_)
  ·refine go ?_;exact ae false (hv:=rfl) (hp:=λh=>by cases h)
  refine go ?_;first|with_reducible refine aN (λt3=>?_) (λt3=>?_)|with_reducible refine aM (λt3=>?_) (λt3=>?_)|with_reducible refine aK (λt3=>?_) (λt3=>?_)
  ·refine go ?_;exact ae false (hv:=rfl) (hp:=λh=>by cases h)
  refine go ?_;first|with_reducible refine aN (λt4=>?_) (λt4=>?_)|with_reducible refine aM (λt4=>?_) (λt4=>?_)|with_reducible refine aK (λt4=>?_) (λt4=>?_)
  ·refine go ?_;exact ae false (hv:=rfl) (hp:=λh=>by cases h)
  refine go ?_;refine ax (UG (d:=k.decl) (vh:=vh) (vs:=vs) (vr:=vr) (vc:=vc) (vu:=vu) hB.qF hB.qE) (next:=λb hb=>?_);refine go ?_;exact ae b (hv:=rfl) (hp:=λh=>⟨hb h,by omega,by omega⟩)
 refine go ?_;refine bi (aj (aj aa)) (xs:=k.lists) (next:=λ_ _ x (vx:Value) hx=>?_);obtain⟨x1,x2⟩:=l2 x (bH hx);refine go ?_;refine ax (Ny (xs:=x) x1 x2) (next:=λm hm=>?_);refine go ?_;exact aP (i+1,n+m) (by show k.lists.length - (i+1)<k.lists.length - i;omega) ⟨by dsimp only;omega,by dsimp only;omega,by dsimp only;omega⟩
theorem afC{k:bS}{p:List Clue}{vh vs vr vc vu gh gc vn vl vp:Value}(hB:Cg k)(hp:p.length<9223372036854775808):
 bn Tryz.prog (.func 11) [.agg ⟨kD k vh vs vr vc vu gh gc vn vl⟩,.agg ⟨[vp]⟩] [] [] (ah iV vp p::kX k vh vs vr vc vu gh gc vn vl []) (λb:Bool=>.bool b) (λ_=>[]) (λ_=>[]) (λb=>b=true->NA k/\k.grid.cells.length<=16/\p.length<=60/\∀g∈p,g.values.length<=20):=by
 refine aI _ (aO 11) λB w0=>?_;dsimp only[kX];refine go ?_;intro b2 b3;refine go ?_;refine ax (afB (k:=k) (vh:=vh) (vs:=vs) (vr:=vr) (vc:=vc) (vu:=vu) (gh:=gh) (gc:=gc) (vn:=vn) (vl:=vl) hB) (next:=λb hb=>?_);cases b with
 |false=>
  refine go ?_;exact ae false (hv:=rfl) (hp:=λh=>by cases h)
 |true=>
 have hk:=hb rfl;refine go ?_;first|with_reducible refine aN (λh1=>?_) (λh1=>?_)|with_reducible refine aM (λh1=>?_) (λh1=>?_)|with_reducible refine aK (λh1=>?_) (λh1=>?_)
 ·refine go ?_;exact ae false (hv:=rfl) (hp:=λh=>by cases h)
 refine go ?_;first|with_reducible refine aN (λh2=>?_) (λh2=>?_)|with_reducible refine aM (λh2=>?_) (λh2=>?_)|with_reducible refine aK (λh2=>?_) (λh2=>?_)
 ·refine go ?_;exact ae false (hv:=rfl) (hp:=λh=>by cases h)
 refine go ?_;refine ax (afv (xs:=p) (va:=vp) hp) (next:=λb hb=>?_);refine go ?_;exact ae b (hv:=rfl) (hp:=λh=>⟨hk,by omega,hb h⟩)
