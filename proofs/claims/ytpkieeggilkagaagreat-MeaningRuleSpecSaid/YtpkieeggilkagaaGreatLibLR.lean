/-
  Part LibLR.
-/
import Derived.Test.YtpkieeggilkagaaGreatLibKR
import Derived.Test.YtpkieeggilkagaaGreatLibBR
set_option linter.all false
set_option maxRecDepth 10000
set_option maxHeartbeats 4000000
namespace Go.Proofs.YtpkieeggilkagaaGreat
open Go.Ideal Kd Canon
structure qO(p:List Clue):Prop where
 len:p.length<9223372036854775808
 vals:∀g∈p,g.values.length<9223372036854775808
theorem agQ{k:bR}{g:Clue}{vh vs vr vc vu gh gc vn vl vv:Value}(hS:lJ k)(hF:AJ k)(hv:g.values.length<9223372036854775808):
 aV Tryz.prog (.func 114) [.agg ⟨jq k vh vs vr vc vu gh gc vn vl⟩,CV g vv] [] [] (ah aa vv g.values::iB k vh vs vr vc vu gh gc vn vl []) (λb:Bool=>.bool b) (λ_=>[]) (λ_=>[]) (λb=>b=true↔qb k g):=by
 have hcl:=hS.d.s.jB;have hsl:=hS.d.s.cZ;refine aC _ (aF 114) λB w0=>?_;refine aT (E:=bI) (v:=vc) (xs:=k.decl.aM) (by simp) λac cc ec=>?_;subst ec;refine aT (E:=fo) (v:=vs) (xs:=k.decl.symbols) (by simp) λoz cs1 es1=>?_;subst es1;refine aT (E:=ax (ax aa)) (v:=vl) (xs:=k.lists) (by simp) λal cl el=>?_;subst el;refine aT (E:=aa) (v:=vv) (xs:=g.values) (by simp) λav cv F4=>?_;subst F4;refine go ?_;intro b2 b3;refine aW (eB (b:=b2)) (h:=?_);refine aW (eB (b:=b3)) (h:=?_);refine go ?_;refine gG (λh1=>?_) (λh1=>?_)
 rotate_left
 ·refine go ?_;exact ae false (hv:=rfl) (hp:=⟨(λh=>by cases h),λ⟨c,l,h,_⟩=>by omega⟩)
 refine go ?_;refine ay rfl (λh2=>?_) (λh2=>?_)
 ·refine go ?_;refine ae false (hv:=rfl) (hp:=⟨(λh=>by cases h),λ⟨c,l,_,h,_⟩=>?_⟩);have:=(bK.1 h).1;omega
 obtain⟨ci,hci⟩:=dZ (show 0<=g.aB by omega);have hg0:0<=g.aB:=by omega
 have LK:ci<k.decl.aM.length:=by omega
 have htn:g.aB.toNat=ci:=by omega
 refine go ?_;rw[hci];refine aU bI (xs:=k.decl.aM) (next:=λ_ _ c (_:Unit) hc=>?_);obtain⟨hf0,hf1⟩:=hF c (aP hc);refine go ?_;intro b5;refine go ?_;refine gG (λh3=>?_) (λh3=>?_)
 rotate_left
 ·refine go ?_;exact ae false (hv:=rfl) (hp:=⟨(λh=>by cases h),λ⟨c,l,_,_,_,h,_⟩=>by omega⟩)
 refine go ?_;obtain⟨fi,hfi⟩:=dZ hf0;have Bg:c.family.toNat=fi:=by omega
 rw[hfi];refine aU (ax (ax aa)) (xs:=k.lists) (next:=λ_ _ ls (OJ:Value) hls=>?_);refine go ?_;refine ay rfl (λh4=>?_) (λh4=>?_)
 ·refine go ?_;refine ae false (hv:=rfl) (hp:=⟨(λh=>by cases h),λ⟨c',l',_,q1,q2,q3,q4,_⟩=>?_⟩);rw[htn,hc]at q1;cases q1;rw[Bg,hls]at q2;cases q2;omega
 have hR:∀b:Bool,(b=true↔((c.type=1/\g.values.length=1/\∀x∈g.values,0<=x/\x<=(k.decl.symbols.length:Int) - 1)\/(c.type=2/\g.values.length=1/\∀x∈g.values,c.lo<=x/\x<=c.hi)\/
  (c.type≠1/\c.type≠2/\g.values.length<=8/\∀x∈g.values,1<=x/\x<=256)))->(b=true↔qb k g):=λb hb=>by
  rw[hb];refine⟨λh=>⟨c,ls,hg0,by rw[htn];exact hc,by rw[Bg];exact hls,by omega,by omega,h⟩,λ⟨c',l',_,q1,_,_,_,h⟩=>?_⟩;rw[htn,hc]at q1;cases q1;exact h
 refine go ?_;refine ay rfl (λh5=>?_) (λh5=>?_)
 ·refine go ?_;refine gG (λh6=>?_) (λh6=>?_)
  ·refine go ?_;exact ae false (hv:=rfl) (hp:=hR _ ⟨(λh=>by cases h),λh=>by exfalso;omega⟩)
  refine go ?_;refine aj (NR (xs:=g.values) (lo:=0) (hi:=(k.decl.symbols.length:Int) - 1) hv) (next:=λ_ _=>?_);refine go ?_;refine ae (xP g.values 0 ((k.decl.symbols.length:Int) - 1)) (hv:=rfl) (hp:=hR _ ?_);unfold xP;rw[yB];exact⟨λh=>.inl ⟨h5,by omega,h⟩,λh=>by rcases h with h|h|h;exact h.2.2;exact absurd h5 (by omega);exact absurd h5 h.1⟩
 refine go ?_;refine ay rfl (λh6=>?_) (λh6=>?_)
 ·refine go ?_;refine gG (λh7=>?_) (λh7=>?_)
  ·refine go ?_;exact ae false (hv:=rfl) (hp:=hR _ ⟨(λh=>by cases h),λh=>by exfalso;omega⟩)
  refine go ?_;refine aj (NR (xs:=g.values) (lo:=c.lo) (hi:=c.hi) hv) (next:=λ_ _=>?_);refine go ?_;refine ae (xP g.values c.lo c.hi) (hv:=rfl) (hp:=hR _ ?_);unfold xP;rw[yB];exact⟨λh=>.inr (.inl ⟨h6,by omega,h⟩),λh=>by rcases h with h|h|h;exact absurd h.1 h5;exact h.2.2;exact absurd h6 h.2.1⟩
 refine go ?_;refine gG (λh7=>?_) (λh7=>?_)
 ·refine go ?_;exact ae false (hv:=rfl) (hp:=hR _ ⟨(λh=>by cases h),λh=>by exfalso;omega⟩)
 refine go ?_;refine aj (NR (xs:=g.values) (lo:=1) (hi:=256) hv) (next:=λ_ _=>?_);refine go ?_;refine ae (xP g.values 1 256) (hv:=rfl) (hp:=hR _ ?_);unfold xP;rw[yB];exact⟨λh=>.inr (.inr ⟨h5,h6,by omega,h⟩),λh=>by rcases h with h|h|h;exact absurd h.1 h5;exact absurd h.1 h6;exact h.2.2.2⟩
theorem eH.decl{k:bR}(h:eH k):k.decl=Kd.bH k.decl:=congrArg bR.decl h.e
theorem eH.lists{k:bR}(h:eH k):k.lists=l5 k.decl:=by
 have:=congrArg bR.lists h.e;have h2:(kG (Kd.bH k.decl)).lists=l5 (Kd.bH k.decl):=rfl;rw[h2,<- h.decl]at this;exact this
theorem eH.grid{k:bR}(h:eH k):k.grid=aQ k.decl:=by
 have:=congrArg bR.grid h.e;have h2:(kG (Kd.bH k.decl)).grid=aQ (Kd.bH k.decl):=rfl;rw[h2,<- h.decl]at this;exact this
theorem eH.aN{k:bR}(h:eH k):k.aN=bO (aQ k.decl):=by
 have:=congrArg bR.aN h.e;have h2:(kG (Kd.bH k.decl)).aN=bO (aQ (Kd.bH k.decl)):=rfl;rw[h2,<- h.decl]at this;exact this
theorem eH.typ{k:bR}(h:eH k):FW k.decl:=by
 have:=h.b.typ;rw[<- h.decl]at this;exact this
theorem eH.lX{k:bR}(h:eH k):AJ k:=by
 intro c hc;rw[h.decl]at hc;obtain⟨q,hq,rfl⟩:=eT.1 (show c∈k.decl.aM.map (lW (bX k.decl))from hc);have h1:=xB (h.b.rs.Nr q hq);have h2:(bX k.decl).length=8+k.decl.regions.length:=by
  unfold bX;rw[gU,dV];rfl
 have h3:k.lists.length=8+k.decl.regions.length:=by
  rw[h.lists];unfold l5;rw[gU,dV,dV,Kl]
 show 0<=((dY q.on (bX k.decl):Nat):Int)/\((dY q.on (bX k.decl):Nat):Int)<_;omega
theorem agR{k:bR}{p:List Clue}{vh vs vr vc vu gh gc vn vl vp:Value}(hS:lJ k)(hP:qO p):
 aV Tryz.prog (.func 53) [.agg ⟨jq k vh vs vr vc vu gh gc vn vl⟩,.agg ⟨[vp]⟩] [] [] (ah jh vp p::iB k vh vs vr vc vu gh gc vn vl []) (λe:Int=>.int .i64 e) (λ_=>[]) (λ_=>[])
  (λe=>(¬eH k->e=180)/\(eH k->¬jO k p->e=190)/\(eH k->jO k p->e=0)):=by
 refine aC _ (aF 53) λB w0=>?_;refine aT (E:=jh) (v:=vp) (xs:=p) (by simp) λOL cp ep=>?_;subst ep;refine go ?_;intro b2 b3;refine aW (eB (b:=b2)) (h:=?_);refine aW (eB (b:=b3)) (h:=?_);refine go ?_;refine aj (VO (k:=k) hS) (next:=λb hb=>?_);cases b with
 |false=>
  have hno:¬eH k:=λh=>by have:=hb.2 h;cases this
  dsimp only[cond];refine go ?_;exact ae 180 (hv:=rfl) (hp:=⟨λ_=>rfl,λh=>absurd h hno,λh=>absurd h hno⟩)
 |true=>
 have hK:=hb.1 rfl;clear hb;have hend:¬jO k p->(¬eH k->(190:Int)=180)/\(eH k->¬jO k p->(190:Int)=190)/\(eH k->jO k p->(190:Int)=0):=λhn=>⟨λh=>absurd hK h,λ_ _=>rfl,λ_ h=>absurd h hn⟩
 dsimp only[cond];refine go ?_;refine ay rfl (λh1=>?_) (λh1=>?_)
 ·refine go ?_;exact ae 190 (hv:=rfl) (hp:=hend λh=>by have:=h.len;omega)
 refine go ?_;refine aR (λj:Nat=>p.length - j) (λj=>[(17,.int .i64 (j:Int))]) (λ_=>[]) (λ_=>[]) (λj=>j<=p.length/\(∀g∈p.take j,qb k g)/\∀(i:Nat) a b,i+1<j->p[i]? =some a->p[i+1]? =some b->iF a b<0) 0 ⟨bJ _,by simp,λi a b h=>by omega⟩ (body:=?_);rintro j ⟨hj,hall,hs⟩;refine go ?_;refine ay rfl (λh2=>?_) (λh2=>?_)
 ·refine go ?_;refine aU jh (xs:=p) (next:=λ_ _ g (vg:Value) hg=>?_);have hgm:=aP hg;have htk:=bS hg;refine go ?_;intro b6;refine go ?_;refine aj (agQ (k:=k) (g:=g) (vv:=vg) hS hK.lX (hP.vals g hgm)) (next:=λb hb=>?_);cases b with
  |false=>
   refine go ?_;exact ae 190 (hv:=rfl) (hp:=hend λh=>by have:=hb.2 (h.right g hgm);cases this)
  |true=>
  have hR:=hb.1 rfl;have nu:∀x∈p.take (j+1),qb k x:=by
   rw[htk];intro x hx;rcases dB.1 hx with hx|hx
   ·exact hall x hx
   ·rw[bM.1 hx];exact hR
  refine go ?_;refine gG (λh3=>?_) (λh3=>?_)
  ·have hj0:j=0:=by omega
   subst hj0;refine go ?_;exact aD 1 (by show p.length - 1<p.length - 0;omega) ⟨by omega,nu,λi a b h=>by omega⟩
  obtain⟨i,rfl⟩:∃i,j=i+1:=⟨j - 1,by omega⟩
  refine go ?_;rw[show((i+1:Nat):Int) - 1=(i:Int)by omega];refine aU jh (xs:=p) (next:=λ_ _ g0 (OM:Value) hg0=>?_);refine go ?_;refine aj (agP (a:=g0) (b:=g) (va:=OM) (vb:=vg)) (next:=λ_ _=>?_);refine go ?_;refine ay rfl (λh4=>?_) (λh4=>?_)
  ·refine go ?_;exact ae 190 (hv:=rfl) (hp:=hend λh=>by have:=h.sorted i g0 g hg0 hg;omega)
  ·refine go ?_;refine aD (i+1+1) (by show p.length - (i+1+1)<p.length - (i+1);omega) ⟨by omega,nu,λi' a b h ha hb=>?_⟩;by_cases e:i'=i
   ·subst e;rw[hg0]at ha;rw[hg]at hb;cases ha;cases hb;omega
   ·exact hs i' a b (by omega) ha hb
 have fK:j=p.length:=by omega
 subst fK;rw[bC]at hall;refine go ?_;exact ae 0 (hv:=rfl) (hp:=⟨λh=>absurd hK h,λ_ h=>absurd ⟨by omega,hall,λi a b ha hb=>hs i a b (bK.1 hb).1 ha hb⟩ h,λ_ _=>rfl⟩)
abbrev mF(k:bR)(grid:List Int):Prop:=Fin (k.grid.cells.length:Int) (k.decl.symbols.length:Int) grid
theorem VS{k:bR}{grid:List Int}{vh vs vr vc vu gh gc vn vl vg:Value}(hS:lJ k)(hl:grid.length<9223372036854775808):
 aV Tryz.prog (.func 17) [.agg ⟨jq k vh vs vr vc vu gh gc vn vl⟩,vg] [] [] (ah aa vg grid::iB k vh vs vr vc vu gh gc vn vl []) (λe:Int=>.int .i64 e) (λ_=>[]) (λ_=>[])
  (λe=>(¬eH k->e=180)/\(eH k->¬mF k grid->e=200)/\(eH k->mF k grid->e=0)):=by
 refine aC _ (aF 17) λB w0=>?_;dsimp only[iB];refine go ?_;intro b2;refine go ?_;refine aj (VO (k:=k) hS) (next:=λb hb=>?_);cases b with
 |false=>
  have hno:¬eH k:=λh=>by have:=hb.2 h;cases this
  dsimp only[cond];refine go ?_;exact ae 180 (hv:=rfl) (hp:=⟨λ_=>rfl,λh=>absurd h hno,λh=>absurd h hno⟩)
 |true=>
 have hK:=hb.1 rfl;clear hb;dsimp only[cond];refine go ?_;refine aj (aeJ (cells:=(k.grid.cells.length:Int)) (symbols:=(k.decl.symbols.length:Int)) (grid:=grid) hl) (next:=λb hb=>?_);cases b with
 |false=>
  have hno:¬mF k grid:=λh=>by have:=hb.2 h;cases this
  refine go ?_;exact ae 200 (hv:=rfl) (hp:=⟨λh=>absurd hK h,λ_ _=>rfl,λ_ h=>absurd h hno⟩)
 |true=>
  have hf:=hb.1 rfl;refine go ?_;exact ae 0 (hv:=rfl) (hp:=⟨λh=>absurd hK h,λ_ h=>absurd hf h,λ_ _=>rfl⟩)
structure Dk(k:bR)(p:List Clue)(grid:List Int)(e:Int):Prop where
 nk:¬eH k->e=180
 nf:eH k->¬mF k grid->e=200
 np:eH k->mF k grid->¬jO k p->e=190
 ok:eH k->mF k grid->jO k p->e=0
theorem VT{k:bR}{p:List Clue}{grid:List Int}{vh vs vr vc vu gh gc vn vl vp vg:Value}(hS:lJ k)(hP:qO p)(hl:grid.length<9223372036854775808):
 aV Tryz.prog (.func 34) [.agg ⟨jq k vh vs vr vc vu gh gc vn vl⟩,.agg ⟨[vp]⟩,vg] [] [] (ah jh vp p::ah aa vg grid::iB k vh vs vr vc vu gh gc vn vl []) (λe:Int=>.int .i64 e) (λ_=>[]) (λ_=>[]) (Dk k p grid):=by
 refine aC _ (aF 34) λB w0=>?_;refine aT (E:=jh) (v:=vp) (xs:=p) (by simp) λOL cp ep=>?_;subst ep;refine go ?_;intro b3 b4;refine aW (eB (b:=b3)) (h:=?_);refine aW (eB (b:=b4)) (h:=?_);refine go ?_;refine aj (VS (k:=k) (grid:=grid) hS hl) (next:=λe he=>?_);obtain⟨h1,h2,h3⟩:=he;refine go ?_;refine ay rfl (λhne=>?_) (λhz=>?_)
 ·refine go ?_;exact ae e (hv:=rfl) (hp:=⟨h1,h2,λa b _=>absurd (h3 a b) hne,λa b _=>absurd (h3 a b) hne⟩)
 have hz:e=0:=gM.1 hz;subst hz;have hK:eH k:=Classical.byContradiction λh=>by have:=h1 h;omega
 have hF:mF k grid:=Classical.byContradiction λh=>by have:=h2 hK h;omega
 refine go ?_;refine aj (agR (k:=k) (p:=p) hS hP) (next:=λe he=>?_);refine go ?_;exact ae e (hv:=rfl) (hp:=⟨λh=>absurd hK h,λ_ h=>absurd hF h,λ_ _ h=>he.2.1 hK h,λ_ _ h=>he.2.2 hK h⟩)
abbrev lK(k:bR)(vh vs vr vc vu gh gc vn vl vp vg vv:Value):List Value:=[.string k.decl.name,.int .i64 k.decl.version,.int .i64 k.decl.shape,.int .i64 k.decl.w,.int .i64 k.decl.h,vh,vs,vr,vc,vu,.int .i64 k.grid.shape,.int .i64 k.grid.w,.int .i64 k.grid.h,gh,gc,vn,vl,vp,vg,vv]
def gD(k:bR):List Int:=k.decl.symbols.map (·.value)
theorem look_ok{k:bR}{p:List Clue}{grid:List Int}{vh vs vr vc vu gh gc vn vl vp vg:Value}(hsl:k.decl.symbols.length<=4096):
 aV Tryz.prog (.func 35) [.agg ⟨jq k vh vs vr vc vu gh gc vn vl⟩,.agg ⟨[vp]⟩,vg] [] [] [ah aa vg grid,ah fo vs k.decl.symbols] (λvv:Value=>.agg ⟨lK k vh vs vr vc vu gh gc vn vl vp vg vv⟩) (λ_=>[]) (λvv=>[ah aa vv (gD k)]) (λ_=>True):=by
 refine aC _ (aF 35) λB w0=>?_;refine aT (E:=aa) (v:=vg) (xs:=grid) (by simp) λag cg eg=>?_;subst eg;refine aT (E:=fo) (v:=vs) (xs:=k.decl.symbols) (by simp) λoz cs1 es1=>?_;subst es1;refine go ?_;intro b3 b4 b6 b7;refine go ?_;refine fJ aa ?_;refine aR (λy:Nat×Value=>k.decl.symbols.length - y.1) (λy=>[(18,.int .i64 (y.1:Int))]) (λy=>[pt b7 (.cells (lK k vh (.slice oz k.decl.symbols.length cs1) vr vc vu gh gc vn vl vp (.slice ag grid.length cg) y.2)),ap aa y.2 ((k.decl.symbols.take y.1).map (·.value))]) (λ_=>[]) (λy=>y.1<=k.decl.symbols.length) (0,.slice none 0 0) (bJ _) (hk:=by repeat (first|exact aJ.nil|(apply aJ.cons;(focus (repeat (first|exact aA.here|apply aA.there)))))) (body:=?_);rintro⟨j,vv⟩ hj;dsimp only at hj⊢;have hjl:((k.decl.symbols.take j).map (·.value)).length=j:=by rw[dV,gL];omega
 refine go ?_;refine ay rfl (λh1=>?_) (λh1=>?_)
 ·refine go ?_;refine aU fo (xs:=k.decl.symbols) (next:=λ_ _ s (_:Unit) hs=>?_);have htk:(k.decl.symbols.take (j+1)).map (·.value)=(k.decl.symbols.take j).map (·.value)++[s.value]:=by rw[bS hs,ed,oW]
  refine go ?_;intro b9;refine go ?_;intro b26;refine go ?_;refine eG (xs:=(k.decl.symbols.take j).map (·.value)) aa s.value () (by omega) (next:=λad=>?_);rw[<- htk];refine go ?_;exact aD (j+1,.slice ad (((k.decl.symbols.take j).map (·.value)).length+1) (((k.decl.symbols.take j).map (·.value)).length+1)) (by show k.decl.symbols.length - (j+1)<k.decl.symbols.length - j;omega) (by show j+1<=_;omega)
 have fK:j=k.decl.symbols.length:=by omega
 subst fK;rw[bC,show k.decl.symbols.map (·.value)=gD k from rfl];refine aW (fG (E:=aa) (v:=vv) (xs:=gD k)) (h:=?_);refine go ?_;exact ae vv (hv:=rfl) (hp:=trivial)
theorem agS{k:bR}{r:bB}{vh vs vr vc vu gh gc vn vl vp vg vv v1 v2:Value}:
 aV Tryz.prog (.func 129) [.agg ⟨lK k vh vs vr vc vu gh gc vn vl vp vg vv⟩,.agg ⟨gY r v1 v2⟩] [] [] [] (λy:Nat×Nat=>.func (.func 177) #[] #[ptr' y.1,ptr' y.2]) (λ_=>[])
  (λy=>[bZ y.1 0 (gY r v1 v2),bZ y.2 0 (lK k vh vs vr vc vu gh gc vn vl vp vg vv)]) (λ_=>True):=by
 refine aC _ (aF 129) λB w0=>?_;refine go ?_;intro b2 b3;refine go ?_;refine aW (eB (b:=b2)) (h:=?_);refine aW (eB (b:=b3)) (h:=?_);exact ae (b3,b2) (hv:=rfl) (hp:=trivial)
structure F5(k:bR)(r:bB):Prop where
 lX:0<=r.family/\r.family<k.lists.length
 aB:r.aB<k.decl.aM.length
theorem agT{br bv:Nat}{k:bR}{p:List Clue}{r:bB}{vh vs vr vc vu gh gc vn vl vp vg vv v1 v2:Value}(hS:lJ k)(hP:qO p)(hF:AJ k)(hr:F5 k r)(hp:∀g∈p,qb k g):
 Nf Tryz.prog Jn Fv (.func 177) [] [ptr' br,ptr' bv] [bZ br 0 (gY r v1 v2),bZ bv 0 (lK k vh vs vr vc vu gh gc vn vl vp vg vv),ah (ax (ax aa)) vl k.lists,ah bI vc k.decl.aM,ah jh vp p] (λxs=>xs.map mV=eY k p r):=by
 intro S inv ok step s0 qF y1 y2 F' h0 hok hy;have hpl:=hP.len;obtain⟨hf0,hf1⟩:=hr.lX;rw[dW,dW,dW,dW,dW,bY];refine aC _ (aF 177) λB w0=>?_;by_cases hneg:r.aB<0
 ·obtain⟨fi,hfi⟩:=dZ hf0;have Bg:r.family.toNat=fi:=by omega
  have hrl:eY k p r=(k.lists.getD r.family.toNat []).map λl=>(l,[r.n]):=by unfold eY;rw[if_pos hneg]
  refine go ?_;refine ay rfl (λh1=>?_) (λh1=>?_)
  rotate_left
  ·exact absurd hneg h1
  refine go ?_;rw[hfi];refine aU (ax (ax aa)) (xs:=k.lists) (next:=λ_ _ ls (OJ:Value) hls=>?_);have hll:=(hS.lists.2 ls (aP hls)).1;have hrl:eY k p r=ls.map λl=>(l,[r.n]):=by rw[hrl,Bg,uO hls]
  clear hneg h1;refine go ?_;refine aR (λy:Nat×List EA×S=>ls.length - y.1) (λy=>[(19,.int .i64 (y.1:Int))]) (λy=>inv y.2.2) (λ_=>[]) (λy=>y.1<=ls.length/\ok y.2.1 y.2.2/\y.2.1.map mV=((ls.take y.1).map λl=>(l,[r.n]))/\∀rest,gq step s0 (y.2.1++rest)=gq step y.2.2 rest) (0,[],s0) ⟨bJ _,h0,rfl,λ_=>rfl⟩ (body:=?_);rintro⟨j,gZ,s⟩ ⟨hj,hos,tV,hrun⟩;dsimp only at hj hos tV hrun⊢;refine go ?_;refine ay rfl (λh1=>?_) (λh1=>?_)
  ·refine go ?_;refine aU (ax aa) (xs:=ls) (next:=λ_ _ ps (xX:Value) hps=>?_);refine go ?_;intro Bh;refine aW (A:=pt Bh (.cells [.int .i64 r.n])) (fs:=[ah aa (.slice (some ⟨Bh,0,some 0⟩) 1 1) [r.n]]) (yU (b:=Bh) (f:=0) (c:=1) (xs:=[r.n])) (h:=?_);have hnx:(ls.take (j+1)).map (λl=>(l,[r.n]))=(ls.take j).map (λl=>(l,[r.n]))++[mV ((ps,xX),([r.n],.slice (some ⟨Bh,0,some 0⟩) 1 1))]:=by rw[bS hps,ed,oW];rfl
   generalize hxd:(((ps,xX),([r.n],Value.slice (some ⟨Bh,0,some 0⟩) 1 1)):EA)=x at hnx;have hX:(gZ++x::pad ((ls.drop (j+1)).map λl=>(l,[r.n]))).map mV=eY k p r:=by
    rw[ed,ik,Uj,tV,hrl];conv=>rhs;rw[<- su (j+1) ls,ed,hnx]
    rw[fI];rfl
   have nQ:=hy _ s _ _ hos hX;rw[show Jn x=[xX,.slice (some ⟨Bh,0,some 0⟩) 1 1]by rw[<- hxd];rfl,show Fv x=[ah aa xX ps,ah aa (.slice (some ⟨Bh,0,some 0⟩) 1 1) [r.n]]by rw[<- hxd];rfl]at nQ;rw[dW,dW,bY]at nQ;refine go ?_;refine aj nQ (next:=λ_ _=>?_);cases hst:(step s x).2 with
   |true=>
    have hs1:step s x=((step s x).1,true):=Prod.ext rfl hst;refine go ?_;refine aD (j+1,gZ++[x],(step s x).1) (by show ls.length - (j+1)<ls.length - j;omega) ⟨by show j+1<=_;omega,hok _ s _ _ hos hX hst,?_,λrest=>?_⟩
    ·show(gZ++[x]).map mV=_;rw[ed,oW,tV];exact hnx.symm
    ·show gq step s0 (gZ++[x]++rest)=_;rw[fI,hrun];show gq step s (x::rest)=_;rw[gq,hs1]
   |false=>
    have hs1:step s x=((step s x).1,false):=Prod.ext rfl hst;have hr:=hrun (x::pad ((ls.drop (j+1)).map λl=>(l,[r.n])));rw[gq,hs1]at hr;dsimp only at hr;refine go ?_;exact ae (gZ++x::pad ((ls.drop (j+1)).map λl=>(l,[r.n]))) (hv:=rfl) (hp:=hX) (hk:=by rw[hr];first|exact aJ.all _|exact aJ.self _ _)
  have fK:j=ls.length:=by omega
  subst fK;rw[bC,<- hrl]at tV;have hr2:=hrun [];rw[gV]at hr2;refine go ?_;exact ae gZ (hv:=rfl) (hp:=tV) (hk:=by rw[hr2];exact aJ.all _)
 ·obtain⟨ci,hci⟩:=dZ (show 0<=r.aB by omega);have hcl:=hr.aB;have hcc:k.decl.aM[r.aB.toNat]? =some (k.decl.aM[r.aB.toNat]'(by omega)):=bN _;generalize k.decl.aM[r.aB.toNat]'(by omega)=c at hcc;have hrl:eY k p r=(p.filter λg=>decide (g.aB=r.aB)).map λg=>(kR k g,g.values):=by unfold eY;rw[if_neg hneg]
  refine adg bI 6 rfl hcc λb o f cc yc ec=>?_;subst ec;rw[show bI.fs c yc=[]from rfl,bY,show bI.pat c yc=FM c from rfl];refine adf (b:=bv) 17 (ds:=[vp,vg,vv]) rfl ?_;refine go ?_;refine ay rfl (λh1=>?_) (λh1=>?_)
  ·exact absurd h1 hneg
  clear h1;refine go ?_;refine aR (λy:Nat×List EA×S=>p.length - y.1) (λy=>[(35,.int .i64 (y.1:Int))]) (λy=>inv y.2.2) (λ_=>[]) (λy=>y.1<=p.length/\ok y.2.1 y.2.2/\y.2.1.map mV=(((p.take y.1).filter λg=>decide (g.aB=r.aB)).map λg=>(kR k g,g.values))/\∀rest,gq step s0 (y.2.1++rest)=gq step y.2.2 rest) (0,[],s0) ⟨bJ _,h0,rfl,λ_=>rfl⟩ (body:=?_);rintro⟨j,gZ,s⟩ ⟨hj,hos,tV,hrun⟩;dsimp only at hj hos tV hrun⊢;refine go ?_;refine ay rfl (λh1=>?_) (λh1=>?_)
  ·refine go ?_;refine aU jh (xs:=p) (next:=λ_ _ g (JQ:Value) hg=>?_);have hgm:=aP hg;obtain⟨c2,ls,ps,q1,q2,q3,q4,q5,q6,q7⟩:=(hp g hgm).cells;have htk:(p.take (j+1)).filter (λg=>decide (g.aB=r.aB))=(p.take j).filter (λg=>decide (g.aB=r.aB))++(if g.aB=r.aB then[g]else[]):=by
    rw[bS hg,uk];by_cases e:g.aB=r.aB
    ·rw[if_pos e];simp[e]
    ·rw[if_neg e];simp[e]
   refine go ?_;intro b7;refine go ?_;refine gG (λh2=>?_) (λh2=>?_)
   ·rw[if_neg h2,gV]at htk;refine go ?_;exact aD (j+1,gZ,s) (by show p.length - (j+1)<p.length - j;omega) ⟨by show j+1<=_;omega,hos,by show gZ.map mV=_;rw[tV,htk],hrun⟩
   rw[if_pos h2]at htk;have e1:c2=c:=by
    rw[h2,hcc]at q1;exact(Option.some.inj q1).symm
   subst e1;obtain⟨hf2,hf3⟩:=hF c2 (aP hcc);obtain⟨fi,hfi⟩:=dZ hf2;obtain⟨ai,hai⟩:=dZ q5;rw[show c2.family.toNat=fi by omega]at q2;rw[show g.at_.toNat=ai by omega]at q3;refine go ?_;refine aU (ax (ax aa)) (xs:=k.lists) (k:=fi) (hi:=by show Value.int .i64 c2.family=_;rw[hfi]) (next:=λ_ _ F6 (OJ:Value) hls=>?_);rw[q2]at hls;obtain rfl:ls=F6:=Option.some.inj hls;refine go ?_;refine aU (ax aa) (xs:=ls) (k:=ai) (hi:=by show Value.int .i64 g.at_=_;rw[hai]) (next:=λ_ _ ps2 (xX:Value) hps=>?_);rw[q3]at hps;obtain rfl:ps=ps2:=Option.some.inj hps;have hnx:((p.take (j+1)).filter λg=>decide (g.aB=r.aB)).map (λg=>(kR k g,g.values))=(((p.take j).filter λg=>decide (g.aB=r.aB)).map λg=>(kR k g,g.values))++[mV ((ps,xX),(g.values,JQ))]:=by rw[htk,ed,oW,q7];rfl
   generalize hxd:(((ps,xX),(g.values,JQ)):EA)=x at hnx;have hX:(gZ++x::pad (((p.drop (j+1)).filter λg=>decide (g.aB=r.aB)).map λg=>(kR k g,g.values))).map mV=eY k p r:=by
    rw[ed,ik,Uj,tV,hrl];conv=>rhs;rw[<- su (j+1) p,uk,ed,hnx]
    rw[fI];rfl
   have nQ:=hy _ s _ _ hos hX;rw[show Jn x=[xX,JQ]by rw[<- hxd];rfl,show Fv x=[ah aa xX ps,ah aa JQ g.values]by rw[<- hxd];rfl]at nQ;rw[dW,dW,bY]at nQ;refine go ?_;refine aj nQ (next:=λ_ _=>?_);cases hst:(step s x).2 with
   |true=>
    have hs1:step s x=((step s x).1,true):=Prod.ext rfl hst;refine go ?_;refine aD (j+1,gZ++[x],(step s x).1) (by show p.length - (j+1)<p.length - j;omega) ⟨by show j+1<=_;omega,hok _ s _ _ hos hX hst,?_,λrest=>?_⟩
    ·show(gZ++[x]).map mV=_;rw[ed,oW,tV];exact hnx.symm
    ·show gq step s0 (gZ++[x]++rest)=_;rw[fI,hrun];show gq step s (x::rest)=_;rw[gq,hs1]
   |false=>
    have hs1:step s x=((step s x).1,false):=Prod.ext rfl hst;have hr:=hrun (x::pad (((p.drop (j+1)).filter λg=>decide (g.aB=r.aB)).map λg=>(kR k g,g.values)));rw[gq,hs1]at hr;dsimp only at hr;refine go ?_;exact ae (gZ++x::pad (((p.drop (j+1)).filter λg=>decide (g.aB=r.aB)).map λg=>(kR k g,g.values))) (hv:=rfl) (hp:=hX) (hk:=by rw[hr];first|exact aJ.all _|exact aJ.self _ _)
  have fK:j=p.length:=by omega
  subst fK;rw[bC,<- hrl]at tV;have hr2:=hrun [];rw[gV]at hr2;refine go ?_;exact ae gZ (hv:=rfl) (hp:=tV) (hk:=by rw[hr2];exact aJ.all _)
abbrev Bi(P:Program)(fn:Fn)(first cap:List Value)(F:List aL)(c:List Int×List Int->Bool)(x:List Int×List Int):Prop:=
 ∀v1 v2:Value,aV P fn (first++[v1,v2]) cap [] (ah aa v1 x.1::ah aa v2 x.2::F) (λ_:Unit=>.bool (c x)) (λ_=>[]) (λ_=>[]) (λ_=>True)
theorem Dl{k:bR}{p:List Clue}{r:bB}{vh vs vr vc vu gh gc vn vl vp vg vv v1 v2:Value}{fn:Fn}{first cap:List Value}{F1:List aL}{c:List Int×List Int->Bool}(hS:lJ k)(hP:qO p)(hF:AJ k)(hr:F5 k r)(hp:∀g∈p,qb k g)
 (hc:∀x∈eY k p r,Bi Tryz.prog fn first cap F1 c x):
 aV Tryz.prog (.func 58) [.agg ⟨lK k vh vs vr vc vu gh gc vn vl vp vg vv⟩,.agg ⟨gY r v1 v2⟩,.func fn ⟨first⟩ ⟨cap⟩] [] [] (ah (ax (ax aa)) vl k.lists::ah bI vc k.decl.aM::ah jh vp p::F1) (λ_:Unit=>.bool ((eY k p r).all c)) (λ_=>[]) (λ_=>[]) (λ_=>True):=by
 refine Cx _ (aF 58) λB w0=>?_;refine go ?_;intro b3 b4 b5 b6;refine aW (eB (b:=b5)) (h:=?_);refine go ?_;refine aj (agS (k:=k) (r:=r) (vv:=vv) (v1:=v1) (v2:=v2)) (next:=λy _=>?_);dsimp only[List.cons_append,List.nil_append];refine go ?_;refine adb (Z:=Nat) (λ(u:Unit) (x:EA)=>(u,cond (c (mV x)) Out.normal Out.ret)) (λ_=>[pt b6 (.cells [.bool false])]) (λ_ _=>True) () _ (λ_ _=>[]) trivial (λ_ _ _ _ _ _ _=>trivial) (agT (br:=y.1) (bv:=y.2) (k:=k) (p:=p) (r:=r) (vv:=vv) (v1:=v1) (v2:=v2) hS hP hF hr hp) (by intro s x lo o B w0;dsimp only[Jn,Fv,List.cons_append,List.nil_append,List.zip_cons_cons,List.zip_nil_left,List.reverse_cons,List.reverse_nil];refine go ?_;have z0:Nat:=0;exact Fb z0 rfl) ?_ ?_ ?_
 ·intro gZ s x rest z lo L B w0 _ hX;have hx:mV x∈eY k p r:=by rw[<- hX];exact eT.2 ⟨x,by simp,rfl⟩
  have hcx:=hc _ hx x.1.2 x.2.2;dsimp only[mV]at hcx⊢;dsimp only[Fv,List.cons_append,List.nil_append];refine go ?_;refine aj hcx (next:=λ_ _=>?_);cases hcb:c (x.1.1,x.2.1)with
  |true=>
   refine go ?_;exact w9 () rfl trivial trivial
  |false=>
   refine go ?_;exact w9 () rfl trivial trivial
 ·intro rr xs hX;have hrun:∀zs:List EA,(iO (λ(u:Unit) (x:EA)=>(u,cond (c (mV x)) Out.normal Out.ret)) () zs)=((),cond ((zs.map mV).all c) Out.normal Out.ret):=by
   intro zs;induction zs with
   |nil=>rfl
   |cons z zs ih=>
    rw[iO,ik,wo];cases hz:c (mV z)with
    |true=>
     rw[Bool.true_and];exact ih
    |false=>rfl
  rw[hrun,hX];dsimp only[List.cons_append,List.nil_append];cases hall:(eY k p r).all c with
  |true=>
   dsimp only[cond];refine go ?_;exact Al () (hv:=rfl) (hp:=trivial)
  |false=>
   dsimp only[cond];refine go ?_;exact Al () (hv:=rfl) (hp:=trivial)
 ·intro s x;show vN (cond (c (mV x)) Out.normal Out.ret);cases c (mV x)<;>trivial
theorem VU{n op b:Int}:bV Tryz.prog 63 [.int .i64 n,.int .i64 op,.int .i64 b] [] (.bool (qJ n op b)):=by
 refine aC _ (aF 63) λB w0=>?_;refine go ?_;iterate 9 (all_goals (first
  |(refine ae () (hv:=?_) (hp:=trivial);first
   |exact congrArg Value.bool (by unfold qJ;simp_all;done)
   |exact congrArg Value.bool (by unfold qJ;(try simp only[*]);simp<;>omega))
  |(refine go ?_;first
   |with_reducible refine lV (λ_=>?_) (λ_=>?_)
   |with_reducible refine kV (λ_=>?_) (λ_=>?_)
   |with_reducible refine lD (λ_=>?_) (λ_=>?_)
   |skip)))
theorem VV{n:Nat}(hn:n<=1000000):aV Tryz.prog (.func 87) [.int .i64 (n:Int)] [] [] [] (λv:Value=>v) (λ_=>[]) (λv=>[ah aa v (upTo' n)]) (λ_=>True):=by
 refine aC _ (aF 87) λB w0=>?_;refine go ?_;refine fJ aa ?_;refine aR (λy:Nat×Value=>n - y.1) (λy=>[(5,.int .i64 (y.1:Int)),(2,y.2)]) (λy=>[ap aa y.2 (upTo' y.1)]) (λ_=>[]) (λy=>y.1<=n) (0,.slice none 0 0) (bJ _) (hk:=by repeat (first|exact aJ.nil|(apply aJ.cons;(focus (repeat (first|exact aA.here|apply aA.there)))))) (body:=?_);rintro⟨i,v⟩ hi;dsimp only at hi⊢;have hil:=oh i;refine go ?_;refine ay rfl (λh2=>?_) (λh2=>?_)
 ·refine go ?_;intro b10;refine go ?_;refine eG (xs:=upTo' i) aa (i:Int) () (by omega) (next:=λad=>?_);rw[<- tN];refine go ?_;exact aD (i+1,.slice ad ((upTo' i).length+1) ((upTo' i).length+1)) (by show n - (i+1)<n - i;omega) (by show i+1<=_;omega)
 have hie:i=n:=by omega
 subst hie;refine aW (fG (E:=aa) (v:=v) (xs:=upTo' i)) (h:=?_);refine go ?_;exact ae v (hv:=rfl) (hp:=trivial)
abbrev Bj(P:Program)(fn:Fn)(first cap:List Value)(F:List aL)(c:Int->Int->Bool)(a b:Int):Prop:=
 aV P fn (first++[.int .i64 a,.int .i64 b]) cap [] F (λ_:Unit=>.bool (c a b)) (λ_=>[]) (λ_=>[]) (λ_=>True)
theorem OO{k:bR}{grid:List Int}{vh vs vr vc vu gh gc vn vl vp vg vv:Value}{fn:Fn}{first cap:List Value}{F1:List aL}{c:Int->Int->Bool}(hn:k.aN.length<=grid.length)(hg:grid.length<=1000000)(hnb:∀l∈k.aN,l.length<9223372036854775808/\∀b∈l,0<=b/\b<grid.length)
 (hc:∀a∈grid,∀b∈grid,Bj Tryz.prog fn first cap F1 c a b):
 aV Tryz.prog (.func 77) [.agg ⟨lK k vh vs vr vc vu gh gc vn vl vp vg vv⟩,.func fn ⟨first⟩ ⟨cap⟩] [] [] (ah (ax aa) vn k.aN::ah aa vg grid::F1) (λ_:Unit=>.bool (mW k.aN grid c)) (λ_=>[]) (λ_=>[]) (λ_=>True):=by
 refine aC _ (aF 77) λB w0=>?_;refine aT (E:=ax aa) (v:=vn) (xs:=k.aN) (by simp) λan cn en=>?_;subst en;refine aT (E:=aa) (v:=vg) (xs:=grid) (by simp) λag cg eg=>?_;subst eg;refine go ?_;intro b2;refine go ?_;refine aR (λj:Nat=>k.aN.length - j) (λj=>[(13,.int .i64 (j:Int))]) (λ_=>[]) (λ_=>[]) (λj=>j<=k.aN.length/\mW (k.aN.take j) grid c=true) 0 ⟨bJ _,rfl⟩ (body:=?_);rintro j ⟨hj,hall⟩;refine go ?_;refine ay rfl (λh1=>?_) (λh1=>?_)
 ·refine go ?_;refine aU (ax aa) (xs:=k.aN) (next:=λ_ _ l (OP:Value) hl=>?_);obtain⟨hll,hlb⟩:=hnb l (aP hl);refine go ?_;refine aR (λi:Nat=>l.length - i) (λi=>[(20,.int .i64 (i:Int))]) (λ_=>[]) (λ_=>[]) (λi=>i<=l.length/\((l.take i).all λb=>c (ol grid (j:Int)) (ol grid b))=true) 0 ⟨bJ _,rfl⟩ (body:=?_);rintro i ⟨hi,nu⟩;refine go ?_;refine ay rfl (λh2=>?_) (λh2=>?_)
  ·refine go ?_;intro _ _ b hb;obtain⟨hb0,hb1⟩:=hlb b (aP hb);obtain⟨bn,rfl⟩:=dZ hb0;refine go ?_;intro _ _ x hx _ _ y hy;have hcx:=hc x (aP hx) y (aP hy);have hxg:=vT hx;have hyg:=vT hy;refine go ?_;refine aj hcx (next:=λ_ _=>?_);cases hcb:c x y with
   |false=>
    have o8:mW k.aN grid c=false:=Jo hl hb (by rw[hxg,hyg];exact hcb);refine go ?_;refine ae () (hv:=?_) (hp:=trivial);rw[o8];rfl
   |true=>
    refine go ?_;refine aD (i+1) (by show l.length - (i+1)<l.length - i;omega) ⟨by omega,?_⟩;rw[bS hb,Dz,nu,wo,Gl,hxg,hyg,hcb];rfl
  have hie:i=l.length:=by omega
  subst hie;rw[bC]at nu;refine go ?_;refine aD (j+1) (by show k.aN.length - (j+1)<k.aN.length - j;omega) ⟨by omega,?_⟩;rw[Uk hl,hall,nu];rfl
 have fK:j=k.aN.length:=by omega
 subst fK;rw[bC]at hall;refine go ?_;refine ae () (hv:=?_) (hp:=trivial);rw[hall];rfl
