/-
  Comparisons: cmp.Compare and slices.Compare of numbers.
-/
import Derived.Test.YtfakljdleblkoaaGreatPlainCM
import Derived.Test.YtfakljdleblkoaaGreatLibHM
import Derived.Test.YtfakljdleblkoaaGreatLibBM
set_option linter.all false
set_option maxRecDepth 10000
set_option maxHeartbeats 1000000
namespace Go.Proofs.YtfakljdleblkoaaGreat
open Go.Ideal Canon
theorem Yg(x:Int):eG Tryz.prog 202 [.int .i64 x] [] (.bool false):=by
 refine aK _ (aM 202) λB w0=>?_;refine go ?_;refine aj () (hv:=?_) (hp:=trivial);simp[qP]
theorem ajB(x y:Int):eG Tryz.prog 144 [.int .i64 x,.int .i64 y] [] (.int .i64 (eD x y)):=by
 refine aK _ (aM 144) λB w0=>?_;refine go ?_;refine ak (Yg x) (next:=λ_ _=>?_);refine go ?_;refine ak (Yg y) (next:=λ_ _=>?_);refine go ?_;refine aJ rfl (λh1=>?_) (λh1=>?_)
 ·refine go ?_;refine aj () (hv:=?_) (hp:=trivial);rw[eD,if_pos h1];rfl
 refine go ?_;refine aJ rfl (λh2=>?_) (λh2=>?_)
 ·refine go ?_;refine aj () (hv:=?_) (hp:=trivial);rw[eD,if_neg h1,if_pos h2];rfl
 refine go ?_;refine aj () (hv:=?_) (hp:=trivial);rw[eD,if_neg h1,if_neg h2];rfl
theorem drop_cons{α:Type}{xs:List α}{k:Nat}{x:α}(h:xs[k]? =some x):xs.drop k=x::xs.drop (k+1):=by
 obtain⟨hlt,he⟩:=aW.1 h;rw[nJ hlt,he]
theorem z8{xs ys:List Int}{k:Nat}(hx:k<=xs.length)(hy:k<=ys.length)(h:k=xs.length\/k=ys.length):
 fG eD (xs.drop k) (ys.drop k)=if xs.length<ys.length then -1 else if ys.length<xs.length then 1 else 0:=by
 rcases h with h|h
 ·rw[show xs.drop k=[]from Ce (by omega)];by_cases e:xs.length<ys.length
  ·rw[if_pos e];have:k<ys.length:=by omega
   rw[nJ this];rfl
  ·rw[if_neg e,if_neg (by omega),show ys.drop k=[]from Ce (by omega)];rfl
 ·rw[show ys.drop k=[]from Ce (by omega)];by_cases e:ys.length<xs.length
  ·rw[if_neg (by omega),if_pos e];have:k<xs.length:=by omega
   rw[nJ this];rfl
  ·rw[if_neg (by omega),if_neg e,show xs.drop k=[]from Ce (by omega)];rfl
theorem ajC{va vb:Value}{xs ys:List Int}(hal:xs.length<=1000000)(hbl:ys.length<=1000000):
 eG Tryz.prog 149 [va,vb] [ah ae va xs,ah ae vb ys] (.int .i64 (fG eD xs ys)):=by
 refine aK _ (aM 149) λB w0=>?_;refine go ?_;refine bQ (λk=>xs.length - k) (λk:Nat=>[(11,.int .i64 (k:Int))]) (λ_=>[]) (λ_=>[]) (λk=>k<=xs.length/\k<=ys.length/\fG eD xs ys=fG eD (xs.drop k) (ys.drop k)) 0 ⟨by omega,by omega,rfl⟩ (body:=?_);rintro k ⟨hkx,yC,qz⟩;refine go ?_;refine aJ rfl (λh1=>?_) (λh1=>?_)
 ·refine go ?_;intro _ _ x hx;refine aJ rfl (λh2=>?_) (λh2=>?_)
  ·refine go ?_;refine aj () (hv:=?_) (hp:=trivial);rw[qz,drop_cons hx,show ys.drop k=[]from Ce (by omega)];rfl
  refine go ?_;intro _ _ y hy;refine ak (ajB x y) (next:=λ_ _=>?_);refine go ?_;refine aJ rfl (λh3=>?_) (λh3=>?_)
  ·refine go ?_;refine aj () (hv:=?_) (hp:=trivial);rw[qz,drop_cons hx,drop_cons hy,fG,if_pos h3];rfl
  refine go ?_;refine bi (k+1) (by omega) ⟨by omega,by omega,?_⟩;rw[qz,drop_cons hx,drop_cons hy,fG,if_neg (by simpa using h3)]
 refine go ?_;have hkm:k=xs.length:=by omega
 refine aJ rfl (λh3=>?_) (λh3=>?_)
 ·refine go ?_;refine aj () (hv:=?_) (hp:=trivial);rw[qz,z8 hkx yC (by omega),if_pos (by omega)];rfl
 refine go ?_;refine aj () (hv:=?_) (hp:=trivial);rw[qz,z8 hkx yC (by omega),if_neg (by omega),if_neg (by omega)];rfl
set_option maxHeartbeats 4000000
open Go.Ideal Kd Canon
theorem Yh(x:Int):eG Tryz.prog 202 [.int .i64 x] [] (.bool false):=by
 refine aK _ (aM 202) λB w0=>?_;refine go ?_;refine aj () (hv:=?_) (hp:=trivial);simp[qP]
theorem Yi(x y:Int):eG Tryz.prog 144 [.int .i64 x,.int .i64 y] [] (.int .i64 (eD x y)):=by
 refine aK _ (aM 144) λB w0=>?_;refine go ?_;refine ak (Yh x) (next:=λ_ _=>?_);refine go ?_;refine ak (Yh y) (next:=λ_ _=>?_);refine go ?_;refine aJ rfl (λh1=>?_) (λh1=>?_)
 ·refine go ?_;refine aj () (hv:=?_) (hp:=trivial);rw[eD,if_pos h1];rfl
 refine go ?_;refine aJ rfl (λh2=>?_) (λh2=>?_)
 ·refine go ?_;refine aj () (hv:=?_) (hp:=trivial);rw[eD,if_neg h1,if_pos h2];rfl
 refine go ?_;refine aj () (hv:=?_) (hp:=trivial);rw[eD,if_neg h1,if_neg h2];rfl
theorem ajD{α:Type}{xs:List α}{k:Nat}{x:α}(h:xs[k]? =some x):xs.drop k=x::xs.drop (k+1):=by
 obtain⟨hlt,he⟩:=aW.1 h;rw[nJ hlt,he]
theorem Yj{v:Value}{xs:List Int}(hl:xs.length<9223372036854775808):eG Tryz.prog 143 [v] [ah ae v xs] (.int .i64 (uq xs)):=by
 refine aK _ (aM 143) λB w0=>?_;refine go ?_;refine bQ (λk=>xs.length - k) (λk:Nat=>[(8,.int .i64 (k:Int))]) (λ_=>[]) (λ_=>[]) (λk=>k<=xs.length/\uq xs=uq (xs.drop k)) 0 ⟨by omega,rfl⟩ (body:=?_);rintro k ⟨hk,hf⟩;refine go ?_;refine aJ rfl (λh1=>?_) (λh1=>?_)
 ·refine go ?_;intro _ _ x hx;have hd:=ajD hx;refine go ?_;refine aJ rfl (λh2=>?_) (λh2=>?_)
  ·refine go ?_;refine aj () (hv:=?_) (hp:=trivial);rw[hf,hd,uq,if_pos h2];rfl
  ·refine go ?_;refine bi (k+1) (by show xs.length - (k+1)<xs.length - k;omega) ⟨by omega,?_⟩;rw[hf,hd,uq,if_neg h2]
 have hk:k=xs.length:=by omega
 refine go ?_;refine aj () (hv:=?_) (hp:=trivial);rw[hf,hk,Cg];rfl
theorem Qv{a b:Clue}{va vb:Value}:eG Tryz.prog 67 [pK a va,pK b vb] [] (.int .i64 (eZ a b)):=by
 refine aK _ (aM 67) λB w0=>?_;refine go ?_;intro b2 b3;refine go ?_;refine ak (Yi a.aN b.aN) (next:=λ_ _=>?_);refine go ?_;refine ak (Yi a.at_ b.at_) (next:=λ_ _=>?_);refine go ?_;intro b15;refine aZ (A:=pt b15 (.cells [.int .i64 (eD a.aN b.aN),.int .i64 (eD a.at_ b.at_)])) (fs:=[ah ae (.slice (some ⟨b15,0,some 0⟩) 2 2) [eD a.aN b.aN,eD a.at_ b.at_]]) (uX (b:=b15) (f:=0) (c:=2) (xs:=[eD a.aN b.aN,eD a.at_ b.at_])) (h:=?_);refine go ?_;refine ak (Yj (xs:=[eD a.aN b.aN,eD a.at_ b.at_]) (by simp)) (next:=λ_ _=>?_);refine go ?_;exact aj () (hv:=rfl) (hp:=trivial)
structure oW(p:List Clue):Prop where
 len:p.length<9223372036854775808
 vals:∀g∈p,g.values.length<9223372036854775808
theorem ajE{k:aU}{g:Clue}{vh vs vr vc vu gh gc vn vl vv:Value}(hS:mR k)(hF:F4 k)(hv:g.values.length<9223372036854775808):
 aQ Tryz.prog (.func 66) [.agg ⟨kG k vh vs vr vc vu gh gc vn vl⟩,pK g vv] [] [] (ah ae vv g.values::je k vh vs vr vc vu gh gc vn vl []) (λb:Bool=>.bool b) (λ_=>[]) (λ_=>[]) (λb=>b=true↔kY k g):=by
 have hcl:=hS.d.s.mE;have hsl:=hS.d.s.eY;refine aK _ (aM 66) λB w0=>?_;refine bY (E:=dX) (v:=vc) (xs:=k.decl.bI) (by simp) λac cc ec=>?_;subst ec;refine bY (E:=jF) (v:=vs) (xs:=k.decl.symbols) (by simp) λzY cs1 es1=>?_;subst es1;refine bY (E:=aB (aB ae)) (v:=vl) (xs:=k.lists) (by simp) λal cl el=>?_;subst el;refine bY (E:=ae) (v:=vv) (xs:=g.values) (by simp) λav cv Gn=>?_;subst Gn;refine go ?_;intro b2 b3;refine aZ (dH (b:=b2)) (h:=?_);refine aZ (dH (b:=b3)) (h:=?_);refine go ?_;refine gG (λh1=>?_) (λh1=>?_)
 rotate_left
 ·refine go ?_;exact aj false (hv:=rfl) (hp:=⟨(λh=>by cases h),λ⟨c,l,h,_⟩=>by omega⟩)
 refine go ?_;refine aJ rfl (λh2=>?_) (λh2=>?_)
 ·refine go ?_;refine aj false (hv:=rfl) (hp:=⟨(λh=>by cases h),λ⟨c,l,_,h,_⟩=>?_⟩);have:=(aW.1 h).1;omega
 obtain⟨ci,hci⟩:=eO (show 0<=g.aN by omega);have hg0:0<=g.aN:=by omega
 have Nh:ci<k.decl.bI.length:=by omega
 have htn:g.aN.toNat=ci:=by omega
 refine go ?_;rw[hci];refine bZ dX (xs:=k.decl.bI) (next:=λ_ _ c (_:Unit) hc=>?_);obtain⟨hf0,hf1⟩:=hF c (aR hc);refine go ?_;intro b5;refine go ?_;refine gG (λh3=>?_) (λh3=>?_)
 rotate_left
 ·refine go ?_;exact aj false (hv:=rfl) (hp:=⟨(λh=>by cases h),λ⟨c,l,_,_,_,h,_⟩=>by omega⟩)
 refine go ?_;obtain⟨fi,hfi⟩:=eO hf0;have K3:c.family.toNat=fi:=by omega
 rw[hfi];refine bZ (aB (aB ae)) (xs:=k.lists) (next:=λ_ _ ls (Yk:Value) hls=>?_);refine go ?_;refine aJ rfl (λh4=>?_) (λh4=>?_)
 ·refine go ?_;refine aj false (hv:=rfl) (hp:=⟨(λh=>by cases h),λ⟨c',l',_,q1,q2,q3,q4,_⟩=>?_⟩);rw[htn,hc]at q1;cases q1;rw[K3,hls]at q2;cases q2;omega
 have hR:∀b:Bool,(b=true↔((c.type=1/\g.values.length=1/\∀x∈g.values,0<=x/\x<=(k.decl.symbols.length:Int) - 1)\/(c.type=2/\g.values.length=1/\∀x∈g.values,c.lo<=x/\x<=c.hi)\/
  (c.type≠1/\c.type≠2/\g.values.length<=8/\∀x∈g.values,1<=x/\x<=256)))->(b=true↔kY k g):=λb hb=>by
  rw[hb];refine⟨λh=>⟨c,ls,hg0,by rw[htn];exact hc,by rw[K3];exact hls,by omega,by omega,h⟩,λ⟨c',l',_,q1,_,_,_,h⟩=>?_⟩;rw[htn,hc]at q1;cases q1;exact h
 refine go ?_;refine aJ rfl (λh5=>?_) (λh5=>?_)
 ·refine go ?_;refine gG (λh6=>?_) (λh6=>?_)
  ·refine go ?_;exact aj false (hv:=rfl) (hp:=hR _ ⟨(λh=>by cases h),λh=>by exfalso;omega⟩)
  refine go ?_;refine ak (Pz (xs:=g.values) (lo:=0) (hi:=(k.decl.symbols.length:Int) - 1) hv) (next:=λ_ _=>?_);refine go ?_;refine aj (yz g.values 0 ((k.decl.symbols.length:Int) - 1)) (hv:=rfl) (hp:=hR _ ?_);unfold yz;rw[kL];exact⟨λh=>.inl ⟨h5,by omega,h⟩,λh=>by rcases h with h|h|h;exact h.2.2;exact absurd h5 (by omega);exact absurd h5 h.1⟩
 refine go ?_;refine aJ rfl (λh6=>?_) (λh6=>?_)
 ·refine go ?_;refine gG (λh7=>?_) (λh7=>?_)
  ·refine go ?_;exact aj false (hv:=rfl) (hp:=hR _ ⟨(λh=>by cases h),λh=>by exfalso;omega⟩)
  refine go ?_;refine ak (Pz (xs:=g.values) (lo:=c.lo) (hi:=c.hi) hv) (next:=λ_ _=>?_);refine go ?_;refine aj (yz g.values c.lo c.hi) (hv:=rfl) (hp:=hR _ ?_);unfold yz;rw[kL];exact⟨λh=>.inr (.inl ⟨h6,by omega,h⟩),λh=>by rcases h with h|h|h;exact absurd h.1 h5;exact h.2.2;exact absurd h6 h.2.1⟩
 refine go ?_;refine gG (λh7=>?_) (λh7=>?_)
 ·refine go ?_;exact aj false (hv:=rfl) (hp:=hR _ ⟨(λh=>by cases h),λh=>by exfalso;omega⟩)
 refine go ?_;refine ak (Pz (xs:=g.values) (lo:=1) (hi:=256) hv) (next:=λ_ _=>?_);refine go ?_;refine aj (yz g.values 1 256) (hv:=rfl) (hp:=hR _ ?_);unfold yz;rw[kL];exact⟨λh=>.inr (.inr ⟨h5,h6,by omega,h⟩),λh=>by rcases h with h|h|h;exact absurd h.1 h5;exact absurd h.1 h6;exact h.2.2.2⟩
theorem bF.decl{k:aU}(h:bF k):k.decl=Kd.dV k.decl:=congrArg aU.decl h.e
theorem bF.lists{k:aU}(h:bF k):k.lists=nT k.decl:=by
 have:=congrArg aU.lists h.e;have h2:(qm (Kd.dV k.decl)).lists=nT (Kd.dV k.decl):=rfl;rw[h2,<- h.decl]at this;exact this
theorem bF.grid{k:aU}(h:bF k):k.grid=bE k.decl:=by
 have:=congrArg aU.grid h.e;have h2:(qm (Kd.dV k.decl)).grid=bE (Kd.dV k.decl):=rfl;rw[h2,<- h.decl]at this;exact this
theorem bF.aA{k:aU}(h:bF k):k.aA=fH (bE k.decl):=by
 have:=congrArg aU.aA h.e;have h2:(qm (Kd.dV k.decl)).aA=fH (bE (Kd.dV k.decl)):=rfl;rw[h2,<- h.decl]at this;exact this
theorem bF.typ{k:aU}(h:bF k):KW k.decl:=by
 have:=h.b.typ;rw[<- h.decl]at this;exact this
theorem bF.fP{k:aU}(h:bF k):F4 k:=by
 intro c hc;rw[h.decl]at hc;obtain⟨q,hq,rfl⟩:=cZ.1 (show c∈k.decl.bI.map (Dt (gM k.decl))from hc);have h1:=Bq (h.b.rs.VV q hq);have h2:(gM k.decl).length=8+k.decl.regions.length:=by
  unfold gM;rw[gP,bJ];rfl
 have h3:k.lists.length=8+k.decl.regions.length:=by
  rw[h.lists];unfold nT;rw[gP,bJ,bJ,uH]
 show 0<=((jB q.on (gM k.decl):Nat):Int)/\((jB q.on (gM k.decl):Nat):Int)<_;omega
theorem Yl{k:aU}{p:List Clue}{vh vs vr vc vu gh gc vn vl vp:Value}(hS:mR k)(hP:oW p):
 aQ Tryz.prog (.func 42) [.agg ⟨kG k vh vs vr vc vu gh gc vn vl⟩,.agg ⟨[vp]⟩] [] [] (ah bG vp p::je k vh vs vr vc vu gh gc vn vl []) (λe:Int=>.int .i64 e) (λ_=>[]) (λ_=>[])
  (λe=>(¬bF k->e=180)/\(bF k->¬iQ k p->e=190)/\(bF k->iQ k p->e=0)):=by
 refine aK _ (aM 42) λB w0=>?_;refine bY (E:=bG) (v:=vp) (xs:=p) (by simp) λYm cp ep=>?_;subst ep;refine go ?_;intro b2 b3;refine aZ (dH (b:=b2)) (h:=?_);refine aZ (dH (b:=b3)) (h:=?_);refine go ?_;refine ak (KZ (k:=k) (vh:=vh) (vs:=vs) (vr:=vr) (vc:=vc) (vu:=vu) (gh:=gh) (gc:=gc) (vn:=vn) (vl:=vl) hS) (next:=λb hb=>?_);cases b with
 |false=>
  have hno:¬bF k:=λh=>by have:=hb.2 h;cases this
  dsimp only[cond];refine go ?_;exact aj 180 (hv:=rfl) (hp:=⟨λ_=>rfl,λh=>absurd h hno,λh=>absurd h hno⟩)
 |true=>
 have hK:=hb.1 rfl;clear hb;have hend:¬iQ k p->(¬bF k->(190:Int)=180)/\(bF k->¬iQ k p->(190:Int)=190)/\(bF k->iQ k p->(190:Int)=0):=λhn=>⟨λh=>absurd hK h,λ_ _=>rfl,λ_ h=>absurd h hn⟩
 dsimp only[cond];refine go ?_;refine aJ rfl (λh1=>?_) (λh1=>?_)
 ·refine go ?_;exact aj 190 (hv:=rfl) (hp:=hend λh=>by have:=h.len;omega)
 refine go ?_;refine bQ (λj:Nat=>p.length - j) (λj=>[(17,.int .i64 (j:Int))]) (λ_=>[]) (λ_=>[]) (λj=>j<=p.length/\(∀g∈p.take j,kY k g)/\∀(i:Nat) a b,i+1<j->p[i]? =some a->p[i+1]? =some b->eZ a b<0) 0 ⟨dK _,by simp,λi a b h=>by omega⟩ (body:=?_);rintro j ⟨hj,hall,hs⟩;refine go ?_;refine aJ rfl (λh2=>?_) (λh2=>?_)
 ·refine go ?_;refine bZ bG (xs:=p) (next:=λ_ _ g (vg:Value) hg=>?_);have hgm:=aR hg;have htk:=gZ hg;refine go ?_;intro b6;refine go ?_;refine ak (ajE (k:=k) (g:=g) (vh:=vh) (vs:=vs) (vr:=vr) (vc:=vc) (vu:=vu) (gh:=gh) (gc:=gc) (vn:=vn) (vl:=vl) (vv:=vg) hS hK.fP (hP.vals g hgm)) (next:=λb hb=>?_);cases b with
  |false=>
   refine go ?_;exact aj 190 (hv:=rfl) (hp:=hend λh=>by have:=hb.2 (h.right g hgm);cases this)
  |true=>
  have hR:=hb.1 rfl;have rz:∀x∈p.take (j+1),kY k x:=by
   rw[htk];intro x hx;rcases gH.1 hx with hx|hx
   ·exact hall x hx
   ·rw[bO.1 hx];exact hR
  refine go ?_;refine gG (λh3=>?_) (λh3=>?_)
  ·have hj0:j=0:=by omega
   subst hj0;refine go ?_;exact bi 1 (by show p.length - 1<p.length - 0;omega) ⟨by omega,rz,λi a b h=>by omega⟩
  obtain⟨i,rfl⟩:∃i,j=i+1:=⟨j - 1,by omega⟩
  refine go ?_;rw[show((i+1:Nat):Int) - 1=(i:Int)by omega];refine bZ bG (xs:=p) (next:=λ_ _ g0 (vg0:Value) hg0=>?_);refine go ?_;refine ak (Qv (a:=g0) (b:=g) (va:=vg0) (vb:=vg)) (next:=λ_ _=>?_);refine go ?_;refine aJ rfl (λh4=>?_) (λh4=>?_)
  ·refine go ?_;exact aj 190 (hv:=rfl) (hp:=hend λh=>by have:=h.sorted i g0 g hg0 hg;omega)
  ·refine go ?_;refine bi (i+1+1) (by show p.length - (i+1+1)<p.length - (i+1);omega) ⟨by omega,rz,λi' a b h ha hb=>?_⟩;by_cases e:i'=i
   ·subst e;rw[hg0]at ha;rw[hg]at hb;cases ha;cases hb;omega
   ·exact hs i' a b (by omega) ha hb
 have iM:j=p.length:=by omega
 subst iM;rw[eH]at hall;refine go ?_;exact aj 0 (hv:=rfl) (hp:=⟨λh=>absurd hK h,λ_ h=>absurd ⟨by omega,hall,λi a b ha hb=>hs i a b (aW.1 hb).1 ha hb⟩ h,λ_ _=>rfl⟩)
abbrev jf(k:aU)(grid:List Int):Prop:=Fin (k.grid.cells.length:Int) (k.decl.symbols.length:Int) grid
theorem Yn{k:aU}{grid:List Int}{vh vs vr vc vu gh gc vn vl vg:Value}(hS:mR k)(hl:grid.length<9223372036854775808):
 aQ Tryz.prog (.func 40) [.agg ⟨kG k vh vs vr vc vu gh gc vn vl⟩,vg] [] [] (ah ae vg grid::je k vh vs vr vc vu gh gc vn vl []) (λe:Int=>.int .i64 e) (λ_=>[]) (λ_=>[])
  (λe=>(¬bF k->e=180)/\(bF k->¬jf k grid->e=200)/\(bF k->jf k grid->e=0)):=by
 refine aK _ (aM 40) λB w0=>?_;dsimp only[je];refine go ?_;intro b2;refine go ?_;refine ak (KZ (k:=k) (vh:=vh) (vs:=vs) (vr:=vr) (vc:=vc) (vu:=vu) (gh:=gh) (gc:=gc) (vn:=vn) (vl:=vl) hS) (next:=λb hb=>?_);cases b with
 |false=>
  have hno:¬bF k:=λh=>by have:=hb.2 h;cases this
  dsimp only[cond];refine go ?_;exact aj 180 (hv:=rfl) (hp:=⟨λ_=>rfl,λh=>absurd h hno,λh=>absurd h hno⟩)
 |true=>
 have hK:=hb.1 rfl;clear hb;dsimp only[cond];refine go ?_;refine ak (ahL (cells:=(k.grid.cells.length:Int)) (symbols:=(k.decl.symbols.length:Int)) (grid:=grid) hl) (next:=λb hb=>?_);cases b with
 |false=>
  have hno:¬jf k grid:=λh=>by have:=hb.2 h;cases this
  refine go ?_;exact aj 200 (hv:=rfl) (hp:=⟨λh=>absurd hK h,λ_ _=>rfl,λ_ h=>absurd h hno⟩)
 |true=>
  have hf:=hb.1 rfl;refine go ?_;exact aj 0 (hv:=rfl) (hp:=⟨λh=>absurd hK h,λ_ h=>absurd hf h,λ_ _=>rfl⟩)
structure Yo(k:aU)(p:List Clue)(grid:List Int)(e:Int):Prop where
 nk:¬bF k->e=180
 nf:bF k->¬jf k grid->e=200
 np:bF k->jf k grid->¬iQ k p->e=190
 ok:bF k->jf k grid->iQ k p->e=0
theorem ajG{k:aU}{p:List Clue}{grid:List Int}{vh vs vr vc vu gh gc vn vl vp vg:Value}(hS:mR k)(hP:oW p)(hl:grid.length<9223372036854775808):
 aQ Tryz.prog (.func 51) [.agg ⟨kG k vh vs vr vc vu gh gc vn vl⟩,.agg ⟨[vp]⟩,vg] [] [] (ah bG vp p::ah ae vg grid::je k vh vs vr vc vu gh gc vn vl []) (λe:Int=>.int .i64 e) (λ_=>[]) (λ_=>[]) (Yo k p grid):=by
 refine aK _ (aM 51) λB w0=>?_;refine bY (E:=bG) (v:=vp) (xs:=p) (by simp) λYm cp ep=>?_;subst ep;refine go ?_;intro b3 b4;refine aZ (dH (b:=b3)) (h:=?_);refine aZ (dH (b:=b4)) (h:=?_);refine go ?_;refine ak (Yn (k:=k) (grid:=grid) (vh:=vh) (vs:=vs) (vr:=vr) (vc:=vc) (vu:=vu) (gh:=gh) (gc:=gc) (vn:=vn) (vl:=vl) hS hl) (next:=λe he=>?_);obtain⟨h1,h2,h3⟩:=he;refine go ?_;refine aJ rfl (λhne=>?_) (λhz=>?_)
 ·refine go ?_;exact aj e (hv:=rfl) (hp:=⟨h1,h2,λa b _=>absurd (h3 a b) hne,λa b _=>absurd (h3 a b) hne⟩)
 have hz:e=0:=jo.1 hz;subst hz;have hK:bF k:=Classical.byContradiction λh=>by have:=h1 h;omega
 have hF:jf k grid:=Classical.byContradiction λh=>by have:=h2 hK h;omega
 refine go ?_;refine ak (Yl (k:=k) (p:=p) (vh:=vh) (vs:=vs) (vr:=vr) (vc:=vc) (vu:=vu) (gh:=gh) (gc:=gc) (vn:=vn) (vl:=vl) hS hP) (next:=λe he=>?_);refine go ?_;exact aj e (hv:=rfl) (hp:=⟨λh=>absurd hK h,λ_ h=>absurd hF h,λ_ _ h=>he.2.1 hK h,λ_ _ h=>he.2.2 hK h⟩)
