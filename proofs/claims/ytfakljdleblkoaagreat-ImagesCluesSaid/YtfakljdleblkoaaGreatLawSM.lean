/-
  The laws of images on the ideal machine: ImagesSolutions.
-/
import Derived.Test.YtfakljdleblkoaaGreatLibRM
import Derived.Test.YtfakljdleblkoaaGreatSaneCM
set_option linter.all false
set_option maxRecDepth 10000
set_option maxHeartbeats 4000000
namespace Go.Proofs.YtfakljdleblkoaaGreat
open Go.Ideal Kd Canon
theorem QX{va vb:Value}{xs ys:List Int}(hl:xs.length<9223372036854775808):eG Tryz.prog 25 [va,vb] [ah ae va xs,ah ae vb ys] (.bool (decide (xs=ys))):=by
 refine aK _ (aM 25) λB w0=>?_;refine bY (E:=ae) (v:=va) (xs:=xs) (by simp) λa1 c1 e1=>?_;subst e1;refine bY (E:=ae) (v:=vb) (xs:=ys) (by simp) λa2 c2 e2=>?_;subst e2;refine go ?_;refine aJ rfl (λh1=>?_) (λh1=>?_)
 ·refine go ?_;refine aj () (hv:=?_) (hp:=trivial);rw[dM (λe=>by subst e;omega)];rfl
 have hlen:xs.length=ys.length:=by omega
 refine go ?_;refine bQ (λk=>xs.length - k) (λk:Nat=>[(5,.int .i64 (k:Int))]) (λ_=>[]) (λ_=>[]) (λk=>k<=xs.length/\xs.take k=ys.take k) 0 ⟨by omega,by simp⟩ (body:=?_);rintro k ⟨hk,hsame⟩;refine go ?_;refine aJ rfl (λh2=>?_) (λh2=>?_)
 ·refine go ?_;intro _ _ x hx _ _ y hy;refine go ?_;refine aJ rfl (λh3=>?_) (λh3=>?_)
  rotate_left
  ·have h3:x=y:=jo.1 h3;refine go ?_;refine bi (k+1) (by omega) ⟨by omega,?_⟩;rw[gZ hx,gZ hy,hsame,h3]
  ·refine go ?_;refine aj () (hv:=?_) (hp:=trivial);rw[dM (λe=>by subst e;rw[hx]at hy;exact h3 (Option.some.inj hy))];rfl
 have:k=xs.length:=by omega
 subst this;refine go ?_;refine aj () (hv:=?_) (hp:=trivial);rw[eH,hlen,eH]at hsame;rw[fQ hsame];rfl
theorem LA{sc st:Value}{s t:List Int}:aQ Tryz.prog (.func 12) [.agg ⟨[sc,st]⟩] [] [] [ah ae sc s,ah ae st t] (λb:Bool=>.bool b) (λ_=>[]) (λ_=>[]) (λb=>b=true->s.length<=20/\t.length<=20):=by
 refine aK _ (aM 12) λB w0=>?_;refine go ?_;intro b1;refine go ?_;refine gG (λh1=>?_) (λh1=>?_)
 ·refine go ?_;exact aj false (hv:=rfl) (hp:=λh=>by cases h)
 refine go ?_;refine aj (decide ((t.length:Int)<=20)) (hv:=rfl) (hp:=λh=>?_);have h:=jg h;exact⟨by omega,by omega⟩
theorem oW.img{k:aU}{s t:List Int}{p x:List Clue}(hK:bF k)(hk:gB k s t)(hQ:iQ k p)(hx:jP (p.map (gV k s t)) x):oW x:=by
 have Ae:=Gt hK hk hQ hx;exact⟨by have:=Ae.len;omega,λg hg=>by have:=kY.KG (Ae.right g hg);omega⟩
theorem jf.img{k:aU}{s t grid:List Int}(hk:gB k s t)(hF:jf k grid):jf k (gQ s t grid):=by
 have hG:=jf.kH hk hF;exact⟨by have:=hG.vO;omega,λx hx=>by have:=hG.mem hx;omega⟩
theorem alU{k:aU}{s t:List Int}{p:List Clue}{grid:List Int}{vh vs vr vc vu gh gc vn vl sc st vp vg:Value}(hB:BM k)(hP:oW p)(hs:s.length<9223372036854775808)(ht:t.length<9223372036854775808)(hl:grid.length<9223372036854775808):
 eG Tryz.prog 9 [.agg ⟨kG k vh vs vr vc vu gh gc vn vl⟩,.agg ⟨[sc,st]⟩,.agg ⟨[vp]⟩,vg] (ah bG vp p::ah ae vg grid::ah ae sc s::ah ae st t::je k vh vs vr vc vu gh gc vn vl []) (.bool true):=by
 refine aK _ (aM 9) λB w0=>?_;dsimp only[je];refine go ?_;intro b4 b5 b6;refine go ?_;refine ak Pq (next:=λ_ _=>?_);refine go ?_;refine ak (Qz (k:=k) (p:=p) (grid:=grid) (vh:=vh) (vs:=vs) (vr:=vr) (vc:=vc) (vu:=vu) (gh:=gh) (gc:=gc) (vn:=vn) (vl:=vl) hB) (next:=λb hb=>?_);cases b with
 |false=>
  refine go ?_;exact aj () (hv:=rfl) (hp:=trivial)
 |true=>
 obtain⟨jb,hpl,hgl⟩:=hb rfl;clear hb;have hS:=mR.of hB jb;refine go ?_;refine ak (LA (s:=s) (t:=t) (sc:=sc) (st:=st)) (next:=λb hb=>?_);cases b with
 |false=>
  refine go ?_;exact aj () (hv:=rfl) (hp:=trivial)
 |true=>
 obtain⟨Zk,Zl⟩:=hb rfl;clear hb;refine go ?_;have hA:=Yy (grid:=grid) hS hP (by omega);refine ak (Yv (k:=k) (p:=p) (grid:=grid) (vh:=vh) (vs:=vs) (vr:=vr) (vc:=vc) (vu:=vu) (gh:=gh) (gc:=gc) (vn:=vn) (vl:=vl) hS hP hl hA) (next:=λy1 hy1=>?_);obtain⟨v9,e1⟩:=y1;dsimp only at hy1⊢;refine go ?_;refine ak (yM (k:=k) (s:=s) (t:=t) (p:=p) (vh:=vh) (vs:=vs) (vr:=vr) (vc:=vc) (vu:=vu) (gh:=gh) (gc:=gc) (vn:=vn) (vl:=vl) hS hP hs ht) (next:=λy2 hy2=>?_);obtain⟨v11,x,e2⟩:=y2;dsimp only at hy2⊢;refine go ?_;intro b11;refine go ?_;refine ak (yL (k:=k) (s:=s) (t:=t) (grid:=grid) (vh:=vh) (vs:=vs) (vr:=vr) (vc:=vc) (vu:=vu) (gh:=gh) (gc:=gc) (vn:=vn) (vl:=vl) hS hs ht hl) (next:=λy3 hy3=>?_);obtain⟨v13,e3⟩:=y3;dsimp only at hy3⊢;refine go ?_;have hbad:e1≠0\/e2≠0\/e3≠0->e1=0->bF k->¬gB k s t:=λh h1 hK hk=>by
  have hF:jf k grid:=Classical.byContradiction λh=>by have:=hy1.1.nf hK h;omega
  have hQ:iQ k p:=Classical.byContradiction λh=>by have:=hy1.1.np hK hF h;omega
  have:=hy2.1.ok hK hk hQ;have:=hy3.1.ok hK hk hF;omega
 by_cases hall:e1=0/\e2=0/\e3=0
 ·obtain⟨rfl,rfl,rfl⟩:=hall;have hK:bF k:=Classical.byContradiction λh=>by have:=hy1.1.nk h;omega
  have hF:jf k grid:=Classical.byContradiction λh=>by have:=hy1.1.nf hK h;omega
  have hQ:iQ k p:=Classical.byContradiction λh=>by have:=hy1.1.np hK hF h;omega
  have hk:gB k s t:=Classical.byContradiction λh=>by have:=hy3.1.ns hK h;omega
  have hx:=hy2.2.1 rfl;have Ae:=Gt hK hk hQ hx;have Ei:=oW.img hK hk hQ hx;have hG:=jf.kH hk hF;have BU:=jf.img hk hF;have Zm:=hG.vO;have hn:=hK.pO;have hA2:=Yy (k:=k) (p:=x) (grid:=gQ s t grid) hS Ei (by omega);have hbe:=ak2 hK hk hG hQ hx;have hbl:=Yt k p grid k.decl.rules;have hrl:=jb.nX;refine fO (ah ae v9 (kw k p grid k.decl.rules)) (λw hw=>hw (iT ((0:Int)=0) (ah ae v9 (kw k p grid k.decl.rules))) (by simp) rfl) ?_;refine fO (ah bG v11 x) (λw hw=>hw (iT ((0:Int)=0) (ah bG v11 x)) (by simp) rfl) ?_;refine fO (ah ae v13 (gQ s t grid)) (λw hw=>hw (iT ((0:Int)=0) (ah ae v13 (gQ s t grid))) (by simp) rfl) ?_;refine go ?_;refine ak (Yv (k:=k) (p:=x) (grid:=gQ s t grid) (vh:=vh) (vs:=vs) (vr:=vr) (vc:=vc) (vu:=vu) (gh:=gh) (gc:=gc) (vn:=vn) (vl:=vl) hS Ei (by omega) hA2) (next:=λy4 hy4=>?_);obtain⟨v15,e4⟩:=y4;have he4:e4=0:=hy4.1.ok hK BU Ae;subst he4;dsimp only[List.cons_append,List.nil_append];refine fO (ah ae v15 (kw k p grid k.decl.rules)) (λw hw=>by rw[<- hbe];exact hw (iT ((0:Int)=0) (ah ae v15 (kw k x (gQ s t grid) k.decl.rules))) (by simp) rfl) ?_;refine go ?_;refine ak (QX (xs:=kw k p grid k.decl.rules) (ys:=kw k p grid k.decl.rules) (by omega)) (next:=λ_ _=>?_);rw[fQ rfl];refine go ?_;exact aj () (hv:=rfl) (hp:=trivial)
 ·by_cases h1:e1=0
  ·subst h1;have hK:bF k:=Classical.byContradiction λh=>by have:=hy1.1.nk h;omega
   have hnk:=hbad (by omega) rfl hK;refine go ?_;by_cases h2:e2=0
   ·subst h2;have h3:e3≠0:=λe=>hall ⟨rfl,rfl,e⟩;refine go ?_;refine aJ rfl (λq=>?_) (λq=>absurd h3 q);refine go ?_;refine ak (Eg (k:=k) (s:=s) (t:=t) (vh:=vh) (vs:=vs) (vr:=vr) (vc:=vc) (vu:=vu) (gh:=gh) (gc:=gc) (vn:=vn) (vl:=vl) hS hs ht) (next:=λe5 QY=>?_);obtain rfl:e5=230:=QY.ns hK hnk;refine go ?_;exact aj () (hv:=rfl) (hp:=trivial)
   ·refine gG (λq2=>?_) (λq2=>?_)
    ·exact absurd h2 q2
    refine go ?_;refine ak (Eg (k:=k) (s:=s) (t:=t) (vh:=vh) (vs:=vs) (vr:=vr) (vc:=vc) (vu:=vu) (gh:=gh) (gc:=gc) (vn:=vn) (vl:=vl) hS hs ht) (next:=λe5 QY=>?_);obtain rfl:e5=230:=QY.ns hK hnk;refine go ?_;exact aj () (hv:=rfl) (hp:=trivial)
  ·refine gG (λq1=>?_) (λq1=>?_)
   ·exact absurd h1 q1
   refine go ?_;refine gG (λq1=>?_) (λq1=>?_)
   ·exact absurd h1 q1
   refine go ?_;exact aj () (hv:=rfl) (hp:=trivial)
