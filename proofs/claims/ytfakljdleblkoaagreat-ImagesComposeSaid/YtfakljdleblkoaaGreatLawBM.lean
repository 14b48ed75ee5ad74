/-
  The laws of images on the ideal machine: ImagesBack, ImagesCompose.
-/
import Derived.Test.YtfakljdleblkoaaGreatLawSM
set_option linter.all false
set_option maxRecDepth 10000
set_option maxHeartbeats 4000000
namespace Go.Proofs.YtfakljdleblkoaaGreat
open Go.Ideal Kd Canon
theorem iQ.short{k:aU}{p:List Clue}(h:iQ k p):short p:=λg hg=>by have:=kY.KG (h.right g hg);omega
theorem alW{k:aU}{s t:List Int}{p:List Clue}{grid:List Int}{vh vs vr vc vu gh gc vn vl sc st vp vg:Value}(hB:BM k)(hP:oW p)(hs:s.length<9223372036854775808)(ht:t.length<9223372036854775808)(hl:grid.length<9223372036854775808):
 eG Tryz.prog 6 [.agg ⟨kG k vh vs vr vc vu gh gc vn vl⟩,.agg ⟨[sc,st]⟩,.agg ⟨[vp]⟩,vg] (ah bG vp p::ah ae vg grid::ah ae sc s::ah ae st t::je k vh vs vr vc vu gh gc vn vl []) (.bool true):=by
 refine aK _ (aM 6) λB w0=>?_;dsimp only[je];refine go ?_;intro b4 b5 b6;refine go ?_;refine ak Pq (next:=λ_ _=>?_);refine go ?_;refine ak (Qz (k:=k) (p:=p) (grid:=grid) (vh:=vh) (vs:=vs) (vr:=vr) (vc:=vc) (vu:=vu) (gh:=gh) (gc:=gc) (vn:=vn) (vl:=vl) hB) (next:=λb hb=>?_);cases b with
 |false=>
  refine go ?_;exact aj () (hv:=rfl) (hp:=trivial)
 |true=>
 obtain⟨jb,hpl,hgl⟩:=hb rfl;clear hb;have hS:=mR.of hB jb;refine go ?_;refine ak (LA (s:=s) (t:=t) (sc:=sc) (st:=st)) (next:=λb hb=>?_);cases b with
 |false=>
  refine go ?_;exact aj () (hv:=rfl) (hp:=trivial)
 |true=>
 obtain⟨Zk,Zl⟩:=hb rfl;clear hb;refine go ?_;refine ak (akM (s:=s) (t:=t) hs ht) (next:=λy0 hy0=>?_);obtain⟨ok0,c0,s0⟩:=y0;dsimp only[D9,yG]at hy0⊢;by_cases hno:bF k/\gB k s t
 rotate_left
 ·cases ok0 with
  |false=>
   dsimp only[cond,List.nil_append];refine go ?_;intro b9;refine go ?_;refine ak (yM (k:=k) (s:=s) (t:=t) (p:=p) (vh:=vh) (vs:=vs) (vr:=vr) (vc:=vc) (vu:=vu) (gh:=gh) (gc:=gc) (vn:=vn) (vl:=vl) hS hP hs ht) (next:=λy2 hy2=>?_);obtain⟨v11,x,e2⟩:=y2;dsimp only at hy2⊢;have h2:e2≠0:=λe=>hno ⟨Classical.byContradiction λh=>by have:=hy2.1.nk h;omega,Classical.byContradiction λh=>by
    have hK:bF k:=Classical.byContradiction λh=>by have:=hy2.1.nk h;omega
    have:=hy2.1.ns hK h;omega⟩
   refine go ?_;intro b11;refine go ?_;refine ak (yL (k:=k) (s:=s) (t:=t) (grid:=grid) (vh:=vh) (vs:=vs) (vr:=vr) (vc:=vc) (vu:=vu) (gh:=gh) (gc:=gc) (vn:=vn) (vl:=vl) hS hs ht hl) (next:=λy3 hy3=>?_);obtain⟨v13,e3⟩:=y3;dsimp only at hy3⊢;refine go ?_;refine gG (λq2=>?_) (λq2=>?_)
   ·exact absurd h2 q2
   refine go ?_;exact aj () (hv:=rfl) (hp:=trivial)
  |true=>
   dsimp only[cond,List.cons_append,List.nil_append];refine bY (E:=ae) (v:=c0) (xs:=dz s) (by simp) λac cc ec=>?_;subst ec;refine bY (E:=ae) (v:=s0) (xs:=dz t) (by simp) λZn cs0 es0=>?_;subst es0;refine go ?_;intro b9;refine go ?_;refine ak (yM (k:=k) (s:=s) (t:=t) (p:=p) (vh:=vh) (vs:=vs) (vr:=vr) (vc:=vc) (vu:=vu) (gh:=gh) (gc:=gc) (vn:=vn) (vl:=vl) hS hP hs ht) (next:=λy2 hy2=>?_);obtain⟨v11,x,e2⟩:=y2;dsimp only at hy2⊢;have h2:e2≠0:=λe=>hno ⟨Classical.byContradiction λh=>by have:=hy2.1.nk h;omega,Classical.byContradiction λh=>by
    have hK:bF k:=Classical.byContradiction λh=>by have:=hy2.1.nk h;omega
    have:=hy2.1.ns hK h;omega⟩
   refine go ?_;intro b11;refine go ?_;refine ak (yL (k:=k) (s:=s) (t:=t) (grid:=grid) (vh:=vh) (vs:=vs) (vr:=vr) (vc:=vc) (vu:=vu) (gh:=gh) (gc:=gc) (vn:=vn) (vl:=vl) hS hs ht hl) (next:=λy3 hy3=>?_);obtain⟨v13,e3⟩:=y3;dsimp only at hy3⊢;refine go ?_;refine gG (λq2=>?_) (λq2=>?_)
   ·exact absurd h2 q2
   refine go ?_;exact aj () (hv:=rfl) (hp:=trivial)
 obtain⟨hK,hk⟩:=hno;have hn:=hK.pO;have hm:=hK.typ.lim.s1;have hsl:=hk.pc.len;have htl:=hk.ps.len;have hi1:yF s:=⟨by omega,by rw[hsl];exact hk.pc⟩
 have hi2:yF t:=⟨by omega,by rw[htl];exact hk.ps⟩
 have hki:=hk.inv hK;have hsi:(dz s).length=s.length:=wM s;have hti:(dz t).length=t.length:=wM t;obtain rfl:ok0=true:=hy0.2 ⟨hi1,hi2⟩;dsimp only[cond,List.cons_append,List.nil_append];refine bY (E:=ae) (v:=c0) (xs:=dz s) (by simp) λac cc ec=>?_;subst ec;refine bY (E:=ae) (v:=s0) (xs:=dz t) (by simp) λZn cs0 es0=>?_;subst es0;refine go ?_;intro b9;refine go ?_;refine ak (yM (k:=k) (s:=s) (t:=t) (p:=p) (vh:=vh) (vs:=vs) (vr:=vr) (vc:=vc) (vu:=vu) (gh:=gh) (gc:=gc) (vn:=vn) (vl:=vl) hS hP hs ht) (next:=λy2 hy2=>?_);obtain⟨v11,x,e2⟩:=y2;dsimp only at hy2⊢;refine go ?_;intro b11;refine go ?_;refine ak (yL (k:=k) (s:=s) (t:=t) (grid:=grid) (vh:=vh) (vs:=vs) (vr:=vr) (vc:=vc) (vu:=vu) (gh:=gh) (gc:=gc) (vn:=vn) (vl:=vl) hS hs ht hl) (next:=λy3 hy3=>?_);obtain⟨v13,e3⟩:=y3;dsimp only at hy3⊢;refine go ?_;by_cases h2:e2=0
 rotate_left
 ·refine gG (λq2=>?_) (λq2=>?_)
  ·exact absurd h2 q2
  refine go ?_;exact aj () (hv:=rfl) (hp:=trivial)
 subst h2;have hQ:iQ k p:=Classical.byContradiction λh=>by have:=hy2.1.np hK hk h;omega
 have hx:=hy2.2.1 rfl;refine fO (ah bG v11 x) (λw hw=>hw (iT ((0:Int)=0) (ah bG v11 x)) (by simp) rfl) ?_;refine go ?_;refine aJ rfl (λq3=>?_) (λq3=>?_)
 ·refine go ?_;exact aj () (hv:=rfl) (hp:=trivial)
 obtain rfl:e3=0:=jo.1 q3;have hF:jf k grid:=Classical.byContradiction λh=>by have:=hy3.1.nf hK hk h;omega
 have hG:=jf.kH hk hF;have BU:=jf.img hk hF;have Ae:=Gt hK hk hQ hx;have Ei:=oW.img hK hk hQ hx;have Zm:=hG.vO;refine fO (ah ae v13 (gQ s t grid)) (λw hw=>hw (iT ((0:Int)=0) (ah ae v13 (gQ s t grid))) (by simp) rfl) ?_;refine go ?_;refine ak (yM (k:=k) (s:=dz s) (t:=dz t) (p:=x) (vh:=vh) (vs:=vs) (vr:=vr) (vc:=vc) (vu:=vu) (gh:=gh) (gc:=gc) (vn:=vn) (vl:=vl) hS Ei (by omega) (by omega)) (next:=λy4 hy4=>?_);obtain⟨v15,a,e4⟩:=y4;obtain rfl:e4=0:=hy4.1.ok hK hki Ae;have hap:=ak8 hK hk hQ hx (hy4.2.1 rfl);dsimp only at hap⊢;subst hap;refine fO (ah bG v15 a) (λw hw=>hw (iT ((0:Int)=0) (ah bG v15 a)) (by simp) rfl) ?_;refine go ?_;intro b15;refine go ?_;refine ak (yL (k:=k) (s:=dz s) (t:=dz t) (grid:=gQ s t grid) (vh:=vh) (vs:=vs) (vr:=vr) (vc:=vc) (vu:=vu) (gh:=gh) (gc:=gc) (vn:=vn) (vl:=vl) hS (by omega) (by omega) (by omega)) (next:=λy5 QZ=>?_);obtain⟨v17,e5⟩:=y5;obtain rfl:e5=0:=QZ.1.ok hK hki BU;have hgb:gQ (dz s) (dz t) (gQ s t grid)=grid:=(jf.kH hki BU).uniq hG.back;dsimp only;refine fO (ah ae v17 grid) (λw hw=>by have:=hw (iT ((0:Int)=0) (ah ae v17 (gQ (dz s) (dz t) (gQ s t grid)))) (by simp) rfl;rwa [hgb]at this) ?_;refine go ?_;refine ak (Eg (k:=k) (s:=dz s) (t:=dz t) (vh:=vh) (vs:=vs) (vr:=vr) (vc:=vc) (vu:=vu) (gh:=gh) (gc:=gc) (vn:=vn) (vl:=vl) hS (by omega) (by omega)) (next:=λe6 Q0=>?_);obtain rfl:e6=0:=Q0.ok hK hki;refine go ?_;refine ak (YE (xs:=a) (ys:=a) (by have:=hQ.len;omega) (iQ.short hQ) (iQ.short hQ)) (next:=λ_ _=>?_);rw[fQ rfl];refine go ?_;refine ak (QX (xs:=grid) (ys:=grid) (by omega)) (next:=λ_ _=>?_);rw[fQ rfl];refine go ?_;exact aj () (hv:=rfl) (hp:=trivial)
theorem alX{k:aU}{s t s2 t2:List Int}{p:List Clue}{grid:List Int}{vh vs vr vc vu gh gc vn vl sc st Q3 st2 vp vg:Value}(hB:BM k)(hP:oW p)(hs:s.length<9223372036854775808)(ht:t.length<9223372036854775808)(hs2:s2.length<9223372036854775808)(ht2:t2.length<9223372036854775808)(hl:grid.length<9223372036854775808):
 eG Tryz.prog 7 [.agg ⟨kG k vh vs vr vc vu gh gc vn vl⟩,.agg ⟨[sc,st]⟩,.agg ⟨[Q3,st2]⟩,.agg ⟨[vp]⟩,vg] (ah bG vp p::ah ae vg grid::ah ae sc s::ah ae st t::ah ae Q3 s2::ah ae st2 t2::je k vh vs vr vc vu gh gc vn vl []) (.bool true):=by
 refine aK _ (aM 7) λB w0=>?_;dsimp only[je];refine go ?_;intro b5 b6 b7 b8;refine go ?_;refine ak Pq (next:=λ_ _=>?_);refine go ?_;refine ak (Qz (k:=k) (p:=p) (grid:=grid) (vh:=vh) (vs:=vs) (vr:=vr) (vc:=vc) (vu:=vu) (gh:=gh) (gc:=gc) (vn:=vn) (vl:=vl) hB) (next:=λb hb=>?_);cases b with
 |false=>
  refine go ?_;exact aj () (hv:=rfl) (hp:=trivial)
 |true=>
 obtain⟨jb,hpl,hgl⟩:=hb rfl;clear hb;have hS:=mR.of hB jb;refine go ?_;refine ak (LA (s:=s) (t:=t) (sc:=sc) (st:=st)) (next:=λb hb=>?_);cases b with
 |false=>
  refine go ?_;exact aj () (hv:=rfl) (hp:=trivial)
 |true=>
 obtain⟨Zk,Zl⟩:=hb rfl;clear hb;refine go ?_;refine ak (LA (s:=s2) (t:=t2) (sc:=Q3) (st:=st2)) (next:=λb hb=>?_);cases b with
 |false=>
  refine go ?_;exact aj () (hv:=rfl) (hp:=trivial)
 |true=>
 clear hb;refine go ?_;by_cases hno:bF k/\gB k s t
 rotate_left
 ·refine ak (yM (k:=k) (s:=s) (t:=t) (p:=p) (vh:=vh) (vs:=vs) (vr:=vr) (vc:=vc) (vu:=vu) (gh:=gh) (gc:=gc) (vn:=vn) (vl:=vl) hS hP hs ht) (next:=λy2 hy2=>?_);obtain⟨v11,x,e2⟩:=y2;dsimp only at hy2⊢;have h2:e2≠0:=λe=>hno ⟨Classical.byContradiction λh=>by have:=hy2.1.nk h;omega,Classical.byContradiction λh=>by
   have hK:bF k:=Classical.byContradiction λh=>by have:=hy2.1.nk h;omega
   have:=hy2.1.ns hK h;omega⟩
  refine go ?_;intro b11;refine go ?_;refine ak (yL (k:=k) (s:=s) (t:=t) (grid:=grid) (vh:=vh) (vs:=vs) (vr:=vr) (vc:=vc) (vu:=vu) (gh:=gh) (gc:=gc) (vn:=vn) (vl:=vl) hS hs ht hl) (next:=λy3 hy3=>?_);obtain⟨v13,e3⟩:=y3;dsimp only at hy3⊢;refine go ?_;refine gG (λq2=>?_) (λq2=>?_)
  ·exact absurd h2 q2
  refine go ?_;exact aj () (hv:=rfl) (hp:=trivial)
 obtain⟨hK,hk⟩:=hno;have hn:=hK.pO;have hm:=hK.typ.lim.s1;have hsl:=hk.pc.len;have htl:=hk.ps.len;refine ak (yM (k:=k) (s:=s) (t:=t) (p:=p) (vh:=vh) (vs:=vs) (vr:=vr) (vc:=vc) (vu:=vu) (gh:=gh) (gc:=gc) (vn:=vn) (vl:=vl) hS hP hs ht) (next:=λy2 hy2=>?_);obtain⟨v11,x,e2⟩:=y2;dsimp only at hy2⊢;refine go ?_;intro b11;refine go ?_;refine ak (yL (k:=k) (s:=s) (t:=t) (grid:=grid) (vh:=vh) (vs:=vs) (vr:=vr) (vc:=vc) (vu:=vu) (gh:=gh) (gc:=gc) (vn:=vn) (vl:=vl) hS hs ht hl) (next:=λy3 hy3=>?_);obtain⟨v13,e3⟩:=y3;dsimp only at hy3⊢;refine go ?_;by_cases h2:e2=0
 rotate_left
 ·refine gG (λq2=>?_) (λq2=>?_)
  ·exact absurd h2 q2
  refine go ?_;exact aj () (hv:=rfl) (hp:=trivial)
 subst h2;have hQ:iQ k p:=Classical.byContradiction λh=>by have:=hy2.1.np hK hk h;omega
 have hx:=hy2.2.1 rfl;refine fO (ah bG v11 x) (λw hw=>hw (iT ((0:Int)=0) (ah bG v11 x)) (by simp) rfl) ?_;refine go ?_;by_cases h3:e3=0
 rotate_left
 ·refine gG (λq3=>?_) (λq3=>?_)
  ·exact absurd h3 q3
  refine go ?_;exact aj () (hv:=rfl) (hp:=trivial)
 subst h3;have hF:jf k grid:=Classical.byContradiction λh=>by have:=hy3.1.nf hK hk h;omega
 refine fO (ah ae v13 (gQ s t grid)) (λw hw=>hw (iT ((0:Int)=0) (ah ae v13 (gQ s t grid))) (by simp) rfl) ?_;refine go ?_;refine ak (Eg (k:=k) (s:=s2) (t:=t2) (vh:=vh) (vs:=vs) (vr:=vr) (vc:=vc) (vu:=vu) (gh:=gh) (gc:=gc) (vn:=vn) (vl:=vl) hS hs2 ht2) (next:=λe6 Q0=>?_);refine go ?_;refine aJ rfl (λq6=>?_) (λq6=>?_)
 ·refine go ?_;exact aj () (hv:=rfl) (hp:=trivial)
 obtain rfl:e6=0:=jo.1 q6;have hk2:gB k s2 t2:=Classical.byContradiction λh=>by have:=Q0.ns hK h;omega
 have hsl2:=hk2.pc.len;have Zo:=hk2.ps.len;have hG:=jf.kH hk hF;have BU:=jf.img hk hF;have Ae:=Gt hK hk hQ hx;have Ei:=oW.img hK hk hQ hx;have Zm:=hG.vO;have hkc:=hk.comp hK hk2;have hcl:(bW s2 s).length=s.length:=by unfold bW;rw[bJ]
 have Nh:(bW t2 t).length=t.length:=by unfold bW;rw[bJ]
 refine go ?_;refine ak (akL (s:=s) (t:=t) (s2:=s2) (t2:=t2) hs2 hs ht2 ht) (next:=λy0 hy0=>?_);obtain⟨ok0,c0,s0⟩:=y0;obtain rfl:ok0=true:=hy0.2 ⟨⟨by omega,by rw[hsl2];exact hk2.pc,by rw[hsl2];exact hk.pc⟩,⟨by omega,by rw[Zo];exact hk2.ps,by rw[Zo];exact hk.ps⟩⟩;dsimp only[D9,yG,cond,List.cons_append,List.nil_append];refine bY (E:=ae) (v:=c0) (xs:=bW s2 s) (by simp) λac cc ec=>?_;subst ec;refine bY (E:=ae) (v:=s0) (xs:=bW t2 t) (by simp) λZn cs0 es0=>?_;subst es0;refine go ?_;intro b15;refine go ?_;refine ak (yM (k:=k) (s:=s2) (t:=t2) (p:=x) (vh:=vh) (vs:=vs) (vr:=vr) (vc:=vc) (vu:=vu) (gh:=gh) (gc:=gc) (vn:=vn) (vl:=vl) hS Ei hs2 ht2) (next:=λy4 hy4=>?_);obtain⟨v17,a,e4⟩:=y4;obtain rfl:e4=0:=hy4.1.ok hK hk2 Ae;have ha:=hy4.2.1 rfl;dsimp only at ha⊢;refine fO (ah bG v17 a) (λw hw=>hw (iT ((0:Int)=0) (ah bG v17 a)) (by simp) rfl) ?_;refine go ?_;intro b17;refine go ?_;refine ak (yL (k:=k) (s:=s2) (t:=t2) (grid:=gQ s t grid) (vh:=vh) (vs:=vs) (vr:=vr) (vc:=vc) (vu:=vu) (gh:=gh) (gc:=gc) (vn:=vn) (vl:=vl) hS hs2 ht2 (by omega)) (next:=λy5 QZ=>?_);obtain⟨v19,e5⟩:=y5;obtain rfl:e5=0:=QZ.1.ok hK hk2 BU;have hG2:=jf.kH hk2 BU;have hgc:gQ s2 t2 (gQ s t grid)=gQ (bW s2 s) (bW t2 t) grid:=(hG.comp hG2).uniq (jf.kH hkc hF);have anB:=hG2.vO;dsimp only;refine fO (ah ae v19 (gQ s2 t2 (gQ s t grid))) (λw hw=>hw (iT ((0:Int)=0) (ah ae v19 (gQ s2 t2 (gQ s t grid)))) (by simp) rfl) ?_;refine go ?_;refine ak (yM (k:=k) (s:=bW s2 s) (t:=bW t2 t) (p:=p) (vh:=vh) (vs:=vs) (vr:=vr) (vc:=vc) (vu:=vu) (gh:=gh) (gc:=gc) (vn:=vn) (vl:=vl) hS hP (by omega) (by omega)) (next:=λy6 Zp=>?_);obtain⟨v21,v,e7⟩:=y6;obtain rfl:e7=0:=Zp.1.ok hK hkc hQ;have hv:=Zp.2.1 rfl;dsimp only at hv⊢;have Fe:a=v:=ak9 hK hk hk2 hQ hx ha hv;have Q4:=Gt hK hkc hQ hv;subst Fe;refine fO (ah bG v21 a) (λw hw=>hw (iT ((0:Int)=0) (ah bG v21 a)) (by simp) rfl) ?_;refine go ?_;intro b21;refine go ?_;refine ak (yL (k:=k) (s:=bW s2 s) (t:=bW t2 t) (grid:=grid) (vh:=vh) (vs:=vs) (vr:=vr) (vc:=vc) (vu:=vu) (gh:=gh) (gc:=gc) (vn:=vn) (vl:=vl) hS (by omega) (by omega) hl) (next:=λy7 hy7=>?_);obtain⟨v23,e8⟩:=y7;obtain rfl:e8=0:=hy7.1.ok hK hkc hF;dsimp only;refine fO (ah ae v23 (gQ s2 t2 (gQ s t grid))) (λw hw=>by have:=hw (iT ((0:Int)=0) (ah ae v23 (gQ (bW s2 s) (bW t2 t) grid))) (by simp) rfl;rwa [<- hgc]at this) ?_;refine go ?_;refine ak (YE (xs:=a) (ys:=a) (by have:=Q4.len;omega) (iQ.short Q4) (iQ.short Q4)) (next:=λ_ _=>?_);rw[fQ rfl];refine go ?_;refine ak (QX (xs:=gQ s2 t2 (gQ s t grid)) (ys:=gQ s2 t2 (gQ s t grid)) (by omega)) (next:=λ_ _=>?_);rw[fQ rfl];refine go ?_;exact aj () (hv:=rfl) (hp:=trivial)
