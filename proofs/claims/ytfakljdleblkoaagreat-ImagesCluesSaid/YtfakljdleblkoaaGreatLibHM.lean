/-
  Kinds: the steps in which one is built.
-/
import Derived.Test.YtfakljdleblkoaaGreatLibGM
set_option linter.all false
set_option maxRecDepth 10000
set_option maxHeartbeats 4000000
namespace Go.Proofs.YtfakljdleblkoaaGreat
open Go.Ideal Kd
noncomputable def Yc:gU:=⟨51,[(.tmp 2)],(.seq (kO [kS 2 (.oq (kI 0))]) (.seq (.seq (kO [kM 4 0,kM 5 0,kS 6 (.lg 5),kS 7 (.fZ 0 6),kS 8 (.fZ 0 7),kS 9 (.fZ 2 8),kS 10 (.gI 9),kM 11 0,kS 12 (.lg 11),kS 13 (.fZ 0 12),kS 14 (.fZ 0 13),kS 15 (.fZ 3 14),kS 16 (.gI 15),kM 17 0,kS 18 (.lg 17),kS 19 (.fZ 0 18),kS 20 (.fZ 0 19),kS 21 (.fZ 4 20),kS 22 (.gI 21),kM 23 0,kS 24 (.lg 23),kS 25 (.fZ 0 24),kS 26 (.fZ 0 25),kS 27 (.fZ 5 26),kS 28 (.gI 27),kS 29 (kC 174 [10,16,22,28]),kM 3 29,kS 30 (.extract 3 0),kS 31 (.extract 3 1),kS 32 (.lg 4),kS 33 (.fZ 0 32),kS 34 (.fZ 10 33),kN (.store 5 34 30),kS 2 (.oq 31)]) (.seq (kO [kM 35 2,kS 36 (.bin .eql 40 35 (kI 0))]) (.cond 36 (kO [kM 38 0,kM 39 0,kS 40 (.lg 39),kS 41 (.fZ 0 40),kS 42 (.fZ 10 41),kS 43 (.pW 5 42),kS 44 (kC 175 [43]),kM 37 44,kS 45 (.extract 37 0),kS 46 (.extract 37 1),kS 47 (.lg 38),kS 48 (.fZ 0 47),kS 49 (.fZ 15 48),kN (.store 1 49 45),kS 2 (.oq 46)]) .skip))) (.seq (kO [kM 50 2,kS 2 (.oq 50)]) .ret)))⟩
theorem ajn:lT Tryz.prog 126=some Yc:=by kernel_rfl
abbrev bL(d:dN)(vh vs vr vc vu g1 g2 g3 g4 g5 g6 g7:Value):List Value:=[.string d.name,.int .i64 d.version,.int .i64 d.shape,.int .i64 d.w,.int .i64 d.h,vh,vs,vr,vc,vu,g1,g2,g3,g4,g5,g6,g7]
abbrev zL(g1 g2 g3 g4 g5 g6 g7:Value):List Value:=[.string ⟨⟨[]⟩⟩,.int .i64 0,.int .i64 0,.int .i64 0,.int .i64 0,.slice none 0 0,.slice none 0 0,.slice none 0 0,.slice none 0 0,.slice none 0 0,g1,g2,g3,g4,g5,g6,g7]
theorem ajo{b:Nat}{d:dN}{vh vs vr vc vu g1 g2 g3 g4 g5 g6 g7:Value}(hS:ru d):aQ Tryz.prog (.func 124) [ptr' b] [] [pt b (.cells (bL d vh vs vr vc vu g1 g2 g3 g4 g5 g6 g7))] (ul d vh vs vr vc vu) (λy:Gd=>.int .i64 y.e)
 (λy=>[pt b (.cells (cond y.ok (bL (Kd.dV d) vh vs vr y.vc y.vu g1 g2 g3 g4 g5 g6 g7) (zL g1 g2 g3 g4 g5 g6 g7)))]) (uz d) (DL d):=by
 refine aK _ (aM 124) λB w0=>?_;refine go ?_;refine ak (XD (d:=d) hS) (next:=λy hy=>?_);obtain⟨ok,e,v1,v2⟩:=y;cases ok with
 |false=>
  dsimp only[zV,uz,cond,List.nil_append]at hy⊢;refine go ?_;exact aj ⟨false,e,v1,v2⟩ (hv:=rfl) (hp:=hy)
 |true=>
  dsimp only[zV,uz,cond,List.cons_append,List.nil_append]at hy⊢;refine go ?_;exact aj ⟨true,e,v1,v2⟩ (hv:=rfl) (hp:=hy) (hF:=by show Sub [ah dX v1 (Kd.dV d).bI,ah bT v2 (Kd.dV d).rules] _;exact .cons (by simp) (.cons (by simp) .nil))
theorem ajp{b:Nat}{d:dN}{vh vs vr vc vu g1 g2 g3 g4 g5 g6 g7:Value}(hT:zZ d):aQ Tryz.prog (.func 125) [ptr' b] [] [pt b (.cells (bL d vh vs vr vc vu g1 g2 g3 g4 g5 g6 g7))] (ul d vh vs vr vc vu) (λe:Int=>.int .i64 e)
 (λ_=>[pt b (.cells (bL d vh vs vr vc vu g1 g2 g3 g4 g5 g6 g7))]) (λ_=>[]) (λe=>e=0↔KW d):=by
 refine aK _ (aM 125) λB w0=>?_;refine go ?_;refine ak (ajm (d:=d) (vh:=vh) (vs:=vs) (vr:=vr) (vc:=vc) (vu:=vu) hT) (next:=λe he=>?_);refine go ?_;exact aj e (hv:=rfl) (hp:=he)
structure DrY where
 gh:Value
 gc:Value
 vn:Value
theorem ajr{b:Nat}{d:dN}{vh vs vr vc vu g1 g2 g3 g4 g5 g6 g7:Value}(hT:zZ d)(hm:su d.shape d.w d.h d.holes):
 aQ Tryz.prog (.func 126) [ptr' b] [] [pt b (.cells (bL d vh vs vr vc vu g1 g2 g3 g4 g5 g6 g7))] (ul d vh vs vr vc vu) (λ_:DrY=>.int .i64 0)
 (λy=>[pt b (.cells (bL d vh vs vr vc vu (.int .i64 (bE d).shape) (.int .i64 (bE d).w) (.int .i64 (bE d).h) y.gh y.gc y.vn g7))])
 (λy=>[ah ae y.gh (bE d).holes,ah ae y.gc (bE d).cells,ah (aB ae) y.vn (fH (bE d))]) (λ_=>True):=by
 have hG:=Ql hm;have hgo:ik (bE d):=⟨hm,rfl⟩
 refine aK Yc ajn λB w0=>?_;refine go ?_;refine ak (PU (s:=d.shape) (w:=d.w) (h:=d.h) (holes:=d.holes) (vh:=vh) hT.w hT.h hT.holes) (next:=λy hy=>?_);obtain⟨ok,v1,v2⟩:=y;cases ok with
 |false=>exact absurd (hy.2 hm) (by simp)
 |true=>
 dsimp only[cond,mkV,wO];rw[show BC d.shape d.w d.h d.holes=bE d from rfl];dsimp only[sG,oV,List.cons_append,List.nil_append];refine go ?_;refine ak (XY (g:=bE d) (vh:=v1) (vc:=v2) hG) (next:=λy hy2=>?_);obtain⟨vn,e⟩:=y;have he:e=0:=hy2.2 hgo;subst he;refine fO (ah (uk ae) vn (fH (bE d))) (λw hw=>hw (iT ((0:Int)=0) (ah (uk ae) vn (fH (bE d)))) (by simp) rfl) ?_;refine fO (ah (aB ae) vn (fH (bE d))) (λw hw=>VA (hw (ah (uk ae) vn (fH (bE d))) (by simp))) ?_;dsimp only[DW];refine bY (E:=aB ae) (v:=vn) (xs:=fH (bE d)) (by simp) λan cn en=>?_;subst en;refine go ?_;exact aj ⟨v1,v2,.slice an (fH (bE d)).length cn⟩ (hv:=rfl) (hp:=trivial)
def nE(g:cO)(k:Nat):List (List (List Int)):=(List.range k).map λf:Nat=>gN g (f:Int)
theorem ajs(g:cO)(k:Nat):nE g (k+1)=nE g k++[gN g (k:Int)]:=by
 unfold nE;rw[LX,di,j5]
theorem Yd(g:cO)(k:Nat):(nE g k).length=k:=by unfold nE;simp
theorem ajt{b:Nat}{d:dN}{vh vs vr vc vu gh gc vn:Value}(hT:zZ d)(hm:su d.shape d.w d.h d.holes)(hr:∀r∈d.regions,Gm (bE d) r):
 aQ Tryz.prog (.func 127) [ptr' b] [] [pt b (.cells (bL d vh vs vr vc vu (.int .i64 (bE d).shape) (.int .i64 (bE d).w) (.int .i64 (bE d).h) gh gc vn (.slice none 0 0)))]
 [ah kW vr d.regions,ah ae gh (bE d).holes,ah ae gc (bE d).cells] (λ_:Value=>.int .i64 0)
 (λvl=>[pt b (.cells (bL d vh vs vr vc vu (.int .i64 (bE d).shape) (.int .i64 (bE d).w) (.int .i64 (bE d).h) gh gc vn vl))])
 (λvl=>[ah (aB (aB ae)) vl (nT d)]) (λ_=>True):=by
 have hG:=Ql hm;have hgo:ik (bE d):=⟨hm,rfl⟩
 have hrl:=hT.s.regs;refine aK _ (aM 127) λB w0=>?_;refine bY (E:=kW) (v:=vr) (xs:=d.regions) (by simp) λar cr er=>?_;subst er;refine go ?_;refine lY (aB (aB ae)) ?_;refine bQ (λy:Nat×Value=>8 - y.1) (λy=>[(10,.int .i64 (y.1:Int))]) (λy=>[pt b (.cells (bL d vh vs (.slice ar d.regions.length cr) vc vu (.int .i64 (bE d).shape) (.int .i64 (bE d).w) (.int .i64 (bE d).h) gh gc vn y.2)),ap (aB (aB ae)) y.2 (nE (bE d) y.1)]) (λ_=>[]) (λy=>y.1<=8) (0,.slice none 0 0) (dK _) (hk:=by repeat (first|exact aO.nil|(apply aO.cons;(focus (repeat (first|exact az.here|apply az.there)))))) (body:=?_);rintro⟨k,vl⟩ hk;dsimp only at hk⊢;have hkl:=Yd (bE d) k;refine go ?_;refine aJ rfl (λh1=>?_) (λh1=>?_)
 ·refine go ?_;refine ak (aiN (g:=bE d) (vh:=gh) (vc:=gc) (k:=(k:Int)) hG) (next:=λy hy=>?_);obtain⟨v4,e⟩:=y;have he:e=0:=hy.2 ⟨hgo,by omega,by omega⟩;subst he;dsimp only[X0,List.cons_append,List.nil_append];refine fO (ah (aB ae) v4 (gN (bE d) (k:Int))) (λw hw=>hw (iT ((0:Int)=0) (ah (aB ae) v4 (gN (bE d) (k:Int)))) (by simp) rfl) ?_;refine bY (E:=aB ae) (v:=v4) (xs:=gN (bE d) (k:Int)) (by simp) λa4 c4 e4=>?_;subst e4;refine go ?_;intro b33;refine go ?_;refine jO (xs:=nE (bE d) k) (aB (aB ae)) (gN (bE d) (k:Int)) (.slice a4 (gN (bE d) (k:Int)).length c4) (by omega) (next:=λad=>?_);rw[<- ajs];refine go ?_;exact bi (k+1,.slice ad ((nE (bE d) k).length+1) ((nE (bE d) k).length+1)) (by show 8 - (k+1)<8 - k;omega) (by show k+1<=_;omega)
 have hk8:k=8:=by omega
 subst hk8;refine go ?_;refine bQ (λy:Nat×Value=>d.regions.length - y.1) (λy=>[(46,.int .i64 (y.1:Int))]) (λy=>[pt b (.cells (bL d vh vs (.slice ar d.regions.length cr) vc vu (.int .i64 (bE d).shape) (.int .i64 (bE d).w) (.int .i64 (bE d).h) gh gc vn y.2)),ap (aB (aB ae)) y.2 (nE (bE d) 8++(d.regions.take y.1).map λr=>iE (bE d) r.lists)]) (λ_=>[]) (λy=>y.1<=d.regions.length) (0,vl) (dK _) (hk:=by rw[show nE (bE d) 8++(d.regions.take 0).map (λr=>iE (bE d) r.lists)=nE (bE d) 8 from iK _];repeat (first|exact aO.nil|(apply aO.cons;(focus (repeat (first|exact az.here|apply az.there)))))) (body:=?_);rintro⟨k,v2⟩ hk;dsimp only at hk⊢;have hkl:(nE (bE d) 8++(d.regions.take k).map λr=>iE (bE d) r.lists).length=8+k:=by rw[gP,Yd,bJ,iL];omega
 refine go ?_;refine aJ rfl (λh1=>?_) (λh1=>?_)
 ·refine go ?_;refine bZ kW (xs:=d.regions) (next:=λ_ _ r (vr2:Value) Ye=>?_);have hrm:=aR Ye;obtain⟨hl1,hl2⟩:=hT.s.DR r hrm;obtain⟨⟨_,hro⟩,_⟩:=hr r hrm;refine go ?_;intro b7;refine go ?_;refine ak (X4 (g:=bE d) (vh:=gh) (vc:=gc) (vr:=vr2) (rs:=r.lists) hG hl1 hl2) (next:=λy hy=>?_);obtain⟨v8,e⟩:=y;have he:e=0:=hy.2 ⟨hgo,hro⟩;subst he;dsimp only[X3,List.cons_append,List.nil_append];refine fO (ah (aB ae) v8 (iE (bE d) r.lists)) (λw hw=>hw (iT ((0:Int)=0) (ah (aB ae) v8 (iE (bE d) r.lists))) (by simp) rfl) ?_;refine bY (E:=aB ae) (v:=v8) (xs:=iE (bE d) r.lists) (by simp) λa8 c8 e8=>?_;subst e8;refine go ?_;intro b71;refine go ?_;have htk:nE (bE d) 8++(d.regions.take (k+1)).map (λr=>iE (bE d) r.lists)=(nE (bE d) 8++(d.regions.take k).map λr=>iE (bE d) r.lists)++[iE (bE d) r.lists]:=by
   rw[gZ Ye,di,j5,ed]
  refine jO (xs:=nE (bE d) 8++(d.regions.take k).map λr=>iE (bE d) r.lists) (aB (aB ae)) (iE (bE d) r.lists) (.slice a8 (iE (bE d) r.lists).length c8) (by omega) (next:=λad=>?_);rw[<- htk];refine go ?_;exact bi (k+1,.slice ad ((nE (bE d) 8++(d.regions.take k).map λr=>iE (bE d) r.lists).length+1) ((nE (bE d) 8++(d.regions.take k).map λr=>iE (bE d) r.lists).length+1)) (by show d.regions.length - (k+1)<d.regions.length - k;omega) (by show k+1<=_;omega)
 have hke:k=d.regions.length:=by omega
 subst hke;rw[eH];rw[show nE (bE d) 8++d.regions.map (λr=>iE (bE d) r.lists)=nT d from rfl];refine aZ (jk (E:=aB (aB ae)) (v:=v2) (xs:=nT d)) (h:=?_);refine go ?_;exact aj v2 (hv:=rfl) (hp:=trivial)
abbrev ajw:List Value:=zL (.int .i64 0) (.int .i64 0) (.int .i64 0) (.slice none 0 0) (.slice none 0 0) (.slice none 0 0) (.slice none 0 0)
abbrev kG(k:aU)(vh vs vr vc vu gh gc vn vl:Value):List Value:=bL k.decl vh vs vr vc vu (.int .i64 k.grid.shape) (.int .i64 k.grid.w) (.int .i64 k.grid.h) gh gc vn vl
abbrev je(k:aU)(vh vs vr vc vu gh gc vn vl:Value)(F:List aD):List aD:=ah ae vh k.decl.holes::ah jF vs k.decl.symbols::ah kW vr k.decl.regions::ah dX vc k.decl.bI::ah bT vu k.decl.rules::ah ae gh k.grid.holes::ah ae gc k.grid.cells::ah (aB ae) vn k.aA::ah (aB (aB ae)) vl k.lists::F
structure KY(d:dN):Prop where
 rs:Du d
 typ:KW (Kd.dV d)
structure bF(k:aU):Prop where
 b:KY k.decl
 e:k=qm (Kd.dV k.decl)
structure Qm where
 ok:Bool
 e:Int
 vc:Value
 vu:Value
 gh:Value
 gc:Value
 vn:Value
 vl:Value
abbrev Qn(d:dN)(vh vs vr:Value)(y:Qm):Value:=.tuple ⟨[.agg ⟨cond y.ok (kG (qm (Kd.dV d)) vh vs vr y.vc y.vu y.gh y.gc y.vn y.vl) ajw⟩,.int .i64 y.e]⟩
abbrev Qo(d:dN)(vh vs vr:Value)(y:Qm):List aD:=cond y.ok [ah dX y.vc (Kd.dV d).bI,ah bT y.vu (Kd.dV d).rules,ah ae y.gh (bE (Kd.dV d)).holes,ah ae y.gc (bE (Kd.dV d)).cells,ah (aB ae) y.vn (fH (bE (Kd.dV d))),ah (aB (aB ae)) y.vl (nT (Kd.dV d))] []
def Yf(d:dN)(y:Qm):Prop:=(y.ok=true->y.e=0/\KY d)/\(y.ok=false->y.e≠0/\¬KY d)
theorem ajx{d:dN}{vh vs vr vc vu:Value}(hT:zZ d):aQ Tryz.prog (.func 55) [.agg ⟨mP d vh vs vr vc vu⟩] [] [] (ul d vh vs vr vc vu) (Qn d vh vs vr) (λ_=>[]) (Qo d vh vs vr) (Yf d):=by
 have D5:zZ (Kd.dV d):=⟨hT.s.dV,hT.w,hT.h,hT.holes⟩
 have hend:∀{e:Int} {vc vu gh gc vn vl:Value},e≠0->¬KY d->Yf d ⟨false,e,vc,vu,gh,gc,vn,vl⟩:=λhe hb=>⟨(λh=>by cases h),λ_=>⟨he,hb⟩⟩
 refine aK _ (aM 55) λB w0=>?_;refine go ?_;intro b1 b2 b4 b15;refine oJ ?_;refine go ?_;refine ak (ajo (b:=b4) (d:=d) (vh:=vh) (vs:=vs) (vr:=vr) (vc:=vc) (vu:=vu) hT.s) (next:=λy hy=>?_);obtain⟨ok,e,v1,v2⟩:=y;cases ok with
 |false=>
  obtain⟨he,hno⟩:=hy.2 rfl;dsimp only[cond,uz,List.nil_append]at he⊢;refine go ?_;refine aJ rfl (λh1=>?_) (λh1=>?_)
  ·refine go ?_;exact aj ⟨false,e,v1,v2,v1,v1,v1,v1⟩ (hv:=rfl) (hp:=hend he λh=>hno h.rs)
  ·exact absurd (jo.1 h1) he
 |true=>
 obtain⟨he,hres⟩:=hy.1 rfl;have he:e=0:=he;subst he;clear hy;dsimp only[cond,uz,List.cons_append,List.nil_append];refine fO (ah ae vh (Kd.dV d).holes) (λw hw=>hw (ah ae vh d.holes) (by simp)) ?_;refine fO (ah jF vs (Kd.dV d).symbols) (λw hw=>hw (ah jF vs d.symbols) (by simp)) ?_;refine fO (ah kW vr (Kd.dV d).regions) (λw hw=>hw (ah kW vr d.regions) (by simp)) ?_;refine go ?_;refine oJ ?_;refine go ?_;refine ak (ajp (b:=b4) (d:=Kd.dV d) (vh:=vh) (vs:=vs) (vr:=vr) (vc:=v1) (vu:=v2) D5) (next:=λe he=>?_);refine go ?_;refine aJ rfl (λhne=>?_) (λhz=>?_)
 ·refine go ?_;exact aj ⟨false,e,v1,v2,v1,v1,v1,v1⟩ (hv:=rfl) (hp:=hend hne λh=>hne (he.2 h.typ))
 have hty:=he.1 (jo.1 hz);clear he hz;refine go ?_;refine oJ ?_;refine go ?_;refine ak (ajr (b:=b4) (d:=Kd.dV d) (vh:=vh) (vs:=vs) (vr:=vr) (vc:=v1) (vu:=v2) D5 hty.KX) (next:=λy _=>?_);obtain⟨gh,gc,vn⟩:=y;dsimp only[List.cons_append,List.nil_append];refine go ?_;refine oJ ?_;refine go ?_;refine ak (ajt (b:=b4) (d:=Kd.dV d) (vh:=vh) (vs:=vs) (vr:=vr) (vc:=v1) (vu:=v2) (gh:=gh) (gc:=gc) (vn:=vn) D5 hty.KX hty.BH) (next:=λvl _=>?_);dsimp only[List.cons_append,List.nil_append];refine go ?_;refine oJ ?_;refine go ?_;refine aj ⟨true,0,v1,v2,gh,gc,vn,vl⟩ (hv:=rfl) (hp:=⟨λ_=>⟨rfl,hres,hty⟩,(λh=>by cases h)⟩) (hF:=?_);show Sub [ah dX v1 (Kd.dV d).bI,ah bT v2 (Kd.dV d).rules,ah ae gh (bE (Kd.dV d)).holes,ah ae gc (bE (Kd.dV d)).cells,ah (aB ae) vn (fH (bE (Kd.dV d))),ah (aB (aB ae)) vl (nT (Kd.dV d))] _;exact .cons (by simp) (.cons (by simp) (.cons (by simp) (.cons (by simp) (.cons (by simp) (.cons (by simp) .nil)))))
structure mR(k:aU):Prop where
 d:zZ k.decl
 g:zW k.grid
 aA:k.aA.length<9223372036854775808/\∀l∈k.aA,l.length<9223372036854775808
 lists:k.lists.length<9223372036854775808/\∀l∈k.lists,l.length<9223372036854775808/\∀m∈l,m.length<9223372036854775808
theorem ajy{x y:aU}{h1 s1 r1 c1 u1 Qp Qq n1 l1 h2 s2 r2 c2 u2 Qr Qs n2 l2:Value}(hS:mR x):eG Tryz.prog 56 [.agg ⟨kG x h1 s1 r1 c1 u1 Qp Qq n1 l1⟩,.agg ⟨kG y h2 s2 r2 c2 u2 Qr Qs n2 l2⟩]
 (je x h1 s1 r1 c1 u1 Qp Qq n1 l1 (je y h2 s2 r2 c2 u2 Qr Qs n2 l2 [])) (.bool (decide (x=y))):=by
 have e1:=hS.d.s;have e2:=hS.g.holes;have e3:=hS.g.cells;obtain⟨e4,e5⟩:=hS.aA;obtain⟨e6,e7⟩:=hS.lists;clear hS;obtain⟨xd,⟨xs,xw,xh,Qt,Qu⟩,xn,xl⟩:=x;obtain⟨yd,⟨ys,yw,yh,yho,yce⟩,yn,yl⟩:=y;dsimp only at e1 e2 e3 e4 e5 e6 e7;dsimp only[kG,je];refine aK _ (aM 56) λB w0=>?_;refine go ?_;intro b2 b3;refine go ?_;refine gG (λk1=>?_) (λk1=>?_)
 ·refine go ?_;refine aj () (hv:=?_) (hp:=trivial);rw[dM (λe=>k1 (by cases e;rfl))];rfl
 refine go ?_;refine gG (λk2=>?_) (λk2=>?_)
 ·refine go ?_;refine aj () (hv:=?_) (hp:=trivial);rw[dM (λe=>k2 (by cases e;rfl))];rfl
 refine go ?_;refine gG (λk3=>?_) (λk3=>?_)
 ·refine go ?_;refine aj () (hv:=?_) (hp:=trivial);rw[dM (λe=>k3 (by cases e;rfl))];rfl
 refine go ?_;refine ak (sF (xs:=Qt) (ys:=yho) (by omega)) (next:=λ_ _=>?_);refine go ?_;refine gG (λk4=>?_) (λk4=>?_)
 ·refine go ?_;refine aj () (hv:=?_) (hp:=trivial);rw[dM (λe=>k4 (by cases e;rfl))];rfl
 refine go ?_;refine ak (sF (xs:=Qu) (ys:=yce) (by omega)) (next:=λ_ _=>?_);refine go ?_;refine gG (λk5=>?_) (λk5=>?_)
 ·refine go ?_;refine aj () (hv:=?_) (hp:=trivial);rw[dM (λe=>k5 (by cases e;rfl))];rfl
 refine go ?_;have hsy:eG Tryz.prog 128 [.agg ⟨mP xd h1 s1 r1 c1 u1⟩,.agg ⟨mP yd h2 s2 r2 c2 u2⟩] [ah ae h1 xd.holes,ah jF s1 xd.symbols,ah kW r1 xd.regions,ah dX c1 xd.bI,ah bT u1 xd.rules,ah ae h2 yd.holes,ah jF s2 yd.symbols,ah kW r2 yd.regions,ah dX c2 yd.bI,ah bT u2 yd.rules] (.bool (decide (xd=yd))):=XK e1;refine ak hsy (next:=λ_ _=>?_);refine go ?_;refine gG (λk6=>?_) (λk6=>?_)
 ·refine go ?_;refine aj () (hv:=?_) (hp:=trivial);rw[dM (λe=>k6 (by cases e;rfl))];rfl
 refine go ?_;refine ak (XG (xs:=xn) (ys:=yn) e4 e5) (next:=λ_ _=>?_);refine go ?_;refine gG (λk7=>?_) (λk7=>?_)
 ·refine go ?_;refine aj () (hv:=?_) (hp:=trivial);rw[dM (λe=>k7 (by cases e;rfl))];rfl
 refine go ?_;refine ak (ah2 (xs:=xl) (ys:=yl) e6 e7) (next:=λ_ _=>?_);refine go ?_;refine aj () (hv:=?_) (hp:=trivial);subst k1 k2 k3 k4 k5 k6 k7;rw[show decide (aU.mk xd ⟨xs,xw,xh,Qt,Qu⟩ xn xl=aU.mk xd ⟨xs,xw,xh,Qt,Qu⟩ xn yl)=decide (xl=yl)from nK.2 ⟨λh=>by cases h;rfl,λh=>by rw[h]⟩];rfl
theorem KZ{k:aU}{vh vs vr vc vu gh gc vn vl:Value}(hS:mR k):aQ Tryz.prog (.func 30) [.agg ⟨kG k vh vs vr vc vu gh gc vn vl⟩] [] [] (je k vh vs vr vc vu gh gc vn vl []) (λb:Bool=>.int .i64 (cond b 0 180)) (λ_=>[]) (λ_=>[]) (λb=>b=true↔bF k):=by
 refine aK _ (aM 30) λB w0=>?_;refine go ?_;intro b1;refine go ?_;refine ak (ajx (d:=k.decl) (vh:=vh) (vs:=vs) (vr:=vr) (vc:=vc) (vu:=vu) hS.d) (next:=λy hy=>?_);obtain⟨ok,e,v1,v2,v3,v4,v5,v6⟩:=y;cases ok with
 |false=>
  obtain⟨he,hno⟩:=hy.2 rfl;have he:e≠0:=he;dsimp only[cond,Qn,Qo,List.nil_append];refine go ?_;intro b3;refine go ?_;refine gG (λh1=>?_) (λh1=>?_)
  ·exact absurd (jo.1 h1) he
  refine go ?_;exact aj false (hv:=rfl) (hp:=⟨(λh=>by cases h),λh=>absurd h.b hno⟩)
 |true=>
 obtain⟨he,hb⟩:=hy.1 rfl;have he:e=0:=he;subst he;clear hy;dsimp only[cond,Qn,Qo,List.cons_append,List.nil_append];refine go ?_;intro b3;refine go ?_;have hsm:=ajy (x:=k) (y:=qm (Kd.dV k.decl)) (h1:=vh) (s1:=vs) (r1:=vr) (c1:=vc) (u1:=vu) (Qp:=gh) (Qq:=gc) (n1:=vn) (l1:=vl) (h2:=vh) (s2:=vs) (r2:=vr) (c2:=v1) (u2:=v2) (Qr:=v3) (Qs:=v4) (n2:=v5) (l2:=v6) hS;refine fO (ah ae vh (qm (Kd.dV k.decl)).decl.holes) (λw hw=>hw (ah ae vh k.decl.holes) (by simp)) ?_;refine fO (ah jF vs (qm (Kd.dV k.decl)).decl.symbols) (λw hw=>hw (ah jF vs k.decl.symbols) (by simp)) ?_;refine fO (ah kW vr (qm (Kd.dV k.decl)).decl.regions) (λw hw=>hw (ah kW vr k.decl.regions) (by simp)) ?_;refine fO (ah dX v1 (qm (Kd.dV k.decl)).decl.bI) (λw hw=>hw (ah dX v1 (Kd.dV k.decl).bI) (by simp)) ?_;refine fO (ah bT v2 (qm (Kd.dV k.decl)).decl.rules) (λw hw=>hw (ah bT v2 (Kd.dV k.decl).rules) (by simp)) ?_;refine fO (ah ae v3 (qm (Kd.dV k.decl)).grid.holes) (λw hw=>hw (ah ae v3 (bE (Kd.dV k.decl)).holes) (by simp)) ?_;refine fO (ah ae v4 (qm (Kd.dV k.decl)).grid.cells) (λw hw=>hw (ah ae v4 (bE (Kd.dV k.decl)).cells) (by simp)) ?_;refine fO (ah (aB ae) v5 (qm (Kd.dV k.decl)).aA) (λw hw=>hw (ah (aB ae) v5 (fH (bE (Kd.dV k.decl)))) (by simp)) ?_;refine fO (ah (aB (aB ae)) v6 (qm (Kd.dV k.decl)).lists) (λw hw=>hw (ah (aB (aB ae)) v6 (nT (Kd.dV k.decl))) (by simp)) ?_;refine ak hsm (next:=λ_ _=>?_);refine go ?_;refine pz rfl (λh3=>?_) (λh3=>?_)
 ·refine go ?_;exact aj false (hv:=rfl) (hp:=⟨(λh=>by cases h),λh=>absurd h.e h3⟩)
 ·refine go ?_;exact aj true (hv:=rfl) (hp:=⟨λ_=>⟨hb,h3⟩,λ_=>rfl⟩)
