/-
  Part LibHW.
-/
import Derived.Test.YtfakljdleblkoaaGreatLibGW
set_option linter.all false
set_option maxRecDepth 10000
set_option maxHeartbeats 4000000
namespace Go.Proofs.YtfakljdleblkoaaGreat
open Go.Ideal Kd
noncomputable def U9:gU:=⟨51,[(.tmp 2)],(.seq (kO [kS 2 (.mW (kI 0))]) (.seq (.seq (kO [kM 4 0,kM 5 0,kS 6 (.kT 5),kS 7 (.fI 0 6),kS 8 (.fI 0 7),kS 9 (.fI 2 8),kS 10 (.gB 9),kM 11 0,kS 12 (.kT 11),kS 13 (.fI 0 12),kS 14 (.fI 0 13),kS 15 (.fI 3 14),kS 16 (.gB 15),kM 17 0,kS 18 (.kT 17),kS 19 (.fI 0 18),kS 20 (.fI 0 19),kS 21 (.fI 4 20),kS 22 (.gB 21),kM 23 0,kS 24 (.kT 23),kS 25 (.fI 0 24),kS 26 (.fI 0 25),kS 27 (.fI 5 26),kS 28 (.gB 27),kS 29 (kC 174 [10,16,22,28]),kM 3 29,kS 30 (.extract 3 0),kS 31 (.extract 3 1),kS 32 (.kT 4),kS 33 (.fI 0 32),kS 34 (.fI 10 33),kN (.store 5 34 30),kS 2 (.mW 31)]) (.seq (kO [kM 35 2,kS 36 (.bin .eql 40 35 (kI 0))]) (.cond 36 (kO [kM 38 0,kM 39 0,kS 40 (.kT 39),kS 41 (.fI 0 40),kS 42 (.fI 10 41),kS 43 (.qc 5 42),kS 44 (kC 175 [43]),kM 37 44,kS 45 (.extract 37 0),kS 46 (.extract 37 1),kS 47 (.kT 38),kS 48 (.fI 0 47),kS 49 (.fI 15 48),kN (.store 1 49 45),kS 2 (.mW 46)]) .skip))) (.seq (kO [kM 50 2,kS 2 (.mW 50)]) .ret)))⟩
theorem afZ:kU Tryz.prog 126=some U9:=vA
abbrev bL(d:bE)(vh vs vr vc vu g1 g2 g3 g4 g5 g6 g7:Value):List Value:=[.string d.name,.int .i64 d.version,.int .i64 d.shape,.int .i64 d.w,.int .i64 d.h,vh,vs,vr,vc,vu,g1,g2,g3,g4,g5,g6,g7]
abbrev zL(g1 g2 g3 g4 g5 g6 g7:Value):List Value:=[.string ⟨⟨[]⟩⟩,.int .i64 0,.int .i64 0,.int .i64 0,.int .i64 0,.slice none 0 0,.slice none 0 0,.slice none 0 0,.slice none 0 0,.slice none 0 0,g1,g2,g3,g4,g5,g6,g7]
variable{vh vs vr vc vu g1 g2 g3 g4 g5 g6 g7:Value}{d:bE}{b:Nat}
theorem af0(hS:mM d):aU Tryz.prog (.func 124) [ptr' b] [] [pt b (.cells (bL d vh vs vr vc vu g1 g2 g3 g4 g5 g6 g7))] (lZ d vh vs vr vc vu) (λy:ES=>.int .i64 y.e)
 (λy=>[pt b (.cells (cond y.ok (bL (Kd.bF d) vh vs vr y.vc y.vu g1 g2 g3 g4 g5 g6 g7) (zL g1 g2 g3 g4 g5 g6 g7)))]) (ou d) (Ap d):=by
 refine aH _ (aN 124) λB w0=>?_;refine go ?_;refine ax (UD (d:=d) hS) (next:=λy hy=>?_);obtain⟨ok,e,v1,v2⟩:=y;cases ok with
 |false=>
  dsimp only[rG,ou,cond,List.nil_append]at hy⊢;refine go ?_;exact ah ⟨false,e,v1,v2⟩ (hv:=rfl) (hp:=hy)
 |true=>
  dsimp only[rG,ou,cond,List.cons_append,List.nil_append]at hy⊢;refine go ?_;exact ah ⟨true,e,v1,v2⟩ (hv:=rfl) (hp:=hy) (hF:=by show Sub [ai bP v1 (Kd.bF d).aJ,ai aY v2 (Kd.bF d).rules] _;exact .cons vm (.cons vm .nil))
theorem af1(hT:uK d):aU Tryz.prog (.func 125) [ptr' b] [] [pt b (.cells (bL d vh vs vr vc vu g1 g2 g3 g4 g5 g6 g7))] (lZ d vh vs vr vc vu) (λe:Int=>.int .i64 e)
 (λ_=>[pt b (.cells (bL d vh vs vr vc vu g1 g2 g3 g4 g5 g6 g7))]) (λ_=>[]) (λe=>e=0↔E8 d):=by
 refine aH _ (aN 125) λB w0=>?_;refine go ?_;refine ax (afY (d:=d) hT) (next:=λe he=>?_);refine go ?_;exact ah e (hv:=rfl) (hp:=he)
structure DrY where
 gh:Value
 gc:Value
 vn:Value
theorem af3(hT:uK d)(hm:om d.shape d.w d.h d.holes):
 aU Tryz.prog (.func 126) [ptr' b] [] [pt b (.cells (bL d vh vs vr vc vu g1 g2 g3 g4 g5 g6 g7))] (lZ d vh vs vr vc vu) (λ_:DrY=>.int .i64 0)
 (λy=>[pt b (.cells (bL d vh vs vr vc vu (.int .i64 (aO d).shape) (.int .i64 (aO d).w) (.int .i64 (aO d).h) y.gh y.gc y.vn g7))])
 (λy=>[ai ae y.gh (aO d).holes,ai ae y.gc (aO d).cells,ai (ak ae) y.vn (bI (aO d))]) (λ_=>True):=by
 have hG:=E9 hm;have hgo:eD (aO d):=⟨hm,rfl⟩
 refine aH U9 afZ λB w0=>?_;refine go ?_;refine ax (NE (s:=d.shape) (w:=d.w) (h:=d.h) (holes:=d.holes) (vh:=vh) hT.w hT.h hT.holes) (next:=λy hy=>?_);obtain⟨ok,v1,v2⟩:=y;cases ok with
 |false=>exact absurd (hy.2 hm) vm
 |true=>
 dsimp only[cond,mkV,oU];rw[show vX d.shape d.w d.h d.holes=aO d from rfl];dsimp only[jk,iH,List.cons_append,List.nil_append];refine go ?_;refine ax (UT (g:=aO d) (vh:=v1) (vc:=v2) hG) (next:=λy hy2=>?_);obtain⟨vn,e⟩:=y;have he:e=0:=hy2.2 hgo;subst he;refine fK (ai (sV ae) vn (bI (aO d))) (λw hw=>hw (mQ ((0:Int)=0) (ai (sV ae) vn (bI (aO d)))) vm rfl) ?_;refine fK (ai (ak ae) vn (bI (aO d))) (λw hw=>SI (hw (ai (sV ae) vn (bI (aO d))) vm)) ?_;dsimp only[vY];refine aT (E:=ak ae) (v:=vn) (xs:=bI (aO d)) vm λan cn en=>?_;subst en;refine go ?_;exact ah ⟨v1,v2,.slice an (bI (aO d)).length cn⟩ (hv:=rfl) (hp:=trivial)
def iX(g:bz)(k:Nat):List (List (List Int)):=(List.range k).map λf:Nat=>dx g (f:Int)
theorem Va(g:bz)(k:Nat):iX g (k+1)=iX g k++[dx g (k:Int)]:=by
 unfold iX;rw[JW,fD,r9]
theorem Jn(g:bz)(k:Nat):(iX g k).length=k:=by unfold iX;simp
variable{gh gc vn:Value}
theorem af4(hT:uK d)(hm:om d.shape d.w d.h d.holes)(hr:∀r∈d.regions,yV (aO d) r):
 aU Tryz.prog (.func 127) [ptr' b] [] [pt b (.cells (bL d vh vs vr vc vu (.int .i64 (aO d).shape) (.int .i64 (aO d).w) (.int .i64 (aO d).h) gh gc vn (.slice none 0 0)))]
 [ai eZ vr d.regions,ai ae gh (aO d).holes,ai ae gc (aO d).cells] (λ_:Value=>.int .i64 0)
 (λvl=>[pt b (.cells (bL d vh vs vr vc vu (.int .i64 (aO d).shape) (.int .i64 (aO d).w) (.int .i64 (aO d).h) gh gc vn vl))])
 (λvl=>[ai (ak (ak ae)) vl (lc d)]) (λ_=>True):=by
 have hG:=E9 hm;have hgo:eD (aO d):=⟨hm,rfl⟩
 have hrl:=hT.s.regs;refine aH _ (aN 127) λB w0=>?_;refine aT (E:=eZ) (v:=vr) (xs:=d.regions) vm λar cr er=>?_;subst er;refine go ?_;refine gH (ak (ak ae)) ?_;refine aW (λy:Nat×Value=>8 - y.1) (λy=>[(10,.int .i64 (y.1:Int))]) (λy=>[pt b (.cells (bL d vh vs (.slice ar d.regions.length cr) vc vu (.int .i64 (aO d).shape) (.int .i64 (aO d).w) (.int .i64 (aO d).h) gh gc vn y.2)),ap (ak (ak ae)) y.2 (iX (aO d) y.1)]) (λ_=>[]) (λy=>y.1<=8) (0,.slice none 0 0) (bQ _) (hk:=we) (body:=?_);rintro⟨k,vl⟩ hk;dsimp only at hk⊢;have hkl:=Jn (aO d) k;refine go ?_;refine az rfl (λh1=>?_) (λh1=>?_)
 ·refine go ?_;refine ax (afk (g:=aO d) (vh:=gh) (vc:=gc) (k:=(k:Int)) hG) (next:=λy hy=>?_);obtain⟨v4,e⟩:=y;have he:e=0:=hy.2 ⟨hgo,vj,vj⟩;subst he;dsimp only[Jj,List.cons_append,List.nil_append];refine fK (ai (ak ae) v4 (dx (aO d) (k:Int))) (λw hw=>hw (mQ ((0:Int)=0) (ai (ak ae) v4 (dx (aO d) (k:Int)))) vm rfl) ?_;refine aT (E:=ak ae) (v:=v4) (xs:=dx (aO d) (k:Int)) vm λa4 c4 e4=>?_;subst e4;refine go ?_;intro b33;refine go ?_;refine fw (xs:=iX (aO d) k) (ak (ak ae)) (dx (aO d) (k:Int)) (.slice a4 (dx (aO d) (k:Int)).length c4) vj (next:=λad=>?_);rw[<- Va];refine go ?_;exact aM (k+1,.slice ad ((iX (aO d) k).length+1) ((iX (aO d) k).length+1)) (by show 8 - (k+1)<8 - k;omega) wA
 have NR:k=8:=vj
 subst NR;refine go ?_;refine aW (λy:Nat×Value=>d.regions.length - y.1) (λy=>[(46,.int .i64 (y.1:Int))]) (λy=>[pt b (.cells (bL d vh vs (.slice ar d.regions.length cr) vc vu (.int .i64 (aO d).shape) (.int .i64 (aO d).w) (.int .i64 (aO d).h) gh gc vn y.2)),ap (ak (ak ae)) y.2 (iX (aO d) 8++(d.regions.take y.1).map λr=>dU (aO d) r.lists)]) (λ_=>[]) (λy=>y.1<=d.regions.length) (0,vl) (bQ _) (hk:=by rw[show iX (aO d) 8++(d.regions.take 0).map (λr=>dU (aO d) r.lists)=iX (aO d) 8 from iI _];repeat (first|exact aI.nil|(apply aI.cons;(focus (repeat (first|exact ay.here|apply ay.there)))))) (body:=?_);rintro⟨k,v2⟩ hk;dsimp only at hk⊢;have hkl:(iX (aO d) 8++(d.regions.take k).map λr=>dU (aO d) r.lists).length=8+k:=by rw[iE,Jn,cz,ig];omega
 refine go ?_;refine az rfl (λh1=>?_) (λh1=>?_)
 ·refine go ?_;refine bq eZ (xs:=d.regions) (next:=λ_ _ r (NS:Value) Fa=>?_);have hrm:=aP Fa;obtain⟨hl1,hl2⟩:=hT.s.vU r hrm;obtain⟨⟨_,hro⟩,_⟩:=hr r hrm;refine go ?_;intro b7;refine go ?_;refine ax (UY (g:=aO d) (vh:=gh) (vc:=gc) (vr:=NS) (rs:=r.lists) hG hl1 hl2) (next:=λy hy=>?_);obtain⟨v8,e⟩:=y;have he:e=0:=hy.2 ⟨hgo,hro⟩;subst he;dsimp only[Jl,List.cons_append,List.nil_append];refine fK (ai (ak ae) v8 (dU (aO d) r.lists)) (λw hw=>hw (mQ ((0:Int)=0) (ai (ak ae) v8 (dU (aO d) r.lists))) vm rfl) ?_;refine aT (E:=ak ae) (v:=v8) (xs:=dU (aO d) r.lists) vm λa8 c8 e8=>?_;subst e8;refine go ?_;intro b71;refine go ?_;have htk:iX (aO d) 8++(d.regions.take (k+1)).map (λr=>dU (aO d) r.lists)=(iX (aO d) 8++(d.regions.take k).map λr=>dU (aO d) r.lists)++[dU (aO d) r.lists]:=by
   rw[bU Fa,fD,r9,fU]
  refine fw (xs:=iX (aO d) 8++(d.regions.take k).map λr=>dU (aO d) r.lists) (ak (ak ae)) (dU (aO d) r.lists) (.slice a8 (dU (aO d) r.lists).length c8) vj (next:=λad=>?_);rw[<- htk];refine go ?_;exact aM (k+1,.slice ad ((iX (aO d) 8++(d.regions.take k).map λr=>dU (aO d) r.lists).length+1) ((iX (aO d) 8++(d.regions.take k).map λr=>dU (aO d) r.lists).length+1)) B9 wA
 have hke:k=d.regions.length:=vj
 subst hke;rw[bJ];rw[show iX (aO d) 8++d.regions.map (λr=>dU (aO d) r.lists)=lc d from rfl];refine bi (fQ (E:=ak (ak ae)) (v:=v2) (xs:=lc d)) (h:=?_);refine go ?_;exact ah v2 (hv:=rfl) (hp:=trivial)
abbrev af7:List Value:=zL (.int .i64 0) (.int .i64 0) (.int .i64 0) (.slice none 0 0) (.slice none 0 0) (.slice none 0 0) (.slice none 0 0)
abbrev lC(k:bS)(vh vs vr vc vu gh gc vn vl:Value):List Value:=bL k.decl vh vs vr vc vu (.int .i64 k.grid.shape) (.int .i64 k.grid.w) (.int .i64 k.grid.h) gh gc vn vl
abbrev ku(k:bS)(vh vs vr vc vu gh gc vn vl:Value)(F:List aK):List aK:=ai ae vh k.decl.holes::ai eP vs k.decl.symbols::ai eZ vr k.decl.regions::ai bP vc k.decl.aJ::ai aY vu k.decl.rules::ai ae gh k.grid.holes::ai ae gc k.grid.cells::ai (ak ae) vn k.aD::ai (ak (ak ae)) vl k.lists::F
structure Fb(d:bE):Prop where
 rs:Cf d
 typ:E8 (Kd.bF d)
structure eF(k:bS):Prop where
 b:Fb k.decl
 e:k=j6 (Kd.bF k.decl)
structure NT where
 ok:Bool
 e:Int
 vc:Value
 vu:Value
 gh:Value
 gc:Value
 vn:Value
 vl:Value
abbrev Cz(d:bE)(vh vs vr:Value)(y:NT):Value:=.tuple ⟨[.agg ⟨cond y.ok (lC (j6 (Kd.bF d)) vh vs vr y.vc y.vu y.gh y.gc y.vn y.vl) af7⟩,.int .i64 y.e]⟩
abbrev CB(d:bE)(vh vs vr:Value)(y:NT):List aK:=cond y.ok [ai bP y.vc (Kd.bF d).aJ,ai aY y.vu (Kd.bF d).rules,ai ae y.gh (aO (Kd.bF d)).holes,ai ae y.gc (aO (Kd.bF d)).cells,ai (ak ae) y.vn (bI (aO (Kd.bF d))),ai (ak (ak ae)) y.vl (lc (Kd.bF d))] []
def Jo(d:bE)(y:NT):Prop:=(y.ok=true->y.e=0/\Fb d)/\(y.ok=false->y.e≠0/\¬Fb d)
theorem af8(hT:uK d):aU Tryz.prog (.func 55) [.agg ⟨gu d vh vs vr vc vu⟩] [] [] (lZ d vh vs vr vc vu) (Cz d vh vs vr) (λ_=>[]) (CB d vh vs vr) (Jo d):=by
 have uL:uK (Kd.bF d):=⟨hT.s.bF,hT.w,hT.h,hT.holes⟩
 have hend:∀{e:Int} {vc vu gh gc vn vl:Value},e≠0->¬Fb d->Jo d ⟨false,e,vc,vu,gh,gc,vn,vl⟩:=λhe hb=>⟨(λh=>by cases h),λ_=>⟨he,hb⟩⟩
 refine aH _ (aN 55) λB w0=>?_;refine go ?_;intro b1 b2 b4 b15;refine oh ?_;refine go ?_;refine ax (af0 (b:=b4) (d:=d) hT.s) (next:=λy hy=>?_);obtain⟨ok,e,v1,v2⟩:=y;cases ok with
 |false=>
  obtain⟨he,hno⟩:=hy.2 rfl;dsimp only[cond,ou,List.nil_append]at he⊢;exact kA
 |true=>
 obtain⟨he,hres⟩:=hy.1 rfl;have he:e=0:=he;subst he;clear hy;dsimp only[cond,ou,List.cons_append,List.nil_append];refine fK (ai ae vh (Kd.bF d).holes) (λw hw=>hw (ai ae vh d.holes) vm) ?_;refine fK (ai eP vs (Kd.bF d).symbols) (λw hw=>hw (ai eP vs d.symbols) vm) ?_;refine fK (ai eZ vr (Kd.bF d).regions) (λw hw=>hw (ai eZ vr d.regions) vm) ?_;refine go ?_;refine oh ?_;refine go ?_;refine ax (af1 (b:=b4) (d:=Kd.bF d) (vc:=v1) (vu:=v2) uL) (next:=λe he=>?_);refine go ?_;refine az rfl (λhne=>?_) (λhz=>?_)
 ·refine go ?_;exact ah ⟨false,e,v1,v2,v1,v1,v1,v1⟩ (hv:=rfl) (hp:=hend hne λh=>hne (he.2 h.typ))
 have hty:=he.1 (gT.1 hz);clear he hz;refine go ?_;refine oh ?_;refine go ?_;refine ax (af3 (b:=b4) (d:=Kd.bF d) (vc:=v1) (vu:=v2) uL hty.Cy) (next:=λy _=>?_);obtain⟨gh,gc,vn⟩:=y;dsimp only[List.cons_append,List.nil_append];refine go ?_;refine oh ?_;refine go ?_;refine ax (af4 (b:=b4) (d:=Kd.bF d) (vc:=v1) (vu:=v2) uL hty.Cy hty.yX) (next:=λvl _=>?_);dsimp only[List.cons_append,List.nil_append];refine go ?_;refine oh ?_;refine go ?_;refine ah ⟨true,0,v1,v2,gh,gc,vn,vl⟩ (hv:=rfl) (hp:=⟨λ_=>⟨rfl,hres,hty⟩,(λh=>by cases h)⟩) (hF:=?_);show Sub [ai bP v1 (Kd.bF d).aJ,ai aY v2 (Kd.bF d).rules,ai ae gh (aO (Kd.bF d)).holes,ai ae gc (aO (Kd.bF d)).cells,ai (ak ae) vn (bI (aO (Kd.bF d))),ai (ak (ak ae)) vl (lc (Kd.bF d))] _;exact .cons vm (.cons vm (.cons vm (.cons vm (.cons vm (.cons vm .nil)))))
structure tC(k:bS):Prop where
 d:uK k.decl
 g:qC k.grid
 aD:k.aD.length<9223372036854775808/\∀l∈k.aD,l.length<9223372036854775808
 lists:k.lists.length<9223372036854775808/\∀l∈k.lists,l.length<9223372036854775808/\∀m∈l,m.length<9223372036854775808
theorem af9{x y:bS}{h1 s1 r1 c1 u1 yY yZ n1 l1 h2 s2 r2 c2 u2 y5 y7 n2 l2:Value}(hS:tC x):dL Tryz.prog 56 [.agg ⟨lC x h1 s1 r1 c1 u1 yY yZ n1 l1⟩,.agg ⟨lC y h2 s2 r2 c2 u2 y5 y7 n2 l2⟩]
 (ku x h1 s1 r1 c1 u1 yY yZ n1 l1 (ku y h2 s2 r2 c2 u2 y5 y7 n2 l2 [])) (.bool (decide (x=y))):=by
 have e1:=hS.d.s;have e2:=hS.g.holes;have e3:=hS.g.cells;obtain⟨e4,e5⟩:=hS.aD;obtain⟨e6,e7⟩:=hS.lists;clear hS;obtain⟨xd,⟨xs,xw,xh,AB,AC⟩,xn,xl⟩:=x;obtain⟨yd,⟨ys,yw,yh,NU,Fe⟩,yn,yl⟩:=y;dsimp only at e1 e2 e3 e4 e5 e6 e7;dsimp only[lC,ku];refine aH _ (aN 56) λB w0=>?_;refine go ?_;intro b2 b3;refine go ?_;refine gG (λk1=>?_) (λk1=>?_)
 ·exact eV
 refine go ?_;refine gG (λk2=>?_) (λk2=>?_)
 ·exact eR
 refine go ?_;refine gG (λk3=>?_) (λk3=>?_)
 ·exact eN
 refine go ?_;refine ax (uH (xs:=AB) (ys:=NU) vj) (next:=λ_ _=>?_);refine go ?_;refine gG (λk4=>?_) (λk4=>?_)
 ·exact eM
 refine go ?_;refine ax (uH (xs:=AC) (ys:=Fe) vj) (next:=λ_ _=>?_);refine go ?_;refine gG (λk5=>?_) (λk5=>?_)
 ·exact gf
 refine go ?_;have hsy:dL Tryz.prog 128 [.agg ⟨gu xd h1 s1 r1 c1 u1⟩,.agg ⟨gu yd h2 s2 r2 c2 u2⟩] [ai ae h1 xd.holes,ai eP s1 xd.symbols,ai eZ r1 xd.regions,ai bP c1 xd.aJ,ai aY u1 xd.rules,ai ae h2 yd.holes,ai eP s2 yd.symbols,ai eZ r2 yd.regions,ai bP c2 yd.aJ,ai aY u2 yd.rules] (.bool (decide (xd=yd))):=UI e1;refine ax hsy (next:=λ_ _=>?_);refine go ?_;refine gG (λk6=>?_) (λk6=>?_)
 ·exact eK
 refine go ?_;refine ax (UG (xs:=xn) (ys:=yn) e4 e5) (next:=λ_ _=>?_);refine go ?_;refine gG (λk7=>?_) (λk7=>?_)
 ·exact eJ
 refine go ?_;refine ax (aeB (xs:=xl) (ys:=yl) e6 e7) (next:=λ_ _=>?_);refine go ?_;refine ah () (hv:=?_) (hp:=trivial);subst k1 k2 k3 k4 k5 k6 k7;rw[show decide (bS.mk xd ⟨xs,xw,xh,AB,AC⟩ xn xl=bS.mk xd ⟨xs,xw,xh,AB,AC⟩ xn yl)=decide (xl=yl)from nS.2 ⟨λh=>by cases h;rfl,λh=>by rw[h]⟩];rfl
theorem Vb{k:bS}{vl:Value}(hS:tC k):aU Tryz.prog (.func 30) [.agg ⟨lC k vh vs vr vc vu gh gc vn vl⟩] [] [] (ku k vh vs vr vc vu gh gc vn vl []) (λb:Bool=>.int .i64 (cond b 0 180)) (λ_=>[]) (λ_=>[]) (λb=>b=true↔eF k):=by
 refine aH _ (aN 30) λB w0=>?_;refine go ?_;intro b1;refine go ?_;refine ax (af8 (d:=k.decl) hS.d) (next:=λy hy=>?_);obtain⟨ok,e,v1,v2,v3,v4,v5,v6⟩:=y;cases ok with
 |false=>
  exact fp
 |true=>
 obtain⟨he,hb⟩:=hy.1 rfl;have he:e=0:=he;subst he;clear hy;dsimp only[cond,Cz,CB,List.cons_append,List.nil_append];refine go ?_;intro b3;refine go ?_;have hsm:=af9 (x:=k) (y:=j6 (Kd.bF k.decl)) (h1:=vh) (s1:=vs) (r1:=vr) (c1:=vc) (u1:=vu) (yY:=gh) (yZ:=gc) (n1:=vn) (l1:=vl) (h2:=vh) (s2:=vs) (r2:=vr) (c2:=v1) (u2:=v2) (y5:=v3) (y7:=v4) (n2:=v5) (l2:=v6) hS;refine fK (ai ae vh (j6 (Kd.bF k.decl)).decl.holes) (λw hw=>hw (ai ae vh k.decl.holes) vm) ?_;refine fK (ai eP vs (j6 (Kd.bF k.decl)).decl.symbols) (λw hw=>hw (ai eP vs k.decl.symbols) vm) ?_;refine fK (ai eZ vr (j6 (Kd.bF k.decl)).decl.regions) (λw hw=>hw (ai eZ vr k.decl.regions) vm) ?_;refine fK (ai bP v1 (j6 (Kd.bF k.decl)).decl.aJ) (λw hw=>hw (ai bP v1 (Kd.bF k.decl).aJ) vm) ?_;refine fK (ai aY v2 (j6 (Kd.bF k.decl)).decl.rules) (λw hw=>hw (ai aY v2 (Kd.bF k.decl).rules) vm) ?_;refine fK (ai ae v3 (j6 (Kd.bF k.decl)).grid.holes) (λw hw=>hw (ai ae v3 (aO (Kd.bF k.decl)).holes) vm) ?_;refine fK (ai ae v4 (j6 (Kd.bF k.decl)).grid.cells) (λw hw=>hw (ai ae v4 (aO (Kd.bF k.decl)).cells) vm) ?_;refine fK (ai (ak ae) v5 (j6 (Kd.bF k.decl)).aD) (λw hw=>hw (ai (ak ae) v5 (bI (aO (Kd.bF k.decl)))) vm) ?_;refine fK (ai (ak (ak ae)) v6 (j6 (Kd.bF k.decl)).lists) (λw hw=>hw (ai (ak (ak ae)) v6 (lc (Kd.bF k.decl))) vm) ?_;refine ax hsm (next:=λ_ _=>?_);refine go ?_;refine eO rfl (λh3=>?_) (λh3=>?_)
 ·exact sx
 ·exact s9
