/- Part. -/
import Derived.Test.YtoilpafpgndilaaGreatLibGF
import Derived.Test.YtoilpafpgndilaaGreatShelfS
import Derived.Test.YtoilpafpgndilaaGreatIdealPF
set_option linter.all false
set_option maxRecDepth 10000
set_option maxHeartbeats 4000000
namespace Go.Proofs.YtoilpafpgndilaaGreat
open Tryz (prog)
open Go.Ideal Kd
noncomputable def VZ:gV:=⟨51,[(.tmp 2)],(.seq (kO [kS 2 (.nD (.const (iV 0)))]) (.seq (.seq (kO [kM 4 0,kM 5 0,kS 6 (.lm 5),kS 7 (.fQ 0 6),kS 8 (.fQ 0 7),kS 9 (.fQ 2 8),kS 10 (.ah2 9),kM 11 0,kS 12 (.lm 11),kS 13 (.fQ 0 12),kS 14 (.fQ 0 13),kS 15 (.fQ 3 14),kS 16 (.ah2 15),kM 17 0,kS 18 (.lm 17),kS 19 (.fQ 0 18),kS 20 (.fQ 0 19),kS 21 (.fQ 4 20),kS 22 (.ah2 21),kM 23 0,kS 24 (.lm 23),kS 25 (.fQ 0 24),kS 26 (.fQ 0 25),kS 27 (.fQ 5 26),kS 28 (.ah2 27),kS 29 (kC 208 [10,16,22,28]),kM 3 29,kS 30 (.extract 3 0),kS 31 (.extract 3 1),kS 32 (.lm 4),kS 33 (.fQ 0 32),kS 34 (.fQ 10 33),kN (.store 5 34 30),kS 2 (.nD 31)]) (.seq (kO [kM 35 2,kS 36 (.bin .eql 43 35 (.const (iV 0)))]) (.cond 36 (kO [kM 38 0,kM 39 0,kS 40 (.lm 39),kS 41 (.fQ 0 40),kS 42 (.fQ 10 41),kS 43 (.pW 5 42),kS 44 (kC 209 [43]),kM 37 44,kS 45 (.extract 37 0),kS 46 (.extract 37 1),kS 47 (.lm 38),kS 48 (.fQ 0 47),kS 49 (.fQ 15 48),kN (.store 1 49 45),kS 2 (.nD 46)]) .skip))) (.seq (kO [kM 50 2,kS 2 (.nD 50)]) .ret)))⟩
def agL:mO prog 140=some VZ:=Ax
abbrev bL(d:bF)(vh vs vr vc vu g1 g2 g3 g4 g5 g6 g7:vI):kI vI:=[.string d.name,iV d.version,iV d.shape,iV d.w,iV d.h,vh,vs,vr,vc,vu,g1,g2,g3,g4,g5,g6,g7]
abbrev zL(g1 g2 g3 g4 g5 g6 g7:vI):kI vI:=[.string ⟨⟨[]⟩⟩,iV 0,iV 0,iV 0,iV 0,.slice none 0 0,.slice none 0 0,.slice none 0 0,.slice none 0 0,.slice none 0 0,g1,g2,g3,g4,g5,g6,g7]
variable{b:Nat}{d:bF}{vh vs vr vc vu g1 g2 g3 g4 g5 g6 g7:vI}
def agM(hS:ng d):bA prog (.func 138) [ptr' b] [] [pt b (.cells (bL d vh vs vr vc vu g1 g2 g3 g4 g5 g6 g7))] (lG d vh vs vr vc vu) (λy:FE=>iV y.e)
 (λy=>[pt b (.cells (cond y.ok (bL (Kd.bE d) vh vs vr y.vc y.vu g1 g2 g3 g4 g5 g6 g7) (zL g1 g2 g3 g4 g5 g6 g7)))]) (oL d) (Bg d):=by
 refine gB 138 λB w0=>?_;refine gC (Vy (d:=d) hS) λy hy=>?_;obtain⟨ok,e,v1,v2⟩:=y;cases ok with
 |false=>
  dsimp only[rX,oL,cond,List.nil_append]at hy⊢;refine go ?_;exact gQ ⟨false,e,v1,v2⟩ hy
 |true=>
  dsimp only[rX,oL,cond,List.cons_append,List.nil_append]at hy⊢;refine go ?_;exact gQ ⟨true,e,v1,v2⟩ hy (hF:=by show Sub [ai bI v1 (Kd.bE d).aJ,ai aY v2 (Kd.bE d).rules] _;exact .cons An (.cons An .nil))
def agN(hT:vC d):bA prog (.func 139) [ptr' b] [] [pt b (.cells (bL d vh vs vr vc vu g1 g2 g3 g4 g5 g6 g7))] (lG d vh vs vr vc vu) (λe:Int=>iV e)
 (λ_=>[pt b (.cells (bL d vh vs vr vc vu g1 g2 g3 g4 g5 g6 g7))]) (λ_=>[]) (λe=>e=0↔FO d):=by
 refine gB 139 λB w0=>?_;refine gC (agK (d:=d) hT) λe he=>?_;refine go ?_;exact gQ e he
structure DrY where
 gh:Value
 gc:Value
 vn:Value
def agP(hT:vC d)(hm:oH d.shape d.w d.h d.holes):
 bA prog (.func 140) [ptr' b] [] [pt b (.cells (bL d vh vs vr vc vu g1 g2 g3 g4 g5 g6 g7))] (lG d vh vs vr vc vu) (λ_:DrY=>iV 0)
 (λy=>[pt b (.cells (bL d vh vs vr vc vu (iV (aT d).shape) (iV (aT d).w) (iV (aT d).h) y.gh y.gc y.vn g7))])
 (λy=>[ai ae y.gh (aT d).holes,ai ae y.gc (aT d).cells,ai (ak ae) y.vn (bJ (aT d))]) (λ_=>True):=by
 have hG:=FP hm;have hgo:fE (aT d):=⟨hm,rfl⟩
 refine aM VZ agL λB w0=>?_;refine gC (Om (s:=d.shape) (w:=d.w) (h:=d.h) (holes:=d.holes) (vh:=vh) hT.w hT.h hT.holes) λy hy=>?_;obtain⟨ok,v1,v2⟩:=y;cases ok with
 |false=>exact absurd (hy.2 hm) An
 |true=>
 dsimp only[cond,mkV,pM];rw[show wH d.shape d.w d.h d.holes=aT d from rfl];dsimp only[jq,iO,List.cons_append,List.nil_append];refine gC (VN (g:=aT d) (vh:=v1) (vc:=v2) hG) λy hy2=>?_;obtain⟨vn,e⟩:=y;have he:e=0:=hy2.2 hgo;subst he;refine eF (ai (tY ae) vn (bJ (aT d))) (λw hw=>hw (jr ((0:Int)=0) (ai (tY ae) vn (bJ (aT d)))) An rfl) ?_;refine eF (ai (ak ae) vn (bJ (aT d))) (λw hw=>TP (hw (ai (tY ae) vn (bJ (aT d))) An)) ?_;dsimp only[wI];refine gF (ak ae) vn (bJ (aT d)) λan cn en=>?_;subst en;refine go ?_;exact gQ ⟨v1,v2,.slice an (bJ (aT d)).length cn⟩ trivial
def ja(g:bz)(k:Nat):kI (kI (kI Int)):=(List.range k).map λf:Nat=>dM g (f:Int)
def V3(g:bz)(k:Nat):ja g (k+1)=ja g k++[dM g (k:Int)]:=by
 unfold ja;rw[Gm,fP,sQ]
def JQ(g:bz)(k:Nat):(ja g k).length=k:=by unfold ja;simp
def agQ{gh gc vn:vI}(hT:vC d)(hm:oH d.shape d.w d.h d.holes)(hr:∀r∈d.regions,zy (aT d) r):
 bA prog (.func 141) [ptr' b] [] [pt b (.cells (bL d vh vs vr vc vu (iV (aT d).shape) (iV (aT d).w) (iV (aT d).h) gh gc vn (.slice none 0 0)))]
 [ai eY vr d.regions,ai ae gh (aT d).holes,ai ae gc (aT d).cells] (λ_:vI=>iV 0)
 (λvl=>[pt b (.cells (bL d vh vs vr vc vu (iV (aT d).shape) (iV (aT d).w) (iV (aT d).h) gh gc vn vl))])
 (λvl=>[ai (ak (ak ae)) vl (oI d)]) (λ_=>True):=by
 have hG:=FP hm;have hgo:fE (aT d):=⟨hm,rfl⟩
 have hrl:=hT.s.regs;refine gB 141 λB w0=>?_;refine gF eY vr d.regions λar cr er=>?_;subst er;refine go ?_;refine af5 (ak (ak ae)) ?_;refine aU (λy:Nat×vI=>8 - y.1) (λy=>[(10,iV (y.1:Int))]) (λy=>[pt b (.cells (bL d vh vs (.slice ar d.regions.length cr) vc vu (iV (aT d).shape) (iV (aT d).w) (iV (aT d).h) gh gc vn y.2)),ap (ak (ak ae)) y.2 (ja (aT d) y.1)]) (λ_=>[]) (λy=>y.1<=8) (0,.slice none 0 0) (bR _) (hk:=As) (body:=?_);rintro⟨k,vl⟩ hk;dsimp only at hk⊢;have hkl:=JQ (aT d) k;refine gIf ?_ ?_<;>intro h1
 .refine gC (af4 (g:=aT d) (vh:=gh) (vc:=gc) (k:=(k:Int)) hG) λy hy=>?_;obtain⟨v4,e⟩:=y;have he:e=0:=hy.2 ⟨hgo,z7,z7⟩;subst he;dsimp only[JM,List.cons_append,List.nil_append];refine eF (ai (ak ae) v4 (dM (aT d) (k:Int))) (λw hw=>hw (jr ((0:Int)=0) (ai (ak ae) v4 (dM (aT d) (k:Int)))) An rfl) ?_;refine gF (ak ae) v4 (dM (aT d) (k:Int)) λa4 c4 e4=>?_;subst e4;refine go ?_;intro V4;refine go ?_;refine fB (xs:=ja (aT d) k) (ak (ak ae)) (dM (aT d) (k:Int)) (.slice a4 (dM (aT d) (k:Int)).length c4) z7 (next:=λad=>?_);rw[<- V3];refine go ?_;exact aN (k+1,.slice ad ((ja (aT d) k).length+1) ((ja (aT d) k).length+1)) (by show 8 - (k+1)<8 - k;omega) AS
 have OG:k=8:=z7
 subst OG;refine go ?_;refine aU (λy:Nat×vI=>d.regions.length - y.1) (λy=>[(46,iV (y.1:Int))]) (λy=>[pt b (.cells (bL d vh vs (.slice ar d.regions.length cr) vc vu (iV (aT d).shape) (iV (aT d).w) (iV (aT d).h) gh gc vn y.2)),ap (ak (ak ae)) y.2 (ja (aT d) 8++(d.regions.take y.1).map λr=>dW (aT d) r.lists)]) (λ_=>[]) (λy=>y.1<=d.regions.length) (0,vl) (bR _) (hk:=by rw[show ja (aT d) 8++(d.regions.take 0).map (λr=>dW (aT d) r.lists)=ja (aT d) 8 from gU _];repeat (first|exact aI.nil|(apply aI.cons;(focus (repeat (first|exact az.here|apply az.there)))))) (body:=?_);rintro⟨k,v2⟩ hk;dsimp only at hk⊢;have hkl:(ja (aT d) 8++(d.regions.take k).map λr=>dW (aT d) r.lists).length=8+k:=by rw[iH,JQ,bY,gT];omega
 refine gIf ?_ ?_<;>intro h1
 .refine gX eY (xs:=d.regions) λ_ _ r (OH:vI) Dm=>?_;have hrm:=aZ Dm;obtain⟨hl1,hl2⟩:=hT.s.rZ r hrm;obtain⟨⟨_,hro⟩,_⟩:=hr r hrm;refine go ?_;intro b7;refine gC (VV (g:=aT d) (rs:=r.lists) hG hl1 hl2) λy hy=>?_;obtain⟨v8,e⟩:=y;have he:e=0:=hy.2 ⟨hgo,hro⟩;subst he;dsimp only[JO,List.cons_append,List.nil_append];refine eF (ai (ak ae) v8 (dW (aT d) r.lists)) (λw hw=>hw (jr ((0:Int)=0) (ai (ak ae) v8 (dW (aT d) r.lists))) An rfl) ?_;refine gF (ak ae) v8 (dW (aT d) r.lists) λa8 c8 e8=>?_;subst e8;refine go ?_;intro b71;refine go ?_;have htk:ja (aT d) 8++(d.regions.take (k+1)).map (λr=>dW (aT d) r.lists)=(ja (aT d) 8++(d.regions.take k).map λr=>dW (aT d) r.lists)++[dW (aT d) r.lists]:=by
   rw[bZ Dm,fP,sQ,List.append_assoc]
  refine fB (xs:=ja (aT d) 8++(d.regions.take k).map λr=>dW (aT d) r.lists) (ak (ak ae)) (dW (aT d) r.lists) (.slice a8 (dW (aT d) r.lists).length c8) z7 (next:=λad=>?_);rw[<- htk];refine go ?_;exact aN (k+1,.slice ad ((ja (aT d) 8++(d.regions.take k).map λr=>dW (aT d) r.lists).length+1) ((ja (aT d) 8++(d.regions.take k).map λr=>dW (aT d) r.lists).length+1)) GW AS
 have hke:k=d.regions.length:=z7
 subst hke;rw[bU];rw[show ja (aT d) 8++d.regions.map (λr=>dW (aT d) r.lists)=oI d from rfl];refine gZ (gz (E:=ak (ak ae)) (v:=v2) (xs:=oI d)) ?_;refine go ?_;exact gQ v2 trivial
end Go.Proofs.YtoilpafpgndilaaGreat
namespace Go.Proofs.YtoilpafpgndilaaGreat
open Tryz (prog)
open Go.Ideal Kd
abbrev agS:kI vI:=zL (iV 0) (iV 0) (iV 0) (.slice none 0 0) (.slice none 0 0) (.slice none 0 0) (.slice none 0 0)
abbrev kZ(k:bD)(vh vs vr vc vu gh gc vn vl:vI):kI vI:=bL k.decl vh vs vr vc vu (iV k.grid.shape) (iV k.grid.w) (iV k.grid.h) gh gc vn vl
abbrev j6(k:bD)(vh vs vr vc vu gh gc vn vl:vI)(F:kI aO):kI aO:=ai ae vh k.decl.holes::ai fF vs k.decl.symbols::ai eY vr k.decl.regions::ai bI vc k.decl.aJ::ai aY vu k.decl.rules::ai ae gh k.grid.holes::ai ae gc k.grid.cells::ai (ak ae) vn k.aQ::ai (ak (ak ae)) vl k.lists::F
structure FQ(d:bF):Prop where
 rs:CU d
 typ:FO (Kd.bE d)
structure dH(k:bD):Prop where
 b:FQ k.decl
 e:k=kF (Kd.bE k.decl)
structure OI where
 ok:Bool
 e:Int
 vc:Value
 vu:Value
 gh:Value
 gc:Value
 vn:Value
 vl:Value
abbrev Dn(d:bF)(vh vs vr:vI)(y:OI):vI:=.tuple ⟨[.agg ⟨cond y.ok (kZ (kF (Kd.bE d)) vh vs vr y.vc y.vu y.gh y.gc y.vn y.vl) agS⟩,iV y.e]⟩
abbrev Dp(d:bF)(vh vs vr:vI)(y:OI):kI aO:=cond y.ok [ai bI y.vc (Kd.bE d).aJ,ai aY y.vu (Kd.bE d).rules,ai ae y.gh (aT (Kd.bE d)).holes,ai ae y.gc (aT (Kd.bE d)).cells,ai (ak ae) y.vn (bJ (aT (Kd.bE d))),ai (ak (ak ae)) y.vl (oI (Kd.bE d))] []
def JR(d:bF)(y:OI):Prop:=(y.ok=true->y.e=0/\FQ d)/\(y.ok=false->y.e≠0/\¬FQ d)
variable{vh vs vr vc vu:vI}
def agT{d:bF}(hT:vC d):bA prog (.func 107) [.agg ⟨ahE d vh vs vr vc vu⟩] [] [] (lG d vh vs vr vc vu) (Dn d vh vs vr) (λ_=>[]) (Dp d vh vs vr) (JR d):=by
 have qV:vC (Kd.bE d):=⟨hT.s.bE,hT.w,hT.h,hT.holes⟩
 have hend:∀{e:Int} {vc vu gh gc vn vl:vI},e≠0->¬FQ d->JR d ⟨false,e,vc,vu,gh,gc,vn,vl⟩:=λhe hb=>⟨(λh=>by cases h),λ_=>⟨he,hb⟩⟩
 refine gB 107 λB w0=>?_;refine go ?_;intro b1 b2 b4 b15;refine mR ?_;refine gC (agM (b:=b4) (d:=d) hT.s) λy hy=>?_;obtain⟨ok,e,v1,v2⟩:=y;cases ok with
 |false=>
  obtain⟨he,hno⟩:=hy.2 rfl;dsimp only[cond,oL,List.nil_append]at he⊢;exact nn
 |true=>
 obtain⟨he,hres⟩:=hy.1 rfl;have he:e=0:=he;subst he;clear hy;dsimp only[cond,oL,List.cons_append,List.nil_append];refine eF (ai ae vh (Kd.bE d).holes) (λw hw=>hw (ai ae vh d.holes) An) ?_;refine eF (ai fF vs (Kd.bE d).symbols) (λw hw=>hw (ai fF vs d.symbols) An) ?_;refine eF (ai eY vr (Kd.bE d).regions) (λw hw=>hw (ai eY vr d.regions) An) ?_;refine go ?_;refine mR ?_;refine gC (agN (b:=b4) (d:=Kd.bE d) (vc:=v1) (vu:=v2) qV) λe he=>?_;refine gIf (λhne=>?_) (λhz=>?_)
 .refine go ?_;exact gQ ⟨false,e,v1,v2,v1,v1,v1,v1⟩ (hend hne λh=>hne (he.2 h.typ))
 have hty:=he.1 (ic.1 hz);clear he hz;refine go ?_;refine mR ?_;refine gC (agP (b:=b4) (d:=Kd.bE d) (vc:=v1) (vu:=v2) qV hty.Dk) λy _=>?_;obtain⟨gh,gc,vn⟩:=y;dsimp only[List.cons_append,List.nil_append];refine go ?_;refine mR ?_;refine gC (agQ (b:=b4) (d:=Kd.bE d) (vc:=v1) (vu:=v2) qV hty.Dk hty.Dl) λvl _=>?_;dsimp only[List.cons_append,List.nil_append];refine go ?_;refine mR ?_;refine go ?_;refine gQ ⟨true,0,v1,v2,gh,gc,vn,vl⟩ ⟨λ_=>⟨rfl,hres,hty⟩,(λh=>by cases h)⟩ (hF:=?_);show Sub [ai bI v1 (Kd.bE d).aJ,ai aY v2 (Kd.bE d).rules,ai ae gh (aT (Kd.bE d)).holes,ai ae gc (aT (Kd.bE d)).cells,ai (ak ae) vn (bJ (aT (Kd.bE d))),ai (ak (ak ae)) vl (oI (Kd.bE d))] _;exact .cons An (.cons An (.cons An (.cons An (.cons An (.cons An .nil)))))
structure nZ(k:bD):Prop where
 d:vC k.decl
 g:qP k.grid
 aQ:k.aQ.length<2^63/\∀l∈k.aQ,l.length<2^63
 lists:k.lists.length<2^63/\∀l∈k.lists,l.length<2^63/\∀m∈l,m.length<2^63
def agU{x y:bD}{h1 s1 r1 c1 u1 zz zA n1 l1 h2 s2 r2 c2 u2 zB zC n2 l2:vI}(hS:nZ x):dD prog 108 [.agg ⟨kZ x h1 s1 r1 c1 u1 zz zA n1 l1⟩,.agg ⟨kZ y h2 s2 r2 c2 u2 zB zC n2 l2⟩]
 (j6 x h1 s1 r1 c1 u1 zz zA n1 l1 (j6 y h2 s2 r2 c2 u2 zB zC n2 l2 [])) (.bool (decide (x=y))):=by
 have e1:=hS.d.s;have e2:=hS.g.holes;have e3:=hS.g.cells;obtain⟨e4,e5⟩:=hS.aQ;obtain⟨e6,e7⟩:=hS.lists;clear hS;obtain⟨xd,⟨xs,xw,xh,Br,Bt⟩,xn,xl⟩:=x;obtain⟨yd,⟨ys,yw,yh,OJ,FT⟩,yn,yl⟩:=y;dsimp only at e1 e2 e3 e4 e5 e6 e7;dsimp only[kZ,j6];refine gB 108 λB w0=>?_;refine go ?_;intro b2 b3;refine gH ?_ ?_<;>intro k1
 .exact j0
 refine gH ?_ ?_<;>intro k2
 .exact jz
 refine gH ?_ ?_<;>intro k3
 .exact jx
 refine gC (Bf (xs:=Br) (ys:=OJ) z7) λ_ _=>?_;refine gH ?_ ?_<;>intro k4
 .exact ju
 refine gC (Bf (xs:=Bt) (ys:=FT) z7) λ_ _=>?_;refine gH ?_ ?_<;>intro k5
 .exact mT
 refine go ?_;have hsy:dD prog 142 [.agg ⟨ahE xd h1 s1 r1 c1 u1⟩,.agg ⟨ahE yd h2 s2 r2 c2 u2⟩] [ai ae h1 xd.holes,ai fF s1 xd.symbols,ai eY r1 xd.regions,ai bI c1 xd.aJ,ai aY u1 xd.rules,ai ae h2 yd.holes,ai fF s2 yd.symbols,ai eY r2 yd.regions,ai bI c2 yd.aJ,ai aY u2 yd.rules] (.bool (decide (xd=yd))):=VD e1;refine ay hsy (next:=λ_ _=>?_);refine gH ?_ ?_<;>intro k6
 .exact jt
 refine gC (VB (xs:=xn) (ys:=yn) e4 e5) λ_ _=>?_;refine gH ?_ ?_<;>intro k7
 .exact js
 refine gC (afo (xs:=xl) (ys:=yl) e6 e7) λ_ _=>?_;refine acM ?_;subst k1 k2 k3 k4 k5 k6 k7;rw[show decide (bD.mk xd ⟨xs,xw,xh,Br,Bt⟩ xn xl=bD.mk xd ⟨xs,xw,xh,Br,Bt⟩ xn yl)=decide (xl=yl)from nO.2 ⟨λh=>by cases h;rfl,λh=>by rw[h]⟩];rfl
def agV{k:bD}{gh gc vn vl:vI}(hS:nZ k):fC prog 74 [.agg ⟨kZ k vh vs vr vc vu gh gc vn vl⟩] (j6 k vh vs vr vc vu gh gc vn vl []) (λb:Bool=>iV (cond b 0 180)) (λb=>b=true↔dH k):=by
 refine gB 74 λB w0=>?_;refine go ?_;intro b1;refine gC (agT (d:=k.decl) hS.d) λy hy=>?_;obtain⟨ok,e,v1,v2,v3,v4,v5,v6⟩:=y;cases ok with
 |false=>
  exact fk
 |true=>
 obtain⟨he,hb⟩:=hy.1 rfl;have he:e=0:=he;subst he;clear hy;dsimp only[cond,Dn,Dp,List.cons_append,List.nil_append];refine go ?_;intro b3;refine go ?_;have hsm:=agU (x:=k) (y:=kF (Kd.bE k.decl)) (h1:=vh) (s1:=vs) (r1:=vr) (c1:=vc) (u1:=vu) (zz:=gh) (zA:=gc) (n1:=vn) (l1:=vl) (h2:=vh) (s2:=vs) (r2:=vr) (c2:=v1) (u2:=v2) (zB:=v3) (zC:=v4) (n2:=v5) (l2:=v6) hS;refine eF (ai ae vh (kF (Kd.bE k.decl)).decl.holes) (λw hw=>hw (ai ae vh k.decl.holes) An) ?_;refine eF (ai fF vs (kF (Kd.bE k.decl)).decl.symbols) (λw hw=>hw (ai fF vs k.decl.symbols) An) ?_;refine eF (ai eY vr (kF (Kd.bE k.decl)).decl.regions) (λw hw=>hw (ai eY vr k.decl.regions) An) ?_;refine eF (ai bI v1 (kF (Kd.bE k.decl)).decl.aJ) (λw hw=>hw (ai bI v1 (Kd.bE k.decl).aJ) An) ?_;refine eF (ai aY v2 (kF (Kd.bE k.decl)).decl.rules) (λw hw=>hw (ai aY v2 (Kd.bE k.decl).rules) An) ?_;refine eF (ai ae v3 (kF (Kd.bE k.decl)).grid.holes) (λw hw=>hw (ai ae v3 (aT (Kd.bE k.decl)).holes) An) ?_;refine eF (ai ae v4 (kF (Kd.bE k.decl)).grid.cells) (λw hw=>hw (ai ae v4 (aT (Kd.bE k.decl)).cells) An) ?_;refine eF (ai (ak ae) v5 (kF (Kd.bE k.decl)).aQ) (λw hw=>hw (ai (ak ae) v5 (bJ (aT (Kd.bE k.decl)))) An) ?_;refine eF (ai (ak (ak ae)) v6 (kF (Kd.bE k.decl)).lists) (λw hw=>hw (ai (ak (ak ae)) v6 (oI (Kd.bE k.decl))) An) ?_;refine ay hsm (next:=λ_ _=>?_);refine go ?_;refine fq rfl (λh3=>?_) (λh3=>?_)
 .exact tr
 .exact us
end Go.Proofs.YtoilpafpgndilaaGreat
namespace Go.Proofs.YtoilpafpgndilaaGreat
open Tryz (prog)
open Go.Ideal Canon
def V5(x:Int):dD prog 106 [iV x] [] (.bool false):=by
 refine gB 106 λB w0=>?_;refine acM ?_;simp[rO]
def OL(x y:Int):dD prog 65 [iV x,iV y] [] (iV (eU x y)):=by
 refine gB 65 λB w0=>?_;refine gC (V5 x) λ_ _=>?_;refine gC (V5 y) λ_ _=>?_;refine gIf ?_ ?_<;>intro h1
 .refine acM ?_;rw[eU,if_pos h1];rfl
 exact oA
variable{k:Nat}
def drop_cons{α:Type}{xs:kI α}{x:α}(h:xs[k]? =some x):xs.drop k=x::xs.drop (k+1):=by
 obtain⟨hlt,he⟩:=bq.1 h;rw[oU hlt,he]
variable{xs ys:kI Int}
def zD(hx:k<=xs.length)(hy:k<=ys.length)(h:k=xs.length\/k=ys.length):
 fK eU (xs.drop k) (ys.drop k)=if xs.length<ys.length then -1 else if ys.length<xs.length then 1 else 0:=by
 rcases h with h|h
 .exact gk
 .exact fS
def agW{va vb:vI}(hal:xs.length<=1000000)(hbl:ys.length<=1000000):
 dD prog 68 [va,vb] [ai ae va xs,ai ae vb ys] (iV (fK eU xs ys)):=by
 refine gB 68 λB w0=>?_;refine gN xs.length 11 (λk=>k<=xs.length/\k<=ys.length/\fK eU xs ys=fK eU (xs.drop k) (ys.drop k)) ⟨z7,z7,rfl⟩ ?_;rintro k ⟨hkx,uj,mH⟩;refine gIf ?_ ?_<;>intro h1
 .refine go ?_;intro _ _ x hx;refine aA rfl ?_ ?_<;>intro h2
  .refine acM ?_;rw[mH,drop_cons hx,show ys.drop k=[]from akS z7];rfl
  refine go ?_;intro _ _ y hy;refine ay (OL x y) (next:=λ_ _=>?_);refine gIf ?_ ?_<;>intro h3
  .refine acM ?_;rw[mH,drop_cons hx,drop_cons hy,fK,if_pos h3];rfl
  refine go ?_;refine aN (k+1) z7 ⟨z7,z7,?_⟩;rw[mH,drop_cons hx,drop_cons hy,fK,if_neg G0]
 refine go ?_;have hkm:k=xs.length:=z7
 refine aA rfl ?_ ?_<;>intro h3
 .refine acM ?_;rw[mH,zD hkx uj z7,if_pos z7];rfl
 refine acM ?_;rw[mH,zD hkx uj z7,if_neg z7,if_neg z7];rfl
end Go.Proofs.YtoilpafpgndilaaGreat
namespace Go.Proofs.YtoilpafpgndilaaGreat
open Tryz (prog)
open Go.Ideal Kd Canon
def V6(x:Int):dD prog 106 [iV x] [] (.bool false):=by
 refine gB 106 λB w0=>?_;refine acM ?_;simp[rO]
def V7(x y:Int):dD prog 65 [iV x,iV y] [] (iV (eU x y)):=by
 refine gB 65 λB w0=>?_;refine gC (V6 x) λ_ _=>?_;refine gC (V6 y) λ_ _=>?_;refine gIf ?_ ?_<;>intro h1
 .refine acM ?_;rw[eU,if_pos h1];rfl
 exact oA
def agX{α:Type}{xs:kI α}{k:Nat}{x:α}(h:xs[k]? =some x):xs.drop k=x::xs.drop (k+1):=by
 obtain⟨hlt,he⟩:=bq.1 h;rw[oU hlt,he]
def agY{v:vI}{xs:kI Int}(hl:xs.length<2^63):dD prog 110 [v] [ai ae v xs] (iV (uW xs)):=by
 refine gB 110 λB w0=>?_;refine gN xs.length 8 (λk=>k<=xs.length/\uW xs=uW (xs.drop k)) ⟨z7,rfl⟩ ?_;rintro k ⟨hk,hf⟩;refine gIf ?_ ?_<;>intro h1
 .refine go ?_;intro _ _ x hx;have hd:=agX hx;refine gIf ?_ ?_<;>intro h2
  .refine acM ?_;rw[hf,hd,uW,if_pos h2];rfl
  .refine go ?_;refine aN (k+1) D3 ⟨z7,?_⟩;rw[hf,hd,uW,if_neg h2]
 have hk:k=xs.length:=z7
 refine acM ?_;rw[hf,hk,alV];rfl
def agZ{a b:Clue}{va vb:vI}:dD prog 76 [wy a va,wy b vb] [] (iV (gJ a b)):=by
 refine gB 76 λB w0=>?_;refine go ?_;intro b2 b3;refine gC (V7 a.adJ b.adJ) λ_ _=>?_;refine gC (V7 a.at_ b.at_) λ_ _=>?_;refine go ?_;intro b15;refine aie (A:=pt b15 (.cells [iV (eU a.adJ b.adJ),iV (eU a.at_ b.at_)])) (fs:=[ai ae (.slice (some ⟨b15,0,some 0⟩) 2 2) [eU a.adJ b.adJ,eU a.at_ b.at_]]) (uR (b:=b15) (f:=0) (c:=2) (xs:=[eU a.adJ b.adJ,eU a.at_ b.at_])) (h:=?_);refine gC (agY (xs:=[eU a.adJ b.adJ,eU a.at_ b.at_]) An) λ_ _=>?_;exact afN
structure wK(p:List Clue):Prop where
 len:p.length<2^63
 vals:∀g∈p,g.values.length<2^63
def ag0{k:bD}{g:Clue}{vh vs vr vc vu gh gc vn vl vv:vI}(hS:nZ k)(hF:Fq k)(hv:g.values.length<2^63):
 fC prog 75 [.agg ⟨kZ k vh vs vr vc vu gh gc vn vl⟩,wy g vv] (ai ae vv g.values::j6 k vh vs vr vc vu gh gc vn vl []) (λb:Bool=>.bool b) (λb=>b=true↔mY k g):=by
 have hcl:=hS.d.s.jg;have hsl:=hS.d.s.eH;refine gB 75 λB w0=>?_;refine gF bI vc k.decl.aJ λac cc ec=>?_;subst ec;refine gF fF vs k.decl.symbols λkY cs1 es1=>?_;subst es1;refine gF (ak (ak ae)) vl k.lists λal cl el=>?_;subst el;refine gF ae vv g.values λav cv OM=>?_;subst OM;refine go ?_;intro b2 b3;refine gP b2 ?_;refine gP b3 ?_;refine gH ?_ ?_<;>intro h1
 rotate_left
 .exact s7
 refine gIf ?_ ?_<;>intro h2
 .exact pL
 obtain⟨ci,hci⟩:=jA (show 0<=g.adJ by omega);have hg0:0<=g.adJ:=z7
 have LG:ci<k.decl.aJ.length:=z7
 have htn:g.adJ.toNat=ci:=z7
 refine go ?_;rw[hci];refine bi bI (xs:=k.decl.aJ) (next:=λ_ _ c (_:Unit) hc=>?_);obtain⟨hf0,hf1⟩:=hF c (aZ hc);refine go ?_;intro b5;refine gH ?_ ?_<;>intro h3
 rotate_left
 .exact sL
 refine go ?_;obtain⟨fi,hfi⟩:=jA hf0;have FU:c.family.toNat=fi:=z7
 rw[hfi];refine bi (ak (ak ae)) (xs:=k.lists) (next:=λ_ _ ls (vls:vI) hls=>?_);refine gIf ?_ ?_<;>intro h4
 .exact mB
 have hR:∀b:Bool,(b=true↔((c.type=1/\g.values.length=1/\∀x∈g.values,0<=x/\x<=(k.decl.symbols.length:Int) - 1)\/(c.type=2/\g.values.length=1/\∀x∈g.values,c.lo<=x/\x<=c.hi)\/
  (c.type≠1/\c.type≠2/\g.values.length<=8/\∀x∈g.values,1<=x/\x<=256)))->(b=true↔mY k g):=λb hb=>by
  rw[hb];refine⟨λh=>⟨c,ls,hg0,by rw[htn];exact hc,by rw[FU];exact hls,z7,z7,h⟩,λ⟨c',l',_,q1,_,_,_,h⟩=>?_⟩;rw[htn,hc]at q1;cases q1;exact h
 refine gIf ?_ ?_<;>intro h5
 .refine gH ?_ ?_<;>intro h6
  .exact eJ
  refine gC (NZ (xs:=g.values) (lo:=0) (hi:=(k.decl.symbols.length:Int) - 1) hv) λ_ _=>?_;refine go ?_;refine gQ (xZ g.values 0 ((k.decl.symbols.length:Int) - 1)) (hR _ ?_);unfold xZ;rw[lM];exact⟨λh=>.inl ⟨h5,z7,h⟩,λh=>by rcases h with h|h|h;exact h.2.2;exact absurd h5 z7;exact absurd h5 h.1⟩
 refine gIf ?_ ?_<;>intro h6
 .refine gH ?_ ?_<;>intro h7
  .exact eJ
  refine gC (NZ (xs:=g.values) (lo:=c.lo) (hi:=c.hi) hv) λ_ _=>?_;refine go ?_;refine gQ (xZ g.values c.lo c.hi) (hR _ ?_);unfold xZ;rw[lM];exact⟨λh=>.inr (.inl ⟨h6,z7,h⟩),λh=>by rcases h with h|h|h;exact absurd h.1 h5;exact h.2.2;exact absurd h6 h.2.1⟩
 refine gH ?_ ?_<;>intro h7
 .exact eJ
 refine gC (NZ (xs:=g.values) (lo:=1) (hi:=256) hv) λ_ _=>?_;refine go ?_;refine gQ (xZ g.values 1 256) (hR _ ?_);unfold xZ;rw[lM];exact⟨λh=>.inr (.inr ⟨h5,h6,z7,h⟩),λh=>by rcases h with h|h|h;exact absurd h.1 h5;exact absurd h.1 h6;exact h.2.2.2⟩
variable{k:bD}
def dH.decl(h:dH k):k.decl=Kd.bE k.decl:=congrArg bD.decl h.e
def dH.lists(h:dH k):k.lists=oI k.decl:=by
 have:=congrArg bD.lists h.e;have h2:(kF (Kd.bE k.decl)).lists=oI (Kd.bE k.decl):=rfl;exact ua
def dH.grid(h:dH k):k.grid=aT k.decl:=by
 have:=congrArg bD.grid h.e;have h2:(kF (Kd.bE k.decl)).grid=aT (Kd.bE k.decl):=rfl;exact ua
def dH.aQ(h:dH k):k.aQ=bJ (aT k.decl):=by
 have:=congrArg bD.aQ h.e;have h2:(kF (Kd.bE k.decl)).aQ=bJ (aT (Kd.bE k.decl)):=rfl;exact ua
def dH.typ(h:dH k):FO k.decl:=by
 have:=h.b.typ;rw[<- h.decl]at this;exact this
def dH.kE(h:dH k):Fq k:=by
 intro c hc;rw[h.decl]at hc;obtain⟨q,hq,rfl⟩:=eT.1 (show c∈k.decl.aJ.map (lW (cz k.decl))from hc);have h1:=AZ (h.b.rs.Nf q hq);have h2:(cz k.decl).length=8+k.decl.regions.length:=by
  unfold cz;rw[iH,bY];rfl
 have h3:k.lists.length=8+k.decl.regions.length:=by
  rw[h.lists];unfold oI;rw[iH,bY,bY,uu]
 show 0<=((dZ q.on (cz k.decl):Nat):Int)/\((dZ q.on (cz k.decl):Nat):Int)<_;omega
def ag2{p:kI Clue}{vh vs vr vc vu gh gc vn vl vp:vI}(hS:nZ k)(hP:wK p):
 fC prog 37 [.agg ⟨kZ k vh vs vr vc vu gh gc vn vl⟩,.agg ⟨[vp]⟩] (ai bO vp p::j6 k vh vs vr vc vu gh gc vn vl []) (λe:Int=>iV e) (λe=>(¬dH k->e=180)/\(dH k->¬age k p->e=190)/\(dH k->age k p->e=0)):=by
 refine gB 37 λB w0=>?_;refine gF bO vp p λJS cp ep=>?_;subst ep;refine go ?_;intro b2 b3;refine gP b2 ?_;refine gP b3 ?_;refine gC (agV (k:=k) hS) λb hb=>?_;cases b with
 |false=>
  exact da
 |true=>
 have hK:=hb.1 rfl;clear hb;have hend:¬age k p->(¬dH k->(190:Int)=180)/\(dH k->¬age k p->(190:Int)=190)/\(dH k->age k p->(190:Int)=0):=λhn=>⟨λh=>absurd hK h,λ_ _=>rfl,λ_ h=>absurd h hn⟩
 dsimp only[cond];refine gIf ?_ ?_<;>intro h1
 .refine go ?_;exact gQ 190 (hend λh=>by have:=h.len;omega)
 refine gN p.length 17 (λj=>j<=p.length/\(∀g∈p.take j,mY k g)/\∀(i:Nat) a b,i+1<j->p[i]? =some a->p[i+1]? =some b->gJ a b<0) ⟨bR _,An,λi a b h=>by omega⟩ ?_;rintro j ⟨hj,hall,hs⟩;refine gIf ?_ ?_<;>intro h2
 .refine gX bO (xs:=p) λ_ _ g (vg:vI) hg=>?_;have hgm:=aZ hg;have htk:=bZ hg;refine go ?_;intro b6;refine gC (ag0 (k:=k) (g:=g) (vv:=vg) hS hK.kE (hP.vals g hgm)) λb hb=>?_;cases b with
  |false=>
   refine go ?_;exact gQ 190 (hend λh=>by have:=hb.2 (h.right g hgm);cases this)
  |true=>
  have hR:=hb.1 rfl;have FV:∀x∈p.take (j+1),mY k x:=by
   exact sE
  refine gH ?_ ?_<;>intro h3
  .exact nh
  obtain⟨i,rfl⟩:∃i,j=i+1:=⟨j - 1,z7⟩
  refine go ?_;rw[show((i+1:Nat):Int) - 1=(i:Int)by omega];refine bi bO (xs:=p) (next:=λ_ _ g0 (OO:vI) hg0=>?_);refine gC (agZ (a:=g0) (b:=g) (va:=OO) (vb:=vg)) λ_ _=>?_;refine gIf ?_ ?_<;>intro h4
  .refine go ?_;exact gQ 190 (hend λh=>by have:=h.sorted i g0 g hg0 hg;omega)
  .exact fN
 have iR:j=p.length:=z7
 subst iR;rw[bU]at hall;refine go ?_;exact gQ 0 ⟨λh=>absurd hK h,λ_ h=>absurd ⟨z7,hall,λi a b ha hb=>hs i a b (bq.1 hb).1 ha hb⟩ h,λ_ _=>rfl⟩
abbrev OP(k:bD)(grid:kI Int):Prop:=Fin (k.grid.cells.length:Int) (k.decl.symbols.length:Int) grid
structure akO(k:bD)(p:List Clue)(grid:List Int)(e:Int):Prop where
 nk:¬dH k->e=180
 nf:dH k->¬OP k grid->e=200
 np:dH k->OP k grid->¬age k p->e=190
 ok:dH k->OP k grid->age k p->e=0
end Go.Proofs.YtoilpafpgndilaaGreat
namespace Go.Proofs.YtoilpafpgndilaaGreat
open Tryz (prog)
open Go.Ideal Kd Canon
def su(k:bD):kI Int:=k.decl.symbols.map (·.value)
structure V8(k:bD)(r:bN):Prop where
 kE:0<=r.family/\r.family<k.lists.length
 adJ:r.adJ<k.decl.aJ.length
structure V9(k:bD)(p:List Clue)(grid:List Int)(r:bN)(set other:Nat):Prop where
 s:nZ k
 ps:wK p
 kE:Fq k
 rin:V8 k r
 right:∀g∈p,mY k g
 gri:ae0 grid
 cells:∀x∈Jm k p r,ae1 grid x.1
 vals:ae2 (su k) grid
 cZ:kL k.aQ
 Vm:grid.length=k.aQ.length
 st:r.set=(set:Int)/\set<2^63
 ot:r.other=(other:Int)/\other<2^63
 kind:1<=r.kind/\r.kind<=11
 giv:r.kind=2\/r.kind=3\/r.kind=11->∀x∈Jm k p r,0<x.2.length
 few:∀x∈Jm k p r,x.1.length<=4096
 one:r.kind=11->∀x∈Jm k p r,0<x.1.length
section
variable {k:bD} {p:kI Clue} {grid:kI Int} {r:bN} {set other:Nat} {bv br:Nat} {vh vs vr vc vu gh gc vn vl vp vg vv v1 v2:vI}
def V9.aQ(H:V9 k p grid r set other):∀l∈k.aQ,∀b∈l,0<=b/\b<grid.length:=by
 intro l hl b hb;obtain⟨i,hi⟩:=jS hl;obtain⟨j,hj⟩:=jS hb;have:=H.cZ.ok i l hi j b hj;have:=H.Vm;omega
end
structure Bu(k:bD):Prop where
 dw:kD k.decl.w
 dh:kD k.decl.h
 gw:kD k.grid.w
 gh:kD k.grid.h
 holes:k.decl.holes.length<2^63
 eH:k.decl.symbols.length<2^63
 regs:k.decl.regions.length<2^63
 rZ:∀r∈k.decl.regions,r.lists.length<2^63/\∀l∈r.lists,l.length<2^63
 jg:k.decl.aJ.length<2^63
 kX:k.decl.rules.length<2^63
 rY:∀r∈k.decl.rules,r.names.length<2^63/\r.others.length<2^63
 JU:k.grid.holes.length<2^63
 cells:k.grid.cells.length<2^63
 aQ:k.aQ.length<2^63/\∀l∈k.aQ,l.length<2^63
 lists:k.lists.length<2^63/\∀l∈k.lists,l.length<2^63/\∀m∈l,m.length<2^63
structure ag3(k:bD):Prop where
 cells:k.grid.cells.length<=16
 JU:k.grid.holes.length<=256
 aQ:k.aQ.length<=20
 lists:k.lists.length<=12
 eH:k.decl.symbols.length<=6
 regs:k.decl.regions.length<=6
 jg:k.decl.aJ.length<=6
 kX:k.decl.rules.length<=10
 holes:k.decl.holes.length<=256
 each:∀l∈k.lists,l.length<=40
 reg:∀r∈k.decl.regions,r.lists.length<=20
def nZ.of{k:bD}(hB:Bu k)(hF:ag3 k):nZ k:=by
 have f1:=hF.cells;have f2:=hF.JU;have f5:=hF.eH;have f6:=hF.regs;have f7:=hF.jg;have f8:=hF.kX;have f9:=hF.holes;exact lO
def ap6{v:vI}{xs:kI Int}{x:Int}(hl:xs.length<2^63):dD prog 226 [v,iV x] [ai ae v xs] (.bool (decide (x∈xs))):=by
 refine gB 226 λB w0=>?_;refine gN xs.length 5 (λj=>j<=xs.length/\x∉xs.take j) ⟨bR _,An⟩ ?_;rintro j ⟨hj,hno⟩;refine gIf ?_ ?_<;>intro a1
 .refine go ?_;intro _ _ y hy;refine gIf ?_ ?_<;>intro a2
  .refine acM ?_;rw[dK (show x∈xs by rw[<- a2];exact aZ hy)];rfl
  .refine go ?_;refine aN (j+1) (by show xs.length - (j+1)<xs.length - j;omega) ⟨z7,?_⟩;rw[bZ hy];intro hx;rcases dX.1 hx with hx|hx
   .exact hno hx
   .exact a2 (bM.1 hx).symm
 have iR:j=xs.length:=z7
 subst iR;rw[bU]at hno;refine acM ?_;rw[aR hno];rfl
def amt{va vb:vI}{xs ys:kI Int}(hl:xs.length<2^63):dD prog 48 [va,vb] [ai ae va xs,ai ae vb ys] (.bool (decide (xs=ys))):=by
 refine gB 48 λB w0=>?_;refine gF ae va xs λa1 c1 e1=>?_;subst e1;refine gF ae vb ys λa2 c2 e2=>?_;subst e2;refine gIf ?_ ?_<;>intro h1
 .exact eA
 exact yp
def ag4{k:Int}(h:(fM k).read=true):1<=k/\k<=11:=by
 apply Classical.byContradiction;intro hn;have hc:(k<0\/14<=k)\/k=0\/k=12\/k=13:=z7
 rcases hc with hc|rfl|rfl|rfl
 .rw[Dj hc]at h;cases h
 .cases h
 .cases h
 .cases h
def anY{eH:kI ByteArray}(hs:eH.length<=16):∀(l:kI ByteArray),(∀s∈l,s∈eH)->gK eH l<2^16:=by
 have h:∀(l:kI ByteArray) (m:Nat),m<2^16->(∀s∈l,s∈eH)->l.foldl (λm s=>m|||1<<<dZ s eH) m<2^16:=by
  exact ga
 intro l hl;exact h l 0 AE hl
variable{k:bD}
def dH.rV(h:dH k){r:bN}(hr:r∈k.decl.rules):∃q∈k.decl.rules,r=mW (bX k.decl) (cz k.decl) (dO k.decl) q:=by
 have h1:r∈(Kd.bE k.decl).rules:=by rw[<- h.decl];exact hr
 obtain⟨q,hq,e⟩:=eT.1 (show r∈k.decl.rules.map (mW (bX k.decl) (cz k.decl) (dO k.decl))from h1);exact⟨q,hq,e.symm⟩
def dH.iL(h:dH k):k.lists.length=8+k.decl.regions.length:=by
 rw[h.lists];unfold oI;rw[iH,bY,bY,uu]
def dH.cZ(h:dH k):fE (aT k.decl):=⟨h.typ.Dk,rfl⟩
def dH.inr(h:dH k){r:bN}(hr:r∈k.decl.rules):V8 k r:=by
 obtain⟨q,hq,rfl⟩:=h.rV hr;have hro:=h.b.rs.rV q hq;have hl:=h.iL;have hfl:(cz k.decl).length=8+k.decl.regions.length:=by
  unfold cz;rw[iH,bY];rfl
 refine⟨?_,?_⟩
 .show 0<=(if q.on=⟨⟨[]⟩⟩then(0:Int)else(dZ q.on (cz k.decl):Int))/\(if q.on=⟨⟨[]⟩⟩then(0:Int)else(dZ q.on (cz k.decl):Int))<_;by_cases e:q.on=⟨⟨[]⟩⟩
  .rw[if_pos e];omega
  .rw[if_neg e];have:=AZ (hro.on.resolve_left e);omega
 .show(if q.dS=⟨⟨[]⟩⟩then(-1:Int)else(dZ q.dS (dO k.decl):Int))<_;by_cases e:q.dS=⟨⟨[]⟩⟩
  .rw[if_pos e];omega
  .rw[if_neg e];have h1:=AZ (hro.dS.resolve_left e);have h2:(dO k.decl).length=k.decl.aJ.length:=by unfold dO;rw[bY]
   omega
end Go.Proofs.YtoilpafpgndilaaGreat
namespace Go.Proofs.YtoilpafpgndilaaGreat
open Tryz (prog)
open Go.Ideal Kd Canon Gph
structure RF(k:bD)(r:bN):Prop where
 kd:1<=r.kind/\r.kind<=11
 x:wJ (fM r.kind) k.decl.aJ r
 by0:r.dS=qU↔r.adJ<0
 s1:∃n:Nat,r.set=(n:Int)/\n<2^k.decl.symbols.length
 s2:∃n:Nat,r.other=(n:Int)/\n<2^k.decl.symbols.length
 f0:0<=r.family/\r.family<k.lists.length
 cl:0<=r.adJ->(r.kind=2\/r.kind=3\/r.kind=5\/r.kind=11)/\∃c,k.decl.aJ[r.adJ.toNat]? =some c/\c.family=alx r/\qR c/\(r.kind=2\/r.kind=3->c.type=2)/\(r.kind=5->c.type=3)/\(r.kind=11->c.type=1)
 ncl:r.kind=5\/r.kind=11->0<=r.adJ
 op:r.kind=2\/r.kind=3->1<=r.op/\r.op<=3
def anZ{eH:kI ByteArray}:∀(l:kI ByteArray),(∀s∈l,s∈eH)->gK eH l<2^eH.length:=by
 have h:∀(l:kI ByteArray) (m:Nat),m<2^eH.length->(∀s∈l,s∈eH)->l.foldl (λm s=>m|||1<<<dZ s eH) m<2^eH.length:=by
  exact ga
 intro l hl;exact h l 0 (Nat.two_pow_pos _) hl
variable{k:bD}
def dH.rf(hK:dH k){r:bN}(hr:r∈k.decl.rules):RF k r:=by
 have hty:=hK.typ;have hin:=hK.inr hr;obtain⟨q,hq,hre⟩:=hK.rV hr;have hro:=hK.b.rs.rV q hq;have hrx:=hty.form.kX r hr;have hkd:1<=r.kind/\r.kind<=11:=by
  refine ag4 ?_;have:=hty.read;exact ki
 have hsl:(bX k.decl).length=k.decl.symbols.length:=by unfold bX;rw[bY]
 have hb1:r.dS=q.dS:=D4
 have hb2:r.adJ=if q.dS=qU then(-1:Int)else(dZ q.dS (dO k.decl):Int):=D4
 have hby:r.dS=qU↔r.adJ<0:=by
  rw[hb1,hb2];by_cases e:q.dS=qU
  .rw[if_pos e];exact⟨λ_=>by omega,λ_=>e⟩
  .rw[if_neg e];exact⟨λh=>absurd h e,λh=>by omega⟩
 refine⟨hkd,hrx,hby,⟨gK (bX k.decl) q.names,by rw[hre];rfl,by rw[<- hsl];exact anZ _ hro.names⟩,⟨gK (bX k.decl) q.others,by rw[hre];rfl,by rw[<- hsl];exact anZ _ hro.others⟩,hin.kE,?_,?_,?_⟩
 .intro hc;have hne:r.dS≠qU:=λe=>by have:=hby.1 e;omega
  rcases hrx.clu _ rfl with⟨_,a,_⟩|⟨a0,a1,a2,c,a3,a4,a5⟩
  .exact absurd a hne
  have hcp:=(hty.form.jg _ c a3).2;have hk:r.kind=1\/r.kind=2\/r.kind=3\/r.kind=4\/r.kind=5\/r.kind=6\/r.kind=7\/r.kind=8\/r.kind=9\/r.kind=10\/r.kind=11:=z7
  have hf:∀f:Int,alx r=f->c.family=f->c.family=alx r:=λf h1 h2=>by omega
  rcases hk with e|e|e|e|e|e|e|e|e|e|e<;>rw[e]at a0 a4 a5<;>simp[fM,hne]at a0 a4 a5
  .exact eV
  .exact eV
  .exact eV
  .refine⟨z7,c,a3,?_,hcp,z7,z7,z7⟩;unfold alx;rw[if_neg z7,if_neg z7,if_pos e];unfold qR at hcp;omega
 .intro h;rcases hrx.clu _ rfl with⟨a0,_,_⟩|⟨_,a1,_⟩
  .rcases h with e|e<;>rw[e]at a0<;>simp[fM]at a0
  .exact a1
 .intro h;refine hrx.op.1 ?_;rcases h with e|e<;>rw[e]<;>rfl
def RF.vals{p:kI Clue}{r:bN}{ls:kI (kI Int)}(h:RF k r)(hQ:age k p){y:Nat×kI Int×kI Int}(hy:y∈amY p r ls):
 (r.adJ<0/\y.2.2=[])\/(0<=r.adJ/\∃c,k.decl.aJ[r.adJ.toNat]? =some c/\qR c/\((c.type=1/\r.kind=11/\y.2.2.length=1/\∀x∈y.2.2,0<=x/\x<=(k.decl.symbols.length:Int) - 1)\/(c.type=2/\(r.kind=2\/r.kind=3)/\y.2.2.length=1/\∀x∈y.2.2,0<=x/\x<=65536)\/
   (c.type=3/\r.kind=5/\y.2.2.length<=8/\∀x∈y.2.2,1<=x/\x<=256))):=by
 obtain⟨h1,h2⟩:=apF.1 hy;rcases h2 with h2|⟨h2,h3⟩
 .exact .inl h2
 right;refine⟨h2,?_⟩;obtain⟨hk,c,c1,c2,c3,c4,c5,c6⟩:=h.cl h2;refine⟨c,c1,c3,?_⟩;obtain⟨g,g1,g2,g3,g4⟩:=(apE hQ).1 h3;obtain⟨c',l,a1,a2,a3,a4,a5,a6⟩:=hQ.right g g1;rw[g2,c1]at a2;cases a2;rw[g4]at a6;have hcp:=c3;unfold qR at hcp;have hn:∀x:Int,c.lo<=x/\x<=c.hi->c.type=2->0<=x/\x<=65536:=λx hx ht=>by omega
 rcases a6 with⟨b1,b2,b3⟩|⟨b1,b2,b3⟩|⟨b1,b2,b3,b4⟩
 .exact .inl ⟨b1,z7,b2,b3⟩
 .exact .inr (.inl ⟨b1,z7,b2,λx hx=>hn x (b3 x hx) b1⟩)
 .exact .inr (.inr ⟨z7,z7,b3,b4⟩)
end Go.Proofs.YtoilpafpgndilaaGreat
namespace Go.Proofs.YtoilpafpgndilaaGreat
open Tryz (prog)
open Go.Ideal Kd Canon Go.Sort
def ap7:amn prog 98 3:=λα _ enc cf g cb blk off cap d w hk h1 hO eg hcmp hH hblk hsz=>AnyQ.slices_SortFunc Tryz.laysF6 3 Tryz.isAgg76 Tryz.sizeOf76 enc hk h1 cf hO g cb blk off cap d w eg hcmp hH hblk hsz
def ap8:amo prog 98:=λp cap fv w=>AnyF.slices_SortFunc_none Tryz.laysF6 p cap fv w
def ap9{α:Type}{c:α->α->Int}(h:EH c):SWO (ltOf c):=by
 have hz:=h.zero;have hn:=h.neg;have ht:=h.trans;refine⟨λx=>?_,λx y z h1 h2=>?_,λx y z h1 h2=>?_⟩
 .have:=(hz x x).2 rfl;exact aR z7
 .exact dK (ht x y z (iI h1) (iI h2))
 .have h1:¬c x y<0:=nC h1;have h2:¬c y z<0:=nC h2;refine aR λh3=>?_;by_cases e1:c x y=0
  .rw[(hz x y).1 e1]at h3;exact h2 h3
  by_cases e2:c y z=0
  .rw[<- (hz y z).1 e2]at h3;exact h1 h3
  have h4:=(hn z y).2 z7;have h5:=(hn y x).2 z7;have h6:=ht z y x h4 h5;have h7:=(hn z x).1 h6;omega
def aqa{a b:Clue}{va vb:vI}(ha:a.values.length<=1000000)(hb:b.values.length<=1000000):dD prog 99 [wy a va,wy b vb] [ai ae va a.values,ai ae vb b.values] (iV (nW a b)):=by
 refine gB 99 λB w0=>?_;refine go ?_;intro b2 b3;refine gC (agZ (a:=a) (b:=b) (va:=va) (vb:=vb)) λ_ _=>?_;refine gC (agW (xs:=a.values) (ys:=b.values) ha hb) λ_ _=>?_;refine go ?_;intro b15;refine aie (A:=pt b15 (.cells [iV (gJ a b),iV (fK eU a.values b.values)])) (fs:=[ai ae (.slice (some ⟨b15,0,some 0⟩) 2 2) [gJ a b,fK eU a.values b.values]]) (uR (b:=b15) (f:=0) (c:=2) (xs:=[gJ a b,fK eU a.values b.values])) (h:=?_);refine gC (agY (xs:=[gJ a b,fK eU a.values b.values]) An) λ_ _=>?_;refine acM ?_;rw[abv,<- Uy];simp only[uW];by_cases h1:gJ a b=0
 .by_cases h2:fK eU a.values b.values=0
  .simp[h1,h2];rfl
  .simp[h1,h2];rfl
 .simp[h1];rfl
def aqb{xs:kI Clue}{a:x8 Addr}(hlen:xs.length<4611686018427387904)(hv:∀x∈xs,x.values.length<=1000000):
 bA prog (.func 98) [.slice a xs.length xs.length,.func (.func 99) ⟨[]⟩ ⟨[]⟩] [] [ap bO (.slice a xs.length xs.length) xs] [] (λ_:kI Clue=>.tuple ⟨[]⟩) (λys=>[ap bO (.slice a xs.length xs.length) ys]) (λ_=>[]) (λys=>ys.Perm xs/\ys.Pairwise λx y=>¬nW y x<0):=by
 refine apn Ax ap7 ap8 Tryz.func98 rfl AE Tryz.func99 rfl AE rfl AE (ap9 R7) (λx hx y hy u v=>?_) hlen;exact aqa (hv x hx) (hv y hy)
open Go.Ideal Kd Canon
def an0{a b:Clue}{va vb:vI}:dD prog 101 [wy a va,wy b vb] [] (.bool (akF a b)):=by
 refine gB 101 λB w0=>?_;refine go ?_;intro b2 b3;refine gC (agZ (a:=a) (b:=b) (va:=va) (vb:=vb)) λ_ _=>?_;exact afN
abbrev CV:=Clue×bO.Y
abbrev ak1(p q:CV):Bool:=akF p.1 q.1
def aqc{β:Type}{eq:β->β->Bool}:∀{l:kI β},l.length<2->akN eq l=l
 |[],_=>rfl
 |[_],_=>rfl
 |_::_::_,h=>by simp at h;omega
def al5{α:Type}{l:kI α}{k:Nat}{x:α}(h:l[k]? =some x):l.take (k+1)=l.take k++[x]:=by
 rw[nP,h];rfl
variable{xs:kI Clue}
def aqd{b f m:Nat}(hl:xs.length<=1000000):bA prog (.func 100) [.slice (some ⟨b,0,some f⟩) m m,.func (.func 101) ⟨[]⟩ ⟨[]⟩] [] [ap bO (.slice (some ⟨b,0,some f⟩) m m) xs] [] (λv:vI=>v) (λ_=>[]) (λv=>[ai bO v (akN akF xs)]) (λ_=>True):=by
 refine gB 100 λB w0=>?_;refine adB bO λaC hxy hm hf=>?_;have hgn:bO.n=3:=rfl;have hlen:aC.length=xs.length:=Ek
 subst hm;rw[<- hlen];have hcm:(akN ak1 aC).map (·.1)=akN akF xs:=by rw[<- hxy];exact apJ (·.1) (λ_ _=>rfl) aC
 rw[<- hcm];have hall:∀{F:kI aO} {zs:kI CV},pG bO aC∈F->(∀p∈zs,p∈aC)->∀w,(∀f∈F,f.p w)->(pG bO zs).p w:=λhF hz w h p hp f hf=>h _ hF p (hz p hp) f hf;refine gIf ?_ ?_<;>intro h1
 .rw[aqc (eq:=ak1) (show aC.length<2 by omega)];exact gx
 refine gL (λk=>aC.length - k) (λk:Nat=>[(5,iV (k:Int))]) (λk=>1<=k/\k<=aC.length/\∀p,aC[k - 1]? =some p->akN ak1 aC=aC.take k++cgo ak1 p (aC.drop k)) 1 ⟨z7,z7,λp hp=>?_⟩ ?_
 .cases aC with
  |nil=>cases hp
  |cons x l=>cases hp;rfl
 rintro k ⟨hk1,hkn,hck⟩;refine gIf ?_ ?_<;>intro h2
 rotate_left
 .have hk:k=aC.length:=by omega
  obtain⟨p,hp⟩:∃p,aC[k - 1]? =some p:=⟨_,bP z7⟩
  have hck:=hck p hp;rw[hk,alV,bU,cgo,gU]at hck;rw[hck];exact gx
 have hkl:k<aC.length:=z7
 obtain⟨p,hp⟩:∃p,aC[k - 1]? =some p:=⟨_,bP z7⟩
 obtain⟨y,hy⟩:∃y,aC[k]? =some y:=⟨_,bP hkl⟩
 have hck:=hck p hp;rw[drop_cons hy,cgo]at hck;refine go ?_;refine adA bO (o:=0+k*3) hy B6 ?_;refine go ?_;refine adA bO (o:=0+((k:Int) - 1).toNat*3) hp B6 ?_;refine gC (an0 (a:=y.1) (b:=p.1) (va:=y.2) (vb:=p.2)) λ_ _=>?_;refine go ?_;cases he:akF y.1 p.1 with
 |false=>
  refine go ?_;refine aN (k+1) (by show aC.length - (k+1)<aC.length - k;omega) ⟨z7,z7,λp' hp'=>?_⟩;rw[Nat.add_sub_cancel,hy]at hp';cases hp';rw[hck,al5 hy,show ak1 y p=false from he,cond_false,List.append_assoc];rfl
 |true=>
  rw[show ak1 y p=true from he,cond_true]at hck;refine go ?_;refine(fA rfl rfl (amV (lo:=k) (hi:=aC.length) rfl G4 z7 (.inr ⟨_,rfl,rfl⟩) (.inl ⟨rfl,rfl⟩) z7 (bT _))).h ?_;refine go ?_;refine aU (λx:Nat×Nat×kI CV=>aC.length - x.2.1) (λx=>[(7,iV (x.2.1:Int)),(5,iV (x.1:Int))]) (λx=>[pt b (.cells (eG bO x.2.2))]) (λ_=>[])
   (λx=>1<=x.2.1/\k+x.2.1<=aC.length/\k<=x.1/\x.1+1<=k+x.2.1/\x.2.2.length=aC.length/\(∀j,k+x.2.1 - 1<=j->x.2.2[j]? =aC[j]?)/\(∀p,aC[k+x.2.1 - 1]? =some p->akN ak1 aC=x.2.2.take x.1++cgo ak1 p (aC.drop (k+x.2.1)))/\∀q∈x.2.2,q∈aC)
   (k,1,aC) ⟨bT _,by dsimp only;omega,bT _,bT _,rfl,λ_ _=>rfl,λp' hp'=>?_,λq hq=>hq⟩ (body:=?_)
  .rw[show k+1 - 1=k by omega,hy]at hp';cases hp';exact hck
  rintro⟨kk,k2,zs⟩ ⟨i1,i2,i3,i4,i5,i6,i7,i8⟩;dsimp only at i1 i2 i3 i4 i5 i6 i7 i8⊢;obtain⟨p2,hp2⟩:∃p,aC[k+k2 - 1]? =some p:=⟨_,bP z7⟩
  have i7:=i7 p2 hp2;refine gIf ?_ ?_<;>intro h3
  rotate_left
  .have hk2:k+k2=aC.length:=by omega
   rw[hk2,alV,cgo,gU]at i7;have hkk:(zs.take kk).length=kk:=by rw[gT];omega
   refine go ?_;refine(fA rfl rfl (amV (lo:=kk) (hi:=aC.length) rfl G4 z7 (.inr ⟨_,rfl,rfl⟩) (.inl ⟨rfl,rfl⟩) z7 (bT _))).h ?_;have hov:jV (eG bO zs) (0+kk*3) (zeros [iV (.ofNat 0),iV (.ofNat 0),.slice none 0 0] (aC.length - kk))=some (eG bO (zs.take kk)++zeros [iV (.ofNat 0),iV (.ofNat 0),.slice none 0 0] (aC.length - kk)):=by
    have hz:=zeros_length [iV (.ofNat 0),iV (.ofNat 0),.slice none 0 0] (aC.length - kk);have e1:eG bO zs=eG bO (zs.take kk)++eG bO (zs.drop kk):=by rw[<- amU,uq]
    have e2:(eG bO (zs.take kk)).length=0+kk*3:=by rw[za,hkk,hgn];omega
    have e3:(eG bO (zs.drop kk)).length=(aC.length - kk)*3:=by rw[za,sO,hgn,i5]
    have hz3:(zeros [iV (.ofNat 0),iV (.ofNat 0),.slice none 0 0] (aC.length - kk)).length=(aC.length - kk)*3:=by rw[hz];rfl
    rw[e1,<- e2,anR (by rw[hz3,e3];exact bT _),List.drop_of_length_le (by rw[hz3,e3];exact bT _),gU]
   refine apr hov z7 ?_;refine go ?_;refine(fA rfl rfl (amV (lo:=0) (hi:=kk) rfl G4 z7 (.inl ⟨rfl,rfl⟩) (.inr ⟨_,rfl,rfl⟩) z7 z7)).h ?_;rw[Gh,fo,Dz,Dz];refine go ?_;refine adC bO (aC:=zs.take kk) (c:=aC.length) hf z7 ?_ (hall An λq hq=>i8 q (BJ hq));rw[i7,hkk];exact gQ (.slice (some ⟨b,0,some f⟩) kk aC.length) trivial
  have hlt:k+k2<aC.length:=z7
  obtain⟨y2,hy2⟩:∃y,aC[k+k2]? =some y:=⟨_,bP hlt⟩
  have hzy:zs[k+k2]? =some y2:=by rw[i6 _ z7,hy2]
  have hzp:zs[k+k2 - 1]? =some p2:=by rw[i6 _ z7,hp2]
  rw[drop_cons hy2,cgo]at i7;refine go ?_;refine adA bO (o:=0+k*3+k2*3) hzy B6 ?_;refine go ?_;refine adA bO (o:=0+k*3+((k2:Int) - 1).toNat*3) hzp B6 ?_;refine gC (an0 (a:=y2.1) (b:=p2.1) (va:=y2.2) (vb:=p2.2)) λ_ _=>?_;refine go ?_;cases he2:akF y2.1 p2.1 with
  |true=>
   rw[show ak1 y2 p2=true from he2,cond_true]at i7;refine go ?_;refine aN (kk,k2+1,zs) IS ⟨by dsimp only;omega,by dsimp only;omega,i3,by dsimp only;omega,i5,λj hj=>i6 j (by dsimp only at hj;omega),λp' hp'=>?_,i8⟩;rw[show k+(k2+1) - 1=k+k2 by omega,hy2]at hp';cases hp';exact i7
  |false=>
   rw[show ak1 y2 p2=false from he2,cond_false]at i7;refine go ?_;refine adA bO (o:=0+k*3+k2*3) hzy B6 ?_;refine go ?_;refine apq bO (aC:=zs) (k:=kk) (o:=0+kk*3) y2 z7 B6 ?_;refine go ?_;have htk:(zs.set kk y2).take (kk+1)=zs.take kk++[y2]:=by
    rw[al5 (x:=y2) (by rw[List.getElem?_set_self z7]),List.take_set_of_le (bT _)]
   refine aN (kk+1,k2+1,zs.set kk y2) IS ⟨by dsimp only;omega,by dsimp only;omega,by dsimp only;omega,by dsimp only;omega,by rw[pV];exact i5,λj hj=>?_,λp' hp'=>?_,λq hq=>?_⟩
   .dsimp only at hj⊢;rw[List.getElem?_set_ne z7];exact i6 j z7
   .rw[show k+(k2+1) - 1=k+k2 by omega,hy2]at hp';cases hp';rw[htk,i7,List.append_assoc];rfl
   .rcases anJ hq with h|h
    .exact i8 q h
    .rw[h];exact aZ hy2
def ag5(a:x8 Addr)(n:Nat):Prop:=(a=none/\n=0)\/∃b f,a=some ⟨b,0,some f⟩
variable{v:vI}
def ag6(hl:xs.length<=1000000):bA prog (.func 78) [v] [] [] [ai bO v xs] (λa:x8 Addr=>.slice a xs.length xs.length) (λa=>[ap bO (.slice a xs.length xs.length) xs]) (λ_=>[]) (λa=>ag5 a xs.length):=by
 refine gB 78 λB w0=>?_;refine IW bO v (xs:=xs) λaC hxy=>?_;have hlen:aC.length=xs.length:=Ek
 refine Tp (aC:=aC) (v:=v) (E:=bO) ?_;refine adD (v:=v) (aC:=aC) bO (λe c ev=>?_) (λe i o f c ev=>?_) (λhne i o f c ev=>?_)
 .subst e ev;have hx:xs=[]:=by rw[<- hxy];rfl
  subst hx;simp only[Dx];refine go ?_;refine(fA rfl rfl (Fe (e:=76) Ax rfl)).h ?_;refine go ?_;refine af5 bO ?_;exact gQ none (.inl ⟨rfl,rfl⟩)
 .subst e ev;have hx:xs=[]:=by rw[<- hxy];rfl
  subst hx;simp only[Dx];refine go ?_;refine(fA rfl rfl (zb (e:=76) Ax rfl)).h ?_;refine go ?_;intro b;refine go ?_;refine IY (b:=b) ?_;refine go ?_;refine Sg bO az.here ?_;exact gQ (some ⟨b,0,some 0⟩) (.inr ⟨b,0,rfl⟩)
 .subst ev;refine go ?_;refine(fA rfl rfl (zb (e:=76) Ax rfl)).h ?_;refine go ?_;intro b;refine go ?_;refine IZ (b:=b) bO aC hne z7 (λb'=>?_);refine go ?_;refine tT (b:=b') (m:=aC.length) (f:=bO.n) bO (aC:=aC) rfl (.inr rfl) ?_ (hk:=az.here);refine TR (aC:=aC) hne ?_ (λw h=>h _ An);rw[hxy,hlen];exact gQ (some ⟨b',0,some bO.n⟩) (.inr ⟨b',_,rfl⟩)
def aqf:fC prog 100 [.slice none 0 0,.func (.func 101) ⟨[]⟩ ⟨[]⟩] [] (λ_:Unit=>.slice none 0 0) (λ_=>True):=by
 refine gB 100 λB w0=>?_;exact afN
def aqg(hl:xs.length<=1000000)(hv:∀x∈xs,x.values.length<=1000000):bA prog (.func 54) [v] [] [] [ai bO v xs] (λy:vI×kI Clue=>.agg ⟨[y.1]⟩) (λ_=>[]) (λy=>[ai bO y.1 y.2]) (λy=>l7 xs y.2):=by
 refine gB 54 λB w0=>?_;refine go ?_;intro b2;refine gC (ag6 (xs:=xs) hl) λa ha=>?_;refine gC (aqb (xs:=xs) (a:=a) z7 hv) λys hy=>?_;have hlen:ys.length=xs.length:=hy.1.length_eq;have hok:=apK hy.1 hy.2;refine go ?_;rcases ha with⟨rfl,h0⟩|⟨b,f,rfl⟩
 .have hx:xs=[]:=jy.1 h0;subst hx;have hys:ys=[]:=jy.1 (hlen.trans h0);subst hys;refine ay aqf (next:=λ_ _=>?_);refine go ?_;refine eF (ai bO (.slice none 0 0) []) (λw hw=>.inl ⟨rfl,none,0,rfl,trivial⟩) ?_;exact gQ (.slice none 0 0,[]) hok
 .refine ay (aqd (xs:=ys) (b:=b) (f:=f) (m:=xs.length) z7) (next:=λvr _=>?_);refine gF bO vr (akN akF ys) λar1 cr er=>?_;subst er;refine go ?_;exact gQ (.slice ar1 (akN akF ys).length cr,akN akF ys) hok
end Go.Proofs.YtoilpafpgndilaaGreat
namespace Go.Proofs.YtoilpafpgndilaaGreat
open Tryz (prog)
open Go.Ideal Kd Canon
variable{va vb:vI}
def WY{xs ys:kI Int}(hal:xs.length<=1000000)(hbl:ys.length<=1000000):
 dD prog 71 [va,vb] [ai ae va xs,ai ae vb ys] (iV (fK eU xs ys)):=by
 refine gB 71 λB w0=>?_;refine gN xs.length 5 (λk=>k<=xs.length/\k<=ys.length/\fK eU xs ys=fK eU (xs.drop k) (ys.drop k)) ⟨z7,z7,rfl⟩ ?_;rintro k ⟨hkx,uj,mH⟩;refine gH ?_ ?_<;>intro h1
 .exact cH
 refine gIf ?_ ?_<;>intro h2
 rotate_left
 .exact cH
 refine go ?_;intro _ _ x hx _ _ y hy;refine aA rfl ?_ ?_<;>intro h3
 .exact tE
 refine go ?_;intro _ _ x' hx' _ _ y' hy';cases hx.symm.trans hx';cases hy.symm.trans hy';refine aA rfl ?_ ?_<;>intro h4
 .exact s9
 refine go ?_;refine aN (k+1) z7 ⟨z7,z7,?_⟩;rw[mH,drop_cons hx,drop_cons hy,fK,eU,if_neg h3,if_neg h4];rfl
def WZ{b:Nat}{x y:Int}:rH (pt b (.cells [iV x,iV y])) [ai ae (.slice (some ⟨b,0,some 0⟩) 2 2) [x,y]]:=uR (xs:=[x,y])
def short(l:kI Clue):Prop:=∀g∈l,g.values.length<=1000000
variable{a b:Clue}
def WX:dD prog 70 [wy a va,wy b vb] [] (iV (fK eU [a.adJ,a.at_] [b.adJ,b.at_])):=by
 refine gB 70 λB w0=>?_;refine go ?_;intro b1 b2 b3 b4;refine gZ (WZ) ?_;refine gZ (WZ) ?_;refine ay (WY (xs:=[a.adJ,a.at_]) (ys:=[b.adJ,b.at_]) An An) (next:=λ_ _=>?_);exact afN
def aqh(hal:a.values.length<=1000000)(hbl:b.values.length<=1000000):
 dD prog 35 [wy a va,wy b vb] [ai ae va a.values,ai ae vb b.values] (.bool (decide (a=b))):=by
 refine gB 35 λB w0=>?_;refine go ?_;intro b1 b2;refine ay (WX (a:=a) (b:=b)) (next:=λ_ _=>?_);refine go ?_;have hz:=(xK xJ).zero [a.adJ,a.at_] [b.adJ,b.at_];refine gG ?_ ?_<;>intro h1
 .refine acM ?_;rw[aR (λe=>h1 (hz.2 A1))];rfl
 refine gC (WY hal hbl) λ_ _=>?_;refine acM ?_;have e1:=hz.1 h1;simp only[zR,yC]at e1;have:decide (fK eU a.values b.values=0)=decide (a=b):=by
  rw[nO,(xK xJ).zero];obtain⟨c,p,l⟩:=a;obtain⟨d,q,m⟩:=b;simp only[Clue.mk.injEq]at e1⊢;exact⟨λe=>⟨e1.1,e1.2,e⟩,λe=>e.2.2⟩
 rw[<- this];rfl
def F3{xs ys:kI Clue}(hal:xs.length<=1000000)(hx:short xs)(hy:short ys):
 dD prog 14 [.agg ⟨[va]⟩,.agg ⟨[vb]⟩] [ai bO va xs,ai bO vb ys] (.bool (decide (xs=ys))):=by
 refine gB 14 λB w0=>?_;refine go ?_;intro b2 b3;refine aA rfl ?_ ?_<;>intro h1
 .exact ez
 have hlen:xs.length=ys.length:=z7
 refine gN xs.length 5 (λk=>k<=xs.length/\∀j,j<k->xs[j]? =ys[j]?) ⟨z7,λj hj=>by omega⟩ ?_;rintro k ⟨hkx,hsame⟩;refine gIf ?_ ?_<;>intro h2
 .refine gX bO λ_ _ x (vx:vI) hxk=>?_;refine gX bO λ_ _ y (vy:vI) hyk=>?_;refine gC (aqh (a:=x) (b:=y) (hx x (aZ hxk)) (hy y (aZ hyk))) λ_ _=>?_;refine go ?_;refine fq rfl (λh3=>?_) (λh3=>?_)
  .refine acM ?_;rw[aR (λe=>h3 (by rw[e,hyk]at hxk;cases hxk;rfl))];rfl
  refine go ?_;refine aN (k+1) z7 ⟨z7,λj hj=>?_⟩;by_cases e:j=k
  .subst e;rw[hxk,hyk,h3]
  .exact hsame j z7
 refine acM ?_;have:xs=ys:=by
  exact cN
 rw[dK this];rfl
end Go.Proofs.YtoilpafpgndilaaGreat
namespace Go.Proofs.YtoilpafpgndilaaGreat
open Tryz (prog)
open Go.Ideal Kd Canon
def akV(l rs:kI Clue)(i:Nat)(best:Int):Prop:=(best= -1/\∀x∈l.take i,opn rs x=false)\/∃(b:Nat) (y:Clue),best=(b:Int)/\l[b]? =some y/\opn rs y=true/\∀x∈l.take i,opn rs x=true->¬nW x y<0
variable{l rs:kI Clue}{i:Nat}{x:Clue}{best:Int}
def akV.skip(h:akV l rs i best)(hx:l[i]? =some x)(ho:opn rs x=false):akV l rs (i+1) best:=by
 have hm:∀z∈l.take (i+1),z∈l.take i\/z=x:=λz hz=>by
  rw[al5 hx]at hz;rcases dX.1 hz with h|h
  .exact .inl h
  .exact .inr (bM.1 h)
 rcases h with⟨h1,h2⟩|⟨b,y,h1,h2,h3,h4⟩
 .refine .inl ⟨h1,λz hz=>?_⟩;rcases hm z hz with h|h
  .exact h2 z h
  .rw[h];exact ho
 .refine .inr ⟨b,y,h1,h2,h3,λz hz hoz=>?_⟩;rcases hm z hz with h|h
  .exact h4 z h hoz
  .rw[h,ho]at hoz;cases hoz
def akV.take(h:akV l rs i best)(hx:l[i]? =some x)(ho:opn rs x=true)(hb:best= -1\/∃(b:Nat) (y:Clue),best=(b:Int)/\l[b]? =some y/\nW x y<0):akV l rs (i+1) (i:Int):=by
 have hO:=R7;refine .inr ⟨i,x,rfl,hx,ho,λz hz hoz hlt=>?_⟩;rw[al5 hx]at hz;rcases dX.1 hz with hz|hz
 .rcases h with⟨h1,h2⟩|⟨b,y,h1,h2,h3,h4⟩
  .rw[h2 z hz]at hoz;cases hoz
  .rcases hb with hb|⟨b',y',e1,e2,e3⟩
   .omega
   .have:b'=b:=by omega
    subst this;cases h2.symm.trans e2;exact h4 z hz hoz (hO.trans z x y hlt e3)
 .rw[bM.1 hz]at hlt;have:=(hO.zero x x).2 rfl;omega
def akV.keep{b:Nat}{y:Clue}(h:akV l rs i (b:Int))(hx:l[i]? =some x)(hy:l[b]? =some y)(hn:¬nW x y<0):akV l rs (i+1) (b:Int):=by
 rcases h with⟨h1,h2⟩|⟨b',y',h1,h2,h3,h4⟩
 .omega
 .have:b'=b:=by omega
  subst this;cases h2.symm.trans hy;refine .inr ⟨b',y,rfl,hy,h3,λz hz hoz=>?_⟩;rw[al5 hx]at hz;rcases dX.1 hz with hz|hz
  .exact h4 z hz hoz
  .rw[bM.1 hz];exact hn
def aqi{v:vI}{xs:kI Clue}(hl:xs.length<=1000000)(hv:∀x∈xs,x.values.length<=1000000):bA prog (.func 85) [v] [] [] [ai bO v xs] (λy:vI×kI Clue=>.agg ⟨[y.1]⟩) (λ_=>[]) (λy=>[ai bO y.1 y.2]) (λy=>l7 xs y.2):=by
 refine gB 85 λB w0=>?_;refine gF bO v xs λav cv OM=>?_;subst OM;refine go ?_;intro b2 b3;refine go ?_;refine af5 bO ?_;refine aU (λx:Nat×vI×kI Clue=>xs.length - x.1) (λx=>[(4,iV (x.1:Int))]) (λx=>[pt b3 (.cells [x.2.1]),ap bO x.2.1 x.2.2]) (λ_=>[]) (λx=>x.1<=xs.length/\NB xs x.2.2 x.1/\x.2.2.length=x.1) (0,.slice none 0 0,[]) ⟨bR _,apL,rfl⟩ (body:=?_);rintro⟨n,vr,rs⟩ ⟨hn,hsel,hlen⟩;dsimp only at hn hsel hlen⊢;refine aps (E:=bO) (v:=vr) (xs:=rs) λar1 hr1 _=>?_;subst hr1;refine gIf ?_ ?_<;>intro h1
 rotate_left
 .have hnx:n=xs.length:=by omega
  subst hnx;refine go ?_;refine aie (A:=ap bO (.slice ar1 rs.length rs.length) rs) (fs:=[ai bO (.slice ar1 rs.length rs.length) rs]) gz (h:=?_);exact gQ (.slice ar1 rs.length rs.length,rs) hsel.full
 refine gL (λx:Nat×Int=>xs.length - x.1) (λx=>[(6,iV (x.1:Int)),(5,iV x.2)]) (λx=>x.1<=xs.length/\akV xs rs x.1 x.2) (0, -1) ⟨bR _,.inl ⟨rfl,An⟩⟩ ?_;rintro⟨i,best⟩ ⟨hi,hb⟩;dsimp only at hi hb⊢;refine gIf ?_ ?_<;>intro h2
 rotate_left
 .have hix:i=xs.length:=by omega
  rw[hix]at hb;unfold akV at hb;rw[bU]at hb;refine go ?_;rcases hb with⟨rfl,hb⟩|⟨b,y,rfl,hy,ho,hb⟩
  .refine go ?_;refine aie (A:=ap bO (.slice ar1 rs.length rs.length) rs) (fs:=[ai bO (.slice ar1 rs.length rs.length) rs]) gz (h:=?_);exact gQ (.slice ar1 rs.length rs.length,rs) (hsel.stop hb)
  .refine aA rfl ?_ ?_<;>intro h3
   .omega
   have hbl:=(bq.1 hy).1;refine gX bO (xs:=xs) λ_ _ y' (vy:vI) hy'=>?_;cases hy.symm.trans hy';refine go ?_;intro b90;refine go ?_;refine fB bO (xs:=rs) y vy z7 (λad=>?_);refine go ?_;refine aN (n+1,.slice ad (rs.length+1) (rs.length+1),rs++[y]) (by show xs.length - (n+1)<xs.length - n;omega) ⟨by dsimp only;omega,hsel.step (aZ hy) ho hb,by dsimp only;rw[iH,hlen];rfl⟩
 have hil:i<xs.length:=z7
 refine go ?_;obtain⟨x,hx⟩:∃x,xs[i]? =some x:=⟨_,bP hil⟩
 refine gG ?_ ?_<;>intro h3
 .have hr0:rs=[]:=jy.1 z7;have hox:opn rs x=true:=by rw[hr0];rfl
  exact cj
 .obtain⟨z,hz⟩:∃z,rs[rs.length - 1]? =some z:=⟨_,bP z7⟩
  have hzl:rs.getLast? =some z:=by rw[List.getLast?_eq_getElem?];exact hz
  have hzo:opn rs x=decide (0<gJ x z):=by unfold opn;rw[hzl]
  refine gX bO (xs:=xs) λ_ _ x0 (vx0:vI) hx0=>?_;cases hx.symm.trans hx0;refine go ?_;rw[show((rs.length:Nat):Int) - 1=((rs.length - 1:Nat):Int)by omega];refine apt bO (xs:=rs) (rs.length - 1) z hz (λ_ _ (vz:vI)=>?_);rw[show∀F:kI aO,bO.fs z vz++F=ai ae vz z.values::F from λF=>rfl];refine gC (WX (a:=x) (b:=z) (va:=vx0) (vb:=vz)) λ_ _=>?_;rw[<- Uy];refine gIf ?_ ?_<;>intro h4
  .refine go ?_;refine aN (i+1,best) IT ⟨by dsimp only;omega,hb.skip hx (by rw[hzo];exact aR z7)⟩
  have hox:opn rs x=true:=by rw[hzo];exact dK z7
  exact cj
