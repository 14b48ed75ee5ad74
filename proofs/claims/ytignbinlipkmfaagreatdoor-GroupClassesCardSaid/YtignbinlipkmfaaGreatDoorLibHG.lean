/- Part. -/
import Derived.Test.YtignbinlipkmfaaGreatDoorLibGG
set_option linter.all false
set_option maxRecDepth 10000
set_option maxHeartbeats 4000000
namespace Go.Proofs.YtignbinlipkmfaaGreatDoor
open Tryz (prog)
open Go.Ideal Kd
noncomputable def YZ:gK:=⟨51,[(.tmp 2)],(.seq (kO [kS 2 (.pq (.const (iV 0)))]) (.seq (.seq (kO [kM 4 0,kM 5 0,kS 6 (.lW 5),kS 7 (.fM 0 6),kS 8 (.fM 0 7),kS 9 (.fM 2 8),kS 10 (.gJ 9),kM 11 0,kS 12 (.lW 11),kS 13 (.fM 0 12),kS 14 (.fM 0 13),kS 15 (.fM 3 14),kS 16 (.gJ 15),kM 17 0,kS 18 (.lW 17),kS 19 (.fM 0 18),kS 20 (.fM 0 19),kS 21 (.fM 4 20),kS 22 (.gJ 21),kM 23 0,kS 24 (.lW 23),kS 25 (.fM 0 24),kS 26 (.fM 0 25),kS 27 (.fM 5 26),kS 28 (.gJ 27),kS 29 (kC 96 [10,16,22,28]),kM 3 29,kS 30 (.extract 3 0),kS 31 (.extract 3 1),kS 32 (.lW 4),kS 33 (.fM 0 32),kS 34 (.fM 10 33),kN (.store 5 34 30),kS 2 (.pq 31)]) (.seq (kO [kM 35 2,kS 36 (.bin .eql 37 35 (.const (iV 0)))]) (.cond 36 (kO [kM 38 0,kM 39 0,kS 40 (.lW 39),kS 41 (.fM 0 40),kS 42 (.fM 10 41),kS 43 (.rA 5 42),kS 44 (kC 97 [43]),kM 37 44,kS 45 (.extract 37 0),kS 46 (.extract 37 1),kS 47 (.lW 38),kS 48 (.fM 0 47),kS 49 (.fM 15 48),kN (.store 1 49 45),kS 2 (.pq 46)]) .skip))) (.seq (kO [kM 50 2,kS 2 (.pq 50)]) .ret)))⟩
def alS:lu prog 54=some YZ:=qk
abbrev bL(d:dA)(vh vs vr vc vu g1 g2 g3 g4 g5 g6 g7:ah):ae ah:=[.string d.name,iV d.version,iV d.shape,iV d.w,iV d.h,vh,vs,vr,vc,vu,g1,g2,g3,g4,g5,g6,g7]
abbrev zL(g1 g2 g3 g4 g5 g6 g7:ah):ae ah:=[.string ⟨⟨[]⟩⟩,iV 0,iV 0,iV 0,iV 0,.slice none 0 0,.slice none 0 0,.slice none 0 0,.slice none 0 0,.slice none 0 0,g1,g2,g3,g4,g5,g6,g7]
variable{b:Nat}{d:dA}{vh vs vr vc vu g1 g2 g3 g4 g5 g6 g7:ah}
def alT(hS:sF d):bA prog (.func 52) [ptr' b] [] [pt b (.cells (bL d vh vs vr vc vu g1 g2 g3 g4 g5 g6 g7))] (rY d vh vs vr vc vu) (λy:Ia=>iV y.e)
 (λy=>[pt b (.cells (cond y.ok (bL (Kd.dJ d) vh vs vr y.vc y.vu g1 g2 g3 g4 g5 g6 g7) (zL g1 g2 g3 g4 g5 g6 g7)))]) (u7 d) (ER d):=by
 refine gB 52 λB w0=>?_;refine gC (Yw (d:=d) hS) λy hy=>?_;obtain⟨ok,e,v1,v2⟩:=y;cases ok with
 |false=>
  dsimp only[Be,u7,cond,List.nil_append]at hy⊢;refine go ?_;exact gQ ⟨false,e,v1,v2⟩ hy
 |true=>
  dsimp only[Be,u7,cond,List.cons_append,List.nil_append]at hy⊢;refine go ?_;exact gQ ⟨true,e,v1,v2⟩ hy (hF:=by show Sub [aA eX v1 (Kd.dJ d).bY,aA bQ v2 (Kd.dJ d).rules] _;exact .cons qe (.cons qe .nil))
def alU(hT:Bh d):bA prog (.func 53) [ptr' b] [] [pt b (.cells (bL d vh vs vr vc vu g1 g2 g3 g4 g5 g6 g7))] (rY d vh vs vr vc vu) (λe:Int=>iV e)
 (λ_=>[pt b (.cells (bL d vh vs vr vc vu g1 g2 g3 g4 g5 g6 g7))]) (λ_=>[]) (λe=>e=0↔Ma d):=by
 refine gB 53 λB w0=>?_;refine gC (alR (d:=d) hT) λe he=>?_;refine go ?_;exact gQ e he
structure DrY where
 gh:Value
 gc:Value
 vn:Value
def alW(hT:Bh d)(hm:tL d.shape d.w d.h d.holes):
 bA prog (.func 54) [ptr' b] [] [pt b (.cells (bL d vh vs vr vc vu g1 g2 g3 g4 g5 g6 g7))] (rY d vh vs vr vc vu) (λ_:DrY=>iV 0)
 (λy=>[pt b (.cells (bL d vh vs vr vc vu (iV (bI d).shape) (iV (bI d).w) (iV (bI d).h) y.gh y.gc y.vn g7))])
 (λy=>[aA ai y.gh (bI d).holes,aA ai y.gc (bI d).cells,aA (az ai) y.vn (eZ (bI d))]) (λ_=>True):=by
 have hG:=Rc hm;have hgo:fT (bI d):=⟨hm,rfl⟩
 refine nZ YZ alS λB w0=>?_;refine gC (QR (s:=d.shape) (w:=d.w) (h:=d.h) (holes:=d.holes) (vh:=vh) hT.w hT.h hT.holes) λy hy=>?_;obtain⟨ok,v1,v2⟩:=y;cases ok with
 |false=>exact absurd (hy.2 hm) qe
 |true=>
 dsimp only[cond,mkV,xP];rw[show CQ d.shape d.w d.h d.holes=bI d from rfl];dsimp only[qV,mI,List.cons_append,List.nil_append];refine gC (YO (g:=bI d) (vh:=v1) (vc:=v2) hG) λy hy2=>?_;obtain⟨vn,e⟩:=y;have he:e=0:=hy2.2 hgo;subst he;refine iN (aA (uP ai) vn (eZ (bI d))) (λw hw=>hw (wJ ((0:Int)=0) (aA (uP ai) vn (eZ (bI d)))) qe rfl) ?_;refine iN (aA (az ai) vn (eZ (bI d))) (λw hw=>WL (hw (aA (uP ai) vn (eZ (bI d))) qe)) ?_;dsimp only[LV];refine gF (az ai) vn (eZ (bI d)) λan cn en=>?_;subst en;refine go ?_;exact gQ ⟨v1,v2,.slice an (eZ (bI d)).length cn⟩ trivial
def oq(g:bM)(k:Nat):ae (ae (ae Int)):=(List.range k).map λf:Nat=>gU g (f:Int)
def alX(g:bM)(k:Nat):oq g (k+1)=oq g k++[gU g (k:Int)]:=by
 unfold oq;rw[BF,dQ,yo]
def Y0(g:bM)(k:Nat):(oq g k).length=k:=by unfold oq;simp
def alY{gh gc vn:ah}(hT:Bh d)(hm:tL d.shape d.w d.h d.holes)(hr:∀r∈d.regions,Ij (bI d) r):
 bA prog (.func 55) [ptr' b] [] [pt b (.cells (bL d vh vs vr vc vu (iV (bI d).shape) (iV (bI d).w) (iV (bI d).h) gh gc vn (.slice none 0 0)))]
 [aA kz vr d.regions,aA ai gh (bI d).holes,aA ai gc (bI d).cells] (λ_:ah=>iV 0)
 (λvl=>[pt b (.cells (bL d vh vs vr vc vu (iV (bI d).shape) (iV (bI d).w) (iV (bI d).h) gh gc vn vl))])
 (λvl=>[aA (az (az ai)) vl (mG d)]) (λ_=>True):=by
 have hG:=Rc hm;have hgo:fT (bI d):=⟨hm,rfl⟩
 have hrl:=hT.s.regs;refine gB 55 λB w0=>?_;refine gF kz vr d.regions λar cr er=>?_;subst er;refine go ?_;refine mF (az (az ai)) ?_;refine dS (λy:Nat×ah=>8 - y.1) (λy=>[(10,iV (y.1:Int))]) (λy=>[pt b (.cells (bL d vh vs (.slice ar d.regions.length cr) vc vu (iV (bI d).shape) (iV (bI d).w) (iV (bI d).h) gh gc vn y.2)),ap (az (az ai)) y.2 (oq (bI d) y.1)]) (λ_=>[]) (λy=>y.1<=8) (0,.slice none 0 0) (bS _) (hk:=qn) (body:=?_);rintro⟨k,vl⟩ hk;dsimp only at hk⊢;have hkl:=Y0 (bI d) k;refine aP ?_ ?_<;>intro h1
 .refine gC (ala (g:=bI d) (vh:=gh) (vc:=gc) (k:=(k:Int)) hG) λy hy=>?_;obtain⟨v4,e⟩:=y;have he:e=0:=hy.2 ⟨hgo,p0,p0⟩;subst he;dsimp only[YR,List.cons_append,List.nil_append];refine iN (aA (az ai) v4 (gU (bI d) (k:Int))) (λw hw=>hw (wJ ((0:Int)=0) (aA (az ai) v4 (gU (bI d) (k:Int)))) qe rfl) ?_;refine gF (az ai) v4 (gU (bI d) (k:Int)) λa4 c4 e4=>?_;subst e4;refine go ?_;intro b33;refine go ?_;refine l7 (xs:=oq (bI d) k) (az (az ai)) (gU (bI d) (k:Int)) (.slice a4 (gU (bI d) (k:Int)).length c4) p0 (next:=λad=>?_);rw[<- alX];refine go ?_;exact aY (k+1,.slice ad ((oq (bI d) k).length+1) ((oq (bI d) k).length+1)) (by show 8 - (k+1)<8 - k;omega) rN
 have hk8:k=8:=p0
 subst hk8;refine go ?_;refine dS (λy:Nat×ah=>d.regions.length - y.1) (λy=>[(46,iV (y.1:Int))]) (λy=>[pt b (.cells (bL d vh vs (.slice ar d.regions.length cr) vc vu (iV (bI d).shape) (iV (bI d).w) (iV (bI d).h) gh gc vn y.2)),ap (az (az ai)) y.2 (oq (bI d) 8++(d.regions.take y.1).map λr=>iJ (bI d) r.lists)]) (λ_=>[]) (λy=>y.1<=d.regions.length) (0,vl) (bS _) (hk:=by rw[show oq (bI d) 8++(d.regions.take 0).map (λr=>iJ (bI d) r.lists)=oq (bI d) 8 from iH _];repeat (first|exact aM.nil|(apply aM.cons;(focus (repeat (first|exact aC.here|apply aC.there)))))) (body:=?_);rintro⟨k,v2⟩ hk;dsimp only at hk⊢;have hkl:(oq (bI d) 8++(d.regions.take k).map λr=>iJ (bI d) r.lists).length=8+k:=by rw[dL,Y0,aS,gq];omega
 refine aP ?_ ?_<;>intro h1
 .refine gX kz (xs:=d.regions) λ_ _ r (vr2:ah) Y1=>?_;have hrm:=aV Y1;obtain⟨hl1,hl2⟩:=hT.s.zh r hrm;obtain⟨⟨_,hro⟩,_⟩:=hr r hrm;refine go ?_;intro b7;refine gC (YT (g:=bI d) (rs:=r.lists) hG hl1 hl2) λy hy=>?_;obtain⟨v8,e⟩:=y;have he:e=0:=hy.2 ⟨hgo,hro⟩;subst he;dsimp only[YS,List.cons_append,List.nil_append];refine iN (aA (az ai) v8 (iJ (bI d) r.lists)) (λw hw=>hw (wJ ((0:Int)=0) (aA (az ai) v8 (iJ (bI d) r.lists))) qe rfl) ?_;refine gF (az ai) v8 (iJ (bI d) r.lists) λa8 c8 e8=>?_;subst e8;refine go ?_;intro Y2;refine go ?_;have htk:oq (bI d) 8++(d.regions.take (k+1)).map (λr=>iJ (bI d) r.lists)=(oq (bI d) 8++(d.regions.take k).map λr=>iJ (bI d) r.lists)++[iJ (bI d) r.lists]:=by
   rw[gz Y1,dQ,yo,fq]
  refine l7 (xs:=oq (bI d) 8++(d.regions.take k).map λr=>iJ (bI d) r.lists) (az (az ai)) (iJ (bI d) r.lists) (.slice a8 (iJ (bI d) r.lists).length c8) p0 (next:=λad=>?_);rw[<- htk];refine go ?_;exact aY (k+1,.slice ad ((oq (bI d) 8++(d.regions.take k).map λr=>iJ (bI d) r.lists).length+1) ((oq (bI d) 8++(d.regions.take k).map λr=>iJ (bI d) r.lists).length+1)) As rN
 have hke:k=d.regions.length:=p0
 subst hke;rw[eH];rw[show oq (bI d) 8++d.regions.map (λr=>iJ (bI d) r.lists)=mG d from rfl];refine gZ (jk (E:=az (az ai)) (v:=v2) (xs:=mG d)) ?_;refine go ?_;exact gQ v2 trivial
end Go.Proofs.YtignbinlipkmfaaGreatDoor
namespace Go.Proofs.YtignbinlipkmfaaGreatDoor
open Tryz (prog)
open Go.Ideal Kd
abbrev al0:ae ah:=zL (iV 0) (iV 0) (iV 0) (.slice none 0 0) (.slice none 0 0) (.slice none 0 0) (.slice none 0 0)
abbrev oW(k:aZ)(vh vs vr vc vu gh gc vn vl:ah):ae ah:=bL k.decl vh vs vr vc vu (iV k.grid.shape) (iV k.grid.w) (iV k.grid.h) gh gc vn vl
abbrev jO(k:aZ)(vh vs vr vc vu gh gc vn vl:ah)(F:ae aH):ae aH:=aA ai vh k.decl.holes::aA jH vs k.decl.symbols::aA kz vr k.decl.regions::aA eX vc k.decl.bY::aA bQ vu k.decl.rules::aA ai gh k.grid.holes::aA ai gc k.grid.cells::aA (az ai) vn k.aN::aA (az (az ai)) vl k.lists::F
structure Md(d:dA):Prop where
 rs:EE d
 typ:Ma (Kd.dJ d)
structure bW(k:aZ):Prop where
 b:Md k.decl
 e:k=qR (Kd.dJ k.decl)
structure Re where
 ok:Bool
 e:Int
 vc:Value
 vu:Value
 gh:Value
 gc:Value
 vn:Value
 vl:Value
abbrev Rf(d:dA)(vh vs vr:ah)(y:Re):ah:=.tuple ⟨[.agg ⟨cond y.ok (oW (qR (Kd.dJ d)) vh vs vr y.vc y.vu y.gh y.gc y.vn y.vl) al0⟩,iV y.e]⟩
abbrev Rh(d:dA)(vh vs vr:ah)(y:Re):ae aH:=cond y.ok [aA eX y.vc (Kd.dJ d).bY,aA bQ y.vu (Kd.dJ d).rules,aA ai y.gh (bI (Kd.dJ d)).holes,aA ai y.gc (bI (Kd.dJ d)).cells,aA (az ai) y.vn (eZ (bI (Kd.dJ d))),aA (az (az ai)) y.vl (mG (Kd.dJ d))] []
def Y3(d:dA)(y:Re):Prop:=(y.ok=true->y.e=0/\Md d)/\(y.ok=false->y.e≠0/\¬Md d)
variable{vh vs vr vc vu:ah}
def al1{d:dA}(hT:Bh d):bA prog (.func 26) [.agg ⟨mQ d vh vs vr vc vu⟩] [] [] (rY d vh vs vr vc vu) (Rf d vh vs vr) (λ_=>[]) (Rh d vh vs vr) (Y3 d):=by
 have EW:Bh (Kd.dJ d):=⟨hT.s.dJ,hT.w,hT.h,hT.holes⟩
 have hend:∀{e:Int} {vc vu gh gc vn vl:ah},e≠0->¬Md d->Y3 d ⟨false,e,vc,vu,gh,gc,vn,vl⟩:=λhe hb=>⟨(λh=>by cases h),λ_=>⟨he,hb⟩⟩
 refine gB 26 λB w0=>?_;refine go ?_;intro b1 b2 b4 b15;refine pO ?_;refine gC (alT (b:=b4) (d:=d) hT.s) λy hy=>?_;obtain⟨ok,e,v1,v2⟩:=y;cases ok with
 |false=>
  obtain⟨he,hno⟩:=hy.2 rfl;dsimp only[cond,u7,List.nil_append]at he⊢;refine aP ?_ ?_<;>intro h1
  .refine go ?_;exact gQ ⟨false,e,v1,v2,v1,v1,v1,v1⟩ (hend he λh=>hno h.rs)
  .exact absurd (lV.1 h1) he
 |true=>
 obtain⟨he,hres⟩:=hy.1 rfl;have he:e=0:=he;subst he;clear hy;dsimp only[cond,u7,List.cons_append,List.nil_append];refine iN (aA ai vh (Kd.dJ d).holes) (λw hw=>hw (aA ai vh d.holes) qe) ?_;refine iN (aA jH vs (Kd.dJ d).symbols) (λw hw=>hw (aA jH vs d.symbols) qe) ?_;refine iN (aA kz vr (Kd.dJ d).regions) (λw hw=>hw (aA kz vr d.regions) qe) ?_;refine go ?_;refine pO ?_;refine gC (alU (b:=b4) (d:=Kd.dJ d) (vc:=v1) (vu:=v2) EW) λe he=>?_;refine aP (λhne=>?_) (λhz=>?_)
 .refine go ?_;exact gQ ⟨false,e,v1,v2,v1,v1,v1,v1⟩ (hend hne λh=>hne (he.2 h.typ))
 have hty:=he.1 (lV.1 hz);clear he hz;refine go ?_;refine pO ?_;refine gC (alW (b:=b4) (d:=Kd.dJ d) (vc:=v1) (vu:=v2) EW hty.Mc) λy _=>?_;obtain⟨gh,gc,vn⟩:=y;dsimp only[List.cons_append,List.nil_append];refine go ?_;refine pO ?_;refine gC (alY (b:=b4) (d:=Kd.dJ d) (vc:=v1) (vu:=v2) EW hty.Mc hty.CR) λvl _=>?_;dsimp only[List.cons_append,List.nil_append];refine go ?_;refine pO ?_;refine go ?_;refine gQ ⟨true,0,v1,v2,gh,gc,vn,vl⟩ ⟨λ_=>⟨rfl,hres,hty⟩,(λh=>by cases h)⟩ (hF:=?_);show Sub [aA eX v1 (Kd.dJ d).bY,aA bQ v2 (Kd.dJ d).rules,aA ai gh (bI (Kd.dJ d)).holes,aA ai gc (bI (Kd.dJ d)).cells,aA (az ai) vn (eZ (bI (Kd.dJ d))),aA (az (az ai)) vl (mG (Kd.dJ d))] _;exact .cons qe (.cons qe (.cons qe (.cons qe (.cons qe (.cons qe .nil)))))
structure tX(k:aZ):Prop where
 d:Bh k.decl
 g:xQ k.grid
 aN:k.aN.length<2^63/\∀l∈k.aN,l.length<2^63
 lists:k.lists.length<2^63/\∀l∈k.lists,l.length<2^63/\∀m∈l,m.length<2^63
def al2{x y:aZ}{h1 s1 r1 c1 u1 Ri Rj n1 l1 h2 s2 r2 c2 u2 Rk Rl n2 l2:ah}(hS:tX x):eU prog 62 [.agg ⟨oW x h1 s1 r1 c1 u1 Ri Rj n1 l1⟩,.agg ⟨oW y h2 s2 r2 c2 u2 Rk Rl n2 l2⟩]
 (jO x h1 s1 r1 c1 u1 Ri Rj n1 l1 (jO y h2 s2 r2 c2 u2 Rk Rl n2 l2 [])) (.bool (decide (x=y))):=by
 have e1:=hS.d.s;have e2:=hS.g.holes;have e3:=hS.g.cells;obtain⟨e4,e5⟩:=hS.aN;obtain⟨e6,e7⟩:=hS.lists;clear hS;obtain⟨xd,⟨xs,xw,xh,Rm,Rn⟩,xn,xl⟩:=x;obtain⟨yd,⟨ys,yw,yh,yho,yce⟩,yn,yl⟩:=y;dsimp only at e1 e2 e3 e4 e5 e6 e7;dsimp only[oW,jO];refine gB 62 λB w0=>?_;refine go ?_;intro b2 b3;refine gH ?_ ?_<;>intro k1
 .refine bT ?_;rw[di (λe=>k1 rp)];rfl
 refine gH ?_ ?_<;>intro k2
 .exact pN
 refine gH ?_ ?_<;>intro k3
 .exact pL
 refine gC (uY (xs:=Rm) (ys:=yho) p0) λ_ _=>?_;refine gH ?_ ?_<;>intro k4
 .exact pH
 refine gC (uY (xs:=Rn) (ys:=yce) p0) λ_ _=>?_;refine gH ?_ ?_<;>intro k5
 .exact pD
 refine go ?_;have hsy:eU prog 101 [.agg ⟨mQ xd h1 s1 r1 c1 u1⟩,.agg ⟨mQ yd h2 s2 r2 c2 u2⟩] [aA ai h1 xd.holes,aA jH s1 xd.symbols,aA kz r1 xd.regions,aA eX c1 xd.bY,aA bQ u1 xd.rules,aA ai h2 yd.holes,aA jH s2 yd.symbols,aA kz r2 yd.regions,aA eX c2 yd.bY,aA bQ u2 yd.rules] (.bool (decide (xd=yd))):=YD e1;refine jY hsy (next:=λ_ _=>?_);refine gH ?_ ?_<;>intro k6
 .exact pC
 refine gC (Yz (xs:=xn) (ys:=yn) e4 e5) λ_ _=>?_;refine gH ?_ ?_<;>intro k7
 .exact pB
 refine gC (ako (xs:=xl) (ys:=yl) e6 e7) λ_ _=>?_;refine bT ?_;subst k1 k2 k3 k4 k5 k6 k7;rw[show decide (aZ.mk xd ⟨xs,xw,xh,Rm,Rn⟩ xn xl=aZ.mk xd ⟨xs,xw,xh,Rm,Rn⟩ xn yl)=decide (xl=yl)from sP.2 ⟨λh=>by cases h;rfl,λh=>by rw[h]⟩];rfl
def Ro{k:aZ}{gh gc vn vl:ah}(hS:tX k):fC prog 32 [.agg ⟨oW k vh vs vr vc vu gh gc vn vl⟩] (jO k vh vs vr vc vu gh gc vn vl []) (λb:Bool=>iV (cond b 0 180)) (λb=>b=true↔bW k):=by
 refine gB 32 λB w0=>?_;refine go ?_;intro b1;refine gC (al1 (d:=k.decl) hS.d) λy hy=>?_;obtain⟨ok,e,v1,v2,v3,v4,v5,v6⟩:=y;cases ok with
 |false=>
  obtain⟨he,hno⟩:=hy.2 rfl;have he:e≠0:=he;dsimp only[cond,Rf,Rh,List.nil_append];refine go ?_;intro b3;refine gH ?_ ?_<;>intro h1
  .exact absurd (lV.1 h1) he
  refine go ?_;exact gQ false ⟨(λh=>by cases h),λh=>absurd h.b hno⟩
 |true=>
 obtain⟨he,hb⟩:=hy.1 rfl;have he:e=0:=he;subst he;clear hy;dsimp only[cond,Rf,Rh,List.cons_append,List.nil_append];refine go ?_;intro b3;refine go ?_;have hsm:=al2 (x:=k) (y:=qR (Kd.dJ k.decl)) (h1:=vh) (s1:=vs) (r1:=vr) (c1:=vc) (u1:=vu) (Ri:=gh) (Rj:=gc) (n1:=vn) (l1:=vl) (h2:=vh) (s2:=vs) (r2:=vr) (c2:=v1) (u2:=v2) (Rk:=v3) (Rl:=v4) (n2:=v5) (l2:=v6) hS;refine iN (aA ai vh (qR (Kd.dJ k.decl)).decl.holes) (λw hw=>hw (aA ai vh k.decl.holes) qe) ?_;refine iN (aA jH vs (qR (Kd.dJ k.decl)).decl.symbols) (λw hw=>hw (aA jH vs k.decl.symbols) qe) ?_;refine iN (aA kz vr (qR (Kd.dJ k.decl)).decl.regions) (λw hw=>hw (aA kz vr k.decl.regions) qe) ?_;refine iN (aA eX v1 (qR (Kd.dJ k.decl)).decl.bY) (λw hw=>hw (aA eX v1 (Kd.dJ k.decl).bY) qe) ?_;refine iN (aA bQ v2 (qR (Kd.dJ k.decl)).decl.rules) (λw hw=>hw (aA bQ v2 (Kd.dJ k.decl).rules) qe) ?_;refine iN (aA ai v3 (qR (Kd.dJ k.decl)).grid.holes) (λw hw=>hw (aA ai v3 (bI (Kd.dJ k.decl)).holes) qe) ?_;refine iN (aA ai v4 (qR (Kd.dJ k.decl)).grid.cells) (λw hw=>hw (aA ai v4 (bI (Kd.dJ k.decl)).cells) qe) ?_;refine iN (aA (az ai) v5 (qR (Kd.dJ k.decl)).aN) (λw hw=>hw (aA (az ai) v5 (eZ (bI (Kd.dJ k.decl)))) qe) ?_;refine iN (aA (az (az ai)) v6 (qR (Kd.dJ k.decl)).lists) (λw hw=>hw (aA (az (az ai)) v6 (mG (Kd.dJ k.decl))) qe) ?_;refine jY hsm (next:=λ_ _=>?_);refine go ?_;refine sZ rfl (λh3=>?_) (λh3=>?_)
 .refine go ?_;exact gQ false ⟨(λh=>by cases h),λh=>absurd h.e h3⟩
 .refine go ?_;exact gQ true ⟨λ_=>⟨hb,h3⟩,λ_=>rfl⟩
end Go.Proofs.YtignbinlipkmfaaGreatDoor
namespace Go.Proofs.YtignbinlipkmfaaGreatDoor
open Tryz (prog)
open Go.Ideal Canon
def Y4(x:Int):eU prog 212 [iV x] [] (.bool false):=by
 refine gB 212 λB w0=>?_;refine bT ?_;simp[qL]
def al5(x y:Int):eU prog 125 [iV x,iV y] [] (iV (fZ x y)):=by
 refine gB 125 λB w0=>?_;refine gC (Y4 x) λ_ _=>?_;refine gC (Y4 y) λ_ _=>?_;refine aP ?_ ?_<;>intro h1
 .refine bT ?_;rw[fZ,if_pos h1];rfl
 refine aP ?_ ?_<;>intro h2
 .refine bT ?_;rw[fZ,if_neg h1,if_pos h2];rfl
 refine bT ?_;rw[fZ,if_neg h1,if_neg h2];rfl
variable{k:Nat}
def drop_cons{α:Type}{xs:ae α}{x:α}(h:xs[k]? =some x):xs.drop k=x::xs.drop (k+1):=by
 obtain⟨hlt,he⟩:=aT.1 h;rw[pg hlt,he]
variable{xs ys:ae Int}
def Y5(hx:k<=xs.length)(hy:k<=ys.length)(h:k=xs.length\/k=ys.length):
 fQ fZ (xs.drop k) (ys.drop k)=if xs.length<ys.length then -1 else if ys.length<xs.length then 1 else 0:=by
 rcases h with h|h
 .rw[show xs.drop k=[]from BB p0];by_cases e:xs.length<ys.length
  .rw[if_pos e];have:k<ys.length:=by omega
   rw[pg this];rfl
  .rw[if_neg e,if_neg p0,show ys.drop k=[]from BB p0];rfl
 .rw[show ys.drop k=[]from BB p0];by_cases e:ys.length<xs.length
  .rw[if_neg p0,if_pos e];have:k<xs.length:=by omega
   rw[pg this];rfl
  .rw[if_neg p0,if_neg e,show xs.drop k=[]from BB p0];rfl
def Y6{va vb:ah}(hal:xs.length<=1000000)(hbl:ys.length<=1000000):
 eU prog 80 [va,vb] [aA ai va xs,aA ai vb ys] (iV (fQ fZ xs ys)):=by
 refine gB 80 λB w0=>?_;refine gN xs.length 11 (λk=>k<=xs.length/\k<=ys.length/\fQ fZ xs ys=fQ fZ (xs.drop k) (ys.drop k)) ⟨p0,p0,rfl⟩ ?_;rintro k ⟨hkx,Y7,CU⟩;refine aP ?_ ?_<;>intro h1
 .refine go ?_;intro _ _ x hx;refine uH rfl ?_ ?_<;>intro h2
  .refine bT ?_;rw[CU,drop_cons hx,show ys.drop k=[]from BB p0];rfl
  refine go ?_;intro _ _ y hy;refine jY (al5 x y) (next:=λ_ _=>?_);refine aP ?_ ?_<;>intro h3
  .refine bT ?_;rw[CU,drop_cons hx,drop_cons hy,fQ,if_pos h3];rfl
  refine go ?_;refine aY (k+1) p0 ⟨p0,p0,?_⟩;rw[CU,drop_cons hx,drop_cons hy,fQ,if_neg (by simpa using h3)]
 refine go ?_;have hkm:k=xs.length:=p0
 refine uH rfl ?_ ?_<;>intro h3
 .refine bT ?_;rw[CU,Y5 hkx Y7 p0,if_pos p0];rfl
 refine bT ?_;rw[CU,Y5 hkx Y7 p0,if_neg p0,if_neg p0];rfl
end Go.Proofs.YtignbinlipkmfaaGreatDoor
namespace Go.Proofs.YtignbinlipkmfaaGreatDoor
open Tryz (prog)
open Go.Ideal Kd Canon
structure al6(p:List Clue):Prop where
 len:p.length<2^63
 vals:∀g∈p,g.values.length<2^63
variable{k:aZ}
def bW.decl(h:bW k):k.decl=Kd.dJ k.decl:=congrArg aZ.decl h.e
def bW.lists(h:bW k):k.lists=mG k.decl:=by
 have:=congrArg aZ.lists h.e;have h2:(qR (Kd.dJ k.decl)).lists=mG (Kd.dJ k.decl):=rfl;exact n5
def bW.grid(h:bW k):k.grid=bI k.decl:=by
 have:=congrArg aZ.grid h.e;have h2:(qR (Kd.dJ k.decl)).grid=bI (Kd.dJ k.decl):=rfl;exact n5
def bW.aN(h:bW k):k.aN=eZ (bI k.decl):=by
 have:=congrArg aZ.aN h.e;have h2:(qR (Kd.dJ k.decl)).aN=eZ (bI (Kd.dJ k.decl)):=rfl;exact n5
def bW.typ(h:bW k):Ma k.decl:=by
 have:=h.b.typ;rw[<- h.decl]at this;exact this
def bW.jl(h:bW k):XE k:=by
 intro c hc;rw[h.decl]at hc;obtain⟨q,hq,rfl⟩:=cZ.1 (show c∈k.decl.bY.map (ED (gI k.decl))from hc);have h1:=CE (h.b.rs.Xo q hq);have h2:(gI k.decl).length=8+k.decl.regions.length:=by
  unfold gI;rw[dL,aS];rfl
 have h3:k.lists.length=8+k.decl.regions.length:=by
  rw[h.lists];unfold mG;rw[dL,aS,aS,nP]
 show 0<=((jy q.on (gI k.decl):Nat):Int)/\((jy q.on (gI k.decl):Nat):Int)<_;omega
abbrev Rp(k:aZ)(grid:ae Int):Prop:=Fin (k.grid.cells.length:Int) (k.decl.symbols.length:Int) grid
structure arV(k:aZ)(p:List Clue)(grid:List Int)(e:Int):Prop where
 nk:¬bW k->e=180
 nf:bW k->¬Rp k grid->e=200
 np:bW k->Rp k grid->¬uU k p->e=190
 ok:bW k->Rp k grid->uU k p->e=0
end Go.Proofs.YtignbinlipkmfaaGreatDoor
namespace Go.Proofs.YtignbinlipkmfaaGreatDoor
open Tryz (prog)
open Go.Ideal Kd Canon
def ng(k:aZ):ae Int:=k.decl.symbols.map (·.value)
structure Y8(k:aZ)(r:dz):Prop where
 jl:0<=r.family/\r.family<k.lists.length
 bD:r.bD<k.decl.bY.length
structure Y9(k:aZ)(p:List Clue)(grid:List Int)(r:dz)(set other:Nat):Prop where
 s:tX k
 ps:al6 p
 jl:XE k
 rin:Y8 k r
 right:∀g∈p,uT k g
 gri:ajY grid
 cells:∀x∈Lp k p r,ajZ grid x.1
 vals:aj0 (ng k) grid
 bK:GOK k.aN
 EQ:grid.length=k.aN.length
 st:r.set=(set:Int)/\set<2^63
 ot:r.other=(other:Int)/\other<2^63
 kind:1<=r.kind/\r.kind<=11
 giv:r.kind=2\/r.kind=3\/r.kind=11->∀x∈Lp k p r,0<x.2.length
 few:∀x∈Lp k p r,x.1.length<=4096
 one:r.kind=11->∀x∈Lp k p r,0<x.1.length
section
variable {k:aZ} {p:ae Clue} {grid:ae Int} {r:dz} {set other:Nat} {bv br:Nat} {vh vs vr vc vu gh gc vn vl vp vg vv v1 v2:ah}
def Y9.aN(H:Y9 k p grid r set other):∀l∈k.aN,∀b∈l,0<=b/\b<grid.length:=by
 intro l hl b hb;obtain⟨i,hi⟩:=ik hl;obtain⟨j,hj⟩:=ik hb;have:=H.bK.ok i l hi j b hj;have:=H.EQ;omega
end
structure CV(k:aZ):Prop where
 dw:kV k.decl.w
 dh:kV k.decl.h
 gw:kV k.grid.w
 gh:kV k.grid.h
 holes:k.decl.holes.length<2^63
 dZ:k.decl.symbols.length<2^63
 regs:k.decl.regions.length<2^63
 zh:∀r∈k.decl.regions,r.lists.length<2^63/\∀l∈r.lists,l.length<2^63
 mR:k.decl.bY.length<2^63
 pV:k.decl.rules.length<2^63
 zg:∀r∈k.decl.rules,r.names.length<2^63/\r.others.length<2^63
 Me:k.grid.holes.length<2^63
 cells:k.grid.cells.length<2^63
 aN:k.aN.length<2^63/\∀l∈k.aN,l.length<2^63
 lists:k.lists.length<2^63/\∀l∈k.lists,l.length<2^63/\∀m∈l,m.length<2^63
structure al7(k:aZ):Prop where
 cells:k.grid.cells.length<=16
 Me:k.grid.holes.length<=256
 aN:k.aN.length<=20
 lists:k.lists.length<=12
 dZ:k.decl.symbols.length<=6
 regs:k.decl.regions.length<=6
 mR:k.decl.bY.length<=6
 pV:k.decl.rules.length<=10
 holes:k.decl.holes.length<=256
 each:∀l∈k.lists,l.length<=40
 reg:∀r∈k.decl.regions,r.lists.length<=20
def tX.of{k:aZ}(hB:CV k)(hF:al7 k):tX k:=by
 have f1:=hF.cells;have f2:=hF.Me;have f5:=hF.dZ;have f6:=hF.regs;have f7:=hF.mR;have f8:=hF.pV;have f9:=hF.holes;exact eW
def al8{k:Int}(h:(iX k).read=true):1<=k/\k<=11:=by
 apply Classical.byContradiction;intro hn;have hc:(k<0\/14<=k)\/k=0\/k=12\/k=13:=p0
 rcases hc with hc|rfl|rfl|rfl
 .rw[L8 hc]at h;cases h
 .cases h
 .cases h
 .cases h
def Za{dZ:ae ByteArray}(hs:dZ.length<=16):∀(l:ae ByteArray),(∀s∈l,s∈dZ)->kW dZ l<2^16:=by
 have h:∀(l:ae ByteArray) (m:Nat),m<2^16->(∀s∈l,s∈dZ)->l.foldl (λm s=>m|||1<<<jy s dZ) m<2^16:=by
  intro l;induction l with
  |nil=>intro m hm _;exact hm
  |cons s l ih=>
   intro m hm hl;rw[p9];refine ih _ (Nat.or_lt_two_pow hm ?_) (λt ht=>hl t (dO _ ht));have:=CE (hl s (dP ..));rw[Nat.one_shiftLeft];exact li
 intro l hl;exact h l 0 qv hl
variable{k:aZ}
def bW.qP(h:bW k){r:dz}(hr:r∈k.decl.rules):∃q∈k.decl.rules,r=wC (iO k.decl) (gI k.decl) (lK k.decl) q:=by
 have h1:r∈(Kd.dJ k.decl).rules:=by rw[<- h.decl];exact hr
 obtain⟨q,hq,e⟩:=cZ.1 (show r∈k.decl.rules.map (wC (iO k.decl) (gI k.decl) (lK k.decl))from h1);exact⟨q,hq,e.symm⟩
def bW.iI(h:bW k):k.lists.length=8+k.decl.regions.length:=by
 rw[h.lists];unfold mG;rw[dL,aS,aS,nP]
def bW.bK(h:bW k):fT (bI k.decl):=⟨h.typ.Mc,rfl⟩
def bW.inr(h:bW k){r:dz}(hr:r∈k.decl.rules):Y8 k r:=by
 obtain⟨q,hq,rfl⟩:=h.qP hr;have hro:=h.b.rs.qP q hq;have hl:=h.iI;have hfl:(gI k.decl).length=8+k.decl.regions.length:=by
  unfold gI;rw[dL,aS];rfl
 refine⟨?_,?_⟩
 .show 0<=(if q.on=⟨⟨[]⟩⟩then(0:Int)else(jy q.on (gI k.decl):Int))/\(if q.on=⟨⟨[]⟩⟩then(0:Int)else(jy q.on (gI k.decl):Int))<_;by_cases e:q.on=⟨⟨[]⟩⟩
  .rw[if_pos e];omega
  .rw[if_neg e];have:=CE (hro.on.resolve_left e);omega
 .show(if q.ig=⟨⟨[]⟩⟩then(-1:Int)else(jy q.ig (lK k.decl):Int))<_;by_cases e:q.ig=⟨⟨[]⟩⟩
  .rw[if_pos e];omega
  .rw[if_neg e];have h1:=CE (hro.ig.resolve_left e);have h2:(lK k.decl).length=k.decl.bY.length:=by unfold lK;rw[aS]
   omega
