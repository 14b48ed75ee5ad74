/- Part. -/
import Derived.Test.YtgimfpcgbmpkhaaGreatLibGT
import Derived.Test.YtgimfpcgbmpkhaaGreatShelfS
import Derived.Test.YtgimfpcgbmpkhaaGreatIdealPT
set_option linter.all false
set_option maxRecDepth 10000
set_option maxHeartbeats 4000000
namespace Go.Proofs.YtgimfpcgbmpkhaaGreat
open Tryz (prog)
open Go.Ideal Kd
noncomputable def acF:iJ:=⟨51,[(.tmp 2)],(.seq (kO [kS 2 (.jC (.const (iV 0)))]) (.seq (.seq (kO [kM 4 0,kM 5 0,kS 6 (.nI 5),kS 7 (.iw 0 6),kS 8 (.iw 0 7),kS 9 (.iw 2 8),kS 10 (.fG 9),kM 11 0,kS 12 (.nI 11),kS 13 (.iw 0 12),kS 14 (.iw 0 13),kS 15 (.iw 3 14),kS 16 (.fG 15),kM 17 0,kS 18 (.nI 17),kS 19 (.iw 0 18),kS 20 (.iw 0 19),kS 21 (.iw 4 20),kS 22 (.fG 21),kM 23 0,kS 24 (.nI 23),kS 25 (.iw 0 24),kS 26 (.iw 0 25),kS 27 (.iw 5 26),kS 28 (.fG 27),kS 29 (kC 228 [10,16,22,28]),kM 3 29,kS 30 (.extract 3 0),kS 31 (.extract 3 1),kS 32 (.nI 4),kS 33 (.iw 0 32),kS 34 (.iw 10 33),kN (.store 5 34 30),kS 2 (.jC 31)]) (.seq (kO [kM 35 2,kS 36 (.bin .eql 39 35 (.const (iV 0)))]) (.cond 36 (kO [kM 38 0,kM 39 0,kS 40 (.nI 39),kS 41 (.iw 0 40),kS 42 (.iw 10 41),kS 43 (.sO 5 42),kS 44 (kC 229 [43]),kM 37 44,kS 45 (.extract 37 0),kS 46 (.extract 37 1),kS 47 (.nI 38),kS 48 (.iw 0 47),kS 49 (.iw 15 48),kN (.store 1 49 45),kS 2 (.jC 46)]) .skip))) (.seq (kO [kM 50 2,kS 2 (.jC 50)]) .ret)))⟩
def aoI:ng prog 194=some acF:=s8
abbrev bL(d:dR)(vh vs vr vc vu g1 g2 g3 g4 g5 g6 g7:ah):ae ah:=[.string d.name,iV d.version,iV d.shape,iV d.w,iV d.h,vh,vs,vr,vc,vu,g1,g2,g3,g4,g5,g6,g7]
abbrev zL(g1 g2 g3 g4 g5 g6 g7:ah):ae ah:=[.string ⟨⟨[]⟩⟩,iV 0,iV 0,iV 0,iV 0,.slice none 0 0,.slice none 0 0,.slice none 0 0,.slice none 0 0,.slice none 0 0,g1,g2,g3,g4,g5,g6,g7]
variable{b:Nat}{d:dR}{vh vs vr vc vu g1 g2 g3 g4 g5 g6 g7:ah}
def aoJ(hS:uX d):aY prog (.func 192) [ptr' b] [] [pt b (.cells (bL d vh vs vr vc vu g1 g2 g3 g4 g5 g6 g7))] (uQ d vh vs vr vc vu) (λy:KT=>iV y.e)
 (λy=>[pt b (.cells (cond y.ok (bL (Kd.eO d) vh vs vr y.vc y.vu g1 g2 g3 g4 g5 g6 g7) (zL g1 g2 g3 g4 g5 g6 g7)))]) (xJ d) (HZ d):=by
 refine gB 192 λB w0=>?_;refine gC (ab1 (d:=d) hS) λy hy=>?_;obtain⟨ok,e,v1,v2⟩:=y;cases ok with
 |false=>
  dsimp only[Dg,xJ,cond,List.nil_append]at hy⊢;refine go ?_;exact gQ ⟨false,e,v1,v2⟩ hy
 |true=>
  dsimp only[Dg,xJ,cond,List.cons_append,List.nil_append]at hy⊢;refine go ?_;exact gQ ⟨true,e,v1,v2⟩ hy (hF:=by show Sub [ay eP v1 (Kd.eO d).bT,ay di v2 (Kd.eO d).rules] _;exact .cons s7 (.cons s7 .nil))
def aoK(hT:Dl d):aY prog (.func 193) [ptr' b] [] [pt b (.cells (bL d vh vs vr vc vu g1 g2 g3 g4 g5 g6 g7))] (uQ d vh vs vr vc vu) (λe:Int=>iV e)
 (λ_=>[pt b (.cells (bL d vh vs vr vc vu g1 g2 g3 g4 g5 g6 g7))]) (λ_=>[]) (λe=>e=0↔PV d):=by
 refine gB 193 λB w0=>?_;refine gC (aoH (d:=d) hT) λe he=>?_;refine go ?_;exact gQ e he
structure DrY where
 gh:Value
 gc:Value
 vn:Value
def aoM(hT:Dl d)(hm:wo d.shape d.w d.h d.holes):
 aY prog (.func 194) [ptr' b] [] [pt b (.cells (bL d vh vs vr vc vu g1 g2 g3 g4 g5 g6 g7))] (uQ d vh vs vr vc vu) (λ_:DrY=>iV 0)
 (λy=>[pt b (.cells (bL d vh vs vr vc vu (iV (bO d).shape) (iV (bO d).w) (iV (bO d).h) y.gh y.gc y.vn g7))])
 (λy=>[ay aj y.gh (bO d).holes,ay aj y.gc (bO d).cells,ay (aA aj) y.vn (gI (bO d))]) (λ_=>True):=by
 have hG:=Vp hm;have hgo:ig (bO d):=⟨hm,rfl⟩
 refine l7 acF aoI λB w0=>?_;refine gC (UY (s:=d.shape) (w:=d.w) (h:=d.h) (holes:=d.holes) (vh:=vh) hT.w hT.h hT.holes) λy hy=>?_;obtain⟨ok,v1,v2⟩:=y;cases ok with
 |false=>exact absurd (hy.2 hm) s7
 |true=>
 dsimp only[cond,mkV,zU];rw[show EU d.shape d.w d.h d.holes=bO d from rfl];dsimp only[tY,oG,List.cons_append,List.nil_append];refine gC (acn (g:=bO d) (vh:=v1) (vc:=v2) hG) λy hy2=>?_;obtain⟨vn,e⟩:=y;have he:e=0:=hy2.2 hgo;subst he;refine fA (ay (xB aj) vn (gI (bO d))) (λw hw=>hw (lc ((0:Int)=0) (ay (xB aj) vn (gI (bO d)))) s7 rfl) ?_;refine fA (ay (aA aj) vn (gI (bO d))) (λw hw=>aab (hw (ay (xB aj) vn (gI (bO d))) s7)) ?_;dsimp only[H8];refine gF (aA aj) vn (gI (bO d)) λan cn en=>?_;subst en;refine go ?_;exact gQ ⟨v1,v2,.slice an (gI (bO d)).length cn⟩ trivial
def qi(g:bY)(k:Nat):ae (ae (ae Int)):=(List.range k).map λf:Nat=>iE g (f:Int)
def aoN(g:bY)(k:Nat):qi g (k+1)=qi g k++[iE g (k:Int)]:=by
 unfold qi;rw[BX,bZ,kg]
def acG(g:bY)(k:Nat):(qi g k).length=k:=by unfold qi;simp
def aoO{gh gc vn:ah}(hT:Dl d)(hm:wo d.shape d.w d.h d.holes)(hr:∀r∈d.regions,K5 (bO d) r):
 aY prog (.func 195) [ptr' b] [] [pt b (.cells (bL d vh vs vr vc vu (iV (bO d).shape) (iV (bO d).w) (iV (bO d).h) gh gc vn (.slice none 0 0)))]
 [ay lJ vr d.regions,ay aj gh (bO d).holes,ay aj gc (bO d).cells] (λ_:ah=>iV 0)
 (λvl=>[pt b (.cells (bL d vh vs vr vc vu (iV (bO d).shape) (iV (bO d).w) (iV (bO d).h) gh gc vn vl))])
 (λvl=>[ay (aA (aA aj)) vl (oC d)]) (λ_=>True):=by
 have hG:=Vp hm;have hgo:ig (bO d):=⟨hm,rfl⟩
 have hrl:=hT.s.regs;refine gB 195 λB w0=>?_;refine gF lJ vr d.regions λar cr er=>?_;subst er;refine go ?_;refine kv (aA (aA aj)) ?_;refine dL (λy:Nat×ah=>8 - y.1) (λy=>[(10,iV (y.1:Int))]) (λy=>[pt b (.cells (bL d vh vs (.slice ar d.regions.length cr) vc vu (iV (bO d).shape) (iV (bO d).w) (iV (bO d).h) gh gc vn y.2)),ap (aA (aA aj)) y.2 (qi (bO d) y.1)]) (λ_=>[]) (λy=>y.1<=8) (0,.slice none 0 0) (bI _) (hk:=tc) (body:=?_);rintro⟨k,vl⟩ hk;dsimp only at hk⊢;have hkl:=acG (bO d) k;refine aK ?_ ?_<;>intro h1
 .refine gC (an7 (g:=bO d) (vh:=gh) (vc:=gc) (k:=(k:Int)) hG) λy hy=>?_;obtain⟨v4,e⟩:=y;have he:e=0:=hy.2 ⟨hgo,s6,s6⟩;subst he;dsimp only[lsF,List.cons_append,List.nil_append];refine fA (ay (aA aj) v4 (iE (bO d) (k:Int))) (λw hw=>hw (lc ((0:Int)=0) (ay (aA aj) v4 (iE (bO d) (k:Int)))) s7 rfl) ?_;refine gF (aA aj) v4 (iE (bO d) (k:Int)) λa4 c4 e4=>?_;subst e4;refine go ?_;intro b33;refine go ?_;refine jy (xs:=qi (bO d) k) (aA (aA aj)) (iE (bO d) (k:Int)) (.slice a4 (iE (bO d) (k:Int)).length c4) s6 (next:=λad=>?_);rw[<- aoN];refine go ?_;exact aW (k+1,.slice ad ((qi (bO d) k).length+1) ((qi (bO d) k).length+1)) (by show 8 - (k+1)<8 - k;omega) tv
 have hk8:k=8:=s6
 subst hk8;refine go ?_;refine dL (λy:Nat×ah=>d.regions.length - y.1) (λy=>[(46,iV (y.1:Int))]) (λy=>[pt b (.cells (bL d vh vs (.slice ar d.regions.length cr) vc vu (iV (bO d).shape) (iV (bO d).w) (iV (bO d).h) gh gc vn y.2)),ap (aA (aA aj)) y.2 (qi (bO d) 8++(d.regions.take y.1).map λr=>jr (bO d) r.lists)]) (λ_=>[]) (λy=>y.1<=d.regions.length) (0,vl) (bI _) (hk:=by rw[show qi (bO d) 8++(d.regions.take 0).map (λr=>jr (bO d) r.lists)=qi (bO d) 8 from jo _];repeat (first|exact aJ.nil|(apply aJ.cons;(focus (repeat (first|exact aD.here|apply aD.there)))))) (body:=?_);rintro⟨k,v2⟩ hk;dsimp only at hk⊢;have hkl:(qi (bO d) 8++(d.regions.take k).map λr=>jr (bO d) r.lists).length=8+k:=by rw[fu,acG,bi,gW];omega
 refine aK ?_ ?_<;>intro h1
 .refine gX lJ (xs:=d.regions) λ_ _ r (vr2:ah) hrk=>?_;have hrm:=aV hrk;obtain⟨hl1,hl2⟩:=hT.s.Di r hrm;obtain⟨⟨_,hro⟩,_⟩:=hr r hrm;refine go ?_;intro b7;refine gC (acw (g:=bO d) (rs:=r.lists) hG hl1 hl2) λy hy=>?_;obtain⟨v8,e⟩:=y;have he:e=0:=hy.2 ⟨hgo,hro⟩;subst he;dsimp only[rgF,List.cons_append,List.nil_append];refine fA (ay (aA aj) v8 (jr (bO d) r.lists)) (λw hw=>hw (lc ((0:Int)=0) (ay (aA aj) v8 (jr (bO d) r.lists))) s7 rfl) ?_;refine gF (aA aj) v8 (jr (bO d) r.lists) λa8 c8 e8=>?_;subst e8;refine go ?_;intro b71;refine go ?_;have htk:qi (bO d) 8++(d.regions.take (k+1)).map (λr=>jr (bO d) r.lists)=(qi (bO d) 8++(d.regions.take k).map λr=>jr (bO d) r.lists)++[jr (bO d) r.lists]:=by
   rw[fq hrk,bZ,kg,fo]
  refine jy (xs:=qi (bO d) 8++(d.regions.take k).map λr=>jr (bO d) r.lists) (aA (aA aj)) (jr (bO d) r.lists) (.slice a8 (jr (bO d) r.lists).length c8) s6 (next:=λad=>?_);rw[<- htk];refine go ?_;exact aW (k+1,.slice ad ((qi (bO d) 8++(d.regions.take k).map λr=>jr (bO d) r.lists).length+1) ((qi (bO d) 8++(d.regions.take k).map λr=>jr (bO d) r.lists).length+1)) DE tv
 have hke:k=d.regions.length:=s6
 subst hke;rw[dK];rw[show qi (bO d) 8++d.regions.map (λr=>jr (bO d) r.lists)=oC d from rfl];refine gZ (ja (E:=aA (aA aj)) (v:=v2) (xs:=oC d)) ?_;refine go ?_;exact gQ v2 trivial
end Go.Proofs.YtgimfpcgbmpkhaaGreat
namespace Go.Proofs.YtgimfpcgbmpkhaaGreat
open Tryz (prog)
open Go.Ideal Kd
abbrev aoQ:ae ah:=zL (iV 0) (iV 0) (iV 0) (.slice none 0 0) (.slice none 0 0) (.slice none 0 0) (.slice none 0 0)
abbrev jE(k:aT)(vh vs vr vc vu gh gc vn vl:ah):ae ah:=bL k.decl vh vs vr vc vu (iV k.grid.shape) (iV k.grid.w) (iV k.grid.h) gh gc vn vl
abbrev iO(k:aT)(vh vs vr vc vu gh gc vn vl:ah)(F:ae aI):ae aI:=ay aj vh k.decl.holes::ay jO vs k.decl.symbols::ay lJ vr k.decl.regions::ay eP vc k.decl.bT::ay di vu k.decl.rules::ay aj gh k.grid.holes::ay aj gc k.grid.cells::ay (aA aj) vn k.aH::ay (aA (aA aj)) vl k.lists::F
structure PX(d:dR):Prop where
 rs:G8 d
 typ:PV (Kd.eO d)
structure bD(k:aT):Prop where
 b:PX k.decl
 e:k=tJ (Kd.eO k.decl)
structure Vq where
 ok:Bool
 e:Int
 vc:Value
 vu:Value
 gh:Value
 gc:Value
 vn:Value
 vl:Value
abbrev Vr(d:dR)(vh vs vr:ah)(y:Vq):ah:=.tuple ⟨[.agg ⟨cond y.ok (jE (tJ (Kd.eO d)) vh vs vr y.vc y.vu y.gh y.gc y.vn y.vl) aoQ⟩,iV y.e]⟩
abbrev Vs(d:dR)(vh vs vr:ah)(y:Vq):ae aI:=cond y.ok [ay eP y.vc (Kd.eO d).bT,ay di y.vu (Kd.eO d).rules,ay aj y.gh (bO (Kd.eO d)).holes,ay aj y.gc (bO (Kd.eO d)).cells,ay (aA aj) y.vn (gI (bO (Kd.eO d))),ay (aA (aA aj)) y.vl (oC (Kd.eO d))] []
def BlP(d:dR)(y:Vq):Prop:=(y.ok=true->y.e=0/\PX d)/\(y.ok=false->y.e≠0/\¬PX d)
variable{vh vs vr vc vu:ah}
def aoR{d:dR}(hT:Dl d):aY prog (.func 118) [.agg ⟨oO d vh vs vr vc vu⟩] [] [] (uQ d vh vs vr vc vu) (Vr d vh vs vr) (λ_=>[]) (Vs d vh vs vr) (BlP d):=by
 have Ib:Dl (Kd.eO d):=⟨hT.s.eO,hT.w,hT.h,hT.holes⟩
 have hend:∀{e:Int} {vc vu gh gc vn vl:ah},e≠0->¬PX d->BlP d ⟨false,e,vc,vu,gh,gc,vn,vl⟩:=λhe hb=>⟨(λh=>by cases h),λ_=>⟨he,hb⟩⟩
 refine gB 118 λB w0=>?_;refine go ?_;intro b1 b2 b4 b15;refine qY ?_;refine gC (aoJ (b:=b4) (d:=d) hT.s) λy hy=>?_;obtain⟨ok,e,v1,v2⟩:=y;cases ok with
 |false=>
  obtain⟨he,hno⟩:=hy.2 rfl;dsimp only[cond,xJ,List.nil_append]at he⊢;refine aK ?_ ?_<;>intro h1
  .refine go ?_;exact gQ ⟨false,e,v1,v2,v1,v1,v1,v1⟩ (hend he λh=>hno h.rs)
  .exact absurd (j6.1 h1) he
 |true=>
 obtain⟨he,hres⟩:=hy.1 rfl;have he:e=0:=he;subst he;clear hy;dsimp only[cond,xJ,List.cons_append,List.nil_append];refine fA (ay aj vh (Kd.eO d).holes) (λw hw=>hw (ay aj vh d.holes) s7) ?_;refine fA (ay jO vs (Kd.eO d).symbols) (λw hw=>hw (ay jO vs d.symbols) s7) ?_;refine fA (ay lJ vr (Kd.eO d).regions) (λw hw=>hw (ay lJ vr d.regions) s7) ?_;refine go ?_;refine qY ?_;refine gC (aoK (b:=b4) (d:=Kd.eO d) (vc:=v1) (vu:=v2) Ib) λe he=>?_;refine aK (λhne=>?_) (λhz=>?_)
 .refine go ?_;exact gQ ⟨false,e,v1,v2,v1,v1,v1,v1⟩ (hend hne λh=>hne (he.2 h.typ))
 have hty:=he.1 (j6.1 hz);clear he hz;refine go ?_;refine qY ?_;refine gC (aoM (b:=b4) (d:=Kd.eO d) (vc:=v1) (vu:=v2) Ib hty.PW) λy _=>?_;obtain⟨gh,gc,vn⟩:=y;dsimp only[List.cons_append,List.nil_append];refine go ?_;refine qY ?_;refine gC (aoO (b:=b4) (d:=Kd.eO d) (vc:=v1) (vu:=v2) Ib hty.PW hty.wH) λvl _=>?_;dsimp only[List.cons_append,List.nil_append];refine go ?_;refine qY ?_;refine go ?_;refine gQ ⟨true,0,v1,v2,gh,gc,vn,vl⟩ ⟨λ_=>⟨rfl,hres,hty⟩,(λh=>by cases h)⟩ (hF:=?_);show Sub [ay eP v1 (Kd.eO d).bT,ay di v2 (Kd.eO d).rules,ay aj gh (bO (Kd.eO d)).holes,ay aj gc (bO (Kd.eO d)).cells,ay (aA aj) vn (gI (bO (Kd.eO d))),ay (aA (aA aj)) vl (oC (Kd.eO d))] _;exact .cons s7 (.cons s7 (.cons s7 (.cons s7 (.cons s7 (.cons s7 .nil)))))
structure nU(k:aT):Prop where
 d:Dl k.decl
 g:zV k.grid
 aH:k.aH.length<2^63/\∀l∈k.aH,l.length<2^63
 lists:k.lists.length<2^63/\∀l∈k.lists,l.length<2^63/\∀m∈l,m.length<2^63
def aoS{x y:aT}{h1 s1 r1 c1 u1 Vt Vu n1 l1 h2 s2 r2 c2 u2 Vv Vw n2 l2:ah}(hS:nU x):dO prog 119 [.agg ⟨jE x h1 s1 r1 c1 u1 Vt Vu n1 l1⟩,.agg ⟨jE y h2 s2 r2 c2 u2 Vv Vw n2 l2⟩]
 (iO x h1 s1 r1 c1 u1 Vt Vu n1 l1 (iO y h2 s2 r2 c2 u2 Vv Vw n2 l2 [])) (.bool (decide (x=y))):=by
 have e1:=hS.d.s;have e2:=hS.g.holes;have e3:=hS.g.cells;obtain⟨e4,e5⟩:=hS.aH;obtain⟨e6,e7⟩:=hS.lists;clear hS;obtain⟨xd,⟨xs,xw,xh,Vx,Vy⟩,xn,xl⟩:=x;obtain⟨yd,⟨ys,yw,yh,yho,yce⟩,yn,yl⟩:=y;dsimp only at e1 e2 e3 e4 e5 e6 e7;dsimp only[jE,iO];refine gB 119 λB w0=>?_;refine go ?_;intro b2 b3;refine gH ?_ ?_<;>intro k1
 .refine aZ ?_;rw[dA (λe=>k1 tr)];rfl
 refine gH ?_ ?_<;>intro k2
 .exact sX
 refine gH ?_ ?_<;>intro k3
 .exact sR
 refine gC (wC (xs:=Vx) (ys:=yho) s6) λ_ _=>?_;refine gH ?_ ?_<;>intro k4
 .exact sL
 refine gC (wC (xs:=Vy) (ys:=yce) s6) λ_ _=>?_;refine gH ?_ ?_<;>intro k5
 .exact sE
 refine go ?_;have hsy:dO prog 196 [.agg ⟨oO xd h1 s1 r1 c1 u1⟩,.agg ⟨oO yd h2 s2 r2 c2 u2⟩] [ay aj h1 xd.holes,ay jO s1 xd.symbols,ay lJ r1 xd.regions,ay eP c1 xd.bT,ay di u1 xd.rules,ay aj h2 yd.holes,ay jO s2 yd.symbols,ay lJ r2 yd.regions,ay eP c2 yd.bT,ay di u2 yd.rules] (.bool (decide (xd=yd))):=ab8 e1;refine fH hsy (next:=λ_ _=>?_);refine gH ?_ ?_<;>intro k6
 .exact sC
 refine gC (ab4 (xs:=xn) (ys:=yn) e4 e5) λ_ _=>?_;refine gH ?_ ?_<;>intro k7
 .exact sB
 refine gC (anh (xs:=xl) (ys:=yl) e6 e7) λ_ _=>?_;refine aZ ?_;subst k1 k2 k3 k4 k5 k6 k7;rw[show decide (aT.mk xd ⟨xs,xw,xh,Vx,Vy⟩ xn xl=aT.mk xd ⟨xs,xw,xh,Vx,Vy⟩ xn yl)=decide (xl=yl)from nZ.2 ⟨λh=>by cases h;rfl,λh=>by rw[h]⟩];rfl
def Ic{k:aT}{gh gc vn vl:ah}(hS:nU k):fC prog 32 [.agg ⟨jE k vh vs vr vc vu gh gc vn vl⟩] (iO k vh vs vr vc vu gh gc vn vl []) (λb:Bool=>iV (cond b 0 180)) (λb=>b=true↔bD k):=by
 refine gB 32 λB w0=>?_;refine go ?_;intro b1;refine gC (aoR (d:=k.decl) hS.d) λy hy=>?_;obtain⟨ok,e,v1,v2,v3,v4,v5,v6⟩:=y;cases ok with
 |false=>
  obtain⟨he,hno⟩:=hy.2 rfl;have he:e≠0:=he;dsimp only[cond,Vr,Vs,List.nil_append];refine go ?_;intro b3;refine gH ?_ ?_<;>intro h1
  .exact absurd (j6.1 h1) he
  refine go ?_;exact gQ false ⟨(λh=>by cases h),λh=>absurd h.b hno⟩
 |true=>
 obtain⟨he,hb⟩:=hy.1 rfl;have he:e=0:=he;subst he;clear hy;dsimp only[cond,Vr,Vs,List.cons_append,List.nil_append];refine go ?_;intro b3;refine go ?_;have hsm:=aoS (x:=k) (y:=tJ (Kd.eO k.decl)) (h1:=vh) (s1:=vs) (r1:=vr) (c1:=vc) (u1:=vu) (Vt:=gh) (Vu:=gc) (n1:=vn) (l1:=vl) (h2:=vh) (s2:=vs) (r2:=vr) (c2:=v1) (u2:=v2) (Vv:=v3) (Vw:=v4) (n2:=v5) (l2:=v6) hS;refine fA (ay aj vh (tJ (Kd.eO k.decl)).decl.holes) (λw hw=>hw (ay aj vh k.decl.holes) s7) ?_;refine fA (ay jO vs (tJ (Kd.eO k.decl)).decl.symbols) (λw hw=>hw (ay jO vs k.decl.symbols) s7) ?_;refine fA (ay lJ vr (tJ (Kd.eO k.decl)).decl.regions) (λw hw=>hw (ay lJ vr k.decl.regions) s7) ?_;refine fA (ay eP v1 (tJ (Kd.eO k.decl)).decl.bT) (λw hw=>hw (ay eP v1 (Kd.eO k.decl).bT) s7) ?_;refine fA (ay di v2 (tJ (Kd.eO k.decl)).decl.rules) (λw hw=>hw (ay di v2 (Kd.eO k.decl).rules) s7) ?_;refine fA (ay aj v3 (tJ (Kd.eO k.decl)).grid.holes) (λw hw=>hw (ay aj v3 (bO (Kd.eO k.decl)).holes) s7) ?_;refine fA (ay aj v4 (tJ (Kd.eO k.decl)).grid.cells) (λw hw=>hw (ay aj v4 (bO (Kd.eO k.decl)).cells) s7) ?_;refine fA (ay (aA aj) v5 (tJ (Kd.eO k.decl)).aH) (λw hw=>hw (ay (aA aj) v5 (gI (bO (Kd.eO k.decl)))) s7) ?_;refine fA (ay (aA (aA aj)) v6 (tJ (Kd.eO k.decl)).lists) (λw hw=>hw (ay (aA (aA aj)) v6 (oC (Kd.eO k.decl))) s7) ?_;refine fH hsm (next:=λ_ _=>?_);refine go ?_;refine qW rfl (λh3=>?_) (λh3=>?_)
 .refine go ?_;exact gQ false ⟨(λh=>by cases h),λh=>absurd h.e h3⟩
 .refine go ?_;exact gQ true ⟨λ_=>⟨hb,h3⟩,λ_=>rfl⟩
end Go.Proofs.YtgimfpcgbmpkhaaGreat
namespace Go.Proofs.YtgimfpcgbmpkhaaGreat
open Tryz (prog)
open Go.Ideal Canon
def acK(x:Int):dO prog 224 [iV x] [] (.bool false):=by
 refine gB 224 λB w0=>?_;refine aZ ?_;simp[qX]
def aoV(x y:Int):dO prog 189 [iV x,iV y] [] (iV (dB x y)):=by
 refine gB 189 λB w0=>?_;refine gC (acK x) λ_ _=>?_;refine gC (acK y) λ_ _=>?_;refine aK ?_ ?_<;>intro h1
 .refine aZ ?_;rw[dB,if_pos h1];rfl
 exact lA
variable{k:Nat}
def drop_cons{α:Type}{xs:ae α}{x:α}(h:xs[k]? =some x):xs.drop k=x::xs.drop (k+1):=by
 obtain⟨hlt,he⟩:=bz.1 h;rw[mX hlt,he]
variable{xs ys:ae Int}
def Dm(hx:k<=xs.length)(hy:k<=ys.length)(h:k=xs.length\/k=ys.length):
 eD dB (xs.drop k) (ys.drop k)=if xs.length<ys.length then -1 else if ys.length<xs.length then 1 else 0:=by
 rcases h with h|h
 .rw[show xs.drop k=[]from BU s6];by_cases e:xs.length<ys.length
  .rw[if_pos e];have:k<ys.length:=by omega
   rw[mX this];rfl
  .rw[if_neg e,if_neg s6,show ys.drop k=[]from BU s6];rfl
 .rw[show ys.drop k=[]from BU s6];by_cases e:ys.length<xs.length
  .rw[if_neg s6,if_pos e];have:k<xs.length:=by omega
   rw[mX this];rfl
  .rw[if_neg s6,if_neg e,show xs.drop k=[]from BU s6];rfl
def Vz{va vb:ah}(hal:xs.length<=1000000)(hbl:ys.length<=1000000):
 dO prog 171 [va,vb] [ay aj va xs,ay aj vb ys] (iV (eD dB xs ys)):=by
 refine gB 171 λB w0=>?_;refine gN xs.length 11 (λk=>k<=xs.length/\k<=ys.length/\eD dB xs ys=eD dB (xs.drop k) (ys.drop k)) ⟨s6,s6,rfl⟩ ?_;rintro k ⟨hkx,Ie,qJ⟩;refine aK ?_ ?_<;>intro h1
 .refine go ?_;intro _ _ x hx;refine rU rfl ?_ ?_<;>intro h2
  .refine aZ ?_;rw[qJ,drop_cons hx,show ys.drop k=[]from BU s6];rfl
  refine go ?_;intro _ _ y hy;refine fH (aoV x y) (next:=λ_ _=>?_);refine aK ?_ ?_<;>intro h3
  .refine aZ ?_;rw[qJ,drop_cons hx,drop_cons hy,eD,if_pos h3];rfl
  refine go ?_;refine aW (k+1) s6 ⟨s6,s6,?_⟩;rw[qJ,drop_cons hx,drop_cons hy,eD,if_neg (by simpa using h3)]
 refine go ?_;have hkm:k=xs.length:=s6
 refine rU rfl ?_ ?_<;>intro h3
 .refine aZ ?_;rw[qJ,Dm hkx Ie s6,if_pos s6];rfl
 refine aZ ?_;rw[qJ,Dm hkx Ie s6,if_neg s6,if_neg s6];rfl
end Go.Proofs.YtgimfpcgbmpkhaaGreat
namespace Go.Proofs.YtgimfpcgbmpkhaaGreat
open Tryz (prog)
open Go.Ideal Kd Canon
def acL(x:Int):dO prog 224 [iV x] [] (.bool false):=by
 refine gB 224 λB w0=>?_;refine aZ ?_;simp[qX]
def acM(x y:Int):dO prog 189 [iV x,iV y] [] (iV (dB x y)):=by
 refine gB 189 λB w0=>?_;refine gC (acL x) λ_ _=>?_;refine gC (acL y) λ_ _=>?_;refine aK ?_ ?_<;>intro h1
 .refine aZ ?_;rw[dB,if_pos h1];rfl
 exact lA
def aoW{α:Type}{xs:ae α}{k:Nat}{x:α}(h:xs[k]? =some x):xs.drop k=x::xs.drop (k+1):=by
 obtain⟨hlt,he⟩:=bz.1 h;rw[mX hlt,he]
def acN{v:ah}{xs:ae Int}(hl:xs.length<2^63):dO prog 182 [v] [ay aj v xs] (iV (ww xs)):=by
 refine gB 182 λB w0=>?_;refine gN xs.length 8 (λk=>k<=xs.length/\ww xs=ww (xs.drop k)) ⟨s6,rfl⟩ ?_;rintro k ⟨hk,hf⟩;refine aK ?_ ?_<;>intro h1
 .refine go ?_;intro _ _ x hx;have hd:=aoW hx;refine aK ?_ ?_<;>intro h2
  .refine aZ ?_;rw[hf,hd,ww,if_pos h2];rfl
  .refine go ?_;refine aW (k+1) zd ⟨s6,?_⟩;rw[hf,hd,ww,if_neg h2]
 have hk:k=xs.length:=s6
 refine aZ ?_;rw[hf,hk,DY];rfl
def K6{a b:Clue}{va vb:ah}:dO prog 110 [tK a va,tK b vb] [] (iV (dV a b)):=by
 refine gB 110 λB w0=>?_;refine go ?_;intro b2 b3;refine gC (acM a.aN b.aN) λ_ _=>?_;refine gC (acM a.at_ b.at_) λ_ _=>?_;refine go ?_;intro b15;refine mI (A:=pt b15 (.cells [iV (dB a.aN b.aN),iV (dB a.at_ b.at_)])) (fs:=[ay aj (.slice (some ⟨b15,0,some 0⟩) 2 2) [dB a.aN b.aN,dB a.at_ b.at_]]) (uJ (b:=b15) (f:=0) (c:=2) (xs:=[dB a.aN b.aN,dB a.at_ b.at_])) (h:=?_);refine gC (acN (xs:=[dB a.aN b.aN,dB a.at_ b.at_]) s7) λ_ _=>?_;exact dH
structure uf(p:List Clue):Prop where
 len:p.length<2^63
 vals:∀g∈p,g.values.length<2^63
def aoX{k:aT}{g:Clue}{vh vs vr vc vu gh gc vn vl vv:ah}(hS:nU k)(hF:Kv k)(hv:g.values.length<2^63):
 fC prog 109 [.agg ⟨jE k vh vs vr vc vu gh gc vn vl⟩,tK g vv] (ay aj vv g.values::iO k vh vs vr vc vu gh gc vn vl []) (λb:Bool=>.bool b) (λb=>b=true↔mO k g):=by
 have hcl:=hS.d.s.ny;have hsl:=hS.d.s.eH;refine gB 109 λB w0=>?_;refine gF eP vc k.decl.bT λac cc ec=>?_;subst ec;refine gF jO vs k.decl.symbols λjg cs1 es1=>?_;subst es1;refine gF (aA (aA aj)) vl k.lists λal cl el=>?_;subst el;refine gF aj vv g.values λav cv K7=>?_;subst K7;refine go ?_;intro b2 b3;refine gP b2 ?_;refine gP b3 ?_;refine gH ?_ ?_<;>intro h1
 rotate_left
 .refine go ?_;exact gQ false ⟨(λh=>by cases h),λ⟨c,l,h,_⟩=>by omega⟩
 refine aK ?_ ?_<;>intro h2
 .refine go ?_;refine gQ false ⟨(λh=>by cases h),λ⟨c,l,_,h,_⟩=>?_⟩;have:=(bz.1 h).1;omega
 obtain⟨ci,hci⟩:=dW (show 0<=g.aN by omega);have hg0:0<=g.aN:=s6
 have Yf:ci<k.decl.bT.length:=s6
 have htn:g.aN.toNat=ci:=s6
 refine go ?_;rw[hci];refine Ey eP (xs:=k.decl.bT) (next:=λ_ _ c (_:Unit) hc=>?_);obtain⟨hf0,hf1⟩:=hF c (aV hc);refine go ?_;intro b5;refine gH ?_ ?_<;>intro h3
 rotate_left
 .refine go ?_;exact gQ false ⟨(λh=>by cases h),λ⟨c,l,_,_,_,h,_⟩=>by omega⟩
 refine go ?_;obtain⟨fi,hfi⟩:=dW hf0;have PY:c.family.toNat=fi:=s6
 rw[hfi];refine Ey (aA (aA aj)) (xs:=k.lists) (next:=λ_ _ ls (VA:ah) hls=>?_);refine aK ?_ ?_<;>intro h4
 .refine go ?_;refine gQ false ⟨(λh=>by cases h),λ⟨c',l',_,q1,q2,q3,q4,_⟩=>?_⟩;rw[htn,hc]at q1;cases q1;rw[PY,hls]at q2;cases q2;omega
 have hR:∀b:Bool,(b=true↔((c.type=1/\g.values.length=1/\∀x∈g.values,0<=x/\x<=(k.decl.symbols.length:Int) - 1)\/(c.type=2/\g.values.length=1/\∀x∈g.values,c.lo<=x/\x<=c.hi)\/
  (c.type≠1/\c.type≠2/\g.values.length<=8/\∀x∈g.values,1<=x/\x<=256)))->(b=true↔mO k g):=λb hb=>by
  rw[hb];refine⟨λh=>⟨c,ls,hg0,by rw[htn];exact hc,by rw[PY];exact hls,s6,s6,h⟩,λ⟨c',l',_,q1,_,_,_,h⟩=>?_⟩;rw[htn,hc]at q1;cases q1;exact h
 refine aK ?_ ?_<;>intro h5
 .refine gH ?_ ?_<;>intro h6
  .exact ia
  refine gC (UH (xs:=g.values) (lo:=0) (hi:=(k.decl.symbols.length:Int) - 1) hv) λ_ _=>?_;refine go ?_;refine gQ (Bn g.values 0 ((k.decl.symbols.length:Int) - 1)) (hR _ ?_);unfold Bn;rw[lV];exact⟨λh=>.inl ⟨h5,s6,h⟩,λh=>by rcases h with h|h|h;exact h.2.2;exact absurd h5 s6;exact absurd h5 h.1⟩
 refine aK ?_ ?_<;>intro h6
 .refine gH ?_ ?_<;>intro h7
  .exact ia
  refine gC (UH (xs:=g.values) (lo:=c.lo) (hi:=c.hi) hv) λ_ _=>?_;refine go ?_;refine gQ (Bn g.values c.lo c.hi) (hR _ ?_);unfold Bn;rw[lV];exact⟨λh=>.inr (.inl ⟨h6,s6,h⟩),λh=>by rcases h with h|h|h;exact absurd h.1 h5;exact h.2.2;exact absurd h6 h.2.1⟩
 refine gH ?_ ?_<;>intro h7
 .exact ia
 refine gC (UH (xs:=g.values) (lo:=1) (hi:=256) hv) λ_ _=>?_;refine go ?_;refine gQ (Bn g.values 1 256) (hR _ ?_);unfold Bn;rw[lV];exact⟨λh=>.inr (.inr ⟨h5,h6,s6,h⟩),λh=>by rcases h with h|h|h;exact absurd h.1 h5;exact absurd h.1 h6;exact h.2.2.2⟩
variable{k:aT}
def bD.decl(h:bD k):k.decl=Kd.eO k.decl:=congrArg aT.decl h.e
def bD.lists(h:bD k):k.lists=oC k.decl:=by
 have:=congrArg aT.lists h.e;have h2:(tJ (Kd.eO k.decl)).lists=oC (Kd.eO k.decl):=rfl;exact qt
def bD.grid(h:bD k):k.grid=bO k.decl:=by
 have:=congrArg aT.grid h.e;have h2:(tJ (Kd.eO k.decl)).grid=bO (Kd.eO k.decl):=rfl;exact qt
def bD.aH(h:bD k):k.aH=gI (bO k.decl):=by
 have:=congrArg aT.aH h.e;have h2:(tJ (Kd.eO k.decl)).aH=gI (bO (Kd.eO k.decl)):=rfl;exact qt
def bD.typ(h:bD k):PV k.decl:=by
 have:=h.b.typ;rw[<- h.decl]at this;exact this
def bD.fM(h:bD k):Kv k:=by
 intro c hc;rw[h.decl]at hc;obtain⟨q,hq,rfl⟩:=cO.1 (show c∈k.decl.bT.map (G7 (iT k.decl))from hc);have h1:=CU (h.b.rs.aaA q hq);have h2:(iT k.decl).length=8+k.decl.regions.length:=by
  unfold iT;rw[fu,bi];rfl
 have h3:k.lists.length=8+k.decl.regions.length:=by
  rw[h.lists];unfold oC;rw[fu,bi,bi,o8]
 show 0<=((jY q.on (iT k.decl):Nat):Int)/\((jY q.on (iT k.decl):Nat):Int)<_;omega
variable{vh vs vr vc vu gh gc vn vl vp:ah}{p:ae Clue}
def VB(hS:nU k)(hP:uf p):
 fC prog 29 [.agg ⟨jE k vh vs vr vc vu gh gc vn vl⟩,.agg ⟨[vp]⟩] (ay bU vp p::iO k vh vs vr vc vu gh gc vn vl []) (λe:Int=>iV e) (λe=>(¬bD k->e=180)/\(bD k->¬fE k p->e=190)/\(bD k->fE k p->e=0)):=by
 refine gB 29 λB w0=>?_;refine gF bU vp p λap1 cp ep=>?_;subst ep;refine go ?_;intro b2 b3;refine gP b2 ?_;refine gP b3 ?_;refine gC (Ic (k:=k) hS) λb hb=>?_;cases b with
 |false=>
  exact eK
 |true=>
 have hK:=hb.1 rfl;clear hb;have hend:¬fE k p->(¬bD k->(190:Int)=180)/\(bD k->¬fE k p->(190:Int)=190)/\(bD k->fE k p->(190:Int)=0):=λhn=>⟨λh=>absurd hK h,λ_ _=>rfl,λ_ h=>absurd h hn⟩
 dsimp only[cond];refine aK ?_ ?_<;>intro h1
 .refine go ?_;exact gQ 190 (hend λh=>by have:=h.len;omega)
 refine gN p.length 17 (λj=>j<=p.length/\(∀g∈p.take j,mO k g)/\∀(i:Nat) a b,i+1<j->p[i]? =some a->p[i+1]? =some b->dV a b<0) ⟨bI _,s7,λi a b h=>by omega⟩ ?_;rintro j ⟨hj,hall,hs⟩;refine aK ?_ ?_<;>intro h2
 .refine gX bU (xs:=p) λ_ _ g (vg:ah) hg=>?_;have hgm:=aV hg;have htk:=fq hg;refine go ?_;intro b6;refine gC (aoX (k:=k) (g:=g) (vv:=vg) hS hK.fM (hP.vals g hgm)) λb hb=>?_;cases b with
  |false=>
   refine go ?_;exact gQ 190 (hend λh=>by have:=hb.2 (h.right g hgm);cases this)
  |true=>
  have hR:=hb.1 rfl;have vz:∀x∈p.take (j+1),mO k x:=by
   rw[htk];intro x hx;rcases fU.1 hx with hx|hx
   .exact hall x hx
   .rw[bR.1 hx];exact hR
  refine gH ?_ ?_<;>intro h3
  .have hj0:j=0:=by omega
   subst hj0;refine go ?_;exact aW 1 (by show p.length - 1<p.length - 0;omega) ⟨s6,vz,λi a b h=>by omega⟩
  obtain⟨i,rfl⟩:∃i,j=i+1:=⟨j - 1,s6⟩
  refine go ?_;rw[show((i+1:Nat):Int) - 1=(i:Int)by omega];refine Ey bU (xs:=p) (next:=λ_ _ g0 (vg0:ah) hg0=>?_);refine gC (K6 (a:=g0) (b:=g) (va:=vg0) (vb:=vg)) λ_ _=>?_;refine aK ?_ ?_<;>intro h4
  .refine go ?_;exact gQ 190 (hend λh=>by have:=h.sorted i g0 g hg0 hg;omega)
  .refine go ?_;refine aW (i+1+1) (by show p.length - (i+1+1)<p.length - (i+1);omega) ⟨s6,vz,λi' a b h ha hb=>?_⟩;by_cases e:i'=i
   .subst e;rw[hg0]at ha;rw[hg]at hb;cases ha;cases hb;omega
   .exact hs i' a b s6 ha hb
 have iH:j=p.length:=s6
 subst iH;rw[dK]at hall;refine go ?_;exact gQ 0 ⟨λh=>absurd hK h,λ_ h=>absurd ⟨s6,hall,λi a b ha hb=>hs i a b (bz.1 hb).1 ha hb⟩ h,λ_ _=>rfl⟩
abbrev lg(k:aT)(grid:ae Int):Prop:=Fin (k.grid.cells.length:Int) (k.decl.symbols.length:Int) grid
variable{vg:ah}{grid:ae Int}
def acP(hS:nU k)(hl:grid.length<2^63):
 fC prog 8 [.agg ⟨jE k vh vs vr vc vu gh gc vn vl⟩,vg] (ay aj vg grid::iO k vh vs vr vc vu gh gc vn vl []) (λe:Int=>iV e) (λe=>(¬bD k->e=180)/\(bD k->¬lg k grid->e=200)/\(bD k->lg k grid->e=0)):=by
 refine gB 8 λB w0=>?_;dsimp only[iO];refine go ?_;intro b2;refine gC (Ic (k:=k) hS) λb hb=>?_;cases b with
 |false=>
  exact eK
 |true=>
 have hK:=hb.1 rfl;clear hb;dsimp only[cond];refine gC (amZ (cells:=(k.grid.cells.length:Int)) (symbols:=(k.decl.symbols.length:Int)) (grid:=grid) hl) λb hb=>?_;cases b with
 |false=>
  have hno:¬lg k grid:=λh=>by have:=hb.2 h;cases this
  refine go ?_;exact gQ 200 ⟨λh=>absurd hK h,λ_ _=>rfl,λ_ h=>absurd h hno⟩
 |true=>
  have hf:=hb.1 rfl;refine go ?_;exact gQ 0 ⟨λh=>absurd hK h,λ_ h=>absurd hf h,λ_ _=>rfl⟩
structure acQ(k:aT)(p:List Clue)(grid:List Int)(e:Int):Prop where
 nk:¬bD k->e=180
 nf:bD k->¬lg k grid->e=200
 np:bD k->lg k grid->¬fE k p->e=190
 ok:bD k->lg k grid->fE k p->e=0
def aoZ(hS:nU k)(hP:uf p)(hl:grid.length<2^63):
 fC prog 26 [.agg ⟨jE k vh vs vr vc vu gh gc vn vl⟩,.agg ⟨[vp]⟩,vg] (ay bU vp p::ay aj vg grid::iO k vh vs vr vc vu gh gc vn vl []) (λe:Int=>iV e) (acQ k p grid):=by
 refine gB 26 λB w0=>?_;refine gF bU vp p λap1 cp ep=>?_;subst ep;refine go ?_;intro b3 b4;refine gP b3 ?_;refine gP b4 ?_;refine gC (acP (k:=k) (grid:=grid) hS hl) λe he=>?_;obtain⟨h1,h2,h3⟩:=he;refine aK (λhne=>?_) (λhz=>?_)
 .refine go ?_;exact gQ e ⟨h1,h2,λa b _=>absurd (h3 a b) hne,λa b _=>absurd (h3 a b) hne⟩
 have hz:e=0:=j6.1 hz;subst hz;have hK:bD k:=Classical.byContradiction λh=>by have:=h1 h;omega
 have hF:lg k grid:=Classical.byContradiction λh=>by have:=h2 hK h;omega
 refine gC (VB (k:=k) (p:=p) hS hP) λe he=>?_;refine go ?_;exact gQ e ⟨λh=>absurd hK h,λ_ h=>absurd hF h,λ_ _ h=>he.2.1 hK h,λ_ _ h=>he.2.2 hK h⟩
end Go.Proofs.YtgimfpcgbmpkhaaGreat
namespace Go.Proofs.YtgimfpcgbmpkhaaGreat
open Tryz (prog)
open Go.Ideal Kd Canon
abbrev nV(k:aT)(vh vs vr vc vu gh gc vn vl vp vg vv:ah):ae ah:=[.string k.decl.name,iV k.decl.version,iV k.decl.shape,iV k.decl.w,iV k.decl.h,vh,vs,vr,vc,vu,iV k.grid.shape,iV k.grid.w,iV k.grid.h,gh,gc,vn,vl,vp,vg,vv]
def gJ(k:aT):ae Int:=k.decl.symbols.map (·.value)
variable{k:aT}{vh vs vr vc vu gh gc vn vl vp vg:ah}
def look_ok{p:ae Clue}{grid:ae Int}(hsl:k.decl.symbols.length<=4096):
 aY prog (.func 27) [.agg ⟨jE k vh vs vr vc vu gh gc vn vl⟩,.agg ⟨[vp]⟩,vg] [] [] [ay aj vg grid,ay jO vs k.decl.symbols] (λvv:ah=>.agg ⟨nV k vh vs vr vc vu gh gc vn vl vp vg vv⟩) (λ_=>[]) (λvv=>[ay aj vv (gJ k)]) (λ_=>True):=by
 refine gB 27 λB w0=>?_;refine gF aj vg grid λag cg eg=>?_;subst eg;refine gF jO vs k.decl.symbols λjg cs1 es1=>?_;subst es1;refine go ?_;intro b3 b4 b6 b7;refine go ?_;refine kv aj ?_;refine dL (λy:Nat×ah=>k.decl.symbols.length - y.1) (λy=>[(18,iV (y.1:Int))]) (λy=>[pt b7 (.cells (nV k vh (.slice jg k.decl.symbols.length cs1) vr vc vu gh gc vn vl vp (.slice ag grid.length cg) y.2)),ap aj y.2 ((k.decl.symbols.take y.1).map (·.value))]) (λ_=>[]) (λy=>y.1<=k.decl.symbols.length) (0,.slice none 0 0) (bI _) (hk:=tc) (body:=?_);rintro⟨j,vv⟩ hj;dsimp only at hj⊢;have hjl:((k.decl.symbols.take j).map (·.value)).length=j:=us
 refine aK ?_ ?_<;>intro h1
 .refine gX jO (xs:=k.decl.symbols) λ_ _ s (_:Unit) hs=>?_;have htk:(k.decl.symbols.take (j+1)).map (·.value)=(k.decl.symbols.take j).map (·.value)++[s.value]:=by rw[fq hs,bZ,kg]
  refine go ?_;intro b9;refine go ?_;intro b26;exact dj
 have iH:j=k.decl.symbols.length:=s6
 subst iH;rw[dK,show k.decl.symbols.map (·.value)=gJ k from rfl];refine gZ (ja (E:=aj) (v:=vv) (xs:=gJ k)) ?_;refine go ?_;exact gQ vv trivial
variable{vv v1 v2:ah}{r:bF}
def ao0:
 aY prog (.func 183) [.agg ⟨nV k vh vs vr vc vu gh gc vn vl vp vg vv⟩,.agg ⟨jf r v1 v2⟩] [] [] [] (λy:Nat×Nat=>.func (.func 221) #[] #[ptr' y.1,ptr' y.2]) (λ_=>[])
  (λy=>[aX y.1 0 (jf r v1 v2),aX y.2 0 (nV k vh vs vr vc vu gh gc vn vl vp vg vv)]) (λ_=>True):=by
 refine gB 183 λB w0=>?_;refine go ?_;intro b2 b3;refine go ?_;refine gP b2 ?_;refine gP b3 ?_;exact gQ (b3,b2) trivial
structure K8(k:aT)(r:bF):Prop where
 fM:0<=r.family/\r.family<k.lists.length
 aN:r.aN<k.decl.bT.length
def ao1{br bv:Nat}{p:ae Clue}(hS:nU k)(hP:uf p)(hF:Kv k)(hr:K8 k r)(hp:∀g∈p,mO k g):
 GQ prog O5 Kw (.func 221) [] [ptr' br,ptr' bv] [aX br 0 (jf r v1 v2),aX bv 0 (nV k vh vs vr vc vu gh gc vn vl vp vg vv),ay (aA (aA aj)) vl k.lists,ay eP vc k.decl.bT,ay bU vp p] (λxs=>xs.map pJ=ik k p r):=by
 intro S inv ok step s0 oM y1 y2 F' h0 hok hy;have hpl:=hP.len;obtain⟨hf0,hf1⟩:=hr.fM;rw[bQ,bQ,bQ,bQ,bQ,bP];refine gB 221 λB w0=>?_;by_cases hneg:r.aN<0
 .obtain⟨fi,hfi⟩:=dW hf0;have PY:r.family.toNat=fi:=by omega
  have hrl:ik k p r=(k.lists.getD r.family.toNat []).map λl=>(l,[r.n]):=by unfold ik;rw[if_pos hneg]
  refine aK ?_ ?_<;>intro h1
  rotate_left
  .exact absurd hneg h1
  refine go ?_;rw[hfi];refine Ey (aA (aA aj)) (xs:=k.lists) (next:=λ_ _ ls (VA:ah) hls=>?_);have hll:=(hS.lists.2 ls (aV hls)).1;have hrl:ik k p r=ls.map λl=>(l,[r.n]):=by rw[hrl,PY,fK hls]
  clear hneg h1;refine go ?_;refine dL (λy:Nat×ae EA×S=>ls.length - y.1) (λy=>[(19,iV (y.1:Int))]) (λy=>inv y.2.2) (λ_=>[]) (λy=>y.1<=ls.length/\ok y.2.1 y.2.2/\y.2.1.map pJ=((ls.take y.1).map λl=>(l,[r.n]))/\∀rest,cz step s0 (y.2.1++rest)=cz step y.2.2 rest) (0,[],s0) ⟨bI _,h0,rfl,λ_=>rfl⟩ (body:=?_);rintro⟨j,bS,s⟩ ⟨hj,hos,iW,hrun⟩;dsimp only at hj hos iW hrun⊢;refine aK ?_ ?_<;>intro h1
  .refine gX (aA aj) (xs:=ls) λ_ _ ps (yL:ah) hps=>?_;refine go ?_;intro Bq;refine mI (A:=pt Bq (.cells [iV r.n])) (fs:=[ay aj (.slice (some ⟨Bq,0,some 0⟩) 1 1) [r.n]]) (uJ (b:=Bq) (f:=0) (c:=1) (xs:=[r.n])) (h:=?_);have hnx:(ls.take (j+1)).map (λl=>(l,[r.n]))=(ls.take j).map (λl=>(l,[r.n]))++[pJ ((ps,yL),([r.n],.slice (some ⟨Bq,0,some 0⟩) 1 1))]:=by rw[fq hps,bZ,kg];rfl
   generalize hxd:(((ps,yL),([r.n],Value.slice (some ⟨Bq,0,some 0⟩) 1 1)):EA)=x at hnx;have hX:(bS++x::pad ((ls.drop (j+1)).map λl=>(l,[r.n]))).map pJ=ik k p r:=by
    rw[bZ,iX,aaQ,iW,hrl];conv=>rhs;rw[<- l5 (j+1) ls,bZ,hnx]
    rw[fo];rfl
   have fQ:=hy _ s _ _ hos hX;rw[show O5 x=[yL,.slice (some ⟨Bq,0,some 0⟩) 1 1]by rw[<- hxd];rfl,show Kw x=[ay aj yL ps,ay aj (.slice (some ⟨Bq,0,some 0⟩) 1 1) [r.n]]by rw[<- hxd];rfl]at fQ;rw[bQ,bQ,bP]at fQ;refine gC fQ λ_ _=>?_;cases hst:(step s x).2 with
   |true=>
    have hs1:step s x=((step s x).1,true):=Prod.ext rfl hst;refine go ?_;refine aW (j+1,bS++[x],(step s x).1) DG ⟨by show j+1<=_;omega,hok _ s _ _ hos hX hst,?_,λrest=>?_⟩
    .exact sx
    .exact fc
   |false=>
    have hs1:step s x=((step s x).1,false):=Prod.ext rfl hst;have hr:=hrun (x::pad ((ls.drop (j+1)).map λl=>(l,[r.n])));rw[cz,hs1]at hr;dsimp only at hr;refine go ?_;exact gQ (bS++x::pad ((ls.drop (j+1)).map λl=>(l,[r.n]))) hX (hk:=Bs)
  have iH:j=ls.length:=s6
  subst iH;rw[dK,<- hrl]at iW;exact eR
 .obtain⟨ci,hci⟩:=dW (show 0<=r.aN by omega);have hcl:=hr.aN;have hcc:k.decl.bT[r.aN.toNat]? =some (k.decl.bT[r.aN.toNat]'(s6)):=bN _;generalize k.decl.bT[r.aN.toNat]'(s6)=c at hcc;have hrl:ik k p r=(p.filter λg=>decide (g.aN=r.aN)).map λg=>(kL k g,g.values):=by unfold ik;rw[if_neg hneg]
  refine aae eP 6 rfl hcc λb o f cc yc ec=>?_;subst ec;rw[show eP.fs c yc=[]from rfl,bP,show eP.pat c yc=PL c from rfl];refine akc (b:=bv) 17 (ds:=[vp,vg,vv]) rfl ?_;refine aK ?_ ?_<;>intro h1
  .exact absurd h1 hneg
  clear h1;refine go ?_;refine dL (λy:Nat×ae EA×S=>p.length - y.1) (λy=>[(35,iV (y.1:Int))]) (λy=>inv y.2.2) (λ_=>[]) (λy=>y.1<=p.length/\ok y.2.1 y.2.2/\y.2.1.map pJ=(((p.take y.1).filter λg=>decide (g.aN=r.aN)).map λg=>(kL k g,g.values))/\∀rest,cz step s0 (y.2.1++rest)=cz step y.2.2 rest) (0,[],s0) ⟨bI _,h0,rfl,λ_=>rfl⟩ (body:=?_);rintro⟨j,bS,s⟩ ⟨hj,hos,iW,hrun⟩;dsimp only at hj hos iW hrun⊢;refine aK ?_ ?_<;>intro h1
  .refine gX bU (xs:=p) λ_ _ g (PZ:ah) hg=>?_;have hgm:=aV hg;obtain⟨c2,ls,ps,q1,q2,q3,q4,q5,q6,q7⟩:=(hp g hgm).cells;have htk:(p.take (j+1)).filter (λg=>decide (g.aN=r.aN))=(p.take j).filter (λg=>decide (g.aN=r.aN))++(if g.aN=r.aN then[g]else[]):=by
    rw[fq hg,ze];by_cases e:g.aN=r.aN
    .rw[if_pos e];simp[e]
    .rw[if_neg e];simp[e]
   refine go ?_;intro b7;refine gH ?_ ?_<;>intro h2
   .rw[if_neg h2,jo]at htk;refine go ?_;exact aW (j+1,bS,s) DH ⟨by show j+1<=_;omega,hos,by show bS.map pJ=_;rw[iW,htk],hrun⟩
   rw[if_pos h2]at htk;have e1:c2=c:=by
    rw[h2,hcc]at q1;exact(Option.some.inj q1).symm
   subst e1;obtain⟨hf2,hf3⟩:=hF c2 (aV hcc);obtain⟨fi,hfi⟩:=dW hf2;obtain⟨ai,hai⟩:=dW q5;rw[show c2.family.toNat=fi by omega]at q2;rw[show g.at_.toNat=ai by omega]at q3;refine gX (aA (aA aj)) (xs:=k.lists) (k:=fi) (hi:=by show Value.int .i64 c2.family=_;rw[hfi]) λ_ _ VC (VA:ah) hls=>?_;rw[q2]at hls;obtain rfl:ls=VC:=Option.some.inj hls;refine gX (aA aj) (xs:=ls) (k:=ai) (hi:=by show Value.int .i64 g.at_=_;rw[hai]) λ_ _ ps2 (yL:ah) hps=>?_;rw[q3]at hps;obtain rfl:ps=ps2:=Option.some.inj hps;have hnx:((p.take (j+1)).filter λg=>decide (g.aN=r.aN)).map (λg=>(kL k g,g.values))=(((p.take j).filter λg=>decide (g.aN=r.aN)).map λg=>(kL k g,g.values))++[pJ ((ps,yL),(g.values,PZ))]:=by rw[htk,bZ,kg,q7];rfl
   generalize hxd:(((ps,yL),(g.values,PZ)):EA)=x at hnx;have hX:(bS++x::pad (((p.drop (j+1)).filter λg=>decide (g.aN=r.aN)).map λg=>(kL k g,g.values))).map pJ=ik k p r:=by
    rw[bZ,iX,aaQ,iW,hrl];conv=>rhs;rw[<- l5 (j+1) p,ze,bZ,hnx]
    rw[fo];rfl
   have fQ:=hy _ s _ _ hos hX;rw[show O5 x=[yL,PZ]by rw[<- hxd];rfl,show Kw x=[ay aj yL ps,ay aj PZ g.values]by rw[<- hxd];rfl]at fQ;rw[bQ,bQ,bP]at fQ;refine gC fQ λ_ _=>?_;cases hst:(step s x).2 with
   |true=>
    have hs1:step s x=((step s x).1,true):=Prod.ext rfl hst;refine go ?_;refine aW (j+1,bS++[x],(step s x).1) DH ⟨by show j+1<=_;omega,hok _ s _ _ hos hX hst,?_,λrest=>?_⟩
    .exact sx
    .exact fc
   |false=>
    have hs1:step s x=((step s x).1,false):=Prod.ext rfl hst;have hr:=hrun (x::pad (((p.drop (j+1)).filter λg=>decide (g.aN=r.aN)).map λg=>(kL k g,g.values)));rw[cz,hs1]at hr;dsimp only at hr;refine go ?_;exact gQ (bS++x::pad (((p.drop (j+1)).filter λg=>decide (g.aN=r.aN)).map λg=>(kL k g,g.values))) hX (hk:=Bs)
  have iH:j=p.length:=s6
  subst iH;rw[dK,<- hrl]at iW;exact eR
end Go.Proofs.YtgimfpcgbmpkhaaGreat
namespace Go.Proofs.YtgimfpcgbmpkhaaGreat
open Tryz (prog)
open Go.Ideal Kd Canon
abbrev EY(P:Program)(fn:Fn)(first cap:ae ah)(F:ae aI)(c:ae Int×ae Int->Bool)(x:ae Int×ae Int):Prop:=
 ∀v1 v2:ah,aY P fn (first++[v1,v2]) cap [] (ay aj v1 x.1::ay aj v2 x.2::F) (λ_:Unit=>.bool (c x)) (λ_=>[]) (λ_=>[]) (λ_=>True)
def Ig{k:aT}{p:ae Clue}{r:bF}{vh vs vr vc vu gh gc vn vl vp vg vv v1 v2:ah}{fn:Fn}{first cap:ae ah}{F1:ae aI}{c:ae Int×ae Int->Bool}(hS:nU k)(hP:uf p)(hF:Kv k)(hr:K8 k r)(hp:∀g∈p,mO k g)
 (hc:∀x∈ik k p r,EY prog fn first cap F1 c x):
 fC prog 76 [.agg ⟨nV k vh vs vr vc vu gh gc vn vl vp vg vv⟩,.agg ⟨jf r v1 v2⟩,.func fn ⟨first⟩ ⟨cap⟩] (ay (aA (aA aj)) vl k.lists::ay eP vc k.decl.bT::ay bU vp p::F1) (λ_:Unit=>.bool ((ik k p r).all c)) (λ_=>True):=by
 refine zD _ (pY 76) λB w0=>?_;refine go ?_;intro b3 b4 b5 b6;refine gP b5 ?_;refine gC (ao0 (k:=k) (r:=r) (vv:=vv) (v1:=v1) (v2:=v2)) λy _=>?_;dsimp only[List.cons_append,List.nil_append];refine go ?_;refine Ki (Z:=Nat) (λ(u:Unit) (x:EA)=>(u,cond (c (pJ x)) Out.normal Out.ret)) (λ_=>[pt b6 (.cells [.bool false])]) (λ_ _=>True) () _ (λ_ _=>[]) trivial (λ_ _ _ _ _ _ _=>trivial) (ao1 (br:=y.1) (bv:=y.2) (k:=k) (p:=p) (r:=r) (vv:=vv) (v1:=v1) (v2:=v2) hS hP hF hr hp) (by intro s x lo o B w0;dsimp only[O5,Kw,List.cons_append,List.nil_append,List.zip_cons_cons,List.zip_nil_left,List.reverse_cons,List.reverse_nil];refine go ?_;have z0:Nat:=0;exact zI z0 rfl) ?_ ?_ ?_
 .intro bS s x rest z lo L B w0 _ hX;have hx:pJ x∈ik k p r:=by rw[<- hX];exact cO.2 ⟨x,s7,rfl⟩
  have hcx:=hc _ hx x.1.2 x.2.2;dsimp only[pJ]at hcx⊢;dsimp only[Kw,List.cons_append,List.nil_append];refine gC hcx λ_ _=>?_;cases hcb:c (x.1.1,x.2.1)with
  |true=>
   refine go ?_;exact dy
  |false=>
   refine go ?_;exact dy
 .intro rr xs hX;have hrun:∀zs:ae EA,(gM (λ(u:Unit) (x:EA)=>(u,cond (c (pJ x)) Out.normal Out.ret)) () zs)=((),cond ((zs.map pJ).all c) Out.normal Out.ret):=by
   intro zs;induction zs with
   |nil=>rfl
   |cons z zs ih=>
    rw[gM,iX,L6];cases hz:c (pJ z)with
    |true=>
     rw[L8];exact ih
    |false=>rfl
  rw[hrun,hX];dsimp only[List.cons_append,List.nil_append];cases hall:(ik k p r).all c with
  |true=>
   exact pS
  |false=>
   exact pS
 .intro s x;show xq (cond (c (pJ x)) Out.normal Out.ret);cases c (pJ x)<;>trivial
def acS{n op b:Int}:dO prog 81 [iV n,iV op,iV b] [] (.bool (Ky n op b)):=by
 refine gB 81 λB w0=>?_;refine go ?_;iterate 9 (all_goals (first
  |(refine ou () (hv:=?_) (hp:=trivial);first
   |exact congrArg Value.bool (by unfold Ky;simp_all;done)
   |exact congrArg Value.bool (by unfold Ky;(try simp only[*]);simp<;>omega))
  |(refine go ?_;first
   |with_reducible refine NY (λ_=>?_) (λ_=>?_)
   |with_reducible refine NZ (λ_=>?_) (λ_=>?_)
   |with_reducible refine Gx (λ_=>?_) (λ_=>?_)
   |skip)))
def acT{n:Nat}(hn:n<=1000000):aY prog (.func 105) [iV (n:Int)] [] [] [] (λv:ah=>v) (λ_=>[]) (λv=>[ay aj v (upTo' n)]) (λ_=>True):=by
 refine gB 105 λB w0=>?_;refine go ?_;refine kv aj ?_;refine dL (λy:Nat×ah=>n - y.1) (λy=>[(5,iV (y.1:Int)),(2,y.2)]) (λy=>[ap aj y.2 (upTo' y.1)]) (λ_=>[]) (λy=>y.1<=n) (0,.slice none 0 0) (bI _) (hk:=tc) (body:=?_);rintro⟨i,v⟩ hi;dsimp only at hi⊢;have hil:=kK i;refine aK ?_ ?_<;>intro h2
 .refine go ?_;intro b10;exact fp
 have hie:i=n:=s6
 subst hie;refine gZ (ja (E:=aj) (v:=v) (xs:=upTo' i)) ?_;exact sg
abbrev EZ(P:Program)(fn:Fn)(first cap:ae ah)(F:ae aI)(c:Int->Int->Bool)(a b:Int):Prop:=
 aY P fn (first++[iV a,iV b]) cap [] F (λ_:Unit=>.bool (c a b)) (λ_=>[]) (λ_=>[]) (λ_=>True)
def VD{k:aT}{grid:ae Int}{vh vs vr vc vu gh gc vn vl vp vg vv:ah}{fn:Fn}{first cap:ae ah}{F1:ae aI}{c:Int->Int->Bool}(hn:k.aH.length<=grid.length)(hg:grid.length<=1000000)(hnb:∀l∈k.aH,l.length<2^63/\∀b∈l,0<=b/\b<grid.length)
 (hc:∀a∈grid,∀b∈grid,EZ prog fn first cap F1 c a b):
 fC prog 95 [.agg ⟨nV k vh vs vr vc vu gh gc vn vl vp vg vv⟩,.func fn ⟨first⟩ ⟨cap⟩] (ay (aA aj) vn k.aH::ay aj vg grid::F1) (λ_:Unit=>.bool (qD k.aH grid c)) (λ_=>True):=by
 refine gB 95 λB w0=>?_;refine gF (aA aj) vn k.aH λan cn en=>?_;subst en;refine gF aj vg grid λag cg eg=>?_;subst eg;refine go ?_;intro b2;refine gN k.aH.length 13 (λj=>j<=k.aH.length/\qD (k.aH.take j) grid c=true) ⟨bI _,rfl⟩ ?_;rintro j ⟨hj,hall⟩;refine aK ?_ ?_<;>intro h1
 .refine gX (aA aj) (xs:=k.aH) λ_ _ l (wI:ah) hl=>?_;obtain⟨hll,hlb⟩:=hnb l (aV hl);refine gN l.length 20 (λi=>i<=l.length/\((l.take i).all λb=>c (aU grid (j:Int)) (aU grid b))=true) ⟨bI _,rfl⟩ ?_;rintro i ⟨hi,vz⟩;refine aK ?_ ?_<;>intro h2
  .refine go ?_;intro _ _ b hb;obtain⟨hb0,hb1⟩:=hlb b (aV hb);obtain⟨bn,rfl⟩:=dW hb0;refine go ?_;intro _ _ x hx _ _ y hy;have hcx:=hc x (aV hx) y (aV hy);have hxg:=jF hx;have hyg:=jF hy;refine gC hcx λ_ _=>?_;cases hcb:c x y with
   |false=>
    have Rp:qD k.aH grid c=false:=alq hl hb (by rw[hxg,hyg];exact hcb);refine aZ ?_;rw[Rp];rfl
   |true=>
    refine go ?_;refine aW (i+1) Bx ⟨s6,?_⟩;rw[fq hb,List.all_append,vz,L6,List.all_nil,hxg,hyg,hcb];rfl
  have hie:i=l.length:=s6
  subst hie;rw[dK]at vz;refine go ?_;refine aW (j+1) DM ⟨s6,?_⟩;rw[alp hl,hall,vz];rfl
 have iH:j=k.aH.length:=s6
 subst iH;rw[dK]at hall;refine aZ ?_;rw[hall];rfl
structure nW(k:aT)(p:List Clue)(grid:List Int)(r:bF)(set other:Nat):Prop where
 s:nU k
 ps:uf p
 fM:Kv k
 Ih:K8 k r
 right:∀g∈p,mO k g
 nX:Bh grid
 cells:∀x∈ik k p r,Bi grid x.1
 vals:PE (gJ k) grid
 bJ:jW k.aH
 tT:grid.length=k.aH.length
 st:r.set=(set:Int)/\set<2^63
 ot:r.other=(other:Int)/\other<2^63
 kind:1<=r.kind/\r.kind<=11
 VE:r.kind=2\/r.kind=3\/r.kind=11->∀x∈ik k p r,0<x.2.length
 few:∀x∈ik k p r,x.1.length<=4096
 one:r.kind=11->∀x∈ik k p r,0<x.1.length
def cA(grid:ae Int)(x:ae Int×ae Int):Bool:=Bj grid x.1
def cB(grid:ae Int)(set:Nat)(op:Int)(x:ae Int×ae Int):Bool:=Ky (cnt grid set x.1:Int) op (x.2.getD 0 0)
def cC(vals grid:ae Int)(op:Int)(x:ae Int×ae Int):Bool:=Ky (qG vals grid x.1) op (x.2.getD 0 0)
def cD(vals grid:ae Int)(x:ae Int×ae Int):Bool:=Bl vals grid x.1
def cE(grid:ae Int)(set:Nat)(x:ae Int×ae Int):Bool:=decide (rn grid set 0 x.1=x.2)
def cK(grid:ae Int)(x:ae Int×ae Int):Bool:=decide (aU grid (x.1.getD 0 0)=x.2.getD 0 0)
def nF(a b:Int):Bool:=decide (a≠b)
def nG(vals:ae Int)(n a b:Int):Bool:=decide (n<=max (aU vals a - aU vals b) (aU vals b - aU vals a))
def nH(set other:Nat)(a b:Int):Bool:=!(set.testBit a.toNat)||!(other.testBit b.toNat)
noncomputable def rD(k:aT)(p:ae Clue)(grid:ae Int)(r:bF)(set other:Nat):Bool:=
 if r.kind=1 then(ik k p r).all (cA grid)
 else if r.kind=2 then(ik k p r).all (cB grid set r.op)
 else if r.kind=3 then(ik k p r).all (cC (gJ k) grid r.op)
 else if r.kind=4 then(ik k p r).all (cD (gJ k) grid)
 else if r.kind=5 then(ik k p r).all (cE grid set)
 else if r.kind=6 then qD k.aH grid nF
 else if r.kind=7 then qD k.aH grid (nG (gJ k) r.n)
 else if r.kind=8 then qD k.aH grid (nH set other)
 else if r.kind=9 then yJ k.aH (nS grid set (upTo' grid.length)) false
 else if r.kind=10 then yJ k.aH (nS grid set (upTo' grid.length)) true
 else(ik k p r).all (cK grid)
def P5(grid:ae Int)(set:Nat):∀(cells:ae Int) (n:Nat),(rn grid set n cells).length<=cells.length+1
 |[],n=>by unfold rn;split<;>simp
 |c::cs,n=>by
  unfold rn;split
  .have:=P5 grid set cs (n+1);simp;omega
  .split
   .have:=P5 grid set cs 0;simp;omega
   .have:=P5 grid set cs 0;simp;omega
def Ii{l:ae Int}{y:Int}(h:l[0]? =some y):l.getD 0 0=y:=fK h
section
variable {k:aT} {p:ae Clue} {grid:ae Int} {r:bF} {set other:Nat} {bv br:Nat} {vh vs vr vc vu gh gc vn vl vp vg vv v1 v2:ah}
def ao2(H:nW k p grid r set other)(x:ae Int×ae Int)(hx:x∈ik k p r):EY prog (.func 77) [] [ptr' bv] [aX bv 0 (nV k vh vs vr vc vu gh gc vn vl vp vg vv),ay aj vg grid] (cA grid) x:=by
 intro w1 w2;rw[bP];refine gB 77 λB w0=>?_;refine gC (amA (grid:=grid) (cells:=x.1) H.nX (H.cells x hx)) λ_ _=>?_;exact dH
def ao3(H:nW k p grid r set other)(h0:∀x∈ik k p r,0<x.2.length)(x:ae Int×ae Int)(hx:x∈ik k p r):EY prog (.func 80) [] [ptr' bv,ptr' br] [aX bv 0 (nV k vh vs vr vc vu gh gc vn vl vp vg vv),aX br 0 (jf r v1 v2),ay aj vg grid] (cB grid set r.op) x:=by
 intro w1 w2;have hx0:=h0 x hx;rw[bP];refine gB 80 λB w0=>?_;refine go ?_;intro _ _ y hy;rw[H.st.1];refine fH (amy (grid:=grid) (cells:=x.1) (set:=set) H.nX (H.cells x hx) H.st.2) (next:=λ_ _=>?_);refine gC (acS (n:=(cnt grid set x.1:Int)) (op:=r.op) (b:=y)) λ_ _=>?_;refine aZ ?_;show _=Value.bool (cB grid set r.op x);unfold cB;rw[Ii hy];rfl
def ao4(H:nW k p grid r set other)(h0:∀x∈ik k p r,0<x.2.length)(x:ae Int×ae Int)(hx:x∈ik k p r):EY prog (.func 84) [] [ptr' bv,ptr' br] [aX bv 0 (nV k vh vs vr vc vu gh gc vn vl vp vg vv),aX br 0 (jf r v1 v2),ay aj vg grid,ay aj vv (gJ k)] (cC (gJ k) grid r.op) x:=by
 intro w1 w2;have hx0:=h0 x hx;rw[bP];refine gB 84 λB w0=>?_;refine go ?_;intro _ _ y hy;refine fH (amz (values:=gJ k) (grid:=grid) (cells:=x.1) H.nX (H.cells x hx) H.vals) (next:=λ_ _=>?_);refine gC (acS (n:=qG (gJ k) grid x.1) (op:=r.op) (b:=y)) λ_ _=>?_;refine aZ ?_;show _=Value.bool (cC (gJ k) grid r.op x);unfold cC;rw[Ii hy];rfl
def ao5(H:nW k p grid r set other)(x:ae Int×ae Int)(hx:x∈ik k p r):EY prog (.func 87) [] [ptr' bv] [aX bv 0 (nV k vh vs vr vc vu gh gc vn vl vp vg vv),ay aj vg grid,ay aj vv (gJ k)] (cD (gJ k) grid) x:=by
 intro w1 w2;rw[bP];refine gB 87 λB w0=>?_;refine gC (amB (values:=gJ k) (grid:=grid) (cells:=x.1) H.nX (H.cells x hx) H.vals) λ_ _=>?_;exact dH
def ao6(H:nW k p grid r set other)(x:ae Int×ae Int)(hx:x∈ik k p r):EY prog (.func 90) [] [ptr' bv,ptr' br] [aX bv 0 (nV k vh vs vr vc vu gh gc vn vl vp vg vv),aX br 0 (jf r v1 v2),ay aj vg grid] (cE grid set) x:=by
 intro w1 w2;have hcl:=H.few x hx;rw[bP];refine gB 90 λB w0=>?_;refine go ?_;rw[H.st.1];refine fH (amE (grid:=grid) (cells:=x.1) (set:=set)) (next:=λy _=>?_);dsimp only[List.cons_append,List.nil_append];have hrl:=P5 grid set x.1 0;refine gC (amG (amD (b3:=y.1) (b4:=y.2.1) (b5:=y.2.2) (vg:=vg) (vc:=w1) (grid:=grid) (cells:=x.1) (set:=set) H.nX (H.cells x hx) H.st.2) s6) λv _=>?_;refine gC (wC (xs:=rn grid set 0 x.1) (ys:=x.2) s6) λ_ _=>?_;exact dH
def ao7(H:nW k p grid r set other)(h0:∀x∈ik k p r,0<x.2.length)(h1:∀x∈ik k p r,0<x.1.length)(x:ae Int×ae Int)(hx:x∈ik k p r):EY prog (.func 108) [] [ptr' bv] [aX bv 0 (nV k vh vs vr vc vu gh gc vn vl vp vg vv),ay aj vg grid] (cK grid) x:=by
 intro w1 w2;have hx0:=h0 x hx;have hx1:=h1 x hx;rw[bP];refine gB 108 λB w0=>?_;refine go ?_;intro _ _ c hc;have hcc:=(H.cells x hx).cell c (aV hc);obtain⟨cn,rfl⟩:=dW hcc.1;refine go ?_;intro _ _ z hz _ _ y hy;refine aZ ?_;show _=Value.bool (cK grid x);unfold cK;rw[Ii hy,Ii hc,jF hz];rfl
def ao8{a b:Int}:EZ prog (.func 96) [] [] [] nF a b:=by
 unfold EZ;rw[bP];refine gB 96 λB w0=>?_;exact dH
def ao9(H:nW k p grid r set other){a b:Int}(ha:a∈grid)(hb:b∈grid):EZ prog (.func 98) [] [ptr' bv,ptr' br] [aX bv 0 (nV k vh vs vr vc vu gh gc vn vl vp vg vv),aX br 0 (jf r v1 v2),ay aj vv (gJ k)] (nG (gJ k) r.n) a b:=by
 unfold EZ;rw[bP];obtain⟨a0,a1⟩:=H.nX.jB a ha;obtain⟨b0,b1⟩:=H.nX.jB b hb;have a2:=H.vals.jB a ha;have b2:=H.vals.jB b hb;obtain⟨an,rfl⟩:=dW a0;obtain⟨bn,rfl⟩:=dW b0;refine gB 98 λB w0=>?_;refine go ?_;intro _ _ x hx _ _ y hy;have hxv:=H.vals.val x (aV hx);have hyv:=H.vals.val y (aV hy);refine gC (amC (a:=x) (b:=y) (n:=r.n) s6 s6) λ_ _=>?_;refine aZ ?_;show _=Value.bool (nG (gJ k) r.n an bn);unfold nG;rw[jF hx,jF hy];rfl
def apa(H:nW k p grid r set other){a b:Int}(ha:a∈grid)(hb:b∈grid):EZ prog (.func 101) [] [ptr' br] [aX br 0 (jf r v1 v2)] (nH set other) a b:=by
 unfold EZ;rw[bP];obtain⟨a0,a1⟩:=H.nX.jB a ha;obtain⟨b0,b1⟩:=H.nX.jB b hb;obtain⟨an,rfl⟩:=dW a0;obtain⟨bn,rfl⟩:=dW b0;refine gB 101 λB w0=>?_;refine go ?_;rw[H.st.1];refine fH (Hz (set:=set) (jB:=an) H.st.2 s6) (next:=λ_ _=>?_);refine go ?_;cases hs:set.testBit an with
 |false=>
  refine aZ ?_;show _=Value.bool (nH set other an bn);unfold nH;rw[fI,hs];rfl
 |true=>
  refine go ?_;rw[H.ot.1];refine fH (Hz (set:=other) (jB:=bn) H.ot.2 s6) (next:=λ_ _=>?_);refine aZ ?_;show _=Value.bool (nH set other an bn);unfold nH;rw[fI,fI,hs];show _=Value.bool (false||!other.testBit bn);rw[QG];rfl
abbrev yM(k:aT)(p:ae Clue)(grid:ae Int)(r:bF)(bv br:Nat)(vh vs vr vc vu gh gc vn vl vp vg vv v1 v2:ah):ae aI:=
 [aX bv 0 (nV k vh vs vr vc vu gh gc vn vl vp vg vv),aX br 0 (jf r v1 v2),ay (aA (aA aj)) vl k.lists,ay eP vc k.decl.bT,ay bU vp p,ay aj vg grid,ay aj vv (gJ k),ay (aA aj) vn k.aH]
abbrev yN(P:Program)(f:gy)(cap:ae ah)(F:ae aI)(b:Bool):Prop:=aY P (.func f) [] cap [] F (λ_:Unit=>.bool b) (λ_=>[]) (λ_=>[]) (λ_=>True)
def apb(H:nW k p grid r set other):yN prog 75 [ptr' bv,ptr' br] (yM k p grid r bv br vh vs vr vc vu gh gc vn vl vp vg vv v1 v2) ((ik k p r).all (cA grid)):=by
 refine gB 75 λB w0=>?_;refine gC (Ig (k:=k) (p:=p) (r:=r) (vv:=vv) (v1:=v1) (v2:=v2) (fn:=.func 77) (first:=[]) (cap:=[ptr' bv]) (F1:=[aX bv 0 (nV k vh vs vr vc vu gh gc vn vl vp vg vv),ay aj vg grid]) (c:=cA grid) H.s H.ps H.fM H.Ih H.right (λx hx=>ao2 H x hx)) λ_ _=>?_;exact dH
def apc(H:nW k p grid r set other)(h0:∀x∈ik k p r,0<x.2.length):yN prog 79 [ptr' bv,ptr' br] (yM k p grid r bv br vh vs vr vc vu gh gc vn vl vp vg vv v1 v2) ((ik k p r).all (cB grid set r.op)):=by
 refine gB 79 λB w0=>?_;refine gC (Ig (k:=k) (p:=p) (r:=r) (vv:=vv) (v1:=v1) (v2:=v2) (fn:=.func 80) (first:=[]) (cap:=[ptr' bv,ptr' br]) (F1:=[aX bv 0 (nV k vh vs vr vc vu gh gc vn vl vp vg vv),aX br 0 (jf r v1 v2),ay aj vg grid]) (c:=cB grid set r.op) H.s H.ps H.fM H.Ih H.right (λx hx=>ao3 H h0 x hx)) λ_ _=>?_;exact dH
def apd(H:nW k p grid r set other)(h0:∀x∈ik k p r,0<x.2.length):yN prog 83 [ptr' bv,ptr' br] (yM k p grid r bv br vh vs vr vc vu gh gc vn vl vp vg vv v1 v2) ((ik k p r).all (cC (gJ k) grid r.op)):=by
 refine gB 83 λB w0=>?_;refine gC (Ig (k:=k) (p:=p) (r:=r) (vv:=vv) (v1:=v1) (v2:=v2) (fn:=.func 84) (first:=[]) (cap:=[ptr' bv,ptr' br]) (F1:=[aX bv 0 (nV k vh vs vr vc vu gh gc vn vl vp vg vv),aX br 0 (jf r v1 v2),ay aj vg grid,ay aj vv (gJ k)]) (c:=cC (gJ k) grid r.op) H.s H.ps H.fM H.Ih H.right (λx hx=>ao4 H h0 x hx)) λ_ _=>?_;exact dH
def ape(H:nW k p grid r set other):yN prog 86 [ptr' bv,ptr' br] (yM k p grid r bv br vh vs vr vc vu gh gc vn vl vp vg vv v1 v2) ((ik k p r).all (cD (gJ k) grid)):=by
 refine gB 86 λB w0=>?_;refine gC (Ig (k:=k) (p:=p) (r:=r) (vv:=vv) (v1:=v1) (v2:=v2) (fn:=.func 87) (first:=[]) (cap:=[ptr' bv]) (F1:=[aX bv 0 (nV k vh vs vr vc vu gh gc vn vl vp vg vv),ay aj vg grid,ay aj vv (gJ k)]) (c:=cD (gJ k) grid) H.s H.ps H.fM H.Ih H.right (λx hx=>ao5 H x hx)) λ_ _=>?_;exact dH
def apf(H:nW k p grid r set other):yN prog 89 [ptr' bv,ptr' br] (yM k p grid r bv br vh vs vr vc vu gh gc vn vl vp vg vv v1 v2) ((ik k p r).all (cE grid set)):=by
 refine gB 89 λB w0=>?_;refine gC (Ig (k:=k) (p:=p) (r:=r) (vv:=vv) (v1:=v1) (v2:=v2) (fn:=.func 90) (first:=[]) (cap:=[ptr' bv,ptr' br]) (F1:=[aX bv 0 (nV k vh vs vr vc vu gh gc vn vl vp vg vv),aX br 0 (jf r v1 v2),ay aj vg grid]) (c:=cE grid set) H.s H.ps H.fM H.Ih H.right (λx hx=>ao6 H x hx)) λ_ _=>?_;exact dH
def apg(H:nW k p grid r set other)(h0:∀x∈ik k p r,0<x.2.length)(h1:∀x∈ik k p r,0<x.1.length):yN prog 107 [ptr' bv,ptr' br] (yM k p grid r bv br vh vs vr vc vu gh gc vn vl vp vg vv v1 v2) ((ik k p r).all (cK grid)):=by
 refine gB 107 λB w0=>?_;refine gC (Ig (k:=k) (p:=p) (r:=r) (vv:=vv) (v1:=v1) (v2:=v2) (fn:=.func 108) (first:=[]) (cap:=[ptr' bv]) (F1:=[aX bv 0 (nV k vh vs vr vc vu gh gc vn vl vp vg vv),ay aj vg grid]) (c:=cK grid) H.s H.ps H.fM H.Ih H.right (λx hx=>ao7 H h0 h1 x hx)) λ_ _=>?_;exact dH
def nW.aH(H:nW k p grid r set other):∀l∈k.aH,∀b∈l,0<=b/\b<grid.length:=by
 intro l hl b hb;obtain⟨i,hi⟩:=gT hl;obtain⟨j,hj⟩:=gT hb;have:=H.bJ.ok i l hi j b hj;have:=H.tT;omega
def aph(H:nW k p grid r set other):yN prog 94 [ptr' bv] (yM k p grid r bv br vh vs vr vc vu gh gc vn vl vp vg vv v1 v2) (qD k.aH grid (nF)):=by
 have hgl:=H.nX.len;have hnl:=H.tT;refine gB 94 λB w0=>?_;refine gC (VD (k:=k) (grid:=grid) (vv:=vv) (fn:=.func 96) (first:=[]) (cap:=[]) (F1:=[]) (c:=nF) s6 hgl (λl hl=>⟨H.s.aH.2 l hl,λb hb=>H.aH l hl b hb⟩) (λa ha b hb=>ao8)) λ_ _=>?_;exact dH
def api(H:nW k p grid r set other):yN prog 97 [ptr' bv,ptr' br] (yM k p grid r bv br vh vs vr vc vu gh gc vn vl vp vg vv v1 v2) (qD k.aH grid (nG (gJ k) r.n)):=by
 have hgl:=H.nX.len;have hnl:=H.tT;refine gB 97 λB w0=>?_;refine gC (VD (k:=k) (grid:=grid) (vv:=vv) (fn:=.func 98) (first:=[]) (cap:=[ptr' bv,ptr' br]) (F1:=[aX bv 0 (nV k vh vs vr vc vu gh gc vn vl vp vg vv),aX br 0 (jf r v1 v2),ay aj vv (gJ k)]) (c:=nG (gJ k) r.n) s6 hgl (λl hl=>⟨H.s.aH.2 l hl,λb hb=>H.aH l hl b hb⟩) (λa ha b hb=>ao9 H ha hb)) λ_ _=>?_;exact dH
def apj(H:nW k p grid r set other):yN prog 100 [ptr' bv,ptr' br] (yM k p grid r bv br vh vs vr vc vu gh gc vn vl vp vg vv v1 v2) (qD k.aH grid (nH set other)):=by
 have hgl:=H.nX.len;have hnl:=H.tT;refine gB 100 λB w0=>?_;refine gC (VD (k:=k) (grid:=grid) (vv:=vv) (fn:=.func 101) (first:=[]) (cap:=[ptr' br]) (F1:=[aX br 0 (jf r v1 v2)]) (c:=nH set other) s6 hgl (λl hl=>⟨H.s.aH.2 l hl,λb hb=>H.aH l hl b hb⟩) (λa ha b hb=>apa H ha hb)) λ_ _=>?_;exact dH
def acU{grid:ae Int}(h:grid.length<=1000000):Bi grid (upTo' grid.length):=by
 refine⟨by rw[kK];exact h,λc hc=>?_⟩;exact pC
def apk(H:nW k p grid r set other):yN prog 103 [ptr' bv,ptr' br] (yM k p grid r bv br vh vs vr vc vu gh gc vn vl vp vg vv v1 v2) (yJ k.aH (nS grid set (upTo' grid.length)) false):=by
 have hgl:=H.nX.len;have pO:=kK grid.length;refine gB 103 λB w0=>?_;refine gF aj vg grid λag cg eg=>?_;subst eg;refine gC (acT (n:=grid.length) hgl) λv _=>?_;dsimp only[List.cons_append,List.nil_append];refine go ?_;rw[H.st.1];refine fH (abP (aH:=k.aH) (grid:=grid) (cells:=upTo' grid.length) (set:=set) (loop:=false) H.bJ H.s.aH.2 H.tT H.nX (acU hgl) H.st.2) (next:=λ_ _=>?_);exact dH
def apl(H:nW k p grid r set other):yN prog 106 [ptr' bv,ptr' br] (yM k p grid r bv br vh vs vr vc vu gh gc vn vl vp vg vv v1 v2) (yJ k.aH (nS grid set (upTo' grid.length)) true):=by
 have hgl:=H.nX.len;have pO:=kK grid.length;refine gB 106 λB w0=>?_;refine gF aj vg grid λag cg eg=>?_;subst eg;refine gC (acT (n:=grid.length) hgl) λv _=>?_;dsimp only[List.cons_append,List.nil_append];refine go ?_;rw[H.st.1];refine fH (abP (aH:=k.aH) (grid:=grid) (cells:=upTo' grid.length) (set:=set) (loop:=true) H.bJ H.s.aH.2 H.tT H.nX (acU hgl) H.st.2) (next:=λ_ _=>?_);exact dH
def apm(H:nW k p grid r set other):fC prog 28 [.agg ⟨nV k vh vs vr vc vu gh gc vn vl vp vg vv⟩,.agg ⟨jf r v1 v2⟩] [ay (aA (aA aj)) vl k.lists,ay eP vc k.decl.bT,ay bU vp p,ay aj vg grid,ay aj vv (gJ k),ay (aA aj) vn k.aH] (λ_:Unit=>.bool (rD k p grid r set other)) (λ_=>True):=by
 have hcs:r.kind=1\/r.kind=2\/r.kind=3\/r.kind=4\/r.kind=5\/r.kind=6\/r.kind=7\/r.kind=8\/r.kind=9\/r.kind=10\/r.kind=11:=by have:=H.kind;omega
 refine gB 28 λB w0=>?_;refine go ?_;intro b2 b3 b5;refine gP b2 ?_;refine gP b3 ?_;refine go ?_;rcases hcs with h|h|h|h|h|h|h|h|h|h|h
 .rw[h];refine gC (apb (bv:=b2) (br:=b3) (vv:=vv) (v1:=v1) (v2:=v2) H) λ_ _=>?_;refine aZ ?_;show Value.bool _=Value.bool _;unfold rD;rw[h];rfl
 .rw[h];refine gC (apc (bv:=b2) (br:=b3) (vv:=vv) (v1:=v1) (v2:=v2) H (H.VE (.inl h))) λ_ _=>?_;refine aZ ?_;show Value.bool _=Value.bool _;unfold rD;rw[h];rfl
 .rw[h];refine gC (apd (bv:=b2) (br:=b3) (vv:=vv) (v1:=v1) (v2:=v2) H (H.VE (.inr (.inl h)))) λ_ _=>?_;refine aZ ?_;show Value.bool _=Value.bool _;unfold rD;rw[h];rfl
 .rw[h];refine gC (ape (bv:=b2) (br:=b3) (vv:=vv) (v1:=v1) (v2:=v2) H) λ_ _=>?_;refine aZ ?_;show Value.bool _=Value.bool _;unfold rD;rw[h];rfl
 .rw[h];refine gC (apf (bv:=b2) (br:=b3) (vv:=vv) (v1:=v1) (v2:=v2) H) λ_ _=>?_;refine aZ ?_;show Value.bool _=Value.bool _;unfold rD;rw[h];rfl
 .rw[h];refine gC (aph (bv:=b2) (br:=b3) (vv:=vv) (v1:=v1) (v2:=v2) H) λ_ _=>?_;refine aZ ?_;show Value.bool _=Value.bool _;unfold rD;rw[h];rfl
 .rw[h];refine gC (api (bv:=b2) (br:=b3) (vv:=vv) (v1:=v1) (v2:=v2) H) λ_ _=>?_;refine aZ ?_;show Value.bool _=Value.bool _;unfold rD;rw[h];rfl
 .rw[h];refine gC (apj (bv:=b2) (br:=b3) (vv:=vv) (v1:=v1) (v2:=v2) H) λ_ _=>?_;refine aZ ?_;show Value.bool _=Value.bool _;unfold rD;rw[h];rfl
 .rw[h];refine gC (apk (bv:=b2) (br:=b3) (vv:=vv) (v1:=v1) (v2:=v2) H) λ_ _=>?_;refine aZ ?_;show Value.bool _=Value.bool _;unfold rD;rw[h];rfl
 .rw[h];refine gC (apl (bv:=b2) (br:=b3) (vv:=vv) (v1:=v1) (v2:=v2) H) λ_ _=>?_;refine aZ ?_;show Value.bool _=Value.bool _;unfold rD;rw[h];rfl
 .rw[h];refine gC (apg (bv:=b2) (br:=b3) (vv:=vv) (v1:=v1) (v2:=v2) H (H.VE (.inr (.inr h))) (H.one h)) λ_ _=>?_;refine aZ ?_;show Value.bool _=Value.bool _;unfold rD;rw[h];rfl
end
noncomputable def E5(k:aT)(p:ae Clue)(grid:ae Int)(r:bF):Bool:=rD k p grid r r.set.toNat r.other.toNat
noncomputable def jZ(k:aT)(p:ae Clue)(grid:ae Int)(rs:ae bF):ae Int:=rs.zipIdx.filterMap λx=>if E5 k p grid x.1 then none else some (x.2:Int)
variable{k:aT}{p:ae Clue}{grid:ae Int}
def apn{rs:ae bF}{j:Nat}{r:bF}(h:rs[j]? =some r):jZ k p grid (rs.take (j+1))=jZ k p grid (rs.take j)++if E5 k p grid r then[]else[(j:Int)]:=by
 have hk:=(bz.1 h).1;unfold jZ;rw[fq h,BZ,Cb,gW,Ae s6];congr 1;rw[IM,List.zipIdx_nil,gq];cases h2:E5 k p grid r<;>simp[h2]
def VF(k:aT)(p:ae Clue)(grid:ae Int)(rs:ae bF):(jZ k p grid rs).length<=rs.length:=by
 unfold jZ;refine lZ (Mg _ _) ?_;simp
def acV(k:aT)(p:ae Clue)(grid:ae Int):Prop:=bD k->lg k grid->fE k p->∀r∈k.decl.rules,nW k p grid r r.set.toNat r.other.toNat
def P6{vh vs vr vc vu gh gc vn vl vp vg:ah}(hS:nU k)(hP:uf p)(hl:grid.length<2^63)(hA:acV k p grid):
 aY prog (.func 6) [.agg ⟨jE k vh vs vr vc vu gh gc vn vl⟩,.agg ⟨[vp]⟩,vg] [] [] (ay bU vp p::ay aj vg grid::iO k vh vs vr vc vu gh gc vn vl []) H8 (λ_=>[])
  (λy=>[lc (y.e=0) (ay aj y.v (jZ k p grid k.decl.rules))]) (λy=>acQ k p grid y.e/\(y.e≠0->y.v=.slice none 0 0)):=by
 have pO:=hS.d.s.oP;refine gB 6 λB w0=>?_;dsimp only[iO];refine go ?_;intro b3 b4;refine gC (aoZ (k:=k) (p:=p) (grid:=grid) hS hP hl) λe he=>?_;refine aK (λhne=>?_) (λhz=>?_)
 .refine go ?_;refine tZ (c:=e=0) (f:=ay aj (.slice none 0 0) (jZ k p grid k.decl.rules)) hne ?_;exact gQ ⟨.slice none 0 0,e⟩ ⟨he,λ_=>rfl⟩
 have hz:e=0:=j6.1 hz;subst hz;have hK:bD k:=Classical.byContradiction λh=>by have:=he.nk h;omega
 have hF:lg k grid:=Classical.byContradiction λh=>by have:=he.nf hK h;omega
 have hQ:fE k p:=Classical.byContradiction λh=>by have:=he.np hK hF h;omega
 have ZT:=hA hK hF hQ;refine gC (look_ok (p:=p) (k:=k) (grid:=grid) hS.d.s.eH) λvv _=>?_;refine go ?_;intro b8;refine go ?_;refine kv aj ?_;refine dL (λy:Nat×ah=>k.decl.rules.length - y.1) (λy=>[(26,iV (y.1:Int)),(6,y.2)]) (λy=>[ap aj y.2 (jZ k p grid (k.decl.rules.take y.1))]) (λ_=>[]) (λy=>y.1<=k.decl.rules.length) (0,.slice none 0 0) (bI _) (hk:=tc) (body:=?_);rintro⟨j,v6⟩ hj;dsimp only at hj⊢;have hbl:=VF k p grid (k.decl.rules.take j);rw[gW]at hbl;refine aK ?_ ?_<;>intro h1
 .refine gX di (xs:=k.decl.rules) λ_ _ r (w:ah×ah) hr=>?_;have hrH:=ZT r (aV hr);have hsu:=apn (k:=k) (p:=p) (grid:=grid) hr;refine go ?_;intro b10;refine gC (apm (k:=k) (p:=p) (grid:=grid) (r:=r) (vv:=vv) (v1:=w.1) (v2:=w.2) hrH) λ_ _=>?_;rw[show rD k p grid r r.set.toNat r.other.toNat=E5 k p grid r from rfl];generalize E5 k p grid r=hr2 at hsu⊢;cases hr2 with
  |true=>
   have hu2:jZ k p grid (k.decl.rules.take (j+1))=jZ k p grid (k.decl.rules.take j):=by rw[hsu];simp
   rw[<- hu2];refine go ?_;exact aW (j+1,v6) By ux
  |false=>
   have hu2:jZ k p grid (k.decl.rules.take (j+1))=jZ k p grid (k.decl.rules.take j)++[(j:Int)]:=by rw[hsu];simp
   refine go ?_;intro b37;refine go ?_;refine jy (xs:=jZ k p grid (k.decl.rules.take j)) aj (j:Int) () s6 (next:=λad=>?_);rw[<- hu2];refine go ?_;exact aW (j+1,.slice ad ((jZ k p grid (k.decl.rules.take j)).length+1) ((jZ k p grid (k.decl.rules.take j)).length+1)) By ux
 have iH:j=k.decl.rules.length:=s6
 subst iH;rw[dK];refine gZ (ja (E:=aj) (v:=v6) (xs:=jZ k p grid k.decl.rules)) ?_;refine go ?_;refine uY (c:=(0:Int)=0) (f:=ay aj v6 (jZ k p grid k.decl.rules)) s7 ?_;exact gQ ⟨v6,0⟩ ⟨he,λh=>absurd rfl h⟩
end Go.Proofs.YtgimfpcgbmpkhaaGreat
namespace Go.Proofs.YtgimfpcgbmpkhaaGreat
open Tryz (prog)
open Go.Ideal Kd Canon
structure E8(k:aT):Prop where
 dw:mK k.decl.w
 dh:mK k.decl.h
 gw:mK k.grid.w
 gh:mK k.grid.h
 holes:k.decl.holes.length<2^63
 eH:k.decl.symbols.length<2^63
 regs:k.decl.regions.length<2^63
 Di:∀r∈k.decl.regions,r.lists.length<2^63/\∀l∈r.lists,l.length<2^63
 ny:k.decl.bT.length<2^63
 oP:k.decl.rules.length<2^63
 Dh:∀r∈k.decl.rules,r.names.length<2^63/\r.others.length<2^63
 VG:k.grid.holes.length<2^63
 cells:k.grid.cells.length<2^63
 aH:k.aH.length<2^63/\∀l∈k.aH,l.length<2^63
 lists:k.lists.length<2^63/\∀l∈k.lists,l.length<2^63/\∀m∈l,m.length<2^63
structure VH(k:aT):Prop where
 cells:k.grid.cells.length<=16
 VG:k.grid.holes.length<=256
 aH:k.aH.length<=20
 lists:k.lists.length<=12
 eH:k.decl.symbols.length<=6
 regs:k.decl.regions.length<=6
 ny:k.decl.bT.length<=6
 oP:k.decl.rules.length<=10
 holes:k.decl.holes.length<=256
 each:∀l∈k.lists,l.length<=40
 reg:∀r∈k.decl.regions,r.lists.length<=20
variable{k:aT}
def nU.of(hB:E8 k)(hF:VH k):nU k:=by
 have f1:=hF.cells;have f2:=hF.VG;have f5:=hF.eH;have f6:=hF.regs;have f7:=hF.ny;have f8:=hF.oP;have f9:=hF.holes;exact⟨⟨⟨s6,s6,s6,s6,hB.Dh,hB.holes,hB.Di⟩,hB.dw,hB.dh,s6⟩,⟨hB.gw,hB.gh,s6,s6⟩,hB.aH,hB.lists⟩
variable{vh vs vr vc vu gh gc vn vl:ah}
def apq(hB:E8 k):fC prog 25 [.agg ⟨jE k vh vs vr vc vu gh gc vn vl⟩] (iO k vh vs vr vc vu gh gc vn vl []) (λb:Bool=>.bool b) (λb=>b=true->VH k):=by
 refine gB 25 λB w0=>?_;dsimp only[iO];refine go ?_;intro b1;refine gH ?_ ?_<;>intro h1
 rotate_left
 .exact cJ
 refine gH ?_ ?_<;>intro h2
 rotate_left
 .exact cJ
 refine gH ?_ ?_<;>intro h3
 rotate_left
 .exact cJ
 refine gH ?_ ?_<;>intro h4
 rotate_left
 .exact cJ
 refine gH ?_ ?_<;>intro h5
 rotate_left
 .exact cJ
 refine gH ?_ ?_<;>intro h6
 rotate_left
 .exact cJ
 refine gH ?_ ?_<;>intro h7
 rotate_left
 .exact cJ
 refine gH ?_ ?_<;>intro h8
 rotate_left
 .exact cJ
 refine aK ?_ ?_<;>intro h9
 .exact cJ
 refine gN k.lists.length 3 (λj=>j<=k.lists.length/\∀l∈k.lists.take j,l.length<=40) ⟨bI _,s7⟩ ?_;rintro j ⟨hj,hall⟩;refine aK ?_ ?_<;>intro a1
 .refine gX (aA (aA aj)) (xs:=k.lists) λ_ _ l (wI:ah) hl=>?_;refine aK ?_ ?_<;>intro a2
  .exact cJ
  .refine go ?_;refine aW (j+1) (by show k.lists.length - (j+1)<k.lists.length - j;omega) ⟨s6,?_⟩;rw[fq hl];exact pn
 have iH:j=k.lists.length:=s6
 subst iH;rw[dK]at hall;refine gN k.decl.regions.length 4 (λj=>j<=k.decl.regions.length/\∀r∈k.decl.regions.take j,r.lists.length<=20) ⟨bI _,s7⟩ ?_;rintro j ⟨hj,vz⟩;refine aK ?_ ?_<;>intro a1
 .have hr:k.decl.regions[j]? =some (k.decl.regions[j]'(s6)):=bN _;generalize k.decl.regions[j]'(s6)=r at hr;refine gX lJ (xs:=k.decl.regions) λ_ _ r2 (wI:ah) hr2=>?_;rw[hr]at hr2;obtain rfl:r=r2:=Option.some.inj hr2;refine aK ?_ ?_<;>intro a2
  .exact cJ
  .refine go ?_;refine aW (j+1) (by show k.decl.regions.length - (j+1)<k.decl.regions.length - j;omega) ⟨s6,?_⟩;rw[fq hr];intro x hx;rcases fU.1 hx with hx|hx
   .exact vz x hx
   .rw[bR.1 hx];omega
 have iH:j=k.decl.regions.length:=s6
 subst iH;rw[dK]at vz;refine go ?_;exact gQ true (λ_=>⟨s6,s6,s6,s6,s6,s6,s6,s6,s6,hall,vz⟩)
def apr{p:ae Clue}{grid:ae Int}{vp vg:ah}(hB:E8 k):
 fC prog 5 [.agg ⟨jE k vh vs vr vc vu gh gc vn vl⟩,.agg ⟨[vp]⟩,vg] (ay bU vp p::ay aj vg grid::iO k vh vs vr vc vu gh gc vn vl []) (λb:Bool=>.bool b) (λb=>b=true->VH k/\p.length<=60/\grid.length<=20):=by
 refine gB 5 λB w0=>?_;dsimp only[iO];refine go ?_;intro b3 b4;refine gC (apq (k:=k) hB) λb hb=>?_;cases b with
 |false=>
  exact cJ
 |true=>
 have hk:=hb rfl;refine gH ?_ ?_<;>intro h1
 .exact cJ
 refine go ?_;refine gQ (decide ((grid.length:Int)<=20)) (λh=>?_);have h:=jI h;exact⟨hk,s6,s6⟩
end Go.Proofs.YtgimfpcgbmpkhaaGreat
namespace Go.Proofs.YtgimfpcgbmpkhaaGreat
open Tryz (prog)
open Go.Ideal Kd Canon
def VI{k:Int}(h:(iU k).read=true):1<=k/\k<=11:=by
 apply Classical.byContradiction;intro hn;have hc:(k<0\/14<=k)\/k=0\/k=12\/k=13:=s6
 rcases hc with hc|rfl|rfl|rfl
 .rw[PT hc]at h;cases h
 .cases h
 .cases h
 .cases h
def P7{eH:ae ByteArray}(hs:eH.length<=16):∀(l:ae ByteArray),(∀s∈l,s∈eH)->kI eH l<2^16:=by
 have h:∀(l:ae ByteArray) (m:Nat),m<2^16->(∀s∈l,s∈eH)->l.foldl (λm s=>m|||1<<<jY s eH) m<2^16:=by
  exact fN
 intro l hl;exact h l 0 tg hl
variable{k:aT}
def bD.qc(h:bD k){r:bF}(hr:r∈k.decl.rules):∃q∈k.decl.rules,r=yE (iR k.decl) (iT k.decl) (mM k.decl) q:=by
 have h1:r∈(Kd.eO k.decl).rules:=by rw[<- h.decl];exact hr
 obtain⟨q,hq,e⟩:=cO.1 (show r∈k.decl.rules.map (yE (iR k.decl) (iT k.decl) (mM k.decl))from h1);exact⟨q,hq,e.symm⟩
def bD.jv(h:bD k):k.lists.length=8+k.decl.regions.length:=by
 rw[h.lists];unfold oC;rw[fu,bi,bi,o8]
def bD.bJ(h:bD k):ig (bO k.decl):=⟨h.typ.PW,rfl⟩
def bD.inr(h:bD k){r:bF}(hr:r∈k.decl.rules):K8 k r:=by
 obtain⟨q,hq,rfl⟩:=h.qc hr;have hro:=h.b.rs.qc q hq;have hl:=h.jv;have hfl:(iT k.decl).length=8+k.decl.regions.length:=by
  unfold iT;rw[fu,bi];rfl
 refine⟨?_,?_⟩
 .show 0<=(if q.on=⟨⟨[]⟩⟩then(0:Int)else(jY q.on (iT k.decl):Int))/\(if q.on=⟨⟨[]⟩⟩then(0:Int)else(jY q.on (iT k.decl):Int))<_;by_cases e:q.on=⟨⟨[]⟩⟩
  .rw[if_pos e];omega
  .rw[if_neg e];have:=CU (hro.on.resolve_left e);omega
 .show(if q.fV=⟨⟨[]⟩⟩then(-1:Int)else(jY q.fV (mM k.decl):Int))<_;by_cases e:q.fV=⟨⟨[]⟩⟩
  .rw[if_pos e];omega
  .rw[if_neg e];have h1:=CU (hro.fV.resolve_left e);have h2:(mM k.decl).length=k.decl.bT.length:=by unfold mM;rw[bi]
   omega
variable{p:ae Clue}
def aps{r:bF}(hr:K8 k r)(hp:∀g∈p,mO k g){x:ae Int×ae Int}(hx:x∈ik k p r):∃l∈k.lists,x.1∈l:=by
 unfold ik at hx;obtain⟨hf0,hf1⟩:=hr.fM;split at hx
 .have hl:k.lists[r.family.toNat]? =some (k.lists[r.family.toNat]'(s6)):=bN _;rw[fK hl]at hx;obtain⟨l,hl2,rfl⟩:=cO.1 hx;exact⟨_,rG _,hl2⟩
 .obtain⟨g,hg,rfl⟩:=cO.1 hx;obtain⟨c,l,ps,h1,h2,h3,_,_,_,h4⟩:=(hp g (qm.1 hg).1).cells;exact⟨l,aV h2,by rw[h4];exact aV h3⟩
def P8{grid:ae Int}(hS:nU k)(hP:uf p)(hgl:grid.length<=1000000):acV k p grid:=by
 intro hK apt hQ r hr;have hty:=hK.typ;have hgo:=hK.bJ;have hin:=hK.inr hr;obtain⟨q,hq,hre⟩:=hK.qc hr;have hro:=hK.b.rs.qc q hq;have hrx:=hty.form.oP r hr;have hsl:=hty.lim.s1;have hkd:1<=r.kind/\r.kind<=11:=by
  refine VI ?_;have:=hty.read;exact eA
 have hgc:k.grid.cells.length=(bO k.decl).cells.length:=by rw[hK.grid]
 obtain⟨hf1,hf2⟩:=apt;have hlin:∀l∈k.lists,∀ps∈l,Bg (bO k.decl).cells.length ps:=by
  rw[hK.lists];exact O8 hgo (λr hr=>(hty.wH r hr).1.2)
 have VJ:∀x∈ik k p r,Bg (bO k.decl).cells.length x.1:=λx hx=>by
  obtain⟨l,hl,hxl⟩:=aps hin hQ.right hx;exact hlin l hl _ hxl
 have K9:r.set=((kI (iR k.decl) q.names:Nat):Int):=u9
 have La:r.other=((kI (iR k.decl) q.others:Nat):Int):=u9
 have hsn:(iR k.decl).length<=16:=by unfold iR;rw[bi];exact hsl
 have hl1:=P7 hsn q.names hro.names;have hl2:=P7 hsn q.others hro.others;have P9:∀need:Int,need≠0->(∀n2:Int,n2=(if(iU r.kind).op=true/\r.fV≠qI then 2 else(iU r.kind).aN)->n2=0\/n2=need)->0<=r.aN->∃c,k.decl.bT[r.aN.toNat]? =some c/\c.type=need:=by
  intro need hn h2 hc;rcases hrx.K4 _ rfl with⟨a1,_,a2⟩|⟨a1,_,_,c,a2,a3,_⟩
  .omega
  .rcases h2 _ rfl with h|h
   .exact absurd h a1
   .exact⟨c,a2,by rw[a3];exact h⟩
 have apu:r.kind=2\/r.kind=3\/r.kind=11->0<=r.aN->∃c,k.decl.bT[r.aN.toNat]? =some c/\(c.type=1\/c.type=2):=by
  intro h hc;rcases h with h|h|h
  .exact jn
  .exact jn
  .obtain⟨c,h1,h2⟩:=P9 1 s6 (λn2 hn2=>by
    rw[h]at hn2;exact po) hc
   exact⟨c,h1,.inl h2⟩
 refine⟨hS,hP,hK.fM,hin,hQ.right,⟨hgl,λx hx=>?_⟩,λx hx=>⟨?_,λc hc=>?_⟩,⟨λv hv=>?_,λx hx=>?_⟩,?_,?_,⟨by rw[K9];omega,by rw[K9];omega⟩,⟨by rw[La];omega,by rw[La];omega⟩,hkd,λhk x hx=>?_,λx hx=>(VJ x hx).1,λhk x hx=>?_⟩
 .have:=hf2 x hx;omega
 .have:=(VJ x hx).1;omega
 .have:=(VJ x hx).2 c hc;omega
 .obtain⟨s,hs,rfl⟩:=cO.1 hv;exact hty.form.eH s hs
 .have:=hf2 x hx;have:(gJ k).length=k.decl.symbols.length:=by unfold gJ;rw[bi]
  omega
 .rw[hK.aH];refine⟨by rw[yF];exact hgo.len,λi l hl j n hn=>?_⟩;exact Ua hgo i l hl j n hn
 .rw[hK.aH,yF];omega
 .unfold ik at hx;by_cases hc:r.aN<0
  .rw[if_pos hc]at hx;obtain⟨l,_,rfl⟩:=cO.1 hx;simp
  .rw[if_neg hc]at hx;obtain⟨g,hg,rfl⟩:=cO.1 hx;obtain⟨hg1,hg2⟩:=qm.1 hg;have hg2:=jI hg2;obtain⟨c,h1,h2⟩:=apu hk s6;obtain⟨c',l,_,b1,_,_,_,b2⟩:=hQ.right g hg1;rw[hg2,h1]at b1;cases b1;show 0<g.values.length;rcases b2 with b2|b2|b2
   .omega
   .omega
   .rcases h2 with h2|h2
    .exact absurd h2 b2.1
    .exact absurd h2 b2.2.1
 .have hc:0<=r.aN:=by
   rcases hrx.K4 _ rfl with⟨a1,_,_⟩|⟨_,a,_⟩
   .rw[hk]at a1;have e:(iU 11).op=false:=rfl;rw[e,if_neg s7]at a1;cases a1
   .exact a
  obtain⟨c,h1,h2⟩:=P9 1 s6 (λn2 hn2=>by
   rw[hk]at hn2;exact po) hc
  have hcp:=(hty.form.ny _ c h1).2;have Dn:c.family=0:=by unfold u7 at hcp;omega
  unfold ik at hx;rw[if_neg s6]at hx;obtain⟨g,hg,rfl⟩:=cO.1 hx;obtain⟨hg1,hg2⟩:=qm.1 hg;have hg2:=jI hg2;obtain⟨c',l,ps,b1,b2,b3,_,_,_,b4⟩:=(hQ.right g hg1).cells;rw[hg2,h1]at b1;cases b1;rw[Dn,hK.lists]at b2;have hl0:(oC k.decl)[(0:Int).toNat]? =some (iE (bO k.decl) 0):=rfl;rw[hl0]at b2;cases b2;show 0<(kL k g).length;rw[b4];have hps:=aV b3;have:iE (bO k.decl) 0=l9 (bO k.decl).cells.length:=by simp[iE]
  rw[this]at hps;unfold l9 at hps;obtain⟨i,_,rfl⟩:=cO.1 hps;simp
end Go.Proofs.YtgimfpcgbmpkhaaGreat
namespace Go.Proofs.YtgimfpcgbmpkhaaGreat
open Tryz (prog)
open Go.Ideal Kd Canon Go.Sort
def apv:OG prog 178 3:=λα _ enc cf g cb blk off cap d w hk h1 hO eg hcmp hH hblk hsz=>AnyQ.slices_SortFunc Tryz.laysF6 3 Tryz.isAgg144 Tryz.sizeOf144 enc hk h1 cf hO g cb blk off cap d w eg hcmp hH hblk hsz
def apw:Kk prog 178:=λp cap fv w=>AnyF.slices_SortFunc_none Tryz.laysF6 p cap fv w
def apx{α:Type}{c:α->α->Int}(h:Gt c):SWO (ltOf c):=by
 have hz:=h.zero;have hn:=h.neg;have ht:=h.trans;refine⟨λx=>?_,λx y z h1 h2=>?_,λx y z h1 h2=>?_⟩
 .have:=(hz x x).2 rfl;exact dA s6
 .exact eB (ht x y z (jI h1) (jI h2))
 .have h1:¬c x y<0:=wS h1;have h2:¬c y z<0:=wS h2;refine dA λh3=>?_;by_cases e1:c x y=0
  .rw[(hz x y).1 e1]at h3;exact h2 h3
  by_cases e2:c y z=0
  .rw[<- (hz y z).1 e2]at h3;exact h1 h3
  exact lB
def acW{a b:Clue}{va vb:ah}(ha:a.values.length<=1000000)(hb:b.values.length<=1000000):dO prog 74 [tK a va,tK b vb] [ay aj va a.values,ay aj vb b.values] (iV (uI a b)):=by
 refine gB 74 λB w0=>?_;refine go ?_;intro b2 b3;refine gC (K6 (a:=a) (b:=b) (va:=va) (vb:=vb)) λ_ _=>?_;refine gC (Vz (xs:=a.values) (ys:=b.values) ha hb) λ_ _=>?_;refine go ?_;intro b15;refine mI (A:=pt b15 (.cells [iV (dV a b),iV (eD dB a.values b.values)])) (fs:=[ay aj (.slice (some ⟨b15,0,some 0⟩) 2 2) [dV a b,eD dB a.values b.values]]) (uJ (b:=b15) (f:=0) (c:=2) (xs:=[dV a b,eD dB a.values b.values])) (h:=?_);refine gC (acN (xs:=[dV a b,eD dB a.values b.values]) s7) λ_ _=>?_;refine aZ ?_;rw[YY,<- aaP];simp only[ww];by_cases h1:dV a b=0
 .by_cases h2:eD dB a.values b.values=0
  .simp[h1,h2];rfl
  .simp[h1,h2];rfl
 .simp[h1];rfl
def apy{xs:ae Clue}{a:az Addr}(hlen:xs.length<4611686018427387904)(hv:∀x∈xs,x.values.length<=1000000):
 aY prog (.func 178) [.slice a xs.length xs.length,.func (.func 74) ⟨[]⟩ ⟨[]⟩] [] [ap bU (.slice a xs.length xs.length) xs] [] (λ_:ae Clue=>.tuple ⟨[]⟩) (λys=>[ap bU (.slice a xs.length xs.length) ys]) (λ_=>[]) (λys=>ys.Perm xs/\ys.Pairwise λx y=>¬uI y x<0):=by
 refine aks s8 apv apw Tryz.func178 rfl tg Tryz.func74 rfl tg rfl tg (apx Sz) (λx hx y hy u v=>?_) hlen;exact acW (hv x hx) (hv y hy)
open Go.Ideal Kd Canon
def acX{a b:Clue}{va vb:ah}:dO prog 180 [tK a va,tK b vb] [] (.bool (tO a b)):=by
 refine gB 180 λB w0=>?_;refine go ?_;intro b2 b3;refine gC (K6 (a:=a) (b:=b) (va:=va) (vb:=vb)) λ_ _=>?_;exact dH
abbrev CV:=Clue×bU.Y
abbrev zW(p q:CV):Bool:=tO p.1 q.1
def apz{β:Type}{eq:β->β->Bool}:∀{l:ae β},l.length<2->wy eq l=l
 |[],_=>rfl
 |[_],_=>rfl
 |_::_::_,h=>by simp at h;omega
def acY{α:Type}{l:ae α}{k:Nat}{x:α}(h:l[k]? =some x):l.take (k+1)=l.take k++[x]:=by
 rw[rP,h];rfl
variable{xs:ae Clue}
def apA{b f m:Nat}(hl:xs.length<=1000000):aY prog (.func 179) [.slice (some ⟨b,0,some f⟩) m m,.func (.func 180) ⟨[]⟩ ⟨[]⟩] [] [ap bU (.slice (some ⟨b,0,some f⟩) m m) xs] [] (λv:ah=>v) (λ_=>[]) (λv=>[ay bU v (wy tO xs)]) (λ_=>True):=by
 refine gB 179 λB w0=>?_;refine akM bU λaF hxy hm hf=>?_;have hgn:bU.n=3:=rfl;have hlen:aF.length=xs.length:=BE
 subst hm;rw[<- hlen];have hcm:(wy zW aF).map (·.1)=wy tO xs:=by rw[<- hxy];exact alM (·.1) (λ_ _=>rfl) aF
 rw[<- hcm];have hall:∀{F:ae aI} {zs:ae CV},vZ bU aF∈F->(∀p∈zs,p∈aF)->∀w,(∀f∈F,f.p w)->(vZ bU zs).p w:=λhF hz w h p hp f hf=>h _ hF p (hz p hp) f hf;refine aK ?_ ?_<;>intro h1
 .rw[apz (eq:=zW) (show aF.length<2 by omega)];exact fS
 refine gL (λk=>aF.length - k) (λk:Nat=>[(5,iV (k:Int))]) (λk=>1<=k/\k<=aF.length/\∀p,aF[k - 1]? =some p->wy zW aF=aF.take k++cgo zW p (aF.drop k)) 1 ⟨s6,s6,λp hp=>?_⟩ ?_
 .cases aF with
  |nil=>cases hp
  |cons x l=>cases hp;rfl
 rintro k ⟨hk1,hkn,hck⟩;refine aK ?_ ?_<;>intro h2
 rotate_left
 .have hk:k=aF.length:=by omega
  obtain⟨p,hp⟩:∃p,aF[k - 1]? =some p:=⟨_,bN s6⟩
  have hck:=hck p hp;rw[hk,DY,dK,cgo,jo]at hck;rw[hck];exact fS
 have hkl:k<aF.length:=s6
 obtain⟨p,hp⟩:∃p,aF[k - 1]? =some p:=⟨_,bN s6⟩
 obtain⟨y,hy⟩:∃y,aF[k]? =some y:=⟨_,bN hkl⟩
 have hck:=hck p hp;rw[drop_cons hy,cgo]at hck;refine go ?_;refine Kl bU (o:=0+k*3) hy vi ?_;refine go ?_;refine Kl bU (o:=0+((k:Int) - 1).toNat*3) hp vi ?_;refine gC (acX (a:=y.1) (b:=p.1) (va:=y.2) (vb:=p.2)) λ_ _=>?_;refine go ?_;cases he:tO y.1 p.1 with
 |false=>
  refine go ?_;refine aW (k+1) (by show aF.length - (k+1)<aF.length - k;omega) ⟨s6,s6,λp' hp'=>?_⟩;rw[Mf,hy]at hp';cases hp';rw[hck,acY hy,show zW y p=false from he,cond_false,fo];rfl
 |true=>
  rw[show zW y p=true from he,cond_true]at hck;refine go ?_;refine(dx rfl rfl (GY (lo:=k) (hi:=aF.length) rfl BT s6 (.inr ⟨_,rfl,rfl⟩) (.inl ⟨rfl,rfl⟩) s6 (bG _))).h ?_;refine go ?_;refine dL (λx:Nat×Nat×ae CV=>aF.length - x.2.1) (λx=>[(7,iV (x.2.1:Int)),(5,iV (x.1:Int))]) (λx=>[pt b (.cells (dP bU x.2.2))]) (λ_=>[])
   (λx=>1<=x.2.1/\k+x.2.1<=aF.length/\k<=x.1/\x.1+1<=k+x.2.1/\x.2.2.length=aF.length/\(∀j,k+x.2.1 - 1<=j->x.2.2[j]? =aF[j]?)/\(∀p,aF[k+x.2.1 - 1]? =some p->wy zW aF=x.2.2.take x.1++cgo zW p (aF.drop (k+x.2.1)))/\∀q∈x.2.2,q∈aF)
   (k,1,aF) ⟨bG _,by dsimp only;omega,bG _,bG _,rfl,λ_ _=>rfl,λp' hp'=>?_,λq hq=>hq⟩ (body:=?_)
  .rw[show k+1 - 1=k by omega,hy]at hp';cases hp';exact hck
  rintro⟨kk,k2,zs⟩ ⟨i1,i2,i3,i4,i5,i6,i7,i8⟩;dsimp only at i1 i2 i3 i4 i5 i6 i7 i8⊢;obtain⟨p2,hp2⟩:∃p,aF[k+k2 - 1]? =some p:=⟨_,bN s6⟩
  have i7:=i7 p2 hp2;refine aK ?_ ?_<;>intro h3
  rotate_left
  .have hk2:k+k2=aF.length:=by omega
   rw[hk2,DY,cgo,jo]at i7;have hkk:(zs.take kk).length=kk:=tR
   refine go ?_;refine(dx rfl rfl (GY (lo:=kk) (hi:=aF.length) rfl BT s6 (.inr ⟨_,rfl,rfl⟩) (.inl ⟨rfl,rfl⟩) s6 (bG _))).h ?_;have hov:jV (dP bU zs) (0+kk*3) (zeros [iV (.ofNat 0),iV (.ofNat 0),.slice none 0 0] (aF.length - kk))=some (dP bU (zs.take kk)++zeros [iV (.ofNat 0),iV (.ofNat 0),.slice none 0 0] (aF.length - kk)):=by
    have hz:=zeros_length [iV (.ofNat 0),iV (.ofNat 0),.slice none 0 0] (aF.length - kk);have e1:dP bU zs=dP bU (zs.take kk)++dP bU (zs.drop kk):=by rw[<- TF,l5]
    have e2:(dP bU (zs.take kk)).length=0+kk*3:=by rw[zJ,hkk,hgn];omega
    have e3:(dP bU (zs.drop kk)).length=(aF.length - kk)*3:=by rw[zJ,uo,hgn,i5]
    have hz3:(zeros [iV (.ofNat 0),iV (.ofNat 0),.slice none 0 0] (aF.length - kk)).length=(aF.length - kk)*3:=by rw[hz];rfl
    rw[e1,<- e2,OE (by rw[hz3,e3];exact bG _),List.drop_of_length_le (by rw[hz3,e3];exact bG _),jo]
   refine aap hov s6 ?_;refine go ?_;refine(dx rfl rfl (GY (lo:=0) (hi:=kk) rfl BT s6 (.inl ⟨rfl,rfl⟩) (.inr ⟨_,rfl,rfl⟩) s6 s6)).h ?_;rw[IW,gq,BQ,BQ];refine go ?_;refine TG bU (aF:=zs.take kk) (c:=aF.length) hf s6 ?_ (hall s7 λq hq=>i8 q (FL hq));rw[i7,hkk];exact gQ (.slice (some ⟨b,0,some f⟩) kk aF.length) trivial
  have hlt:k+k2<aF.length:=s6
  obtain⟨y2,hy2⟩:∃y,aF[k+k2]? =some y:=⟨_,bN hlt⟩
  have hzy:zs[k+k2]? =some y2:=by rw[i6 _ s6,hy2]
  have hzp:zs[k+k2 - 1]? =some p2:=by rw[i6 _ s6,hp2]
  rw[drop_cons hy2,cgo]at i7;refine go ?_;refine Kl bU (o:=0+k*3+k2*3) hzy vi ?_;refine go ?_;refine Kl bU (o:=0+k*3+((k2:Int) - 1).toNat*3) hzp vi ?_;refine gC (acX (a:=y2.1) (b:=p2.1) (va:=y2.2) (vb:=p2.2)) λ_ _=>?_;refine go ?_;cases he2:tO y2.1 p2.1 with
  |true=>
   rw[show zW y2 p2=true from he2,cond_true]at i7;refine go ?_;refine aW (kk,k2+1,zs) DO ⟨by dsimp only;omega,by dsimp only;omega,i3,by dsimp only;omega,i5,λj hj=>i6 j (by dsimp only at hj;omega),λp' hp'=>?_,i8⟩;rw[show k+(k2+1) - 1=k+k2 by omega,hy2]at hp';cases hp';exact i7
  |false=>
   rw[show zW y2 p2=false from he2,cond_false]at i7;refine go ?_;refine Kl bU (o:=0+k*3+k2*3) hzy vi ?_;refine go ?_;refine aao bU (aF:=zs) (k:=kk) (o:=0+kk*3) y2 s6 vi ?_;refine go ?_;have htk:(zs.set kk y2).take (kk+1)=zs.take kk++[y2]:=by
    rw[acY (x:=y2) (by rw[List.getElem?_set_self s6]),List.take_set_of_le (bG _)]
   refine aW (kk+1,k2+1,zs.set kk y2) DO ⟨by dsimp only;omega,by dsimp only;omega,by dsimp only;omega,by dsimp only;omega,by rw[lu];exact i5,λj hj=>?_,λp' hp'=>?_,λq hq=>?_⟩
   .dsimp only at hj⊢;rw[List.getElem?_set_ne s6];exact i6 j s6
   .rw[show k+(k2+1) - 1=k+k2 by omega,hy2]at hp';cases hp';rw[htk,i7,fo];rfl
   .rcases List.mem_or_eq_of_mem_set hq with h|h
    .exact i8 q h
    .rw[h];exact aV hy2
def apC(a:az Addr)(n:Nat):Prop:=(a=none/\n=0)\/∃b f,a=some ⟨b,0,some f⟩
variable{v:ah}
def apD(hl:xs.length<=1000000):aY prog (.func 177) [v] [] [] [ay bU v xs] (λa:az Addr=>.slice a xs.length xs.length) (λa=>[ap bU (.slice a xs.length xs.length) xs]) (λ_=>[]) (λa=>apC a xs.length):=by
 refine gB 177 λB w0=>?_;refine J6 bU v (xs:=xs) λaF hxy=>?_;have hlen:aF.length=xs.length:=BE
 refine Tu (aF:=aF) (v:=v) (E:=bU) ?_;refine aaq (v:=v) (aF:=aF) bU (λe c ev=>?_) (λe i o f c ev=>?_) (λhne i o f c ev=>?_)
 .subst e ev;have hx:xs=[]:=by rw[<- hxy];rfl
  subst hx;simp only[BP];refine go ?_;refine(dx rfl rfl (GK (e:=144) s8 rfl)).h ?_;refine go ?_;refine kv bU ?_;exact gQ none (.inl ⟨rfl,rfl⟩)
 .subst e ev;have hx:xs=[]:=by rw[<- hxy];rfl
  subst hx;simp only[BP];refine go ?_;refine(dx rfl rfl (zK (e:=144) s8 rfl)).h ?_;refine go ?_;intro b;refine go ?_;refine J7 (b:=b) ?_;refine go ?_;refine SK bU aD.here ?_;exact gQ (some ⟨b,0,some 0⟩) (.inr ⟨b,0,rfl⟩)
 .subst ev;refine go ?_;refine(dx rfl rfl (zK (e:=144) s8 rfl)).h ?_;refine go ?_;intro b;refine go ?_;refine J8 (b:=b) bU aF hne s6 (λb'=>?_);refine go ?_;refine xz (b:=b') (m:=aF.length) (f:=bU.n) bU (aF:=aF) rfl (.inr rfl) ?_ (hk:=aD.here);refine aad (aF:=aF) hne ?_ (λw h=>h _ s7);rw[hxy,hlen];exact gQ (some ⟨b',0,some bU.n⟩) (.inr ⟨b',_,rfl⟩)
def apE:fC prog 179 [.slice none 0 0,.func (.func 180) ⟨[]⟩ ⟨[]⟩] [] (λ_:Unit=>.slice none 0 0) (λ_=>True):=by
 refine gB 179 λB w0=>?_;exact dH
def apF(hl:xs.length<=1000000)(hv:∀x∈xs,x.values.length<=1000000):aY prog (.func 68) [v] [] [] [ay bU v xs] (λy:ah×ae Clue=>.agg ⟨[y.1]⟩) (λ_=>[]) (λy=>[ay bU y.1 y.2]) (λy=>jG xs y.2):=by
 refine gB 68 λB w0=>?_;refine go ?_;intro b2;refine gC (apD (xs:=xs) hl) λa ha=>?_;refine gC (apy (xs:=xs) (a:=a) s6 hv) λys hy=>?_;have hlen:ys.length=xs.length:=hy.1.length_eq;have hok:=alN hy.1 hy.2;refine go ?_;rcases ha with⟨rfl,h0⟩|⟨b,f,rfl⟩
 .have hx:xs=[]:=pU.1 h0;subst hx;have hys:ys=[]:=pU.1 (hlen.trans h0);subst hys;refine fH apE (next:=λ_ _=>?_);refine go ?_;refine fA (ay bU (.slice none 0 0) []) (λw hw=>.inl ⟨rfl,none,0,rfl,trivial⟩) ?_;exact gQ (.slice none 0 0,[]) hok
 .refine fH (apA (xs:=ys) (b:=b) (f:=f) (m:=xs.length) s6) (next:=λvr _=>?_);refine gF bU vr (wy tO ys) λar1 cr er=>?_;subst er;refine go ?_;exact gQ (.slice ar1 (wy tO ys).length cr,wy tO ys) hok
end Go.Proofs.YtgimfpcgbmpkhaaGreat
namespace Go.Proofs.YtgimfpcgbmpkhaaGreat
open Tryz (prog)
open Go.Ideal Kd Canon
def short(l:ae Clue):Prop:=∀g∈l,g.values.length<=1000000
variable{va vb:ah}
def apH{a b:Clue}(ha:a.values.length<=1000000)(hb:b.values.length<=1000000):dO prog 73 [tK a va,tK b vb] [ay aj va a.values,ay aj vb b.values] (.bool (decide (a=b))):=by
 refine gB 73 λB w0=>?_;refine go ?_;intro b2 b3;refine gC (acW (a:=a) (b:=b) (va:=va) (vb:=vb) ha hb) λ_ _=>?_;refine aZ ?_;rw[show decide (a=b)=decide (uI a b=0)from nZ.2 (Sz.zero a b).symm];rfl
variable{xs ys:ae Clue}
def apI(hal:xs.length<=1000000)(hx:short xs)(hy:short ys):
 dO prog 72 [va,vb,.func (.func 73) ⟨[]⟩ ⟨[]⟩] [ay bU va xs,ay bU vb ys] (.bool (decide (xs=ys))):=by
 refine gB 72 λB w0=>?_;refine aK ?_ ?_<;>intro h1
 .exact dr
 have hlen:xs.length=ys.length:=s6
 refine gN xs.length 17 (λk=>k<=xs.length/\∀j,j<k->xs[j]? =ys[j]?) ⟨s6,λj hj=>by omega⟩ ?_;rintro k ⟨hkx,hsame⟩;refine aK ?_ ?_<;>intro h2
 .refine gX bU λ_ _ x (vx:ah) hxk=>?_;refine go ?_;intro b8;refine gX bU λ_ _ y (vy:ah) hyk=>?_;refine go ?_;intro b9;refine gC (apH (a:=x) (b:=y) (hx x (aV hxk)) (hy y (aV hyk))) λ_ _=>?_;refine go ?_;refine qW rfl (λh3=>?_) (λh3=>?_)
  .refine aZ ?_;rw[dA (λe=>h3 (by rw[e,hyk]at hxk;cases hxk;rfl))];rfl
  refine go ?_;refine aW (k+1) s6 ⟨s6,λj hj=>?_⟩;by_cases e:j=k
  .subst e;rw[hxk,hyk,h3]
  .exact hsame j s6
 refine aZ ?_;have:xs=ys:=by
  exact cQ
 rw[eB this];rfl
def ac0(hal:xs.length<=1000000)(hx:short xs)(hy:short ys):
 dO prog 24 [.agg ⟨[va]⟩,.agg ⟨[vb]⟩] [ay bU va xs,ay bU vb ys] (.bool (decide (xs=ys))):=by
 refine gB 24 λB w0=>?_;refine go ?_;intro b2 b3;refine gC (apI (xs:=xs) (ys:=ys) hal hx hy) λ_ _=>?_;exact dH
end Go.Proofs.YtgimfpcgbmpkhaaGreat
namespace Go.Proofs.YtgimfpcgbmpkhaaGreat
open Tryz (prog)
open Go.Ideal Kd Canon
def VK{v:ah}{xs:ae (ae Int)}(hl:xs.length<2^63)(hll:∀l∈xs,l.length<2^63):fC prog 158 [v] [ay (aA aj) v xs] (λn:Int=>iV n) (λn=>0<=n/\n<=2001):=by
 refine gB 158 λB w0=>?_;refine gF (aA aj) v xs λa1 c1 e1=>?_;subst e1;refine gL (λx:Nat×Int=>xs.length - x.1) (λx=>[(4,iV (x.1:Int)),(3,iV x.2)]) (λx=>x.1<=xs.length/\0<=x.2/\x.2<=4003) (0,0) ⟨bI _,tg,tg⟩ ?_;rintro⟨i,n⟩ ⟨hi,h0,h1⟩;dsimp only at hi h0 h1⊢;refine gH ?_ ?_<;>intro h2
 .exact nn
 refine aK ?_ ?_<;>intro h3
 rotate_left
 .exact nn
 refine go ?_;refine(dx rfl rfl (GH rfl rfl)).h ?_;refine gX (aA aj) (xs:=xs) λ_ _ x (vx:ah) hx=>?_;refine go ?_;refine(dx rfl rfl (GH rfl rfl)).h ?_;refine go ?_;exact aW (i+1,min n 2001+1+min (x.length:Int) 2001) (by show xs.length - (i+1)<xs.length - i;omega) ⟨by dsimp only;omega,by dsimp only;omega,by dsimp only;omega⟩
structure VL(d:dR):Prop where
 holes:d.holes.length<=40
 eH:d.symbols.length<=20
 regs:d.regions.length<=8
 ny:d.bT.length<=8
 oP:d.rules.length<=20
variable{vh vs vr vc vu:ah}
def ac1{d:dR}(hr:∀r∈d.regions,r.lists.length<2^63/\∀l∈r.lists,l.length<2^63)(hn:∀r∈d.rules,r.names.length<2^63/\r.others.length<2^63):
 fC prog 159 [.agg ⟨oO d vh vs vr vc vu⟩] (uQ d vh vs vr vc vu) (λb:Bool=>.bool b) (λb=>b=true->VL d):=by
 refine gB 159 λB w0=>?_;dsimp only[uQ];refine gF lJ vr d.regions λar cr er=>?_;subst er;refine gF di vu d.rules λau cu eu=>?_;subst eu;refine go ?_;intro b1;refine gP b1 ?_;refine gH ?_ ?_<;>intro h1
 rotate_left
 .exact cJ
 refine gH ?_ ?_<;>intro h2
 rotate_left
 .exact cJ
 refine gH ?_ ?_<;>intro h3
 rotate_left
 .exact cJ
 refine gH ?_ ?_<;>intro h4
 rotate_left
 .exact cJ
 refine aK ?_ ?_<;>intro h5
 .exact cJ
 have hD:VL d:=⟨s6,s6,s6,s6,s6⟩
 refine gN d.regions.length 3 (λj=>j<=d.regions.length) (bI _) ?_;intro j hj;refine aK ?_ ?_<;>intro a1
 .have hx:d.regions[j]? =some (d.regions[j]'(s6)):=bN _;generalize d.regions[j]'(s6)=x at hx;obtain⟨hx1,hx2⟩:=hr x (aV hx);refine gX lJ (xs:=d.regions) λ_ _ x1 (vl1:ah) hx1=>?_;cases hx.symm.trans hx1;refine aK ?_ ?_<;>intro a2
  .exact cJ
  refine gN x.lists.length 4 (λi=>i<=x.lists.length) (bI _) ?_;intro i hi;refine gX lJ (xs:=d.regions) λ_ _ x2 (wI:ah) hx2=>?_;cases hx.symm.trans hx2;refine aK ?_ ?_<;>intro a3
  .refine gX lJ (xs:=d.regions) λ_ _ x3 (Lb:ah) hx3=>?_;cases hx.symm.trans hx3;refine gX (aA aj) (xs:=x.lists) λ_ _ l (vl4:ah) hl=>?_;refine aK ?_ ?_<;>intro a4
   .exact cJ
   refine go ?_;exact aW (i+1) (by show x.lists.length - (i+1)<x.lists.length - i;omega) uv
  refine go ?_;exact aW (j+1) (by show d.regions.length - (j+1)<d.regions.length - j;omega) ux
 refine gN d.rules.length 5 (λj=>j<=d.rules.length) (bI _) ?_;intro j hj;refine aK ?_ ?_<;>intro a1
 .have hx:d.rules[j]? =some (d.rules[j]'(s6)):=bN _;generalize d.rules[j]'(s6)=x at hx;obtain⟨hx1,hx2⟩:=hn x (aV hx);refine gX di (xs:=d.rules) λ_ _ x1 (w:ah×ah) hx1=>?_;cases hx.symm.trans hx1;refine gH ?_ ?_<;>intro a2
  rotate_left
  .exact cJ
  refine gX di (xs:=d.rules) λ_ _ x2 (w2:ah×ah) hx2=>?_;cases hx.symm.trans hx2;refine aK ?_ ?_<;>intro a3
  .exact cJ
  refine go ?_;exact aW (j+1) (by show d.rules.length - (j+1)<d.rules.length - j;omega) ux
 refine go ?_;exact gQ true (λ_=>hD)
structure ac2(k:aT):Prop where
 d:VL k.decl
 cells:k.grid.cells.length<=256
 VG:k.grid.holes.length<=300
def apJ{k:aT}{gh gc vn vl:ah}(hB:E8 k):fC prog 55 [.agg ⟨jE k vh vs vr vc vu gh gc vn vl⟩] (iO k vh vs vr vc vu gh gc vn vl []) (λb:Bool=>.bool b) (λb=>b=true->ac2 k):=by
 obtain⟨n1,n2⟩:=hB.aH;obtain⟨l1,l2⟩:=hB.lists;refine gB 55 λB w0=>?_;dsimp only[iO];refine gF (aA (aA aj)) vl k.lists λal cl el=>?_;subst el;refine go ?_;intro b1;refine gL (λx:Nat×Int=>k.lists.length - x.1) (λx=>[(4,iV (x.1:Int)),(3,iV x.2)]) (λx=>x.1<=k.lists.length/\0<=x.2/\x.2<=4001) (0,0) ⟨bI _,tg,tg⟩ ?_;rintro⟨i,n⟩ ⟨hi,h0,h1⟩;dsimp only at hi h0 h1⊢;refine gH ?_ ?_<;>intro h2
 .exact s5
 refine aK ?_ ?_<;>intro h3
 rotate_left
 .exact s5
 refine gX (aA (aA aj)) (xs:=k.lists) λ_ _ x (vx:ah) hx=>?_;obtain⟨x1,x2⟩:=l2 x (aV hx);refine gC (VK (xs:=x) x1 x2) λm hm=>?_;refine go ?_;exact aW (i+1,n+m) DP ⟨by dsimp only;omega,by dsimp only;omega,by dsimp only;omega⟩
end Go.Proofs.YtgimfpcgbmpkhaaGreat
namespace Go.Proofs.YtgimfpcgbmpkhaaGreat
open Tryz (prog)
open Go.Ideal Kd Canon Gph
structure RF(k:aT)(r:bF):Prop where
 kd:1<=r.kind/\r.kind<=11
 x:Ia (iU r.kind) k.decl.bT r
 by0:r.fV=qI↔r.aN<0
 s1:∃n:Nat,r.set=(n:Int)/\n<2^k.decl.symbols.length
 s2:∃n:Nat,r.other=(n:Int)/\n<2^k.decl.symbols.length
 f0:0<=r.family/\r.family<k.lists.length
 cl:0<=r.aN->(r.kind=2\/r.kind=3\/r.kind=5\/r.kind=11)/\∃c,k.decl.bT[r.aN.toNat]? =some c/\c.family=iG r/\u7 c/\(r.kind=2\/r.kind=3->c.type=2)/\(r.kind=5->c.type=3)/\(r.kind=11->c.type=1)
 ncl:r.kind=5\/r.kind=11->0<=r.aN
 op:r.kind=2\/r.kind=3->1<=r.op/\r.op<=3
def ac3{eH:ae ByteArray}:∀(l:ae ByteArray),(∀s∈l,s∈eH)->kI eH l<2^eH.length:=by
 have h:∀(l:ae ByteArray) (m:Nat),m<2^eH.length->(∀s∈l,s∈eH)->l.foldl (λm s=>m|||1<<<jY s eH) m<2^eH.length:=by
  exact fN
 intro l hl;exact h l 0 (Nat.two_pow_pos _) hl
variable{k:aT}
def bD.rf(hK:bD k){r:bF}(hr:r∈k.decl.rules):RF k r:=by
 have hty:=hK.typ;have hin:=hK.inr hr;obtain⟨q,hq,hre⟩:=hK.qc hr;have hro:=hK.b.rs.qc q hq;have hrx:=hty.form.oP r hr;have hkd:1<=r.kind/\r.kind<=11:=by
  refine VI ?_;have:=hty.read;exact eA
 have hsl:(iR k.decl).length=k.decl.symbols.length:=by unfold iR;rw[bi]
 have hb1:r.fV=q.fV:=u9
 have hb2:r.aN=if q.fV=qI then(-1:Int)else(jY q.fV (mM k.decl):Int):=u9
 have hby:r.fV=qI↔r.aN<0:=by
  rw[hb1,hb2];by_cases e:q.fV=qI
  .rw[if_pos e];exact⟨λ_=>by omega,λ_=>e⟩
  .rw[if_neg e];exact⟨λh=>absurd h e,λh=>by omega⟩
 refine⟨hkd,hrx,hby,⟨kI (iR k.decl) q.names,by rw[hre];rfl,by rw[<- hsl];exact ac3 _ hro.names⟩,⟨kI (iR k.decl) q.others,by rw[hre];rfl,by rw[<- hsl];exact ac3 _ hro.others⟩,hin.fM,?_,?_,?_⟩
 .intro hc;have hne:r.fV≠qI:=λe=>by have:=hby.1 e;omega
  rcases hrx.K4 _ rfl with⟨_,a,_⟩|⟨a0,a1,a2,c,a3,a4,a5⟩
  .exact absurd a hne
  have hcp:=(hty.form.ny _ c a3).2;have hk:r.kind=1\/r.kind=2\/r.kind=3\/r.kind=4\/r.kind=5\/r.kind=6\/r.kind=7\/r.kind=8\/r.kind=9\/r.kind=10\/r.kind=11:=s6
  have hf:∀f:Int,iG r=f->c.family=f->c.family=iG r:=λf h1 h2=>by omega
  rcases hk with e|e|e|e|e|e|e|e|e|e|e<;>rw[e]at a0 a4 a5<;>simp[iU,hne]at a0 a4 a5
  .exact eM
  .exact eM
  .exact eM
  .refine⟨s6,c,a3,?_,hcp,s6,s6,s6⟩;unfold iG;rw[if_neg s6,if_neg s6,if_pos e];unfold u7 at hcp;omega
 .intro h;rcases hrx.K4 _ rfl with⟨a0,_,_⟩|⟨_,a1,_⟩
  .rcases h with e|e<;>rw[e]at a0<;>simp[iU]at a0
  .exact a1
 .intro h;refine hrx.op.1 ?_;rcases h with e|e<;>rw[e]<;>rfl
def yO(k:aT)(p:ae Clue):Kn:=⟨k.grid.cells.length,k.decl.symbols.length,gJ k,k.aH,mP k p⟩
variable{r:bF}
def RF.list(hK:bD k)(h:RF k r):∃ls,k.lists[(iG r).toNat]? =some ls/\(∀l∈ls,Bg k.grid.cells.length l/\l.Nodup)/\
 (r.kind=6\/r.kind=7\/r.kind=8->ls=mg k.aH)/\(r.kind=9\/r.kind=10->ls=[upTo' k.grid.cells.length])/\(r.kind=11->ls=l9 k.grid.cells.length):=by
 have hl:=hK.jv;have hf:=h.f0;have h8:(iG r).toNat<k.lists.length:=by
  unfold iG;repeat' split
  all_goals omega
 have hg:=hK.bJ;have hrg:∀r∈k.decl.regions,uT (bO k.decl) r.lists:=λr hr=>(hK.typ.wH r hr).1.2;have hgc:k.grid.cells.length=(bO k.decl).cells.length:=by rw[hK.grid]
 have e:k.lists[(iG r).toNat]? =some (k.lists[(iG r).toNat]'h8):=bN _;generalize k.lists[(iG r).toNat]'h8=ls at e;have hm:=aV e;refine⟨ls,e,λl hl=>⟨?_,?_⟩,λhk=>?_,λhk=>?_,λhk=>?_⟩
 .rw[hK.lists]at hm;rw[hgc];exact O8 hg hrg _ hm l hl
 .rw[hK.lists]at hm;exact Ub hg hrg _ hm l hl
 .have e6:iG r=6:=by unfold iG;rw[if_pos hk]
  have:k.lists[(iG r).toNat]? =some (mg k.aH):=by rw[hK.lists,hK.aH,e6];rfl
  exact pA
 .have e7:iG r=7:=by unfold iG;rw[if_neg s6,if_pos hk]
  have:k.lists[(iG r).toNat]? =some [upTo' k.grid.cells.length]:=by rw[hgc,hK.lists,e7];rfl
  exact pA
 .have e0:iG r=0:=by unfold iG;rw[if_neg s6,if_neg s6,if_pos hk]
  have:k.lists[(iG r).toNat]? =some (l9 k.grid.cells.length):=by rw[hgc,hK.lists,e0];rfl
  exact pA
def RF.vals{p:ae Clue}{ls:ae (ae Int)}(h:RF k r)(hQ:fE k p){y:Nat×ae Int×ae Int}(hy:y∈lY p r ls):
 (r.aN<0/\y.2.2=[])\/(0<=r.aN/\∃c,k.decl.bT[r.aN.toNat]? =some c/\u7 c/\((c.type=1/\r.kind=11/\y.2.2.length=1/\∀x∈y.2.2,0<=x/\x<=(k.decl.symbols.length:Int) - 1)\/(c.type=2/\(r.kind=2\/r.kind=3)/\y.2.2.length=1/\∀x∈y.2.2,0<=x/\x<=65536)\/
   (c.type=3/\r.kind=5/\y.2.2.length<=8/\∀x∈y.2.2,1<=x/\x<=256))):=by
 obtain⟨h1,h2⟩:=alG.1 hy;rcases h2 with h2|⟨h2,h3⟩
 .exact .inl h2
 right;refine⟨h2,?_⟩;obtain⟨hk,c,c1,c2,c3,c4,c5,c6⟩:=h.cl h2;refine⟨c,c1,c3,?_⟩;obtain⟨g,g1,g2,g3,g4⟩:=(KF hQ).1 h3;obtain⟨c',l,a1,a2,a3,a4,a5,a6⟩:=hQ.right g g1;rw[g2,c1]at a2;cases a2;rw[g4]at a6;have hcp:=c3;unfold u7 at hcp;have hn:∀x:Int,c.lo<=x/\x<=c.hi->c.type=2->0<=x/\x<=65536:=λx hx ht=>by omega
 rcases a6 with⟨b1,b2,b3⟩|⟨b1,b2,b3⟩|⟨b1,b2,b3,b4⟩
 .exact .inl ⟨b1,s6,b2,b3⟩
 .exact .inr (.inl ⟨b1,s6,b2,λx hx=>hn x (b3 x hx) b1⟩)
 .exact .inr (.inr ⟨s6,s6,b3,b4⟩)
