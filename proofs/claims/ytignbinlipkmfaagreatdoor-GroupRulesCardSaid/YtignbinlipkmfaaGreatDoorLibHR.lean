/- Part. -/
import Derived.Test.YtignbinlipkmfaaGreatDoorLibGR
set_option linter.all false
set_option maxRecDepth 10000
set_option maxHeartbeats 4000000
namespace Go.Proofs.YtignbinlipkmfaaGreatDoor
open Tryz (prog)
open Go.Ideal Kd
noncomputable def ab2:iL:=⟨51,[(.tmp 2)],(.seq (kO [kS 2 (.jh (.const (iV 0)))]) (.seq (.seq (kO [kM 4 0,kM 5 0,kS 6 (.ng 5),kS 7 (.iq 0 6),kS 8 (.iq 0 7),kS 9 (.iq 2 8),kS 10 (.fE 9),kM 11 0,kS 12 (.ng 11),kS 13 (.iq 0 12),kS 14 (.iq 0 13),kS 15 (.iq 3 14),kS 16 (.fE 15),kM 17 0,kS 18 (.ng 17),kS 19 (.iq 0 18),kS 20 (.iq 0 19),kS 21 (.iq 4 20),kS 22 (.fE 21),kM 23 0,kS 24 (.ng 23),kS 25 (.iq 0 24),kS 26 (.iq 0 25),kS 27 (.iq 5 26),kS 28 (.fE 27),kS 29 (kC 96 [10,16,22,28]),kM 3 29,kS 30 (.extract 3 0),kS 31 (.extract 3 1),kS 32 (.ng 4),kS 33 (.iq 0 32),kS 34 (.iq 10 33),kN (.store 5 34 30),kS 2 (.jh 31)]) (.seq (kO [kM 35 2,kS 36 (.bin .eql 37 35 (.const (iV 0)))]) (.cond 36 (kO [kM 38 0,kM 39 0,kS 40 (.ng 39),kS 41 (.iq 0 40),kS 42 (.iq 10 41),kS 43 (.tX 5 42),kS 44 (kC 97 [43]),kM 37 44,kS 45 (.extract 37 0),kS 46 (.extract 37 1),kS 47 (.ng 38),kS 48 (.iq 0 47),kS 49 (.iq 15 48),kN (.store 1 49 45),kS 2 (.jh 46)]) .skip))) (.seq (kO [kM 50 2,kS 2 (.jh 50)]) .ret)))⟩
def apd:lF prog 54=some ab2:=th
abbrev bL(d:bK)(vh vs vr vc vu g1 g2 g3 g4 g5 g6 g7:ah):ae ah:=[.string d.name,iV d.version,iV d.shape,iV d.w,iV d.h,vh,vs,vr,vc,vu,g1,g2,g3,g4,g5,g6,g7]
abbrev zL(g1 g2 g3 g4 g5 g6 g7:ah):ae ah:=[.string ⟨⟨[]⟩⟩,iV 0,iV 0,iV 0,iV 0,.slice none 0 0,.slice none 0 0,.slice none 0 0,.slice none 0 0,.slice none 0 0,g1,g2,g3,g4,g5,g6,g7]
variable{b:Nat}{d:bK}{vh vs vr vc vu g1 g2 g3 g4 g5 g6 g7:ah}
def ape(hS:pI d):bG prog (.func 52) [ptr' b] [] [pt b (.cells (bL d vh vs vr vc vu g1 g2 g3 g4 g5 g6 g7))] (nK d vh vs vr vc vu) (λy:Kz=>iV y.e)
 (λy=>[pt b (.cells (cond y.ok (bL (Kd.bO d) vh vs vr y.vc y.vu g1 g2 g3 g4 g5 g6 g7) (zL g1 g2 g3 g4 g5 g6 g7)))]) (ry d) (EF d):=by
 refine gB 52 λB w0=>?_;refine gC (abH (d:=d) hS) λy hy=>?_;obtain⟨ok,e,v1,v2⟩:=y;cases ok with
 |false=>
  dsimp only[vK,ry,cond,List.nil_append]at hy⊢;refine go ?_;exact gQ ⟨false,e,v1,v2⟩ hy
 |true=>
  dsimp only[vK,ry,cond,List.cons_append,List.nil_append]at hy⊢;refine go ?_;exact gQ ⟨true,e,v1,v2⟩ hy (hF:=by show Sub [aj bZ v1 (Kd.bO d).aQ,aj bi v2 (Kd.bO d).rules] _;exact .cons tg (.cons tg .nil))
def apf(hT:vP d):bG prog (.func 53) [ptr' b] [] [pt b (.cells (bL d vh vs vr vc vu g1 g2 g3 g4 g5 g6 g7))] (nK d vh vs vr vc vu) (λe:Int=>iV e)
 (λ_=>[pt b (.cells (bL d vh vs vr vc vu g1 g2 g3 g4 g5 g6 g7))]) (λ_=>[]) (λe=>e=0↔EO d):=by
 refine gB 53 λB w0=>?_;refine gC (apc (d:=d) hT) λe he=>?_;refine go ?_;exact gQ e he
structure DrY where
 gh:Value
 gc:Value
 vn:Value
def aph(hT:vP d)(hm:qZ d.shape d.w d.h d.holes):
 bG prog (.func 54) [ptr' b] [] [pt b (.cells (bL d vh vs vr vc vu g1 g2 g3 g4 g5 g6 g7))] (nK d vh vs vr vc vu) (λ_:DrY=>iV 0)
 (λy=>[pt b (.cells (bL d vh vs vr vc vu (iV (aT d).shape) (iV (aT d).w) (iV (aT d).h) y.gh y.gc y.vn g7))])
 (λy=>[aj ai y.gh (aT d).holes,aj ai y.gc (aT d).cells,aj (ay ai) y.vn (bR (aT d))]) (λ_=>True):=by
 have hG:=KH hm;have hgo:eF (aT d):=⟨hm,rfl⟩
 refine jD ab2 apd λB w0=>?_;refine gC (U6 (s:=d.shape) (w:=d.w) (h:=d.h) (holes:=d.holes) (vh:=vh) hT.w hT.h hT.holes) λy hy=>?_;obtain⟨ok,v1,v2⟩:=y;cases ok with
 |false=>exact absurd (hy.2 hm) tg
 |true=>
 dsimp only[cond,mkV,rQ];rw[show zK d.shape d.w d.h d.holes=aT d from rfl];dsimp only[jU,iW,List.cons_append,List.nil_append];refine gC (abT (g:=aT d) (vh:=v1) (vc:=v2) hG) λy hy2=>?_;obtain⟨vn,e⟩:=y;have he:e=0:=hy2.2 hgo;subst he;refine fo (aj (wR ai) vn (bR (aT d))) (λw hw=>hw (pM ((0:Int)=0) (aj (wR ai) vn (bR (aT d)))) tg rfl) ?_;refine fo (aj (ay ai) vn (bR (aT d))) (λw hw=>Z0 (hw (aj (wR ai) vn (bR (aT d))) tg)) ?_;dsimp only[zM];refine gF (ay ai) vn (bR (aT d)) λan cn en=>?_;subst en;refine go ?_;exact gQ ⟨v1,v2,.slice an (bR (aT d)).length cn⟩ trivial
def jM(g:bA)(k:Nat):ae (ae (ae Int)):=(List.range k).map λf:Nat=>dL g (f:Int)
def ab3(g:bA)(k:Nat):jM g (k+1)=jM g k++[dL g (k:Int)]:=by
 unfold jM;rw[Dv,ek,ww]
def PP(g:bA)(k:Nat):(jM g k).length=k:=by unfold jM;simp
def api{gh gc vn:ah}(hT:vP d)(hm:qZ d.shape d.w d.h d.holes)(hr:∀r∈d.regions,CR (aT d) r):
 bG prog (.func 55) [ptr' b] [] [pt b (.cells (bL d vh vs vr vc vu (iV (aT d).shape) (iV (aT d).w) (iV (aT d).h) gh gc vn (.slice none 0 0)))]
 [aj fw vr d.regions,aj ai gh (aT d).holes,aj ai gc (aT d).cells] (λ_:ah=>iV 0)
 (λvl=>[pt b (.cells (bL d vh vs vr vc vu (iV (aT d).shape) (iV (aT d).w) (iV (aT d).h) gh gc vn vl))])
 (λvl=>[aj (ay (ay ai)) vl (mR d)]) (λ_=>True):=by
 have hG:=KH hm;have hgo:eF (aT d):=⟨hm,rfl⟩
 have hrl:=hT.s.regs;refine gB 55 λB w0=>?_;refine gF fw vr d.regions λar cr er=>?_;subst er;refine go ?_;refine gK (ay (ay ai)) ?_;refine di (λy:Nat×ah=>8 - y.1) (λy=>[(10,iV (y.1:Int))]) (λy=>[pt b (.cells (bL d vh vs (.slice ar d.regions.length cr) vc vu (iV (aT d).shape) (iV (aT d).w) (iV (aT d).h) gh gc vn y.2)),ap (ay (ay ai)) y.2 (jM (aT d) y.1)]) (λ_=>[]) (λy=>y.1<=8) (0,.slice none 0 0) (bH _) (hk:=tj) (body:=?_);rintro⟨k,vl⟩ hk;dsimp only at hk⊢;have hkl:=PP (aT d) k;refine aC ?_ ?_<;>intro h1
 .refine gC (aox (g:=aT d) (vh:=gh) (vc:=gc) (k:=(k:Int)) hG) λy hy=>?_;obtain⟨v4,e⟩:=y;have he:e=0:=hy.2 ⟨hgo,tf,tf⟩;subst he;dsimp only[PI,List.cons_append,List.nil_append];refine fo (aj (ay ai) v4 (dL (aT d) (k:Int))) (λw hw=>hw (pM ((0:Int)=0) (aj (ay ai) v4 (dL (aT d) (k:Int)))) tg rfl) ?_;refine gF (ay ai) v4 (dL (aT d) (k:Int)) λa4 c4 e4=>?_;subst e4;refine go ?_;intro b33;refine go ?_;refine fJ (xs:=jM (aT d) k) (ay (ay ai)) (dL (aT d) (k:Int)) (.slice a4 (dL (aT d) (k:Int)).length c4) tf (next:=λad=>?_);rw[<- ab3];refine go ?_;exact aO (k+1,.slice ad ((jM (aT d) k).length+1) ((jM (aT d) k).length+1)) (by show 8 - (k+1)<8 - k;omega) tE
 have Vk:k=8:=tf
 subst Vk;refine go ?_;refine di (λy:Nat×ah=>d.regions.length - y.1) (λy=>[(46,iV (y.1:Int))]) (λy=>[pt b (.cells (bL d vh vs (.slice ar d.regions.length cr) vc vu (iV (aT d).shape) (iV (aT d).w) (iV (aT d).h) gh gc vn y.2)),ap (ay (ay ai)) y.2 (jM (aT d) 8++(d.regions.take y.1).map λr=>eH (aT d) r.lists)]) (λ_=>[]) (λy=>y.1<=d.regions.length) (0,vl) (bH _) (hk:=by rw[show jM (aT d) 8++(d.regions.take 0).map (λr=>eH (aT d) r.lists)=jM (aT d) 8 from iE _];repeat (first|exact aH.nil|(apply aH.cons;(focus (repeat (first|exact aB.here|apply aB.there)))))) (body:=?_);rintro⟨k,v2⟩ hk;dsimp only at hk⊢;have hkl:(jM (aT d) 8++(d.regions.take k).map λr=>eH (aT d) r.lists).length=8+k:=by rw[fV,PP,bC,gM];omega
 refine aC ?_ ?_<;>intro h1
 .refine gX fw (xs:=d.regions) λ_ _ r (vr2:ah) KI=>?_;have hrm:=aU KI;obtain⟨hl1,hl2⟩:=hT.s.uG r hrm;obtain⟨⟨_,hro⟩,_⟩:=hr r hrm;refine go ?_;intro b7;refine gC (abW (g:=aT d) (rs:=r.lists) hG hl1 hl2) λy hy=>?_;obtain⟨v8,e⟩:=y;have he:e=0:=hy.2 ⟨hgo,hro⟩;subst he;dsimp only[PL,List.cons_append,List.nil_append];refine fo (aj (ay ai) v8 (eH (aT d) r.lists)) (λw hw=>hw (pM ((0:Int)=0) (aj (ay ai) v8 (eH (aT d) r.lists))) tg rfl) ?_;refine gF (ay ai) v8 (eH (aT d) r.lists) λa8 c8 e8=>?_;subst e8;refine go ?_;intro Vl;refine go ?_;have htk:jM (aT d) 8++(d.regions.take (k+1)).map (λr=>eH (aT d) r.lists)=(jM (aT d) 8++(d.regions.take k).map λr=>eH (aT d) r.lists)++[eH (aT d) r.lists]:=by
   rw[bU KI,ek,ww,iO]
  refine fJ (xs:=jM (aT d) 8++(d.regions.take k).map λr=>eH (aT d) r.lists) (ay (ay ai)) (eH (aT d) r.lists) (.slice a8 (eH (aT d) r.lists).length c8) tf (next:=λad=>?_);rw[<- htk];refine go ?_;exact aO (k+1,.slice ad ((jM (aT d) 8++(d.regions.take k).map λr=>eH (aT d) r.lists).length+1) ((jM (aT d) 8++(d.regions.take k).map λr=>eH (aT d) r.lists).length+1)) AS tE
 have hke:k=d.regions.length:=tf
 subst hke;rw[bP];rw[show jM (aT d) 8++d.regions.map (λr=>eH (aT d) r.lists)=mR d from rfl];refine gZ (gD (E:=ay (ay ai)) (v:=v2) (xs:=mR d)) ?_;refine go ?_;exact gQ v2 trivial
end Go.Proofs.YtignbinlipkmfaaGreatDoor
namespace Go.Proofs.YtignbinlipkmfaaGreatDoor
open Tryz (prog)
open Go.Ideal Kd
abbrev apl:ae ah:=zL (iV 0) (iV 0) (iV 0) (.slice none 0 0) (.slice none 0 0) (.slice none 0 0) (.slice none 0 0)
abbrev og(k:aZ)(vh vs vr vc vu gh gc vn vl:ah):ae ah:=bL k.decl vh vs vr vc vu (iV k.grid.shape) (iV k.grid.w) (iV k.grid.h) gh gc vn vl
abbrev j6(k:aZ)(vh vs vr vc vu gh gc vn vl:ah)(F:ae aM):ae aM:=aj ai vh k.decl.holes::aj fG vs k.decl.symbols::aj fw vr k.decl.regions::aj bZ vc k.decl.aQ::aj bi vu k.decl.rules::aj ai gh k.grid.holes::aj ai gc k.grid.cells::aj (ay ai) vn k.aR::aj (ay (ay ai)) vl k.lists::F
structure G7(d:bK):Prop where
 rs:GK d
 typ:EO (Kd.bO d)
structure dz(k:aZ):Prop where
 b:G7 k.decl
 e:k=lS (Kd.bO k.decl)
structure PR where
 ok:Bool
 e:Int
 vc:Value
 vu:Value
 gh:Value
 gc:Value
 vn:Value
 vl:Value
abbrev G8(d:bK)(vh vs vr:ah)(y:PR):ah:=.tuple ⟨[.agg ⟨cond y.ok (og (lS (Kd.bO d)) vh vs vr y.vc y.vu y.gh y.gc y.vn y.vl) apl⟩,iV y.e]⟩
abbrev G9(d:bK)(vh vs vr:ah)(y:PR):ae aM:=cond y.ok [aj bZ y.vc (Kd.bO d).aQ,aj bi y.vu (Kd.bO d).rules,aj ai y.gh (aT (Kd.bO d)).holes,aj ai y.gc (aT (Kd.bO d)).cells,aj (ay ai) y.vn (bR (aT (Kd.bO d))),aj (ay (ay ai)) y.vl (mR (Kd.bO d))] []
def PS(d:bK)(y:PR):Prop:=(y.ok=true->y.e=0/\G7 d)/\(y.ok=false->y.e≠0/\¬G7 d)
variable{vh vs vr vc vu:ah}
def ab4{d:bK}(hT:vP d):bG prog (.func 26) [.agg ⟨iD d vh vs vr vc vu⟩] [] [] (nK d vh vs vr vc vu) (G8 d vh vs vr) (λ_=>[]) (G9 d vh vs vr) (PS d):=by
 have uK:vP (Kd.bO d):=⟨hT.s.bO,hT.w,hT.h,hT.holes⟩
 have hend:∀{e:Int} {vc vu gh gc vn vl:ah},e≠0->¬G7 d->PS d ⟨false,e,vc,vu,gh,gc,vn,vl⟩:=λhe hb=>⟨(λh=>by cases h),λ_=>⟨he,hb⟩⟩
 refine gB 26 λB w0=>?_;refine go ?_;intro b1 b2 b4 b15;refine qX ?_;refine gC (ape (b:=b4) (d:=d) hT.s) λy hy=>?_;obtain⟨ok,e,v1,v2⟩:=y;cases ok with
 |false=>
  obtain⟨he,hno⟩:=hy.2 rfl;dsimp only[cond,ry,List.nil_append]at he⊢;exact j8
 |true=>
 obtain⟨he,hres⟩:=hy.1 rfl;have he:e=0:=he;subst he;clear hy;dsimp only[cond,ry,List.cons_append,List.nil_append];refine fo (aj ai vh (Kd.bO d).holes) (λw hw=>hw (aj ai vh d.holes) tg) ?_;refine fo (aj fG vs (Kd.bO d).symbols) (λw hw=>hw (aj fG vs d.symbols) tg) ?_;refine fo (aj fw vr (Kd.bO d).regions) (λw hw=>hw (aj fw vr d.regions) tg) ?_;refine go ?_;refine qX ?_;refine gC (apf (b:=b4) (d:=Kd.bO d) (vc:=v1) (vu:=v2) uK) λe he=>?_;refine aC (λhne=>?_) (λhz=>?_)
 .refine go ?_;exact gQ ⟨false,e,v1,v2,v1,v1,v1,v1⟩ (hend hne λh=>hne (he.2 h.typ))
 have hty:=he.1 (iX.1 hz);clear he hz;refine go ?_;refine qX ?_;refine gC (aph (b:=b4) (d:=Kd.bO d) (vc:=v1) (vu:=v2) uK hty.EP) λy _=>?_;obtain⟨gh,gc,vn⟩:=y;dsimp only[List.cons_append,List.nil_append];refine go ?_;refine qX ?_;refine gC (api (b:=b4) (d:=Kd.bO d) (vc:=v1) (vu:=v2) uK hty.EP hty.zN) λvl _=>?_;dsimp only[List.cons_append,List.nil_append];refine go ?_;refine qX ?_;refine go ?_;refine gQ ⟨true,0,v1,v2,gh,gc,vn,vl⟩ ⟨λ_=>⟨rfl,hres,hty⟩,(λh=>by cases h)⟩ (hF:=?_);show Sub [aj bZ v1 (Kd.bO d).aQ,aj bi v2 (Kd.bO d).rules,aj ai gh (aT (Kd.bO d)).holes,aj ai gc (aT (Kd.bO d)).cells,aj (ay ai) vn (bR (aT (Kd.bO d))),aj (ay (ay ai)) vl (mR (Kd.bO d))] _;exact .cons tg (.cons tg (.cons tg (.cons tg (.cons tg (.cons tg .nil)))))
structure rA(k:aZ):Prop where
 d:vP k.decl
 g:rR k.grid
 aR:k.aR.length<2^63/\∀l∈k.aR,l.length<2^63
 lists:k.lists.length<2^63/\∀l∈k.lists,l.length<2^63/\∀m∈l,m.length<2^63
def apm{x y:aZ}{h1 s1 r1 c1 u1 CU CV n1 l1 h2 s2 r2 c2 u2 CW CY n2 l2:ah}(hS:rA x):dF prog 62 [.agg ⟨og x h1 s1 r1 c1 u1 CU CV n1 l1⟩,.agg ⟨og y h2 s2 r2 c2 u2 CW CY n2 l2⟩]
 (j6 x h1 s1 r1 c1 u1 CU CV n1 l1 (j6 y h2 s2 r2 c2 u2 CW CY n2 l2 [])) (.bool (decide (x=y))):=by
 have e1:=hS.d.s;have e2:=hS.g.holes;have e3:=hS.g.cells;obtain⟨e4,e5⟩:=hS.aR;obtain⟨e6,e7⟩:=hS.lists;clear hS;obtain⟨xd,⟨xs,xw,xh,EQ,ER⟩,xn,xl⟩:=x;obtain⟨yd,⟨ys,yw,yh,Vm,KJ⟩,yn,yl⟩:=y;dsimp only at e1 e2 e3 e4 e5 e6 e7;dsimp only[og,j6];refine gB 62 λB w0=>?_;refine go ?_;intro b2 b3;refine gH ?_ ?_<;>intro k1
 .exact gE
 refine gH ?_ ?_<;>intro k2
 .exact gA
 refine gH ?_ ?_<;>intro k3
 .exact gx
 refine gC (yI (xs:=EQ) (ys:=Vm) tf) λ_ _=>?_;refine gH ?_ ?_<;>intro k4
 .exact gk
 refine gC (yI (xs:=ER) (ys:=KJ) tf) λ_ _=>?_;refine gH ?_ ?_<;>intro k5
 .exact j7
 refine go ?_;have hsy:dF prog 101 [.agg ⟨iD xd h1 s1 r1 c1 u1⟩,.agg ⟨iD yd h2 s2 r2 c2 u2⟩] [aj ai h1 xd.holes,aj fG s1 xd.symbols,aj fw r1 xd.regions,aj bZ c1 xd.aQ,aj bi u1 xd.rules,aj ai h2 yd.holes,aj fG s2 yd.symbols,aj fw r2 yd.regions,aj bZ c2 yd.aQ,aj bi u2 yd.rules] (.bool (decide (xd=yd))):=abM e1;refine fD hsy (next:=λ_ _=>?_);refine gH ?_ ?_<;>intro k6
 .exact gj
 refine gC (abK (xs:=xn) (ys:=yn) e4 e5) λ_ _=>?_;refine gH ?_ ?_<;>intro k7
 .exact gg
 refine gC (anQ (xs:=xl) (ys:=yl) e6 e7) λ_ _=>?_;refine aP ?_;subst k1 k2 k3 k4 k5 k6 k7;rw[show decide (aZ.mk xd ⟨xs,xw,xh,EQ,ER⟩ xn xl=aZ.mk xd ⟨xs,xw,xh,EQ,ER⟩ xn yl)=decide (xl=yl)from qx.2 ⟨λh=>by cases h;rfl,λh=>by rw[h]⟩];rfl
def Vn{k:aZ}{gh gc vn vl:ah}(hS:rA k):fC prog 32 [.agg ⟨og k vh vs vr vc vu gh gc vn vl⟩] (j6 k vh vs vr vc vu gh gc vn vl []) (λb:Bool=>iV (cond b 0 180)) (λb=>b=true↔dz k):=by
 refine gB 32 λB w0=>?_;refine go ?_;intro b1;refine gC (ab4 (d:=k.decl) hS.d) λy hy=>?_;obtain⟨ok,e,v1,v2,v3,v4,v5,v6⟩:=y;cases ok with
 |false=>
  exact eM
 |true=>
 obtain⟨he,hb⟩:=hy.1 rfl;have he:e=0:=he;subst he;clear hy;dsimp only[cond,G8,G9,List.cons_append,List.nil_append];refine go ?_;intro b3;refine go ?_;have hsm:=apm (x:=k) (y:=lS (Kd.bO k.decl)) (h1:=vh) (s1:=vs) (r1:=vr) (c1:=vc) (u1:=vu) (CU:=gh) (CV:=gc) (n1:=vn) (l1:=vl) (h2:=vh) (s2:=vs) (r2:=vr) (c2:=v1) (u2:=v2) (CW:=v3) (CY:=v4) (n2:=v5) (l2:=v6) hS;refine fo (aj ai vh (lS (Kd.bO k.decl)).decl.holes) (λw hw=>hw (aj ai vh k.decl.holes) tg) ?_;refine fo (aj fG vs (lS (Kd.bO k.decl)).decl.symbols) (λw hw=>hw (aj fG vs k.decl.symbols) tg) ?_;refine fo (aj fw vr (lS (Kd.bO k.decl)).decl.regions) (λw hw=>hw (aj fw vr k.decl.regions) tg) ?_;refine fo (aj bZ v1 (lS (Kd.bO k.decl)).decl.aQ) (λw hw=>hw (aj bZ v1 (Kd.bO k.decl).aQ) tg) ?_;refine fo (aj bi v2 (lS (Kd.bO k.decl)).decl.rules) (λw hw=>hw (aj bi v2 (Kd.bO k.decl).rules) tg) ?_;refine fo (aj ai v3 (lS (Kd.bO k.decl)).grid.holes) (λw hw=>hw (aj ai v3 (aT (Kd.bO k.decl)).holes) tg) ?_;refine fo (aj ai v4 (lS (Kd.bO k.decl)).grid.cells) (λw hw=>hw (aj ai v4 (aT (Kd.bO k.decl)).cells) tg) ?_;refine fo (aj (ay ai) v5 (lS (Kd.bO k.decl)).aR) (λw hw=>hw (aj (ay ai) v5 (bR (aT (Kd.bO k.decl)))) tg) ?_;refine fo (aj (ay (ay ai)) v6 (lS (Kd.bO k.decl)).lists) (λw hw=>hw (aj (ay (ay ai)) v6 (mR (Kd.bO k.decl))) tg) ?_;refine fD hsm (next:=λ_ _=>?_);refine go ?_;refine fP rfl (λh3=>?_) (λh3=>?_)
 .exact pD
 .exact rj
end Go.Proofs.YtignbinlipkmfaaGreatDoor
namespace Go.Proofs.YtignbinlipkmfaaGreatDoor
open Tryz (prog)
open Go.Ideal Canon
def ab5(x:Int):dF prog 212 [iV x] [] (.bool false):=by
 refine gB 212 λB w0=>?_;refine aP ?_;simp[sK]
def apn(x y:Int):dF prog 125 [iV x,iV y] [] (iV (eB x y)):=by
 refine gB 125 λB w0=>?_;refine gC (ab5 x) λ_ _=>?_;refine gC (ab5 y) λ_ _=>?_;refine aC ?_ ?_<;>intro h1
 .refine aP ?_;rw[eB,if_pos h1];rfl
 refine aC ?_ ?_<;>intro h2
 .refine aP ?_;rw[eB,if_neg h1,if_pos h2];rfl
 refine aP ?_;rw[eB,if_neg h1,if_neg h2];rfl
variable{k:Nat}
def drop_cons{α:Type}{xs:ae α}{x:α}(h:xs[k]? =some x):xs.drop k=x::xs.drop (k+1):=by
 obtain⟨hlt,he⟩:=bJ.1 h;rw[qp hlt,he]
variable{xs ys:ae Int}
def CZ(hx:k<=xs.length)(hy:k<=ys.length)(h:k=xs.length\/k=ys.length):
 eT eB (xs.drop k) (ys.drop k)=if xs.length<ys.length then -1 else if ys.length<xs.length then 1 else 0:=by
 rcases h with h|h
 .rw[show xs.drop k=[]from Dt tf];by_cases e:xs.length<ys.length
  .rw[if_pos e];have:k<ys.length:=by omega
   rw[qp this];rfl
  .rw[if_neg e,if_neg tf,show ys.drop k=[]from Dt tf];rfl
 .rw[show ys.drop k=[]from Dt tf];by_cases e:ys.length<xs.length
  .rw[if_neg tf,if_pos e];have:k<xs.length:=by omega
   rw[qp this];rfl
  .rw[if_neg tf,if_neg e,show xs.drop k=[]from Dt tf];rfl
def ab6{va vb:ah}(hal:xs.length<=1000000)(hbl:ys.length<=1000000):
 dF prog 80 [va,vb] [aj ai va xs,aj ai vb ys] (iV (eT eB xs ys)):=by
 refine gB 80 λB w0=>?_;refine gN xs.length 11 (λk=>k<=xs.length/\k<=ys.length/\eT eB xs ys=eT eB (xs.drop k) (ys.drop k)) ⟨tf,tf,rfl⟩ ?_;rintro k ⟨hkx,hky,tq⟩;refine aC ?_ ?_<;>intro h1
 .refine go ?_;intro _ _ x hx;refine kW rfl ?_ ?_<;>intro h2
  .refine aP ?_;rw[tq,drop_cons hx,show ys.drop k=[]from Dt tf];rfl
  refine go ?_;intro _ _ y hy;refine fD (apn x y) (next:=λ_ _=>?_);refine aC ?_ ?_<;>intro h3
  .refine aP ?_;rw[tq,drop_cons hx,drop_cons hy,eT,if_pos h3];rfl
  refine go ?_;refine aO (k+1) tf ⟨tf,tf,?_⟩;rw[tq,drop_cons hx,drop_cons hy,eT,if_neg (by simpa using h3)]
 refine go ?_;have hkm:k=xs.length:=tf
 refine kW rfl ?_ ?_<;>intro h3
 .refine aP ?_;rw[tq,CZ hkx hky tf,if_pos tf];rfl
 refine aP ?_;rw[tq,CZ hkx hky tf,if_neg tf,if_neg tf];rfl
end Go.Proofs.YtignbinlipkmfaaGreatDoor
namespace Go.Proofs.YtignbinlipkmfaaGreatDoor
open Tryz (prog)
open Go.Ideal Kd Canon
structure apo(p:List Clue):Prop where
 len:p.length<2^63
 vals:∀g∈p,g.values.length<2^63
variable{k:aZ}
def dz.decl(h:dz k):k.decl=Kd.bO k.decl:=congrArg aZ.decl h.e
def dz.lists(h:dz k):k.lists=mR k.decl:=by
 have:=congrArg aZ.lists h.e;have h2:(lS (Kd.bO k.decl)).lists=mR (Kd.bO k.decl):=rfl;exact qS
def dz.grid(h:dz k):k.grid=aT k.decl:=by
 have:=congrArg aZ.grid h.e;have h2:(lS (Kd.bO k.decl)).grid=aT (Kd.bO k.decl):=rfl;exact qS
def dz.aR(h:dz k):k.aR=bR (aT k.decl):=by
 have:=congrArg aZ.aR h.e;have h2:(lS (Kd.bO k.decl)).aR=bR (aT (Kd.bO k.decl)):=rfl;exact qS
def dz.typ(h:dz k):EO k.decl:=by
 have:=h.b.typ;rw[<- h.decl]at this;exact this
def dz.jL(h:dz k):aaJ k:=by
 intro c hc;rw[h.decl]at hc;obtain⟨q,hq,rfl⟩:=dM.1 (show c∈k.decl.aQ.map (mO (cO k.decl))from hc);have h1:=AJ (h.b.rs.OV q hq);have h2:(cO k.decl).length=8+k.decl.regions.length:=by
  unfold cO;rw[fV,bC];rfl
 have h3:k.lists.length=8+k.decl.regions.length:=by
  rw[h.lists];unfold mR;rw[fV,bC,bC,tV]
 show 0<=((eD q.on (cO k.decl):Nat):Int)/\((eD q.on (cO k.decl):Nat):Int)<_;omega
abbrev Vo(k:aZ)(grid:ae Int):Prop:=Fin (k.grid.cells.length:Int) (k.decl.symbols.length:Int) grid
structure awN(k:aZ)(p:List Clue)(grid:List Int)(e:Int):Prop where
 nk:¬dz k->e=180
 nf:dz k->¬Vo k grid->e=200
 np:dz k->Vo k grid->¬uD k p->e=190
 ok:dz k->Vo k grid->uD k p->e=0
end Go.Proofs.YtignbinlipkmfaaGreatDoor
namespace Go.Proofs.YtignbinlipkmfaaGreatDoor
open Tryz (prog)
open Go.Ideal Kd Canon
def oL(k:aZ):ae Int:=k.decl.symbols.map (·.value)
structure ab8(k:aZ)(r:bE):Prop where
 jL:0<=r.family/\r.family<k.lists.length
 aS:r.aS<k.decl.aQ.length
structure ab9(k:aZ)(p:List Clue)(grid:List Int)(r:bE)(set other:Nat):Prop where
 s:rA k
 ps:apo p
 jL:aaJ k
 rin:ab8 k r
 right:∀g∈p,wV k g
 gri:abr grid
 cells:∀x∈O7 k p r,abt grid x.1
 vals:abu (oL k) grid
 bV:lZ k.aR
 EE:grid.length=k.aR.length
 st:r.set=(set:Int)/\set<2^63
 ot:r.other=(other:Int)/\other<2^63
 kind:1<=r.kind/\r.kind<=11
 giv:r.kind=2\/r.kind=3\/r.kind=11->∀x∈O7 k p r,0<x.2.length
 few:∀x∈O7 k p r,x.1.length<=4096
 one:r.kind=11->∀x∈O7 k p r,0<x.1.length
section
variable {k:aZ} {p:ae Clue} {grid:ae Int} {r:bE} {set other:Nat} {bv br:Nat} {vh vs vr vc vu gh gc vn vl vp vg vv v1 v2:ah}
def ab9.aR(H:ab9 k p grid r set other):∀l∈k.aR,∀b∈l,0<=b/\b<grid.length:=by
 intro l hl b hb;obtain⟨i,hi⟩:=iI hl;obtain⟨j,hj⟩:=iI hb;have:=H.bV.ok i l hi j b hj;have:=H.EE;omega
end
structure He(k:aZ):Prop where
 dw:lG k.decl.w
 dh:lG k.decl.h
 gw:lG k.grid.w
 gh:lG k.grid.h
 holes:k.decl.holes.length<2^63
 dK:k.decl.symbols.length<2^63
 regs:k.decl.regions.length<2^63
 uG:∀r∈k.decl.regions,r.lists.length<2^63/\∀l∈r.lists,l.length<2^63
 jS:k.decl.aQ.length<2^63
 lH:k.decl.rules.length<2^63
 uF:∀r∈k.decl.rules,r.names.length<2^63/\r.others.length<2^63
 PT:k.grid.holes.length<2^63
 cells:k.grid.cells.length<2^63
 aR:k.aR.length<2^63/\∀l∈k.aR,l.length<2^63
 lists:k.lists.length<2^63/\∀l∈k.lists,l.length<2^63/\∀m∈l,m.length<2^63
structure apq(k:aZ):Prop where
 cells:k.grid.cells.length<=16
 PT:k.grid.holes.length<=256
 aR:k.aR.length<=20
 lists:k.lists.length<=12
 dK:k.decl.symbols.length<=6
 regs:k.decl.regions.length<=6
 jS:k.decl.aQ.length<=6
 lH:k.decl.rules.length<=10
 holes:k.decl.holes.length<=256
 each:∀l∈k.lists,l.length<=40
 reg:∀r∈k.decl.regions,r.lists.length<=20
def rA.of{k:aZ}(hB:He k)(hF:apq k):rA k:=by
 have f1:=hF.cells;have f2:=hF.PT;have f5:=hF.dK;have f6:=hF.regs;have f7:=hF.jS;have f8:=hF.lH;have f9:=hF.holes;exact iv
def acd{k:Int}(h:(fK k).read=true):1<=k/\k<=11:=by
 apply Classical.byContradiction;intro hn;have hc:(k<0\/14<=k)\/k=0\/k=12\/k=13:=tf
 rcases hc with hc|rfl|rfl|rfl
 .rw[G6 hc]at h;cases h
 .cases h
 .cases h
 .cases h
def ace{dK:ae ByteArray}(hs:dK.length<=16):∀(l:ae ByteArray),(∀s∈l,s∈dK)->gY dK l<2^16:=by
 have h:∀(l:ae ByteArray) (m:Nat),m<2^16->(∀s∈l,s∈dK)->l.foldl (λm s=>m|||1<<<eD s dK) m<2^16:=by
  exact e9
 intro l hl;exact h l 0 tr hl
variable{k:aZ}
def dz.pE(h:dz k){r:bE}(hr:r∈k.decl.rules):∃q∈k.decl.rules,r=nL (bX k.decl) (cO k.decl) (dN k.decl) q:=by
 have h1:r∈(Kd.bO k.decl).rules:=by rw[<- h.decl];exact hr
 obtain⟨q,hq,e⟩:=dM.1 (show r∈k.decl.rules.map (nL (bX k.decl) (cO k.decl) (dN k.decl))from h1);exact⟨q,hq,e.symm⟩
def dz.jq(h:dz k):k.lists.length=8+k.decl.regions.length:=by
 rw[h.lists];unfold mR;rw[fV,bC,bC,tV]
def dz.bV(h:dz k):eF (aT k.decl):=⟨h.typ.EP,rfl⟩
def dz.inr(h:dz k){r:bE}(hr:r∈k.decl.rules):ab8 k r:=by
 obtain⟨q,hq,rfl⟩:=h.pE hr;have hro:=h.b.rs.pE q hq;have hl:=h.jq;have hfl:(cO k.decl).length=8+k.decl.regions.length:=by
  unfold cO;rw[fV,bC];rfl
 refine⟨?_,?_⟩
 .show 0<=(if q.on=⟨⟨[]⟩⟩then(0:Int)else(eD q.on (cO k.decl):Int))/\(if q.on=⟨⟨[]⟩⟩then(0:Int)else(eD q.on (cO k.decl):Int))<_;by_cases e:q.on=⟨⟨[]⟩⟩
  .rw[if_pos e];omega
  .rw[if_neg e];have:=AJ (hro.on.resolve_left e);omega
 .show(if q.dm=⟨⟨[]⟩⟩then(-1:Int)else(eD q.dm (dN k.decl):Int))<_;by_cases e:q.dm=⟨⟨[]⟩⟩
  .rw[if_pos e];omega
  .rw[if_neg e];have h1:=AJ (hro.dm.resolve_left e);have h2:(dN k.decl).length=k.decl.aQ.length:=by unfold dN;rw[bC]
   omega
end Go.Proofs.YtignbinlipkmfaaGreatDoor
namespace Go.Proofs.YtignbinlipkmfaaGreatDoor
open Tryz (prog)
open Go.Ideal Kd Canon Gph
structure RF(k:aZ)(r:bE):Prop where
 kd:1<=r.kind/\r.kind<=11
 x:yJ (fK r.kind) k.decl.aQ r
 by0:r.dm=qm↔r.aS<0
 s1:∃n:Nat,r.set=(n:Int)/\n<2^k.decl.symbols.length
 s2:∃n:Nat,r.other=(n:Int)/\n<2^k.decl.symbols.length
 f0:0<=r.family/\r.family<k.lists.length
 cl:0<=r.aS->(r.kind=2\/r.kind=3\/r.kind=5\/r.kind=11)/\∃c,k.decl.aQ[r.aS.toNat]? =some c/\c.family=Ey r/\qG c/\(r.kind=2\/r.kind=3->c.type=2)/\(r.kind=5->c.type=3)/\(r.kind=11->c.type=1)
 ncl:r.kind=5\/r.kind=11->0<=r.aS
 op:r.kind=2\/r.kind=3->1<=r.op/\r.op<=3
def acf{dK:ae ByteArray}:∀(l:ae ByteArray),(∀s∈l,s∈dK)->gY dK l<2^dK.length:=by
 have h:∀(l:ae ByteArray) (m:Nat),m<2^dK.length->(∀s∈l,s∈dK)->l.foldl (λm s=>m|||1<<<eD s dK) m<2^dK.length:=by
  exact e9
 intro l hl;exact h l 0 (Nat.two_pow_pos _) hl
variable{k:aZ}
def dz.rf(hK:dz k){r:bE}(hr:r∈k.decl.rules):RF k r:=by
 have hty:=hK.typ;have hin:=hK.inr hr;obtain⟨q,hq,hre⟩:=hK.pE hr;have hro:=hK.b.rs.pE q hq;have hrx:=hty.form.lH r hr;have hkd:1<=r.kind/\r.kind<=11:=by
  refine acd ?_;have:=hty.read;exact i6
 have hsl:(bX k.decl).length=k.decl.symbols.length:=by unfold bX;rw[bC]
 have hb1:r.dm=q.dm:=zc
 have hb2:r.aS=if q.dm=qm then(-1:Int)else(eD q.dm (dN k.decl):Int):=zc
 have hby:r.dm=qm↔r.aS<0:=by
  rw[hb1,hb2];by_cases e:q.dm=qm
  .rw[if_pos e];exact⟨λ_=>by omega,λ_=>e⟩
  .rw[if_neg e];exact⟨λh=>absurd h e,λh=>by omega⟩
 refine⟨hkd,hrx,hby,⟨gY (bX k.decl) q.names,by rw[hre];rfl,by rw[<- hsl];exact acf _ hro.names⟩,⟨gY (bX k.decl) q.others,by rw[hre];rfl,by rw[<- hsl];exact acf _ hro.others⟩,hin.jL,?_,?_,?_⟩
 .intro hc;have hne:r.dm≠qm:=λe=>by have:=hby.1 e;omega
  rcases hrx.Vh _ rfl with⟨_,a,_⟩|⟨a0,a1,a2,c,a3,a4,a5⟩
  .exact absurd a hne
  have hcp:=(hty.form.jS _ c a3).2;have hk:r.kind=1\/r.kind=2\/r.kind=3\/r.kind=4\/r.kind=5\/r.kind=6\/r.kind=7\/r.kind=8\/r.kind=9\/r.kind=10\/r.kind=11:=tf
  have hf:∀f:Int,Ey r=f->c.family=f->c.family=Ey r:=λf h1 h2=>by omega
  rcases hk with e|e|e|e|e|e|e|e|e|e|e<;>rw[e]at a0 a4 a5<;>simp[fK,hne]at a0 a4 a5
  .exact eo
  .exact eo
  .exact eo
  .refine⟨tf,c,a3,?_,hcp,tf,tf,tf⟩;unfold Ey;rw[if_neg tf,if_neg tf,if_pos e];unfold qG at hcp;omega
 .intro h;rcases hrx.Vh _ rfl with⟨a0,_,_⟩|⟨_,a1,_⟩
  .rcases h with e|e<;>rw[e]at a0<;>simp[fK]at a0
  .exact a1
 .intro h;refine hrx.op.1 ?_;rcases h with e|e<;>rw[e]<;>rfl
def RF.vals{p:ae Clue}{r:bE}{ls:ae (ae Int)}(h:RF k r)(hQ:uD k p){y:Nat×ae Int×ae Int}(hy:y∈Ur p r ls):
 (r.aS<0/\y.2.2=[])\/(0<=r.aS/\∃c,k.decl.aQ[r.aS.toNat]? =some c/\qG c/\((c.type=1/\r.kind=11/\y.2.2.length=1/\∀x∈y.2.2,0<=x/\x<=(k.decl.symbols.length:Int) - 1)\/(c.type=2/\(r.kind=2\/r.kind=3)/\y.2.2.length=1/\∀x∈y.2.2,0<=x/\x<=65536)\/
   (c.type=3/\r.kind=5/\y.2.2.length<=8/\∀x∈y.2.2,1<=x/\x<=256))):=by
 obtain⟨h1,h2⟩:=amF.1 hy;rcases h2 with h2|⟨h2,h3⟩
 .exact .inl h2
 right;refine⟨h2,?_⟩;obtain⟨hk,c,c1,c2,c3,c4,c5,c6⟩:=h.cl h2;refine⟨c,c1,c3,?_⟩;obtain⟨g,g1,g2,g3,g4⟩:=(amE hQ).1 h3;obtain⟨c',l,a1,a2,a3,a4,a5,a6⟩:=hQ.right g g1;rw[g2,c1]at a2;cases a2;rw[g4]at a6;have hcp:=c3;unfold qG at hcp;have hn:∀x:Int,c.lo<=x/\x<=c.hi->c.type=2->0<=x/\x<=65536:=λx hx ht=>by omega
 rcases a6 with⟨b1,b2,b3⟩|⟨b1,b2,b3⟩|⟨b1,b2,b3,b4⟩
 .exact .inl ⟨b1,tf,b2,b3⟩
 .exact .inr (.inl ⟨b1,tf,b2,λx hx=>hn x (b3 x hx) b1⟩)
 .exact .inr (.inr ⟨tf,tf,b3,b4⟩)
