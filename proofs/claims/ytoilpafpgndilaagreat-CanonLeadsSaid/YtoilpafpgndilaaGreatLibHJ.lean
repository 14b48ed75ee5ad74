/- Part. -/
import Derived.Test.YtoilpafpgndilaaGreatLibGJ
import Derived.Test.YtoilpafpgndilaaGreatShelfS
import Derived.Test.YtoilpafpgndilaaGreatIdealPJ
set_option linter.all false
set_option maxRecDepth 10000
set_option maxHeartbeats 4000000
namespace Go.Proofs.YtoilpafpgndilaaGreat
open Tryz (prog)
open Go.Ideal Kd
noncomputable def abC:iG:=⟨51,[(.tmp 2)],(.seq (kO [kS 2 (.jm (.const (iV 0)))]) (.seq (.seq (kO [kM 4 0,kM 5 0,kS 6 (.nI 5),kS 7 (.gU 0 6),kS 8 (.gU 0 7),kS 9 (.gU 2 8),kS 10 (.fE 9),kM 11 0,kS 12 (.nI 11),kS 13 (.gU 0 12),kS 14 (.gU 0 13),kS 15 (.gU 3 14),kS 16 (.fE 15),kM 17 0,kS 18 (.nI 17),kS 19 (.gU 0 18),kS 20 (.gU 0 19),kS 21 (.gU 4 20),kS 22 (.fE 21),kM 23 0,kS 24 (.nI 23),kS 25 (.gU 0 24),kS 26 (.gU 0 25),kS 27 (.gU 5 26),kS 28 (.fE 27),kS 29 (kC 208 [10,16,22,28]),kM 3 29,kS 30 (.extract 3 0),kS 31 (.extract 3 1),kS 32 (.nI 4),kS 33 (.gU 0 32),kS 34 (.gU 10 33),kN (.store 5 34 30),kS 2 (.jm 31)]) (.seq (kO [kM 35 2,kS 36 (.bin .eql 43 35 (.const (iV 0)))]) (.cond 36 (kO [kM 38 0,kM 39 0,kS 40 (.nI 39),kS 41 (.gU 0 40),kS 42 (.gU 10 41),kS 43 (.sH 5 42),kS 44 (kC 209 [43]),kM 37 44,kS 45 (.extract 37 0),kS 46 (.extract 37 1),kS 47 (.nI 38),kS 48 (.gU 0 47),kS 49 (.gU 15 48),kN (.store 1 49 45),kS 2 (.jm 46)]) .skip))) (.seq (kO [kM 50 2,kS 2 (.jm 50)]) .ret)))⟩
def am3:mO prog 140=some abC:=s8
abbrev bL(d:dQ)(vh vs vr vc vu g1 g2 g3 g4 g5 g6 g7:ah):ae ah:=[.string d.name,iV d.version,iV d.shape,iV d.w,iV d.h,vh,vs,vr,vc,vu,g1,g2,g3,g4,g5,g6,g7]
abbrev zL(g1 g2 g3 g4 g5 g6 g7:ah):ae ah:=[.string ⟨⟨[]⟩⟩,iV 0,iV 0,iV 0,iV 0,.slice none 0 0,.slice none 0 0,.slice none 0 0,.slice none 0 0,.slice none 0 0,g1,g2,g3,g4,g5,g6,g7]
variable{b:Nat}{d:dQ}{vh vs vr vc vu g1 g2 g3 g4 g5 g6 g7:ah}
def am4(hS:uP d):aX prog (.func 138) [ptr' b] [] [pt b (.cells (bL d vh vs vr vc vu g1 g2 g3 g4 g5 g6 g7))] (uF d vh vs vr vc vu) (λy:JW=>iV y.e)
 (λy=>[pt b (.cells (cond y.ok (bL (Kd.ed d) vh vs vr y.vc y.vu g1 g2 g3 g4 g5 g6 g7) (zL g1 g2 g3 g4 g5 g6 g7)))]) (xz d) (GN d):=by
 refine gB 138 λB w0=>?_;refine gC (aa4 (d:=d) hS) λy hy=>?_;obtain⟨ok,e,v1,v2⟩:=y;cases ok with
 |false=>
  dsimp only[C9,xz,cond,List.nil_append]at hy⊢;refine go ?_;exact gQ ⟨false,e,v1,v2⟩ hy
 |true=>
  dsimp only[C9,xz,cond,List.cons_append,List.nil_append]at hy⊢;refine go ?_;exact gQ ⟨true,e,v1,v2⟩ hy (hF:=by show Sub [aj eZ v1 (Kd.ed d).bV,aj bZ v2 (Kd.ed d).rules] _;exact .cons s7 (.cons s7 .nil))
def am5(hT:De d):aX prog (.func 139) [ptr' b] [] [pt b (.cells (bL d vh vs vr vc vu g1 g2 g3 g4 g5 g6 g7))] (uF d vh vs vr vc vu) (λe:Int=>iV e)
 (λ_=>[pt b (.cells (bL d vh vs vr vc vu g1 g2 g3 g4 g5 g6 g7))]) (λ_=>[]) (λe=>e=0↔Oi d):=by
 refine gB 139 λB w0=>?_;refine gC (am2 (d:=d) hT) λe he=>?_;refine go ?_;exact gQ e he
structure DrY where
 gh:Value
 gc:Value
 vn:Value
def am7(hT:De d)(hm:vO d.shape d.w d.h d.holes):
 aX prog (.func 140) [ptr' b] [] [pt b (.cells (bL d vh vs vr vc vu g1 g2 g3 g4 g5 g6 g7))] (uF d vh vs vr vc vu) (λ_:DrY=>iV 0)
 (λy=>[pt b (.cells (bL d vh vs vr vc vu (iV (bP d).shape) (iV (bP d).w) (iV (bP d).h) y.gh y.gc y.vn g7))])
 (λy=>[aj ai y.gh (bP d).holes,aj ai y.gc (bP d).cells,aj (az ai) y.vn (fT (bP d))]) (λ_=>True):=by
 have hG:=Ub hm;have hgo:ic (bP d):=⟨hm,rfl⟩
 refine mq abC am3 λB w0=>?_;refine gC (TD (s:=d.shape) (w:=d.w) (h:=d.h) (holes:=d.holes) (vh:=vh) hT.w hT.h hT.holes) λy hy=>?_;obtain⟨ok,v1,v2⟩:=y;cases ok with
 |false=>exact absurd (hy.2 hm) s7
 |true=>
 dsimp only[cond,mkV,zJ];rw[show EN d.shape d.w d.h d.holes=bP d from rfl];dsimp only[tQ,oz,List.cons_append,List.nil_append];refine gC (abo (g:=bP d) (vh:=v1) (vc:=v2) hG) λy hy2=>?_;obtain⟨vn,e⟩:=y;have he:e=0:=hy2.2 hgo;subst he;refine eD (aj (wY ai) vn (fT (bP d))) (λw hw=>hw (nQ ((0:Int)=0) (aj (wY ai) vn (fT (bP d)))) s7 rfl) ?_;refine eD (aj (az ai) vn (fT (bP d))) (λw hw=>Zi (hw (aj (wY ai) vn (fT (bP d))) s7)) ?_;dsimp only[N8];refine gF (az ai) vn (fT (bP d)) λan cn en=>?_;subst en;refine go ?_;exact gQ ⟨v1,v2,.slice an (fT (bP d)).length cn⟩ trivial
def qf(g:bQ)(k:Nat):ae (ae (ae Int)):=(List.range k).map λf:Nat=>iP g (f:Int)
def am8(g:bQ)(k:Nat):qf g (k+1)=qf g k++[iP g (k:Int)]:=by
 unfold qf;rw[Ag,cB,l6]
def abD(g:bQ)(k:Nat):(qf g k).length=k:=by unfold qf;simp
def am9{gh gc vn:ah}(hT:De d)(hm:vO d.shape d.w d.h d.holes)(hr:∀r∈d.regions,J5 (bP d) r):
 aX prog (.func 141) [ptr' b] [] [pt b (.cells (bL d vh vs vr vc vu (iV (bP d).shape) (iV (bP d).w) (iV (bP d).h) gh gc vn (.slice none 0 0)))]
 [aj lG vr d.regions,aj ai gh (bP d).holes,aj ai gc (bP d).cells] (λ_:ah=>iV 0)
 (λvl=>[pt b (.cells (bL d vh vs vr vc vu (iV (bP d).shape) (iV (bP d).w) (iV (bP d).h) gh gc vn vl))])
 (λvl=>[aj (az (az ai)) vl (oq d)]) (λ_=>True):=by
 have hG:=Ub hm;have hgo:ic (bP d):=⟨hm,rfl⟩
 have hrl:=hT.s.regs;refine gB 141 λB w0=>?_;refine gF lG vr d.regions λar cr er=>?_;subst er;refine go ?_;refine lT (az (az ai)) ?_;refine dV (λy:Nat×ah=>8 - y.1) (λy=>[(10,iV (y.1:Int))]) (λy=>[pt b (.cells (bL d vh vs (.slice ar d.regions.length cr) vc vu (iV (bP d).shape) (iV (bP d).w) (iV (bP d).h) gh gc vn y.2)),ap (az (az ai)) y.2 (qf (bP d) y.1)]) (λ_=>[]) (λy=>y.1<=8) (0,.slice none 0 0) (bM _) (hk:=s9) (body:=?_);rintro⟨k,vl⟩ hk;dsimp only at hk⊢;have hkl:=abD (bP d) k;refine aO ?_ ?_<;>intro h1
 .refine gC (amr (g:=bP d) (vh:=gh) (vc:=gc) (k:=(k:Int)) hG) λy hy=>?_;obtain⟨v4,e⟩:=y;have he:e=0:=hy.2 ⟨hgo,s6,s6⟩;subst he;dsimp only[lsF,List.cons_append,List.nil_append];refine eD (aj (az ai) v4 (iP (bP d) (k:Int))) (λw hw=>hw (nQ ((0:Int)=0) (aj (az ai) v4 (iP (bP d) (k:Int)))) s7 rfl) ?_;refine gF (az ai) v4 (iP (bP d) (k:Int)) λa4 c4 e4=>?_;subst e4;refine go ?_;intro b33;refine go ?_;refine kY (xs:=qf (bP d) k) (az (az ai)) (iP (bP d) (k:Int)) (.slice a4 (iP (bP d) (k:Int)).length c4) s6 (next:=λad=>?_);rw[<- am8];refine go ?_;exact aU (k+1,.slice ad ((qf (bP d) k).length+1) ((qf (bP d) k).length+1)) (by show 8 - (k+1)<8 - k;omega) tD
 have hk8:k=8:=s6
 subst hk8;refine go ?_;refine dV (λy:Nat×ah=>d.regions.length - y.1) (λy=>[(46,iV (y.1:Int))]) (λy=>[pt b (.cells (bL d vh vs (.slice ar d.regions.length cr) vc vu (iV (bP d).shape) (iV (bP d).w) (iV (bP d).h) gh gc vn y.2)),ap (az (az ai)) y.2 (qf (bP d) 8++(d.regions.take y.1).map λr=>jk (bP d) r.lists)]) (λ_=>[]) (λy=>y.1<=d.regions.length) (0,vl) (bM _) (hk:=by rw[show qf (bP d) 8++(d.regions.take 0).map (λr=>jk (bP d) r.lists)=qf (bP d) 8 from gW _];repeat (first|exact aF.nil|(apply aF.cons;(focus (repeat (first|exact aB.here|apply aB.there)))))) (body:=?_);rintro⟨k,v2⟩ hk;dsimp only at hk⊢;have hkl:(qf (bP d) 8++(d.regions.take k).map λr=>jk (bP d) r.lists).length=8+k:=by rw[eF,abD,aR,fU];omega
 refine aO ?_ ?_<;>intro h1
 .refine gX lG (xs:=d.regions) λ_ _ r (vr2:ah) Uc=>?_;have hrm:=aT Uc;obtain⟨hl1,hl2⟩:=hT.s.Bq r hrm;obtain⟨⟨_,hro⟩,_⟩:=hr r hrm;refine go ?_;intro b7;refine gC (abu (g:=bP d) (rs:=r.lists) hG hl1 hl2) λy hy=>?_;obtain⟨v8,e⟩:=y;have he:e=0:=hy.2 ⟨hgo,hro⟩;subst he;dsimp only[rgF,List.cons_append,List.nil_append];refine eD (aj (az ai) v8 (jk (bP d) r.lists)) (λw hw=>hw (nQ ((0:Int)=0) (aj (az ai) v8 (jk (bP d) r.lists))) s7 rfl) ?_;refine gF (az ai) v8 (jk (bP d) r.lists) λa8 c8 e8=>?_;subst e8;refine go ?_;intro b71;refine go ?_;have htk:qf (bP d) 8++(d.regions.take (k+1)).map (λr=>jk (bP d) r.lists)=(qf (bP d) 8++(d.regions.take k).map λr=>jk (bP d) r.lists)++[jk (bP d) r.lists]:=by
   rw[fF Uc,cB,l6,List.append_assoc]
  refine kY (xs:=qf (bP d) 8++(d.regions.take k).map λr=>jk (bP d) r.lists) (az (az ai)) (jk (bP d) r.lists) (.slice a8 (jk (bP d) r.lists).length c8) s6 (next:=λad=>?_);rw[<- htk];refine go ?_;exact aU (k+1,.slice ad ((qf (bP d) 8++(d.regions.take k).map λr=>jk (bP d) r.lists).length+1) ((qf (bP d) 8++(d.regions.take k).map λr=>jk (bP d) r.lists).length+1)) Ek tD
 have hke:k=d.regions.length:=s6
 subst hke;rw[fu];rw[show qf (bP d) 8++d.regions.map (λr=>jk (bP d) r.lists)=oq d from rfl];refine gZ (jr (E:=az (az ai)) (v:=v2) (xs:=oq d)) ?_;refine go ?_;exact gQ v2 trivial
end Go.Proofs.YtoilpafpgndilaaGreat
namespace Go.Proofs.YtoilpafpgndilaaGreat
open Tryz (prog)
open Go.Ideal Kd
abbrev anc:ae ah:=zL (iV 0) (iV 0) (iV 0) (.slice none 0 0) (.slice none 0 0) (.slice none 0 0) (.slice none 0 0)
abbrev jO(k:aQ)(vh vs vr vc vu gh gc vn vl:ah):ae ah:=bL k.decl vh vs vr vc vu (iV k.grid.shape) (iV k.grid.w) (iV k.grid.h) gh gc vn vl
abbrev iT(k:aQ)(vh vs vr vc vu gh gc vn vl:ah)(F:ae aI):ae aI:=aj ai vh k.decl.holes::aj kF vs k.decl.symbols::aj lG vr k.decl.regions::aj eZ vc k.decl.bV::aj bZ vu k.decl.rules::aj ai gh k.grid.holes::aj ai gc k.grid.cells::aj (az ai) vn k.aP::aj (az (az ai)) vl k.lists::F
structure Ol(d:dQ):Prop where
 rs:Gy d
 typ:Oi (Kd.ed d)
structure bE(k:aQ):Prop where
 b:Ol k.decl
 e:k=tJ (Kd.ed k.decl)
structure Ud where
 ok:Bool
 e:Int
 vc:Value
 vu:Value
 gh:Value
 gc:Value
 vn:Value
 vl:Value
abbrev Ue(d:dQ)(vh vs vr:ah)(y:Ud):ah:=.tuple ⟨[.agg ⟨cond y.ok (jO (tJ (Kd.ed d)) vh vs vr y.vc y.vu y.gh y.gc y.vn y.vl) anc⟩,iV y.e]⟩
abbrev Uf(d:dQ)(vh vs vr:ah)(y:Ud):ae aI:=cond y.ok [aj eZ y.vc (Kd.ed d).bV,aj bZ y.vu (Kd.ed d).rules,aj ai y.gh (bP (Kd.ed d)).holes,aj ai y.gc (bP (Kd.ed d)).cells,aj (az ai) y.vn (fT (bP (Kd.ed d))),aj (az (az ai)) y.vl (oq (Kd.ed d))] []
def BlP(d:dQ)(y:Ud):Prop:=(y.ok=true->y.e=0/\Ol d)/\(y.ok=false->y.e≠0/\¬Ol d)
variable{vh vs vr vc vu:ah}
def ane{d:dQ}(hT:De d):aX prog (.func 107) [.agg ⟨oM d vh vs vr vc vu⟩] [] [] (uF d vh vs vr vc vu) (Ue d vh vs vr) (λ_=>[]) (Uf d vh vs vr) (BlP d):=by
 have GX:De (Kd.ed d):=⟨hT.s.ed,hT.w,hT.h,hT.holes⟩
 have hend:∀{e:Int} {vc vu gh gc vn vl:ah},e≠0->¬Ol d->BlP d ⟨false,e,vc,vu,gh,gc,vn,vl⟩:=λhe hb=>⟨(λh=>by cases h),λ_=>⟨he,hb⟩⟩
 refine gB 107 λB w0=>?_;refine go ?_;intro b1 b2 b4 b15;refine oh ?_;refine gC (am4 (b:=b4) (d:=d) hT.s) λy hy=>?_;obtain⟨ok,e,v1,v2⟩:=y;cases ok with
 |false=>
  obtain⟨he,hno⟩:=hy.2 rfl;dsimp only[cond,xz,List.nil_append]at he⊢;refine aO ?_ ?_<;>intro h1
  .refine go ?_;exact gQ ⟨false,e,v1,v2,v1,v1,v1,v1⟩ (hend he λh=>hno h.rs)
  .exact absurd (kv.1 h1) he
 |true=>
 obtain⟨he,hres⟩:=hy.1 rfl;have he:e=0:=he;subst he;clear hy;dsimp only[cond,xz,List.cons_append,List.nil_append];refine eD (aj ai vh (Kd.ed d).holes) (λw hw=>hw (aj ai vh d.holes) s7) ?_;refine eD (aj kF vs (Kd.ed d).symbols) (λw hw=>hw (aj kF vs d.symbols) s7) ?_;refine eD (aj lG vr (Kd.ed d).regions) (λw hw=>hw (aj lG vr d.regions) s7) ?_;refine go ?_;refine oh ?_;refine gC (am5 (b:=b4) (d:=Kd.ed d) (vc:=v1) (vu:=v2) GX) λe he=>?_;refine aO (λhne=>?_) (λhz=>?_)
 .refine go ?_;exact gQ ⟨false,e,v1,v2,v1,v1,v1,v1⟩ (hend hne λh=>hne (he.2 h.typ))
 have hty:=he.1 (kv.1 hz);clear he hz;refine go ?_;refine oh ?_;refine gC (am7 (b:=b4) (d:=Kd.ed d) (vc:=v1) (vu:=v2) GX hty.Oj) λy _=>?_;obtain⟨gh,gc,vn⟩:=y;dsimp only[List.cons_append,List.nil_append];refine go ?_;refine oh ?_;refine gC (am9 (b:=b4) (d:=Kd.ed d) (vc:=v1) (vu:=v2) GX hty.Oj hty.Dc) λvl _=>?_;dsimp only[List.cons_append,List.nil_append];refine go ?_;refine oh ?_;refine go ?_;refine gQ ⟨true,0,v1,v2,gh,gc,vn,vl⟩ ⟨λ_=>⟨rfl,hres,hty⟩,(λh=>by cases h)⟩ (hF:=?_);show Sub [aj eZ v1 (Kd.ed d).bV,aj bZ v2 (Kd.ed d).rules,aj ai gh (bP (Kd.ed d)).holes,aj ai gc (bP (Kd.ed d)).cells,aj (az ai) vn (fT (bP (Kd.ed d))),aj (az (az ai)) vl (oq (Kd.ed d))] _;exact .cons s7 (.cons s7 (.cons s7 (.cons s7 (.cons s7 (.cons s7 .nil)))))
structure qg(k:aQ):Prop where
 d:De k.decl
 g:zK k.grid
 aP:k.aP.length<2^63/\∀l∈k.aP,l.length<2^63
 lists:k.lists.length<2^63/\∀l∈k.lists,l.length<2^63/\∀m∈l,m.length<2^63
def anf{x y:aQ}{h1 s1 r1 c1 u1 Ug Uh n1 l1 h2 s2 r2 c2 u2 Ui Uj n2 l2:ah}(hS:qg x):dZ prog 108 [.agg ⟨jO x h1 s1 r1 c1 u1 Ug Uh n1 l1⟩,.agg ⟨jO y h2 s2 r2 c2 u2 Ui Uj n2 l2⟩]
 (iT x h1 s1 r1 c1 u1 Ug Uh n1 l1 (iT y h2 s2 r2 c2 u2 Ui Uj n2 l2 [])) (.bool (decide (x=y))):=by
 have e1:=hS.d.s;have e2:=hS.g.holes;have e3:=hS.g.cells;obtain⟨e4,e5⟩:=hS.aP;obtain⟨e6,e7⟩:=hS.lists;clear hS;obtain⟨xd,⟨xs,xw,xh,Uk,Ul⟩,xn,xl⟩:=x;obtain⟨yd,⟨ys,yw,yh,yho,yce⟩,yn,yl⟩:=y;dsimp only at e1 e2 e3 e4 e5 e6 e7;dsimp only[jO,iT];refine gB 108 λB w0=>?_;refine go ?_;intro b2 b3;refine gH ?_ ?_<;>intro k1
 .refine bF ?_;rw[bY (λe=>k1 tr)];rfl
 refine gH ?_ ?_<;>intro k2
 .exact sE
 refine gH ?_ ?_<;>intro k3
 .exact sC
 refine gC (vR (xs:=Uk) (ys:=yho) s6) λ_ _=>?_;refine gH ?_ ?_<;>intro k4
 .exact sB
 refine gC (vR (xs:=Ul) (ys:=yce) s6) λ_ _=>?_;refine gH ?_ ?_<;>intro k5
 .exact sA
 refine go ?_;have hsy:dZ prog 142 [.agg ⟨oM xd h1 s1 r1 c1 u1⟩,.agg ⟨oM yd h2 s2 r2 c2 u2⟩] [aj ai h1 xd.holes,aj kF s1 xd.symbols,aj lG r1 xd.regions,aj eZ c1 xd.bV,aj bZ u1 xd.rules,aj ai h2 yd.holes,aj kF s2 yd.symbols,aj lG r2 yd.regions,aj eZ c2 yd.bV,aj bZ u2 yd.rules] (.bool (decide (xd=yd))):=abb e1;refine iy hsy (next:=λ_ _=>?_);refine gH ?_ ?_<;>intro k6
 .exact sx
 refine gC (aa7 (xs:=xn) (ys:=yn) e4 e5) λ_ _=>?_;refine gH ?_ ?_<;>intro k7
 .exact sv
 refine gC (alC (xs:=xl) (ys:=yl) e6 e7) λ_ _=>?_;refine bF ?_;subst k1 k2 k3 k4 k5 k6 k7;rw[show decide (aQ.mk xd ⟨xs,xw,xh,Uk,Ul⟩ xn xl=aQ.mk xd ⟨xs,xw,xh,Uk,Ul⟩ xn yl)=decide (xl=yl)from rF.2 ⟨λh=>by cases h;rfl,λh=>by rw[h]⟩];rfl
def J6{k:aQ}{gh gc vn vl:ah}(hS:qg k):fC prog 74 [.agg ⟨jO k vh vs vr vc vu gh gc vn vl⟩] (iT k vh vs vr vc vu gh gc vn vl []) (λb:Bool=>iV (cond b 0 180)) (λb=>b=true↔bE k):=by
 refine gB 74 λB w0=>?_;refine go ?_;intro b1;refine gC (ane (d:=k.decl) hS.d) λy hy=>?_;obtain⟨ok,e,v1,v2,v3,v4,v5,v6⟩:=y;cases ok with
 |false=>
  obtain⟨he,hno⟩:=hy.2 rfl;have he:e≠0:=he;dsimp only[cond,Ue,Uf,List.nil_append];refine go ?_;intro b3;refine gH ?_ ?_<;>intro h1
  .exact absurd (kv.1 h1) he
  refine go ?_;exact gQ false ⟨(λh=>by cases h),λh=>absurd h.b hno⟩
 |true=>
 obtain⟨he,hb⟩:=hy.1 rfl;have he:e=0:=he;subst he;clear hy;dsimp only[cond,Ue,Uf,List.cons_append,List.nil_append];refine go ?_;intro b3;refine go ?_;have hsm:=anf (x:=k) (y:=tJ (Kd.ed k.decl)) (h1:=vh) (s1:=vs) (r1:=vr) (c1:=vc) (u1:=vu) (Ug:=gh) (Uh:=gc) (n1:=vn) (l1:=vl) (h2:=vh) (s2:=vs) (r2:=vr) (c2:=v1) (u2:=v2) (Ui:=v3) (Uj:=v4) (n2:=v5) (l2:=v6) hS;refine eD (aj ai vh (tJ (Kd.ed k.decl)).decl.holes) (λw hw=>hw (aj ai vh k.decl.holes) s7) ?_;refine eD (aj kF vs (tJ (Kd.ed k.decl)).decl.symbols) (λw hw=>hw (aj kF vs k.decl.symbols) s7) ?_;refine eD (aj lG vr (tJ (Kd.ed k.decl)).decl.regions) (λw hw=>hw (aj lG vr k.decl.regions) s7) ?_;refine eD (aj eZ v1 (tJ (Kd.ed k.decl)).decl.bV) (λw hw=>hw (aj eZ v1 (Kd.ed k.decl).bV) s7) ?_;refine eD (aj bZ v2 (tJ (Kd.ed k.decl)).decl.rules) (λw hw=>hw (aj bZ v2 (Kd.ed k.decl).rules) s7) ?_;refine eD (aj ai v3 (tJ (Kd.ed k.decl)).grid.holes) (λw hw=>hw (aj ai v3 (bP (Kd.ed k.decl)).holes) s7) ?_;refine eD (aj ai v4 (tJ (Kd.ed k.decl)).grid.cells) (λw hw=>hw (aj ai v4 (bP (Kd.ed k.decl)).cells) s7) ?_;refine eD (aj (az ai) v5 (tJ (Kd.ed k.decl)).aP) (λw hw=>hw (aj (az ai) v5 (fT (bP (Kd.ed k.decl)))) s7) ?_;refine eD (aj (az (az ai)) v6 (tJ (Kd.ed k.decl)).lists) (λw hw=>hw (aj (az (az ai)) v6 (oq (Kd.ed k.decl))) s7) ?_;refine iy hsm (next:=λ_ _=>?_);refine go ?_;refine sQ rfl (λh3=>?_) (λh3=>?_)
 .refine go ?_;exact gQ false ⟨(λh=>by cases h),λh=>absurd h.e h3⟩
 .refine go ?_;exact gQ true ⟨λ_=>⟨hb,h3⟩,λ_=>rfl⟩
end Go.Proofs.YtoilpafpgndilaaGreat
namespace Go.Proofs.YtoilpafpgndilaaGreat
open Tryz (prog)
open Go.Ideal Canon
def abG(x:Int):dZ prog 106 [iV x] [] (.bool false):=by
 refine gB 106 λB w0=>?_;refine bF ?_;simp[rQ]
def Um(x y:Int):dZ prog 65 [iV x,iV y] [] (iV (dx x y)):=by
 refine gB 65 λB w0=>?_;refine gC (abG x) λ_ _=>?_;refine gC (abG y) λ_ _=>?_;refine aO ?_ ?_<;>intro h1
 .refine bF ?_;rw[dx,if_pos h1];rfl
 exact jz
variable{k:Nat}
def drop_cons{α:Type}{xs:ae α}{x:α}(h:xs[k]? =some x):xs.drop k=x::xs.drop (k+1):=by
 obtain⟨hlt,he⟩:=aV.1 h;rw[nH hlt,he]
variable{xs ys:ae Int}
def Df(hx:k<=xs.length)(hy:k<=ys.length)(h:k=xs.length\/k=ys.length):
 dN dx (xs.drop k) (ys.drop k)=if xs.length<ys.length then -1 else if ys.length<xs.length then 1 else 0:=by
 rcases h with h|h
 .exact eR
 .exact eK
def Om{va vb:ah}(hal:xs.length<=1000000)(hbl:ys.length<=1000000):
 dZ prog 68 [va,vb] [aj ai va xs,aj ai vb ys] (iV (dN dx xs ys)):=by
 refine gB 68 λB w0=>?_;refine gN xs.length 11 (λk=>k<=xs.length/\k<=ys.length/\dN dx xs ys=dN dx (xs.drop k) (ys.drop k)) ⟨s6,s6,rfl⟩ ?_;rintro k ⟨hkx,xA,nS⟩;refine aO ?_ ?_<;>intro h1
 .refine go ?_;intro _ _ x hx;refine p9 rfl ?_ ?_<;>intro h2
  .refine bF ?_;rw[nS,drop_cons hx,show ys.drop k=[]from vz s6];rfl
  refine go ?_;intro _ _ y hy;refine iy (Um x y) (next:=λ_ _=>?_);refine aO ?_ ?_<;>intro h3
  .refine bF ?_;rw[nS,drop_cons hx,drop_cons hy,dN,if_pos h3];rfl
  refine go ?_;refine aU (k+1) s6 ⟨s6,s6,?_⟩;rw[nS,drop_cons hx,drop_cons hy,dN,if_neg (by simpa using h3)]
 refine go ?_;have hkm:k=xs.length:=s6
 refine p9 rfl ?_ ?_<;>intro h3
 .refine bF ?_;rw[nS,Df hkx xA s6,if_pos s6];rfl
 refine bF ?_;rw[nS,Df hkx xA s6,if_neg s6,if_neg s6];rfl
end Go.Proofs.YtoilpafpgndilaaGreat
namespace Go.Proofs.YtoilpafpgndilaaGreat
open Tryz (prog)
open Go.Ideal Kd Canon
def abH(x:Int):dZ prog 106 [iV x] [] (.bool false):=by
 refine gB 106 λB w0=>?_;refine bF ?_;simp[rQ]
def abI(x y:Int):dZ prog 65 [iV x,iV y] [] (iV (dx x y)):=by
 refine gB 65 λB w0=>?_;refine gC (abH x) λ_ _=>?_;refine gC (abH y) λ_ _=>?_;refine aO ?_ ?_<;>intro h1
 .refine bF ?_;rw[dx,if_pos h1];rfl
 exact jz
def ani{α:Type}{xs:ae α}{k:Nat}{x:α}(h:xs[k]? =some x):xs.drop k=x::xs.drop (k+1):=by
 obtain⟨hlt,he⟩:=aV.1 h;rw[nH hlt,he]
def abJ{v:ah}{xs:ae Int}(hl:xs.length<2^63):dZ prog 110 [v] [aj ai v xs] (iV (xg xs)):=by
 refine gB 110 λB w0=>?_;refine gN xs.length 8 (λk=>k<=xs.length/\xg xs=xg (xs.drop k)) ⟨s6,rfl⟩ ?_;rintro k ⟨hk,hf⟩;refine aO ?_ ?_<;>intro h1
 .refine go ?_;intro _ _ x hx;have hd:=ani hx;refine aO ?_ ?_<;>intro h2
  .refine bF ?_;rw[hf,hd,xg,if_pos h2];rfl
  .refine go ?_;refine aU (k+1) An ⟨s6,?_⟩;rw[hf,hd,xg,if_neg h2]
 have hk:k=xs.length:=s6
 refine bF ?_;rw[hf,hk,Fp];rfl
def Un{a b:Clue}{va vb:ah}:dZ prog 76 [qC a va,qC b vb] [] (iV (fo a b)):=by
 refine gB 76 λB w0=>?_;refine go ?_;intro b2 b3;refine gC (abI a.aS b.aS) λ_ _=>?_;refine gC (abI a.at_ b.at_) λ_ _=>?_;refine go ?_;intro b15;refine mD (A:=pt b15 (.cells [iV (dx a.aS b.aS),iV (dx a.at_ b.at_)])) (fs:=[aj ai (.slice (some ⟨b15,0,some 0⟩) 2 2) [dx a.aS b.aS,dx a.at_ b.at_]]) (qP (b:=b15) (f:=0) (c:=2) (xs:=[dx a.aS b.aS,dx a.at_ b.at_])) (h:=?_);refine gC (abJ (xs:=[dx a.aS b.aS,dx a.at_ b.at_]) s7) λ_ _=>?_;exact eH
structure xB(p:List Clue):Prop where
 len:p.length<2^63
 vals:∀g∈p,g.values.length<2^63
def anj{k:aQ}{g:Clue}{vh vs vr vc vu gh gc vn vl vv:ah}(hS:qg k)(hF:Sq k)(hv:g.values.length<2^63):
 fC prog 75 [.agg ⟨jO k vh vs vr vc vu gh gc vn vl⟩,qC g vv] (aj ai vv g.values::iT k vh vs vr vc vu gh gc vn vl []) (λb:Bool=>.bool b) (λb=>b=true↔ou k g):=by
 have hcl:=hS.d.s.om;have hsl:=hS.d.s.fB;refine gB 75 λB w0=>?_;refine gF eZ vc k.decl.bV λac cc ec=>?_;subst ec;refine gF kF vs k.decl.symbols λqd cs1 es1=>?_;subst es1;refine gF (az (az ai)) vl k.lists λal cl el=>?_;subst el;refine gF ai vv g.values λav cv J7=>?_;subst J7;refine go ?_;intro b2 b3;refine gP b2 ?_;refine gP b3 ?_;refine gH ?_ ?_<;>intro h1
 rotate_left
 .refine go ?_;exact gQ false ⟨(λh=>by cases h),λ⟨c,l,h,_⟩=>by omega⟩
 refine aO ?_ ?_<;>intro h2
 .refine go ?_;refine gQ false ⟨(λh=>by cases h),λ⟨c,l,_,h,_⟩=>?_⟩;have:=(aV.1 h).1;omega
 obtain⟨ci,hci⟩:=gV (show 0<=g.aS by omega);have hg0:0<=g.aS:=s6
 have Xv:ci<k.decl.bV.length:=s6
 have htn:g.aS.toNat=ci:=s6
 refine go ?_;rw[hci];refine Jp eZ (xs:=k.decl.bV) (next:=λ_ _ c (_:Unit) hc=>?_);obtain⟨hf0,hf1⟩:=hF c (aT hc);refine go ?_;intro b5;refine gH ?_ ?_<;>intro h3
 rotate_left
 .refine go ?_;exact gQ false ⟨(λh=>by cases h),λ⟨c,l,_,_,_,h,_⟩=>by omega⟩
 refine go ?_;obtain⟨fi,hfi⟩:=gV hf0;have abK:c.family.toNat=fi:=s6
 rw[hfi];refine Jp (az (az ai)) (xs:=k.lists) (next:=λ_ _ ls (vls:ah) hls=>?_);refine aO ?_ ?_<;>intro h4
 .refine go ?_;refine gQ false ⟨(λh=>by cases h),λ⟨c',l',_,q1,q2,q3,q4,_⟩=>?_⟩;rw[htn,hc]at q1;cases q1;rw[abK,hls]at q2;cases q2;omega
 have hR:∀b:Bool,(b=true↔((c.type=1/\g.values.length=1/\∀x∈g.values,0<=x/\x<=(k.decl.symbols.length:Int) - 1)\/(c.type=2/\g.values.length=1/\∀x∈g.values,c.lo<=x/\x<=c.hi)\/
  (c.type≠1/\c.type≠2/\g.values.length<=8/\∀x∈g.values,1<=x/\x<=256)))->(b=true↔ou k g):=λb hb=>by
  rw[hb];refine⟨λh=>⟨c,ls,hg0,by rw[htn];exact hc,by rw[abK];exact hls,s6,s6,h⟩,λ⟨c',l',_,q1,_,_,_,h⟩=>?_⟩;rw[htn,hc]at q1;cases q1;exact h
 refine aO ?_ ?_<;>intro h5
 .refine gH ?_ ?_<;>intro h6
  .exact gj
  refine gC (Tp (xs:=g.values) (lo:=0) (hi:=(k.decl.symbols.length:Int) - 1) hv) λ_ _=>?_;refine go ?_;refine gQ (Bo g.values 0 ((k.decl.symbols.length:Int) - 1)) (hR _ ?_);unfold Bo;rw[jQ];exact⟨λh=>.inl ⟨h5,s6,h⟩,λh=>by rcases h with h|h|h;exact h.2.2;exact absurd h5 s6;exact absurd h5 h.1⟩
 refine aO ?_ ?_<;>intro h6
 .refine gH ?_ ?_<;>intro h7
  .exact gj
  refine gC (Tp (xs:=g.values) (lo:=c.lo) (hi:=c.hi) hv) λ_ _=>?_;refine go ?_;refine gQ (Bo g.values c.lo c.hi) (hR _ ?_);unfold Bo;rw[jQ];exact⟨λh=>.inr (.inl ⟨h6,s6,h⟩),λh=>by rcases h with h|h|h;exact absurd h.1 h5;exact h.2.2;exact absurd h6 h.2.1⟩
 refine gH ?_ ?_<;>intro h7
 .exact gj
 refine gC (Tp (xs:=g.values) (lo:=1) (hi:=256) hv) λ_ _=>?_;refine go ?_;refine gQ (Bo g.values 1 256) (hR _ ?_);unfold Bo;rw[jQ];exact⟨λh=>.inr (.inr ⟨h5,h6,s6,h⟩),λh=>by rcases h with h|h|h;exact absurd h.1 h5;exact absurd h.1 h6;exact h.2.2.2⟩
variable{k:aQ}
def bE.decl(h:bE k):k.decl=Kd.ed k.decl:=congrArg aQ.decl h.e
def bE.lists(h:bE k):k.lists=oq k.decl:=by
 have:=congrArg aQ.lists h.e;have h2:(tJ (Kd.ed k.decl)).lists=oq (Kd.ed k.decl):=rfl;exact pT
def bE.grid(h:bE k):k.grid=bP k.decl:=by
 have:=congrArg aQ.grid h.e;have h2:(tJ (Kd.ed k.decl)).grid=bP (Kd.ed k.decl):=rfl;exact pT
def bE.aP(h:bE k):k.aP=fT (bP k.decl):=by
 have:=congrArg aQ.aP h.e;have h2:(tJ (Kd.ed k.decl)).aP=fT (bP (Kd.ed k.decl)):=rfl;exact pT
def bE.typ(h:bE k):Oi k.decl:=by
 have:=h.b.typ;rw[<- h.decl]at this;exact this
def bE.iK(h:bE k):Sq k:=by
 intro c hc;rw[h.decl]at hc;obtain⟨q,hq,rfl⟩:=bS.1 (show c∈k.decl.bV.map (Gx (iJ k.decl))from hc);have h1:=EB (h.b.rs.ZN q hq);have h2:(iJ k.decl).length=8+k.decl.regions.length:=by
  unfold iJ;rw[eF,aR];rfl
 have h3:k.lists.length=8+k.decl.regions.length:=by
  rw[h.lists];unfold oq;rw[eF,aR,aR,nG]
 show 0<=((jZ q.on (iJ k.decl):Nat):Int)/\((jZ q.on (iJ k.decl):Nat):Int)<_;omega
def abL{p:ae Clue}{vh vs vr vc vu gh gc vn vl vp:ah}(hS:qg k)(hP:xB p):
 fC prog 37 [.agg ⟨jO k vh vs vr vc vu gh gc vn vl⟩,.agg ⟨[vp]⟩] (aj aY vp p::iT k vh vs vr vc vu gh gc vn vl []) (λe:Int=>iV e) (λe=>(¬bE k->e=180)/\(bE k->¬fK k p->e=190)/\(bE k->fK k p->e=0)):=by
 refine gB 37 λB w0=>?_;refine gF aY vp p λap1 cp ep=>?_;subst ep;refine go ?_;intro b2 b3;refine gP b2 ?_;refine gP b3 ?_;refine gC (J6 (k:=k) hS) λb hb=>?_;cases b with
 |false=>
  exact gR
 |true=>
 have hK:=hb.1 rfl;clear hb;have hend:¬fK k p->(¬bE k->(190:Int)=180)/\(bE k->¬fK k p->(190:Int)=190)/\(bE k->fK k p->(190:Int)=0):=λhn=>⟨λh=>absurd hK h,λ_ _=>rfl,λ_ h=>absurd h hn⟩
 dsimp only[cond];refine aO ?_ ?_<;>intro h1
 .refine go ?_;exact gQ 190 (hend λh=>by have:=h.len;omega)
 refine gN p.length 17 (λj=>j<=p.length/\(∀g∈p.take j,ou k g)/\∀(i:Nat) a b,i+1<j->p[i]? =some a->p[i+1]? =some b->fo a b<0) ⟨bM _,s7,λi a b h=>by omega⟩ ?_;rintro j ⟨hj,hall,hs⟩;refine aO ?_ ?_<;>intro h2
 .refine gX aY (xs:=p) λ_ _ g (vg:ah) hg=>?_;have hgm:=aT hg;have htk:=fF hg;refine go ?_;intro b6;refine gC (anj (k:=k) (g:=g) (vv:=vg) hS hK.iK (hP.vals g hgm)) λb hb=>?_;cases b with
  |false=>
   refine go ?_;exact gQ 190 (hend λh=>by have:=hb.2 (h.right g hgm);cases this)
  |true=>
  have hR:=hb.1 rfl;have GY:∀x∈p.take (j+1),ou k x:=by
   rw[htk];intro x hx;rcases fq.1 hx with hx|hx
   .exact hall x hx
   .rw[bA.1 hx];exact hR
  refine gH ?_ ?_<;>intro h3
  .have hj0:j=0:=by omega
   subst hj0;refine go ?_;exact aU 1 (by show p.length - 1<p.length - 0;omega) ⟨s6,GY,λi a b h=>by omega⟩
  obtain⟨i,rfl⟩:∃i,j=i+1:=⟨j - 1,s6⟩
  refine go ?_;rw[show((i+1:Nat):Int) - 1=(i:Int)by omega];refine Jp aY (xs:=p) (next:=λ_ _ g0 (vg0:ah) hg0=>?_);refine gC (Un (a:=g0) (b:=g) (va:=vg0) (vb:=vg)) λ_ _=>?_;refine aO ?_ ?_<;>intro h4
  .refine go ?_;exact gQ 190 (hend λh=>by have:=h.sorted i g0 g hg0 hg;omega)
  .refine go ?_;refine aU (i+1+1) (by show p.length - (i+1+1)<p.length - (i+1);omega) ⟨s6,GY,λi' a b h ha hb=>?_⟩;by_cases e:i'=i
   .subst e;rw[hg0]at ha;rw[hg]at hb;cases ha;cases hb;omega
   .exact hs i' a b s6 ha hb
 have jT:j=p.length:=s6
 subst jT;rw[fu]at hall;refine go ?_;exact gQ 0 ⟨λh=>absurd hK h,λ_ h=>absurd ⟨s6,hall,λi a b ha hb=>hs i a b (aV.1 hb).1 ha hb⟩ h,λ_ _=>rfl⟩
abbrev EP(k:aQ)(grid:ae Int):Prop:=Fin (k.grid.cells.length:Int) (k.decl.symbols.length:Int) grid
structure atI(k:aQ)(p:List Clue)(grid:List Int)(e:Int):Prop where
 nk:¬bE k->e=180
 nf:bE k->¬EP k grid->e=200
 np:bE k->EP k grid->¬fK k p->e=190
 ok:bE k->EP k grid->fK k p->e=0
end Go.Proofs.YtoilpafpgndilaaGreat
namespace Go.Proofs.YtoilpafpgndilaaGreat
open Tryz (prog)
open Go.Ideal Kd Canon
def oW(k:aQ):ae Int:=k.decl.symbols.map (·.value)
structure abN(k:aQ)(r:dP):Prop where
 iK:0<=r.family/\r.family<k.lists.length
 aS:r.aS<k.decl.bV.length
structure abO(k:aQ)(p:List Clue)(grid:List Int)(r:dP)(set other:Nat):Prop where
 s:qg k
 ps:xB p
 iK:Sq k
 rin:abN k r
 right:∀g∈p,ou k g
 gri:alb grid
 cells:∀x∈NC k p r,alc grid x.1
 vals:ald (oW k) grid
 bO:l9 k.aP
 zH:grid.length=k.aP.length
 st:r.set=(set:Int)/\set<2^63
 ot:r.other=(other:Int)/\other<2^63
 kind:1<=r.kind/\r.kind<=11
 giv:r.kind=2\/r.kind=3\/r.kind=11->∀x∈NC k p r,0<x.2.length
 few:∀x∈NC k p r,x.1.length<=4096
 one:r.kind=11->∀x∈NC k p r,0<x.1.length
section
variable {k:aQ} {p:ae Clue} {grid:ae Int} {r:dP} {set other:Nat} {bv br:Nat} {vh vs vr vc vu gh gc vn vl vp vg vv v1 v2:ah}
def abO.aP(H:abO k p grid r set other):∀l∈k.aP,∀b∈l,0<=b/\b<grid.length:=by
 intro l hl b hb;obtain⟨i,hi⟩:=iM hl;obtain⟨j,hj⟩:=iM hb;have:=H.bO.ok i l hi j b hj;have:=H.zH;omega
end
structure Bv(k:aQ):Prop where
 dw:mF k.decl.w
 dh:mF k.decl.h
 gw:mF k.grid.w
 gh:mF k.grid.h
 holes:k.decl.holes.length<2^63
 fB:k.decl.symbols.length<2^63
 regs:k.decl.regions.length<2^63
 Bq:∀r∈k.decl.regions,r.lists.length<2^63/\∀l∈r.lists,l.length<2^63
 om:k.decl.bV.length<2^63
 qZ:k.decl.rules.length<2^63
 Bp:∀r∈k.decl.rules,r.names.length<2^63/\r.others.length<2^63
 Oo:k.grid.holes.length<2^63
 cells:k.grid.cells.length<2^63
 aP:k.aP.length<2^63/\∀l∈k.aP,l.length<2^63
 lists:k.lists.length<2^63/\∀l∈k.lists,l.length<2^63/\∀m∈l,m.length<2^63
structure anm(k:aQ):Prop where
 cells:k.grid.cells.length<=16
 Oo:k.grid.holes.length<=256
 aP:k.aP.length<=20
 lists:k.lists.length<=12
 fB:k.decl.symbols.length<=6
 regs:k.decl.regions.length<=6
 om:k.decl.bV.length<=6
 qZ:k.decl.rules.length<=10
 holes:k.decl.holes.length<=256
 each:∀l∈k.lists,l.length<=40
 reg:∀r∈k.decl.regions,r.lists.length<=20
def qg.of{k:aQ}(hB:Bv k)(hF:anm k):qg k:=by
 have f1:=hF.cells;have f2:=hF.Oo;have f5:=hF.fB;have f6:=hF.regs;have f7:=hF.om;have f8:=hF.qZ;have f9:=hF.holes;exact gx
def ann{k:Int}(h:(jG k).read=true):1<=k/\k<=11:=by
 apply Classical.byContradiction;intro hn;have hc:(k<0\/14<=k)\/k=0\/k=12\/k=13:=s6
 rcases hc with hc|rfl|rfl|rfl
 .rw[Og hc]at h;cases h
 .cases h
 .cases h
 .cases h
def abP{fB:ae ByteArray}(hs:fB.length<=16):∀(l:ae ByteArray),(∀s∈l,s∈fB)->mG fB l<2^16:=by
 have h:∀(l:ae ByteArray) (m:Nat),m<2^16->(∀s∈l,s∈fB)->l.foldl (λm s=>m|||1<<<jZ s fB) m<2^16:=by
  intro l;induction l with
  |nil=>intro m hm _;exact hm
  |cons s l ih=>
   intro m hm hl;rw[nC];refine ih _ (Nat.or_lt_two_pow hm ?_) (λt ht=>hl t (dB _ ht));have:=EB (hl s (dD ..));rw[Nat.one_shiftLeft];exact nr
 intro l hl;exact h l 0 td hl
variable{k:aQ}
def bE.tu(h:bE k){r:dP}(hr:r∈k.decl.rules):∃q∈k.decl.rules,r=yG (jv k.decl) (iJ k.decl) (mY k.decl) q:=by
 have h1:r∈(Kd.ed k.decl).rules:=by rw[<- h.decl];exact hr
 obtain⟨q,hq,e⟩:=bS.1 (show r∈k.decl.rules.map (yG (jv k.decl) (iJ k.decl) (mY k.decl))from h1);exact⟨q,hq,e.symm⟩
def bE.jh(h:bE k):k.lists.length=8+k.decl.regions.length:=by
 rw[h.lists];unfold oq;rw[eF,aR,aR,nG]
def bE.bO(h:bE k):ic (bP k.decl):=⟨h.typ.Oj,rfl⟩
def bE.inr(h:bE k){r:dP}(hr:r∈k.decl.rules):abN k r:=by
 obtain⟨q,hq,rfl⟩:=h.tu hr;have hro:=h.b.rs.tu q hq;have hl:=h.jh;have hfl:(iJ k.decl).length=8+k.decl.regions.length:=by
  unfold iJ;rw[eF,aR];rfl
 refine⟨?_,?_⟩
 .show 0<=(if q.on=⟨⟨[]⟩⟩then(0:Int)else(jZ q.on (iJ k.decl):Int))/\(if q.on=⟨⟨[]⟩⟩then(0:Int)else(jZ q.on (iJ k.decl):Int))<_;by_cases e:q.on=⟨⟨[]⟩⟩
  .rw[if_pos e];omega
  .rw[if_neg e];have:=EB (hro.on.resolve_left e);omega
 .show(if q.iX=⟨⟨[]⟩⟩then(-1:Int)else(jZ q.iX (mY k.decl):Int))<_;by_cases e:q.iX=⟨⟨[]⟩⟩
  .rw[if_pos e];omega
  .rw[if_neg e];have h1:=EB (hro.iX.resolve_left e);have h2:(mY k.decl).length=k.decl.bV.length:=by unfold mY;rw[aR]
   omega
end Go.Proofs.YtoilpafpgndilaaGreat
namespace Go.Proofs.YtoilpafpgndilaaGreat
open Tryz (prog)
open Go.Ideal Kd Canon Go.Sort
def ano:Nf prog 98 3:=λα _ enc cf g cb blk off cap d w hk h1 hO eg hcmp hH hblk hsz=>AnyQ.slices_SortFunc Tryz.laysF6 3 Tryz.isAgg76 Tryz.sizeOf76 enc hk h1 cf hO g cb blk off cap d w eg hcmp hH hblk hsz
def anp:JH prog 98:=λp cap fv w=>AnyF.slices_SortFunc_none Tryz.laysF6 p cap fv w
def anq{α:Type}{c:α->α->Int}(h:F7 c):SWO (ltOf c):=by
 have hz:=h.zero;have hn:=h.neg;have ht:=h.trans;refine⟨λx=>?_,λx y z h1 h2=>?_,λx y z h1 h2=>?_⟩
 .have:=(hz x x).2 rfl;exact bY s6
 .exact eT (ht x y z (ko h1) (ko h2))
 .have h1:¬c x y<0:=uZ h1;have h2:¬c y z<0:=uZ h2;refine bY λh3=>?_;by_cases e1:c x y=0
  .rw[(hz x y).1 e1]at h3;exact h2 h3
  by_cases e2:c y z=0
  .rw[<- (hz y z).1 e2]at h3;exact h1 h3
  exact j0
def anr{a b:Clue}{va vb:ah}(ha:a.values.length<=1000000)(hb:b.values.length<=1000000):dZ prog 99 [qC a va,qC b vb] [aj ai va a.values,aj ai vb b.values] (iV (jD a b)):=by
 refine gB 99 λB w0=>?_;refine go ?_;intro b2 b3;refine gC (Un (a:=a) (b:=b) (va:=va) (vb:=vb)) λ_ _=>?_;refine gC (Om (xs:=a.values) (ys:=b.values) ha hb) λ_ _=>?_;refine go ?_;intro b15;refine mD (A:=pt b15 (.cells [iV (fo a b),iV (dN dx a.values b.values)])) (fs:=[aj ai (.slice (some ⟨b15,0,some 0⟩) 2 2) [fo a b,dN dx a.values b.values]]) (qP (b:=b15) (f:=0) (c:=2) (xs:=[fo a b,dN dx a.values b.values])) (h:=?_);refine gC (abJ (xs:=[fo a b,dN dx a.values b.values]) s7) λ_ _=>?_;refine bF ?_;rw[Yf,<- Z6];simp only[xg];by_cases h1:fo a b=0
 .by_cases h2:dN dx a.values b.values=0
  .simp[h1,h2];rfl
  .simp[h1,h2];rfl
 .simp[h1];rfl
def ant{xs:ae Clue}{a:ak Addr}(hlen:xs.length<4611686018427387904)(hv:∀x∈xs,x.values.length<=1000000):
 aX prog (.func 98) [.slice a xs.length xs.length,.func (.func 99) ⟨[]⟩ ⟨[]⟩] [] [ap aY (.slice a xs.length xs.length) xs] [] (λ_:ae Clue=>.tuple ⟨[]⟩) (λys=>[ap aY (.slice a xs.length xs.length) ys]) (λ_=>[]) (λys=>ys.Perm xs/\ys.Pairwise λx y=>¬jD y x<0):=by
 refine ajj s8 ano anp Tryz.func98 rfl td Tryz.func99 rfl td rfl td (anq yx) (λx hx y hy u v=>?_) hlen;exact anr (hv x hx) (hv y hy)
open Go.Ideal Kd Canon
def abQ{a b:Clue}{va vb:ah}:dZ prog 101 [qC a va,qC b vb] [] (.bool (tL a b)):=by
 refine gB 101 λB w0=>?_;refine go ?_;intro b2 b3;refine gC (Un (a:=a) (b:=b) (va:=va) (vb:=vb)) λ_ _=>?_;exact eH
abbrev CV:=Clue×aY.Y
abbrev zN(p q:CV):Bool:=tL p.1 q.1
def anu{β:Type}{eq:β->β->Bool}:∀{l:ae β},l.length<2->vQ eq l=l
 |[],_=>rfl
 |[_],_=>rfl
 |_::_::_,h=>by simp at h;omega
def abR{α:Type}{l:ae α}{k:Nat}{x:α}(h:l[k]? =some x):l.take (k+1)=l.take k++[x]:=by
 rw[rH,h];rfl
variable{xs:ae Clue}
def anv{b f m:Nat}(hl:xs.length<=1000000):aX prog (.func 100) [.slice (some ⟨b,0,some f⟩) m m,.func (.func 101) ⟨[]⟩ ⟨[]⟩] [] [ap aY (.slice (some ⟨b,0,some f⟩) m m) xs] [] (λv:ah=>v) (λ_=>[]) (λv=>[aj aY v (vQ tL xs)]) (λ_=>True):=by
 refine gB 100 λB w0=>?_;refine Zz aY λaC hxy hm hf=>?_;have hgn:aY.n=3:=rfl;have hlen:aC.length=xs.length:=As
 subst hm;rw[<- hlen];have hcm:(vQ zN aC).map (·.1)=vQ tL xs:=by rw[<- hxy];exact akt (·.1) (λ_ _=>rfl) aC
 rw[<- hcm];have hall:∀{F:ae aI} {zs:ae CV},qz aY aC∈F->(∀p∈zs,p∈aC)->∀w,(∀f∈F,f.p w)->(qz aY zs).p w:=λhF hz w h p hp f hf=>h _ hF p (hz p hp) f hf;refine aO ?_ ?_<;>intro h1
 .rw[anu (eq:=zN) (show aC.length<2 by omega)];exact eW
 refine gL (λk=>aC.length - k) (λk:Nat=>[(5,iV (k:Int))]) (λk=>1<=k/\k<=aC.length/\∀p,aC[k - 1]? =some p->vQ zN aC=aC.take k++cgo zN p (aC.drop k)) 1 ⟨s6,s6,λp hp=>?_⟩ ?_
 .cases aC with
  |nil=>cases hp
  |cons x l=>cases hp;rfl
 rintro k ⟨hk1,hkn,hck⟩;refine aO ?_ ?_<;>intro h2
 rotate_left
 .have hk:k=aC.length:=by omega
  obtain⟨p,hp⟩:∃p,aC[k - 1]? =some p:=⟨_,bG s6⟩
  have hck:=hck p hp;rw[hk,Fp,fu,cgo,gW]at hck;rw[hck];exact eW
 have hkl:k<aC.length:=s6
 obtain⟨p,hp⟩:∃p,aC[k - 1]? =some p:=⟨_,bG s6⟩
 obtain⟨y,hy⟩:∃y,aC[k]? =some y:=⟨_,bG hkl⟩
 have hck:=hck p hp;rw[drop_cons hy,cgo]at hck;refine go ?_;refine Gt aY (o:=0+k*3) hy wc ?_;refine go ?_;refine Gt aY (o:=0+((k:Int) - 1).toNat*3) hp wc ?_;refine gC (abQ (a:=y.1) (b:=p.1) (va:=y.2) (vb:=p.2)) λ_ _=>?_;refine go ?_;cases he:tL y.1 p.1 with
 |false=>
  refine go ?_;refine aU (k+1) (by show aC.length - (k+1)<aC.length - k;omega) ⟨s6,s6,λp' hp'=>?_⟩;rw[VO,hy]at hp';cases hp';rw[hck,abR hy,show zN y p=false from he,cond_false,List.append_assoc];rfl
 |true=>
  rw[show zN y p=true from he,cond_true]at hck;refine go ?_;refine(cZ rfl rfl (Gu (lo:=k) (hi:=aC.length) rfl B0 s6 (.inr ⟨_,rfl,rfl⟩) (.inl ⟨rfl,rfl⟩) s6 (aZ _))).h ?_;refine go ?_;refine dV (λx:Nat×Nat×ae CV=>aC.length - x.2.1) (λx=>[(7,iV (x.2.1:Int)),(5,iV (x.1:Int))]) (λx=>[pt b (.cells (cO aY x.2.2))]) (λ_=>[])
   (λx=>1<=x.2.1/\k+x.2.1<=aC.length/\k<=x.1/\x.1+1<=k+x.2.1/\x.2.2.length=aC.length/\(∀j,k+x.2.1 - 1<=j->x.2.2[j]? =aC[j]?)/\(∀p,aC[k+x.2.1 - 1]? =some p->vQ zN aC=x.2.2.take x.1++cgo zN p (aC.drop (k+x.2.1)))/\∀q∈x.2.2,q∈aC)
   (k,1,aC) ⟨aZ _,by dsimp only;omega,aZ _,aZ _,rfl,λ_ _=>rfl,λp' hp'=>?_,λq hq=>hq⟩ (body:=?_)
  .rw[show k+1 - 1=k by omega,hy]at hp';cases hp';exact hck
  rintro⟨kk,k2,zs⟩ ⟨i1,i2,i3,i4,i5,i6,i7,i8⟩;dsimp only at i1 i2 i3 i4 i5 i6 i7 i8⊢;obtain⟨p2,hp2⟩:∃p,aC[k+k2 - 1]? =some p:=⟨_,bG s6⟩
  have i7:=i7 p2 hp2;refine aO ?_ ?_<;>intro h3
  rotate_left
  .have hk2:k+k2=aC.length:=by omega
   rw[hk2,Fp,cgo,gW]at i7;have hkk:(zs.take kk).length=kk:=tw
   refine go ?_;refine(cZ rfl rfl (Gu (lo:=kk) (hi:=aC.length) rfl B0 s6 (.inr ⟨_,rfl,rfl⟩) (.inl ⟨rfl,rfl⟩) s6 (aZ _))).h ?_;have hov:jH (cO aY zs) (0+kk*3) (zeros [iV (.ofNat 0),iV (.ofNat 0),.slice none 0 0] (aC.length - kk))=some (cO aY (zs.take kk)++zeros [iV (.ofNat 0),iV (.ofNat 0),.slice none 0 0] (aC.length - kk)):=by
    have hz:=zeros_length [iV (.ofNat 0),iV (.ofNat 0),.slice none 0 0] (aC.length - kk);have e1:cO aY zs=cO aY (zs.take kk)++cO aY (zs.drop kk):=by rw[<- RZ,nE]
    have e2:(cO aY (zs.take kk)).length=0+kk*3:=by rw[yE,hkk,hgn];omega
    have e3:(cO aY (zs.drop kk)).length=(aC.length - kk)*3:=by rw[yE,lu,hgn,i5]
    have hz3:(zeros [iV (.ofNat 0),iV (.ofNat 0),.slice none 0 0] (aC.length - kk)).length=(aC.length - kk)*3:=by rw[hz];rfl
    rw[e1,<- e2,Nc (by rw[hz3,e3];exact aZ _),List.drop_of_length_le (by rw[hz3,e3];exact aZ _),gW]
   refine Zy hov s6 ?_;refine go ?_;refine(cZ rfl rfl (Gu (lo:=0) (hi:=kk) rfl B0 s6 (.inl ⟨rfl,rfl⟩) (.inr ⟨_,rfl,rfl⟩) s6 s6)).h ?_;rw[Ff,eB,xN,xN];refine go ?_;refine Nj aY (aC:=zs.take kk) (c:=aC.length) hf s6 ?_ (hall s7 λq hq=>i8 q (xK hq));rw[i7,hkk];exact gQ (.slice (some ⟨b,0,some f⟩) kk aC.length) trivial
  have hlt:k+k2<aC.length:=s6
  obtain⟨y2,hy2⟩:∃y,aC[k+k2]? =some y:=⟨_,bG hlt⟩
  have hzy:zs[k+k2]? =some y2:=by rw[i6 _ s6,hy2]
  have hzp:zs[k+k2 - 1]? =some p2:=by rw[i6 _ s6,hp2]
  rw[drop_cons hy2,cgo]at i7;refine go ?_;refine Gt aY (o:=0+k*3+k2*3) hzy wc ?_;refine go ?_;refine Gt aY (o:=0+k*3+((k2:Int) - 1).toNat*3) hzp wc ?_;refine gC (abQ (a:=y2.1) (b:=p2.1) (va:=y2.2) (vb:=p2.2)) λ_ _=>?_;refine go ?_;cases he2:tL y2.1 p2.1 with
  |true=>
   rw[show zN y2 p2=true from he2,cond_true]at i7;refine go ?_;refine aU (kk,k2+1,zs) E0 ⟨by dsimp only;omega,by dsimp only;omega,i3,by dsimp only;omega,i5,λj hj=>i6 j (by dsimp only at hj;omega),λp' hp'=>?_,i8⟩;rw[show k+(k2+1) - 1=k+k2 by omega,hy2]at hp';cases hp';exact i7
  |false=>
   rw[show zN y2 p2=false from he2,cond_false]at i7;refine go ?_;refine Gt aY (o:=0+k*3+k2*3) hzy wc ?_;refine go ?_;refine Zx aY (aC:=zs) (k:=kk) (o:=0+kk*3) y2 s6 wc ?_;refine go ?_;have htk:(zs.set kk y2).take (kk+1)=zs.take kk++[y2]:=by
    rw[abR (x:=y2) (by rw[List.getElem?_set_self s6]),List.take_set_of_le (aZ _)]
   refine aU (kk+1,k2+1,zs.set kk y2) E0 ⟨by dsimp only;omega,by dsimp only;omega,by dsimp only;omega,by dsimp only;omega,by rw[ku];exact i5,λj hj=>?_,λp' hp'=>?_,λq hq=>?_⟩
   .dsimp only at hj⊢;rw[List.getElem?_set_ne s6];exact i6 j s6
   .rw[show k+(k2+1) - 1=k+k2 by omega,hy2]at hp';cases hp';rw[htk,i7,List.append_assoc];rfl
   .rcases VQ hq with h|h
    .exact i8 q h
    .rw[h];exact aT hy2
def anx(a:ak Addr)(n:Nat):Prop:=(a=none/\n=0)\/∃b f,a=some ⟨b,0,some f⟩
variable{v:ah}
def abT(hl:xs.length<=1000000):aX prog (.func 78) [v] [] [] [aj aY v xs] (λa:ak Addr=>.slice a xs.length xs.length) (λa=>[ap aY (.slice a xs.length xs.length) xs]) (λ_=>[]) (λa=>anx a xs.length):=by
 refine gB 78 λB w0=>?_;refine Jv aY v (xs:=xs) λaC hxy=>?_;have hlen:aC.length=xs.length:=As
 refine RH (aC:=aC) (v:=v) (E:=aY) ?_;refine ZA (v:=v) (aC:=aC) aY (λe c ev=>?_) (λe i o f c ev=>?_) (λhne i o f c ev=>?_)
 .subst e ev;have hx:xs=[]:=by rw[<- hxy];rfl
  subst hx;simp only[wB];refine go ?_;refine(cZ rfl rfl (Gi (e:=76) s8 rfl)).h ?_;refine go ?_;refine lT aY ?_;exact gQ none (.inl ⟨rfl,rfl⟩)
 .subst e ev;have hx:xs=[]:=by rw[<- hxy];rfl
  subst hx;simp only[wB];refine go ?_;refine(cZ rfl rfl (zy (e:=76) s8 rfl)).h ?_;refine go ?_;intro b;refine go ?_;refine Jw (b:=b) ?_;refine go ?_;refine Yl aY aB.here ?_;exact gQ (some ⟨b,0,some 0⟩) (.inr ⟨b,0,rfl⟩)
 .subst ev;refine go ?_;refine(cZ rfl rfl (zy (e:=76) s8 rfl)).h ?_;refine go ?_;intro b;refine go ?_;refine Jy (b:=b) aY aC hne s6 (λb'=>?_);refine go ?_;refine wV (b:=b') (m:=aC.length) (f:=aY.n) aY (aC:=aC) rfl (.inr rfl) ?_ (hk:=aB.here);refine Zk (aC:=aC) hne ?_ (λw h=>h _ s7);rw[hxy,hlen];exact gQ (some ⟨b',0,some aY.n⟩) (.inr ⟨b',_,rfl⟩)
def anz:fC prog 100 [.slice none 0 0,.func (.func 101) ⟨[]⟩ ⟨[]⟩] [] (λ_:Unit=>.slice none 0 0) (λ_=>True):=by
 refine gB 100 λB w0=>?_;exact eH
def anA(hl:xs.length<=1000000)(hv:∀x∈xs,x.values.length<=1000000):aX prog (.func 54) [v] [] [] [aj aY v xs] (λy:ah×ae Clue=>.agg ⟨[y.1]⟩) (λ_=>[]) (λy=>[aj aY y.1 y.2]) (λy=>ik xs y.2):=by
 refine gB 54 λB w0=>?_;refine go ?_;intro b2;refine gC (abT (xs:=xs) hl) λa ha=>?_;refine gC (ant (xs:=xs) (a:=a) s6 hv) λys hy=>?_;have hlen:ys.length=xs.length:=hy.1.length_eq;have hok:=SB hy.1 hy.2;refine go ?_;rcases ha with⟨rfl,h0⟩|⟨b,f,rfl⟩
 .have hx:xs=[]:=j6.1 h0;subst hx;have hys:ys=[]:=j6.1 (hlen.trans h0);subst hys;refine iy anz (next:=λ_ _=>?_);refine go ?_;refine eD (aj aY (.slice none 0 0) []) (λw hw=>.inl ⟨rfl,none,0,rfl,trivial⟩) ?_;exact gQ (.slice none 0 0,[]) hok
 .refine iy (anv (xs:=ys) (b:=b) (f:=f) (m:=xs.length) s6) (next:=λvr _=>?_);refine gF aY vr (vQ tL ys) λar1 cr er=>?_;subst er;refine go ?_;exact gQ (.slice ar1 (vQ tL ys).length cr,vQ tL ys) hok
end Go.Proofs.YtoilpafpgndilaaGreat
namespace Go.Proofs.YtoilpafpgndilaaGreat
open Tryz (prog)
open Go.Ideal Kd Canon
variable{va vb:ah}
def abU{xs ys:ae Int}(hal:xs.length<=1000000)(hbl:ys.length<=1000000):
 dZ prog 71 [va,vb] [aj ai va xs,aj ai vb ys] (iV (dN dx xs ys)):=by
 refine gB 71 λB w0=>?_;refine gN xs.length 5 (λk=>k<=xs.length/\k<=ys.length/\dN dx xs ys=dN dx (xs.drop k) (ys.drop k)) ⟨s6,s6,rfl⟩ ?_;rintro k ⟨hkx,xA,nS⟩;refine gH ?_ ?_<;>intro h1
 .exact dy
 refine aO ?_ ?_<;>intro h2
 rotate_left
 .exact dy
 refine go ?_;intro _ _ x hx _ _ y hy;refine p9 rfl ?_ ?_<;>intro h3
 .refine bF ?_;rw[nS,drop_cons hx,drop_cons hy,dN,dx,if_pos h3];rfl
 refine go ?_;intro _ _ x' hx' _ _ y' hy';cases hx.symm.trans hx';cases hy.symm.trans hy';refine p9 rfl ?_ ?_<;>intro h4
 .refine bF ?_;rw[nS,drop_cons hx,drop_cons hy,dN,dx,if_neg h3,if_pos h4];rfl
 refine go ?_;refine aU (k+1) s6 ⟨s6,s6,?_⟩;rw[nS,drop_cons hx,drop_cons hy,dN,dx,if_neg h3,if_neg h4];rfl
def abV{b:Nat}{x y:Int}:oK (pt b (.cells [iV x,iV y])) [aj ai (.slice (some ⟨b,0,some 0⟩) 2 2) [x,y]]:=qP (xs:=[x,y])
def short(l:ae Clue):Prop:=∀g∈l,g.values.length<=1000000
variable{a b:Clue}
def anC:dZ prog 70 [qC a va,qC b vb] [] (iV (dN dx [a.aS,a.at_] [b.aS,b.at_])):=by
 refine gB 70 λB w0=>?_;refine go ?_;intro b1 b2 b3 b4;refine gZ (abV) ?_;refine gZ (abV) ?_;refine iy (abU (xs:=[a.aS,a.at_]) (ys:=[b.aS,b.at_]) s7 s7) (next:=λ_ _=>?_);exact eH
def anD(hal:a.values.length<=1000000)(hbl:b.values.length<=1000000):
 dZ prog 35 [qC a va,qC b vb] [aj ai va a.values,aj ai vb b.values] (.bool (decide (a=b))):=by
 refine gB 35 λB w0=>?_;refine go ?_;intro b1 b2;refine iy (anC (a:=a) (b:=b)) (next:=λ_ _=>?_);refine go ?_;have hz:=(vI vH).zero [a.aS,a.at_] [b.aS,b.at_];refine gG ?_ ?_<;>intro h1
 .refine bF ?_;rw[bY (λe=>h1 (hz.2 (by rw[e])))];rfl
 refine gC (abU hal hbl) λ_ _=>?_;refine bF ?_;have e1:=hz.1 h1;simp only[BV,Aa]at e1;have:decide (dN dx a.values b.values=0)=decide (a=b):=by
  rw[rF,(vI vH).zero];obtain⟨c,p,l⟩:=a;obtain⟨d,q,m⟩:=b;simp only[Clue.mk.injEq]at e1⊢;exact⟨λe=>⟨e1.1,e1.2,e⟩,λe=>e.2.2⟩
 rw[<- this];rfl
def J8{xs ys:ae Clue}(hal:xs.length<=1000000)(hx:short xs)(hy:short ys):
 dZ prog 14 [.agg ⟨[va]⟩,.agg ⟨[vb]⟩] [aj aY va xs,aj aY vb ys] (.bool (decide (xs=ys))):=by
 refine gB 14 λB w0=>?_;refine go ?_;intro b2 b3;refine p9 rfl ?_ ?_<;>intro h1
 .exact c6
 have hlen:xs.length=ys.length:=s6
 refine gN xs.length 5 (λk=>k<=xs.length/\∀j,j<k->xs[j]? =ys[j]?) ⟨s6,λj hj=>by omega⟩ ?_;rintro k ⟨hkx,hsame⟩;refine aO ?_ ?_<;>intro h2
 .refine gX aY λ_ _ x (vx:ah) hxk=>?_;refine gX aY λ_ _ y (vy:ah) hyk=>?_;refine gC (anD (a:=x) (b:=y) (hx x (aT hxk)) (hy y (aT hyk))) λ_ _=>?_;refine go ?_;refine sQ rfl (λh3=>?_) (λh3=>?_)
  .refine bF ?_;rw[bY (λe=>h3 (by rw[e,hyk]at hxk;cases hxk;rfl))];rfl
  refine go ?_;refine aU (k+1) s6 ⟨s6,λj hj=>?_⟩;by_cases e:j=k
  .subst e;rw[hxk,hyk,h3]
  .exact hsame j s6
 refine bF ?_;have:xs=ys:=by
  exact cI
 rw[eT this];rfl
end Go.Proofs.YtoilpafpgndilaaGreat
namespace Go.Proofs.YtoilpafpgndilaaGreat
open Tryz (prog)
open Go.Ideal Kd Canon
def Uo{v:ah}{xs:ae (ae Int)}(hl:xs.length<2^63)(hll:∀l∈xs,l.length<2^63):fC prog 72 [v] [aj (az ai) v xs] (λn:Int=>iV n) (λn=>0<=n/\n<=2001):=by
 refine gB 72 λB w0=>?_;refine gF (az ai) v xs λa1 c1 e1=>?_;subst e1;refine gL (λx:Nat×Int=>xs.length - x.1) (λx=>[(4,iV (x.1:Int)),(3,iV x.2)]) (λx=>x.1<=xs.length/\0<=x.2/\x.2<=4003) (0,0) ⟨bM _,td,td⟩ ?_;rintro⟨i,n⟩ ⟨hi,h0,h1⟩;dsimp only at hi h0 h1⊢;refine gH ?_ ?_<;>intro h2
 .exact mA
 refine aO ?_ ?_<;>intro h3
 rotate_left
 .exact mA
 refine go ?_;refine(cZ rfl rfl (Gf rfl rfl)).h ?_;refine gX (az ai) (xs:=xs) λ_ _ x (vx:ah) hx=>?_;refine go ?_;refine(cZ rfl rfl (Gf rfl rfl)).h ?_;refine go ?_;exact aU (i+1,min n 2001+1+min (x.length:Int) 2001) (by show xs.length - (i+1)<xs.length - i;omega) ⟨by dsimp only;omega,by dsimp only;omega,ye⟩
structure Uq(d:dQ):Prop where
 holes:d.holes.length<=40
 fB:d.symbols.length<=20
 regs:d.regions.length<=8
 om:d.bV.length<=8
 qZ:d.rules.length<=20
variable{vh vs vr vc vu:ah}
def abW{d:dQ}(hr:∀r∈d.regions,r.lists.length<2^63/\∀l∈r.lists,l.length<2^63)(hn:∀r∈d.rules,r.names.length<2^63/\r.others.length<2^63):
 fC prog 73 [.agg ⟨oM d vh vs vr vc vu⟩] (uF d vh vs vr vc vu) (λb:Bool=>.bool b) (λb=>b=true->Uq d):=by
 refine gB 73 λB w0=>?_;dsimp only[uF];refine gF lG vr d.regions λar cr er=>?_;subst er;refine gF bZ vu d.rules λau cu eu=>?_;subst eu;refine go ?_;intro b1;refine gP b1 ?_;refine gH ?_ ?_<;>intro h1
 rotate_left
 .exact cH
 refine gH ?_ ?_<;>intro h2
 rotate_left
 .exact cH
 refine gH ?_ ?_<;>intro h3
 rotate_left
 .exact cH
 refine gH ?_ ?_<;>intro h4
 rotate_left
 .exact cH
 refine aO ?_ ?_<;>intro h5
 .exact cH
 have hD:Uq d:=⟨s6,s6,s6,s6,s6⟩
 refine gN d.regions.length 3 (λj=>j<=d.regions.length) (bM _) ?_;intro j hj;refine aO ?_ ?_<;>intro a1
 .have hx:d.regions[j]? =some (d.regions[j]'(s6)):=bG _;generalize d.regions[j]'(s6)=x at hx;obtain⟨hx1,hx2⟩:=hr x (aT hx);refine gX lG (xs:=d.regions) λ_ _ x1 (vl1:ah) hx1=>?_;cases hx.symm.trans hx1;refine aO ?_ ?_<;>intro a2
  .exact cH
  refine gN x.lists.length 4 (λi=>i<=x.lists.length) (bM _) ?_;intro i hi;refine gX lG (xs:=d.regions) λ_ _ x2 (zO:ah) hx2=>?_;cases hx.symm.trans hx2;refine aO ?_ ?_<;>intro a3
  .refine gX lG (xs:=d.regions) λ_ _ x3 (J9:ah) hx3=>?_;cases hx.symm.trans hx3;refine gX (az ai) (xs:=x.lists) λ_ _ l (vl4:ah) hl=>?_;refine aO ?_ ?_<;>intro a4
   .exact cH
   refine go ?_;exact aU (i+1) (by show x.lists.length - (i+1)<x.lists.length - i;omega) u9
  refine go ?_;exact aU (j+1) (by show d.regions.length - (j+1)<d.regions.length - j;omega) z7
 refine gN d.rules.length 5 (λj=>j<=d.rules.length) (bM _) ?_;intro j hj;refine aO ?_ ?_<;>intro a1
 .have hx:d.rules[j]? =some (d.rules[j]'(s6)):=bG _;generalize d.rules[j]'(s6)=x at hx;obtain⟨hx1,hx2⟩:=hn x (aT hx);refine gX bZ (xs:=d.rules) λ_ _ x1 (w:ah×ah) hx1=>?_;cases hx.symm.trans hx1;refine gH ?_ ?_<;>intro a2
  rotate_left
  .exact cH
  refine gX bZ (xs:=d.rules) λ_ _ x2 (w2:ah×ah) hx2=>?_;cases hx.symm.trans hx2;refine aO ?_ ?_<;>intro a3
  .exact cH
  refine go ?_;exact aU (j+1) (by show d.rules.length - (j+1)<d.rules.length - j;omega) z7
 refine go ?_;exact gQ true (λ_=>hD)
structure Ur(k:aQ):Prop where
 d:Uq k.decl
 cells:k.grid.cells.length<=256
 Oo:k.grid.holes.length<=300
variable{k:aQ}
def qg.ofE(hB:Bv k)(hF:Ur k):qg k:=by
 have f1:=hF.cells;have f2:=hF.Oo;have f5:=hF.d.fB;have f6:=hF.d.regs;have f7:=hF.d.om;have f8:=hF.d.qZ;have f9:=hF.d.holes;exact gx
def anF{gh gc vn vl:ah}(hB:Bv k):fC prog 36 [.agg ⟨jO k vh vs vr vc vu gh gc vn vl⟩] (iT k vh vs vr vc vu gh gc vn vl []) (λb:Bool=>.bool b) (λb=>b=true->Ur k):=by
 obtain⟨n1,n2⟩:=hB.aP;obtain⟨l1,l2⟩:=hB.lists;refine gB 36 λB w0=>?_;dsimp only[iT];refine gF (az (az ai)) vl k.lists λal cl el=>?_;subst el;refine go ?_;intro b1;refine gL (λx:Nat×Int=>k.lists.length - x.1) (λx=>[(4,iV (x.1:Int)),(3,iV x.2)]) (λx=>x.1<=k.lists.length/\0<=x.2/\x.2<=4001) (0,0) ⟨bM _,td,td⟩ ?_;rintro⟨i,n⟩ ⟨hi,h0,h1⟩;dsimp only at hi h0 h1⊢;refine gH ?_ ?_<;>intro h2
 .exact sX
 refine aO ?_ ?_<;>intro h3
 rotate_left
 .exact sX
 refine gX (az (az ai)) (xs:=k.lists) λ_ _ x (vx:ah) hx=>?_;obtain⟨x1,x2⟩:=l2 x (aT hx);refine gC (Uo (xs:=x) x1 x2) λm hm=>?_;refine go ?_;exact aU (i+1,n+m) E3 ⟨by dsimp only;omega,by dsimp only;omega,ye⟩
