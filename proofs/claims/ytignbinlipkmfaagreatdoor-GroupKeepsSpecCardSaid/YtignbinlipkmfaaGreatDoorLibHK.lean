/- Part. -/
import Derived.Test.YtignbinlipkmfaaGreatDoorLibGK
set_option linter.all false
set_option maxRecDepth 10000
set_option maxHeartbeats 4000000
namespace Go.Proofs.YtignbinlipkmfaaGreatDoor
open Tryz (prog)
open Go.Ideal Kd
noncomputable def XR:iF:=⟨51,[(.tmp 2)],(.seq (kO [kS 2 (.om (.const (iV 0)))]) (.seq (.seq (kO [kM 4 0,kM 5 0,kS 6 (.l9 5),kS 7 (.gD 0 6),kS 8 (.gD 0 7),kS 9 (.gD 2 8),kS 10 (.iE 9),kM 11 0,kS 12 (.l9 11),kS 13 (.gD 0 12),kS 14 (.gD 0 13),kS 15 (.gD 3 14),kS 16 (.iE 15),kM 17 0,kS 18 (.l9 17),kS 19 (.gD 0 18),kS 20 (.gD 0 19),kS 21 (.gD 4 20),kS 22 (.iE 21),kM 23 0,kS 24 (.l9 23),kS 25 (.gD 0 24),kS 26 (.gD 0 25),kS 27 (.gD 5 26),kS 28 (.iE 27),kS 29 (kC 96 [10,16,22,28]),kM 3 29,kS 30 (.extract 3 0),kS 31 (.extract 3 1),kS 32 (.l9 4),kS 33 (.gD 0 32),kS 34 (.gD 10 33),kN (.store 5 34 30),kS 2 (.om 31)]) (.seq (kO [kM 35 2,kS 36 (.bin .eql 37 35 (.const (iV 0)))]) (.cond 36 (kO [kM 38 0,kM 39 0,kS 40 (.l9 39),kS 41 (.gD 0 40),kS 42 (.gD 10 41),kS 43 (.rz 5 42),kS 44 (kC 97 [43]),kM 37 44,kS 45 (.extract 37 0),kS 46 (.extract 37 1),kS 47 (.l9 38),kS 48 (.gD 0 47),kS 49 (.gD 15 48),kN (.store 1 49 45),kS 2 (.om 46)]) .skip))) (.seq (kO [kM 50 2,kS 2 (.om 50)]) .ret)))⟩
def ajP:lD prog 54=some XR:=tv
abbrev bL(d:bG)(vh vs vr vc vu g1 g2 g3 g4 g5 g6 g7:ah):ae ah:=[.string d.name,iV d.version,iV d.shape,iV d.w,iV d.h,vh,vs,vr,vc,vu,g1,g2,g3,g4,g5,g6,g7]
abbrev zL(g1 g2 g3 g4 g5 g6 g7:ah):ae ah:=[.string ⟨⟨[]⟩⟩,iV 0,iV 0,iV 0,iV 0,.slice none 0 0,.slice none 0 0,.slice none 0 0,.slice none 0 0,.slice none 0 0,g1,g2,g3,g4,g5,g6,g7]
variable{b:Nat}{d:bG}{vh vs vr vc vu g1 g2 g3 g4 g5 g6 g7:ah}
def ajQ(hS:nW d):cK prog (.func 52) [ptr' b] [] [pt b (.cells (bL d vh vs vr vc vu g1 g2 g3 g4 g5 g6 g7))] (mH d vh vs vr vc vu) (λy:GI=>iV y.e)
 (λy=>[pt b (.cells (cond y.ok (bL (Kd.bH d) vh vs vr y.vc y.vu g1 g2 g3 g4 g5 g6 g7) (zL g1 g2 g3 g4 g5 g6 g7)))]) (qf d) (Ca d):=by
 refine gB 52 λB w0=>?_;refine gC (Xr (d:=d) hS) λy hy=>?_;obtain⟨ok,e,v1,v2⟩:=y;cases ok with
 |false=>
  dsimp only[tQ,qf,cond,List.nil_append]at hy⊢;refine go ?_;exact gQ ⟨false,e,v1,v2⟩ hy
 |true=>
  dsimp only[tQ,qf,cond,List.cons_append,List.nil_append]at hy⊢;refine go ?_;exact gQ ⟨true,e,v1,v2⟩ hy (hF:=by show Sub [aj bV v1 (Kd.bH d).aR,aj bz v2 (Kd.bH d).rules] _;exact .cons tt (.cons tt .nil))
def ajR(hT:wN d):cK prog (.func 53) [ptr' b] [] [pt b (.cells (bL d vh vs vr vc vu g1 g2 g3 g4 g5 g6 g7))] (mH d vh vs vr vc vu) (λe:Int=>iV e)
 (λ_=>[pt b (.cells (bL d vh vs vr vc vu g1 g2 g3 g4 g5 g6 g7))]) (λ_=>[]) (λe=>e=0↔GR d):=by
 refine gB 53 λB w0=>?_;refine gC (ajO (d:=d) hT) λe he=>?_;refine go ?_;exact gQ e he
structure DrY where
 gh:Value
 gc:Value
 vn:Value
def ajT(hT:wN d)(hm:qc d.shape d.w d.h d.holes):
 cK prog (.func 54) [ptr' b] [] [pt b (.cells (bL d vh vs vr vc vu g1 g2 g3 g4 g5 g6 g7))] (mH d vh vs vr vc vu) (λ_:DrY=>iV 0)
 (λy=>[pt b (.cells (bL d vh vs vr vc vu (iV (aU d).shape) (iV (aU d).w) (iV (aU d).h) y.gh y.gc y.vn g7))])
 (λy=>[aj ai y.gh (aU d).holes,aj ai y.gc (aU d).cells,aj (aA ai) y.vn (bJ (aU d))]) (λ_=>True):=by
 have hG:=GU hm;have hgo:eU (aU d):=⟨hm,rfl⟩
 refine jH XR ajP λB w0=>?_;refine gC (Qf (s:=d.shape) (w:=d.w) (h:=d.h) (holes:=d.holes) (vh:=vh) hT.w hT.h hT.holes) λy hy=>?_;obtain⟨ok,v1,v2⟩:=y;cases ok with
 |false=>exact absurd (hy.2 hm) tt
 |true=>
 dsimp only[cond,mkV,qB];rw[show xQ d.shape d.w d.h d.holes=aU d from rfl];dsimp only[jU,jm,List.cons_append,List.nil_append];refine gC (XF (g:=aU d) (vh:=v1) (vc:=v2) hG) λy hy2=>?_;obtain⟨vn,e⟩:=y;have he:e=0:=hy2.2 hgo;subst he;refine fM (aj (uU ai) vn (bJ (aU d))) (λw hw=>hw (kZ ((0:Int)=0) (aj (uU ai) vn (bJ (aU d)))) tt rfl) ?_;refine fM (aj (aA ai) vn (bJ (aU d))) (λw hw=>VH (hw (aj (uU ai) vn (bJ (aU d))) tt)) ?_;dsimp only[xR];refine gF (aA ai) vn (bJ (aU d)) λan cn en=>?_;subst en;refine go ?_;exact gQ ⟨v1,v2,.slice an (bJ (aU d)).length cn⟩ trivial
def jD(g:bB)(k:Nat):ae (ae (ae Int)):=(List.range k).map λf:Nat=>dD g (f:Int)
def XT(g:bB)(k:Nat):jD g (k+1)=jD g k++[dD g (k:Int)]:=by
 unfold jD;rw[H7,fG,sN]
def Lc(g:bB)(k:Nat):(jD g k).length=k:=by unfold jD;simp
def ajU{gh gc vn:ah}(hT:wN d)(hm:qc d.shape d.w d.h d.holes)(hr:∀r∈d.regions,Au (aU d) r):
 cK prog (.func 55) [ptr' b] [] [pt b (.cells (bL d vh vs vr vc vu (iV (aU d).shape) (iV (aU d).w) (iV (aU d).h) gh gc vn (.slice none 0 0)))]
 [aj fw vr d.regions,aj ai gh (aU d).holes,aj ai gc (aU d).cells] (λ_:ah=>iV 0)
 (λvl=>[pt b (.cells (bL d vh vs vr vc vu (iV (aU d).shape) (iV (aU d).w) (iV (aU d).h) gh gc vn vl))])
 (λvl=>[aj (aA (aA ai)) vl (mI d)]) (λ_=>True):=by
 have hG:=GU hm;have hgo:eU (aU d):=⟨hm,rfl⟩
 have hrl:=hT.s.regs;refine gB 55 λB w0=>?_;refine gF fw vr d.regions λar cr er=>?_;subst er;refine go ?_;refine iy (aA (aA ai)) ?_;refine dX (λy:Nat×ah=>8 - y.1) (λy=>[(10,iV (y.1:Int))]) (λy=>[pt b (.cells (bL d vh vs (.slice ar d.regions.length cr) vc vu (iV (aU d).shape) (iV (aU d).w) (iV (aU d).h) gh gc vn y.2)),ap (aA (aA ai)) y.2 (jD (aU d) y.1)]) (λ_=>[]) (λy=>y.1<=8) (0,.slice none 0 0) (bP _) (hk:=tx) (body:=?_);rintro⟨k,vl⟩ hk;dsimp only at hk⊢;have hkl:=Lc (aU d) k;refine aB ?_ ?_<;>intro h1
 .refine gC (aja (g:=aU d) (vh:=gh) (vc:=gc) (k:=(k:Int)) hG) λy hy=>?_;obtain⟨v4,e⟩:=y;have he:e=0:=hy.2 ⟨hgo,tr,tr⟩;subst he;dsimp only[K8,List.cons_append,List.nil_append];refine fM (aj (aA ai) v4 (dD (aU d) (k:Int))) (λw hw=>hw (kZ ((0:Int)=0) (aj (aA ai) v4 (dD (aU d) (k:Int)))) tt rfl) ?_;refine gF (aA ai) v4 (dD (aU d) (k:Int)) λa4 c4 e4=>?_;subst e4;refine go ?_;intro b33;refine go ?_;refine fI (xs:=jD (aU d) k) (aA (aA ai)) (dD (aU d) (k:Int)) (.slice a4 (dD (aU d) (k:Int)).length c4) tr (next:=λad=>?_);rw[<- XT];refine go ?_;exact aQ (k+1,.slice ad ((jD (aU d) k).length+1) ((jD (aU d) k).length+1)) (by show 8 - (k+1)<8 - k;omega) tM
 have Qs:k=8:=tr
 subst Qs;refine go ?_;refine dX (λy:Nat×ah=>d.regions.length - y.1) (λy=>[(46,iV (y.1:Int))]) (λy=>[pt b (.cells (bL d vh vs (.slice ar d.regions.length cr) vc vu (iV (aU d).shape) (iV (aU d).w) (iV (aU d).h) gh gc vn y.2)),ap (aA (aA ai)) y.2 (jD (aU d) 8++(d.regions.take y.1).map λr=>dW (aU d) r.lists)]) (λ_=>[]) (λy=>y.1<=d.regions.length) (0,vl) (bP _) (hk:=by rw[show jD (aU d) 8++(d.regions.take 0).map (λr=>dW (aU d) r.lists)=jD (aU d) 8 from jd _];repeat (first|exact aO.nil|(apply aO.cons;(focus (repeat (first|exact aD.here|apply aD.there)))))) (body:=?_);rintro⟨k,v2⟩ hk;dsimp only at hk⊢;have hkl:(jD (aU d) 8++(d.regions.take k).map λr=>dW (aU d) r.lists).length=8+k:=by rw[ik,Lc,bZ,iY];omega
 refine aB ?_ ?_<;>intro h1
 .refine gX fw (xs:=d.regions) λ_ _ r (vr2:ah) GV=>?_;have hrm:=aS GV;obtain⟨hl1,hl2⟩:=hT.s.tV r hrm;obtain⟨⟨_,hro⟩,_⟩:=hr r hrm;refine go ?_;intro b7;refine gC (XJ (g:=aU d) (rs:=r.lists) hG hl1 hl2) λy hy=>?_;obtain⟨v8,e⟩:=y;have he:e=0:=hy.2 ⟨hgo,hro⟩;subst he;dsimp only[La,List.cons_append,List.nil_append];refine fM (aj (aA ai) v8 (dW (aU d) r.lists)) (λw hw=>hw (kZ ((0:Int)=0) (aj (aA ai) v8 (dW (aU d) r.lists))) tt rfl) ?_;refine gF (aA ai) v8 (dW (aU d) r.lists) λa8 c8 e8=>?_;subst e8;refine go ?_;intro b71;refine go ?_;have htk:jD (aU d) 8++(d.regions.take (k+1)).map (λr=>dW (aU d) r.lists)=(jD (aU d) 8++(d.regions.take k).map λr=>dW (aU d) r.lists)++[dW (aU d) r.lists]:=by
   rw[cB GV,fG,sN,gz]
  refine fI (xs:=jD (aU d) 8++(d.regions.take k).map λr=>dW (aU d) r.lists) (aA (aA ai)) (dW (aU d) r.lists) (.slice a8 (dW (aU d) r.lists).length c8) tr (next:=λad=>?_);rw[<- htk];refine go ?_;exact aQ (k+1,.slice ad ((jD (aU d) 8++(d.regions.take k).map λr=>dW (aU d) r.lists).length+1) ((jD (aU d) 8++(d.regions.take k).map λr=>dW (aU d) r.lists).length+1)) A3 tM
 have hke:k=d.regions.length:=tr
 subst hke;rw[bM];rw[show jD (aU d) 8++d.regions.map (λr=>dW (aU d) r.lists)=mI d from rfl];refine gZ (gI (E:=aA (aA ai)) (v:=v2) (xs:=mI d)) ?_;refine go ?_;exact gQ v2 trivial
end Go.Proofs.YtignbinlipkmfaaGreatDoor
namespace Go.Proofs.YtignbinlipkmfaaGreatDoor
open Tryz (prog)
open Go.Ideal Kd
abbrev ajY:ae ah:=zL (iV 0) (iV 0) (iV 0) (.slice none 0 0) (.slice none 0 0) (.slice none 0 0) (.slice none 0 0)
abbrev mM(k:bN)(vh vs vr vc vu gh gc vn vl:ah):ae ah:=bL k.decl vh vs vr vc vu (iV k.grid.shape) (iV k.grid.w) (iV k.grid.h) gh gc vn vl
abbrev lN(k:bN)(vh vs vr vc vu gh gc vn vl:ah)(F:ae aP):ae aP:=aj ai vh k.decl.holes::aj eT vs k.decl.symbols::aj fw vr k.decl.regions::aj bV vc k.decl.aR::aj bz vu k.decl.rules::aj ai gh k.grid.holes::aj ai gc k.grid.cells::aj (aA ai) vn k.aK::aj (aA (aA ai)) vl k.lists::F
structure GX(d:bG):Prop where
 rs:DV d
 typ:GR (Kd.bH d)
structure eY(k:bN):Prop where
 b:GX k.decl
 e:k=lJ (Kd.bH k.decl)
structure Qt where
 ok:Bool
 e:Int
 vc:Value
 vu:Value
 gh:Value
 gc:Value
 vn:Value
 vl:Value
abbrev El(d:bG)(vh vs vr:ah)(y:Qt):ah:=.tuple ⟨[.agg ⟨cond y.ok (mM (lJ (Kd.bH d)) vh vs vr y.vc y.vu y.gh y.gc y.vn y.vl) ajY⟩,iV y.e]⟩
abbrev Em(d:bG)(vh vs vr:ah)(y:Qt):ae aP:=cond y.ok [aj bV y.vc (Kd.bH d).aR,aj bz y.vu (Kd.bH d).rules,aj ai y.gh (aU (Kd.bH d)).holes,aj ai y.gc (aU (Kd.bH d)).cells,aj (aA ai) y.vn (bJ (aU (Kd.bH d))),aj (aA (aA ai)) y.vl (mI (Kd.bH d))] []
def Ld(d:bG)(y:Qt):Prop:=(y.ok=true->y.e=0/\GX d)/\(y.ok=false->y.e≠0/\¬GX d)
variable{vh vs vr vc vu:ah}
def ajZ{d:bG}(hT:wN d):cK prog (.func 26) [.agg ⟨gW d vh vs vr vc vu⟩] [] [] (mH d vh vs vr vc vu) (El d vh vs vr) (λ_=>[]) (Em d vh vs vr) (Ld d):=by
 have wO:wN (Kd.bH d):=⟨hT.s.bH,hT.w,hT.h,hT.holes⟩
 have hend:∀{e:Int} {vc vu gh gc vn vl:ah},e≠0->¬GX d->Ld d ⟨false,e,vc,vu,gh,gc,vn,vl⟩:=λhe hb=>⟨(λh=>by cases h),λ_=>⟨he,hb⟩⟩
 refine gB 26 λB w0=>?_;refine go ?_;intro b1 b2 b4 b15;refine qa ?_;refine gC (ajQ (b:=b4) (d:=d) hT.s) λy hy=>?_;obtain⟨ok,e,v1,v2⟩:=y;cases ok with
 |false=>
  obtain⟨he,hno⟩:=hy.2 rfl;dsimp only[cond,qf,List.nil_append]at he⊢;exact js
 |true=>
 obtain⟨he,hres⟩:=hy.1 rfl;have he:e=0:=he;subst he;clear hy;dsimp only[cond,qf,List.cons_append,List.nil_append];refine fM (aj ai vh (Kd.bH d).holes) (λw hw=>hw (aj ai vh d.holes) tt) ?_;refine fM (aj eT vs (Kd.bH d).symbols) (λw hw=>hw (aj eT vs d.symbols) tt) ?_;refine fM (aj fw vr (Kd.bH d).regions) (λw hw=>hw (aj fw vr d.regions) tt) ?_;refine go ?_;refine qa ?_;refine gC (ajR (b:=b4) (d:=Kd.bH d) (vc:=v1) (vu:=v2) wO) λe he=>?_;refine aB (λhne=>?_) (λhz=>?_)
 .refine go ?_;exact gQ ⟨false,e,v1,v2,v1,v1,v1,v1⟩ (hend hne λh=>hne (he.2 h.typ))
 have hty:=he.1 (iD.1 hz);clear he hz;refine go ?_;refine qa ?_;refine gC (ajT (b:=b4) (d:=Kd.bH d) (vc:=v1) (vu:=v2) wO hty.Ej) λy _=>?_;obtain⟨gh,gc,vn⟩:=y;dsimp only[List.cons_append,List.nil_append];refine go ?_;refine qa ?_;refine gC (ajU (b:=b4) (d:=Kd.bH d) (vc:=v1) (vu:=v2) wO hty.Ej hty.Av) λvl _=>?_;dsimp only[List.cons_append,List.nil_append];refine go ?_;refine qa ?_;refine go ?_;refine gQ ⟨true,0,v1,v2,gh,gc,vn,vl⟩ ⟨λ_=>⟨rfl,hres,hty⟩,(λh=>by cases h)⟩ (hF:=?_);show Sub [aj bV v1 (Kd.bH d).aR,aj bz v2 (Kd.bH d).rules,aj ai gh (aU (Kd.bH d)).holes,aj ai gc (aU (Kd.bH d)).cells,aj (aA ai) vn (bJ (aU (Kd.bH d))),aj (aA (aA ai)) vl (mI (Kd.bH d))] _;exact .cons tt (.cons tt (.cons tt (.cons tt (.cons tt (.cons tt .nil)))))
structure ug(k:bN):Prop where
 d:wN k.decl
 g:si k.grid
 aK:k.aK.length<2^63/\∀l∈k.aK,l.length<2^63
 lists:k.lists.length<2^63/\∀l∈k.lists,l.length<2^63/\∀m∈l,m.length<2^63
def aj0{x y:bN}{h1 s1 r1 c1 u1 Aw Ay n1 l1 h2 s2 r2 c2 u2 Az AA n2 l2:ah}(hS:ug x):dL prog 62 [.agg ⟨mM x h1 s1 r1 c1 u1 Aw Ay n1 l1⟩,.agg ⟨mM y h2 s2 r2 c2 u2 Az AA n2 l2⟩]
 (lN x h1 s1 r1 c1 u1 Aw Ay n1 l1 (lN y h2 s2 r2 c2 u2 Az AA n2 l2 [])) (.bool (decide (x=y))):=by
 have e1:=hS.d.s;have e2:=hS.g.holes;have e3:=hS.g.cells;obtain⟨e4,e5⟩:=hS.aK;obtain⟨e6,e7⟩:=hS.lists;clear hS;obtain⟨xd,⟨xs,xw,xh,Ck,Cm⟩,xn,xl⟩:=x;obtain⟨yd,⟨ys,yw,yh,Qu,GY⟩,yn,yl⟩:=y;dsimp only at e1 e2 e3 e4 e5 e6 e7;dsimp only[mM,lN];refine gB 62 λB w0=>?_;refine go ?_;intro b2 b3;refine gH ?_ ?_<;>intro k1
 .exact gb
 refine gH ?_ ?_<;>intro k2
 .exact ga
 refine gH ?_ ?_<;>intro k3
 .exact fW
 refine gC (uY (xs:=Ck) (ys:=Qu) tr) λ_ _=>?_;refine gH ?_ ?_<;>intro k4
 .exact fS
 refine gC (uY (xs:=Cm) (ys:=GY) tr) λ_ _=>?_;refine gH ?_ ?_<;>intro k5
 .exact jp
 refine go ?_;have hsy:dL prog 101 [.agg ⟨gW xd h1 s1 r1 c1 u1⟩,.agg ⟨gW yd h2 s2 r2 c2 u2⟩] [aj ai h1 xd.holes,aj eT s1 xd.symbols,aj fw r1 xd.regions,aj bV c1 xd.aR,aj bz u1 xd.rules,aj ai h2 yd.holes,aj eT s2 yd.symbols,aj fw r2 yd.regions,aj bV c2 yd.aR,aj bz u2 yd.rules] (.bool (decide (xd=yd))):=Xx e1;refine eO hsy (next:=λ_ _=>?_);refine gH ?_ ?_<;>intro k6
 .exact fR
 refine gC (Xv (xs:=xn) (ys:=yn) e4 e5) λ_ _=>?_;refine gH ?_ ?_<;>intro k7
 .exact fN
 refine gC (air (xs:=xl) (ys:=yl) e6 e7) λ_ _=>?_;refine aM ?_;subst k1 k2 k3 k4 k5 k6 k7;rw[show decide (bN.mk xd ⟨xs,xw,xh,Ck,Cm⟩ xn xl=bN.mk xd ⟨xs,xw,xh,Ck,Cm⟩ xn yl)=decide (xl=yl)from pJ.2 ⟨λh=>by cases h;rfl,λh=>by rw[h]⟩];rfl
def aj1{k:bN}{gh gc vn vl:ah}(hS:ug k):fC prog 32 [.agg ⟨mM k vh vs vr vc vu gh gc vn vl⟩] (lN k vh vs vr vc vu gh gc vn vl []) (λb:Bool=>iV (cond b 0 180)) (λb=>b=true↔eY k):=by
 refine gB 32 λB w0=>?_;refine go ?_;intro b1;refine gC (ajZ (d:=k.decl) hS.d) λy hy=>?_;obtain⟨ok,e,v1,v2,v3,v4,v5,v6⟩:=y;cases ok with
 |false=>
  exact ef
 |true=>
 obtain⟨he,hb⟩:=hy.1 rfl;have he:e=0:=he;subst he;clear hy;dsimp only[cond,El,Em,List.cons_append,List.nil_append];refine go ?_;intro b3;refine go ?_;have hsm:=aj0 (x:=k) (y:=lJ (Kd.bH k.decl)) (h1:=vh) (s1:=vs) (r1:=vr) (c1:=vc) (u1:=vu) (Aw:=gh) (Ay:=gc) (n1:=vn) (l1:=vl) (h2:=vh) (s2:=vs) (r2:=vr) (c2:=v1) (u2:=v2) (Az:=v3) (AA:=v4) (n2:=v5) (l2:=v6) hS;refine fM (aj ai vh (lJ (Kd.bH k.decl)).decl.holes) (λw hw=>hw (aj ai vh k.decl.holes) tt) ?_;refine fM (aj eT vs (lJ (Kd.bH k.decl)).decl.symbols) (λw hw=>hw (aj eT vs k.decl.symbols) tt) ?_;refine fM (aj fw vr (lJ (Kd.bH k.decl)).decl.regions) (λw hw=>hw (aj fw vr k.decl.regions) tt) ?_;refine fM (aj bV v1 (lJ (Kd.bH k.decl)).decl.aR) (λw hw=>hw (aj bV v1 (Kd.bH k.decl).aR) tt) ?_;refine fM (aj bz v2 (lJ (Kd.bH k.decl)).decl.rules) (λw hw=>hw (aj bz v2 (Kd.bH k.decl).rules) tt) ?_;refine fM (aj ai v3 (lJ (Kd.bH k.decl)).grid.holes) (λw hw=>hw (aj ai v3 (aU (Kd.bH k.decl)).holes) tt) ?_;refine fM (aj ai v4 (lJ (Kd.bH k.decl)).grid.cells) (λw hw=>hw (aj ai v4 (aU (Kd.bH k.decl)).cells) tt) ?_;refine fM (aj (aA ai) v5 (lJ (Kd.bH k.decl)).aK) (λw hw=>hw (aj (aA ai) v5 (bJ (aU (Kd.bH k.decl)))) tt) ?_;refine fM (aj (aA (aA ai)) v6 (lJ (Kd.bH k.decl)).lists) (λw hw=>hw (aj (aA (aA ai)) v6 (mI (Kd.bH k.decl))) tt) ?_;refine eO hsm (next:=λ_ _=>?_);refine go ?_;refine fu rfl (λh3=>?_) (λh3=>?_)
 .exact pH
 .exact rp
end Go.Proofs.YtignbinlipkmfaaGreatDoor
namespace Go.Proofs.YtignbinlipkmfaaGreatDoor
open Tryz (prog)
open Go.Ideal Canon
open Go.Ideal Kd Canon
structure aj2(p:List Clue):Prop where
 len:p.length<2^63
 vals:∀g∈p,g.values.length<2^63
variable{k:bN}
def eY.decl(h:eY k):k.decl=Kd.bH k.decl:=congrArg bN.decl h.e
def eY.lists(h:eY k):k.lists=mI k.decl:=by
 have:=congrArg bN.lists h.e;have h2:(lJ (Kd.bH k.decl)).lists=mI (Kd.bH k.decl):=rfl;exact rh
def eY.grid(h:eY k):k.grid=aU k.decl:=by
 have:=congrArg bN.grid h.e;have h2:(lJ (Kd.bH k.decl)).grid=aU (Kd.bH k.decl):=rfl;exact rh
def eY.aK(h:eY k):k.aK=bJ (aU k.decl):=by
 have:=congrArg bN.aK h.e;have h2:(lJ (Kd.bH k.decl)).aK=bJ (aU (Kd.bH k.decl)):=rfl;exact rh
def eY.typ(h:eY k):GR k.decl:=by
 have:=h.b.typ;rw[<- h.decl]at this;exact this
def eY.jq(h:eY k):Wq k:=by
 intro c hc;rw[h.decl]at hc;obtain⟨q,hq,rfl⟩:=eF.1 (show c∈k.decl.aR.map (mR (cZ k.decl))from hc);have h1:=yS (h.b.rs.Pj q hq);have h2:(cZ k.decl).length=8+k.decl.regions.length:=by
  unfold cZ;rw[ik,bZ];rfl
 have h3:k.lists.length=8+k.decl.regions.length:=by
  rw[h.lists];unfold mI;rw[ik,bZ,bZ,qm]
 show 0<=((dV q.on (cZ k.decl):Nat):Int)/\((dV q.on (cZ k.decl):Nat):Int)<_;omega
abbrev Qv(k:bN)(grid:ae Int):Prop:=Fin (k.grid.cells.length:Int) (k.decl.symbols.length:Int) grid
structure ao8(k:bN)(p:List Clue)(grid:List Int)(e:Int):Prop where
 nk:¬eY k->e=180
 nf:eY k->¬Qv k grid->e=200
 np:eY k->Qv k grid->¬D5 k p->e=190
 ok:eY k->Qv k grid->D5 k p->e=0
end Go.Proofs.YtignbinlipkmfaaGreatDoor
namespace Go.Proofs.YtignbinlipkmfaaGreatDoor
open Tryz (prog)
open Go.Ideal Kd Canon
def kQ(k:bN):ae Int:=k.decl.symbols.map (·.value)
structure XU(k:bN)(r:bE):Prop where
 jq:0<=r.family/\r.family<k.lists.length
 aX:r.aX<k.decl.aR.length
structure XV(k:bN)(p:List Clue)(grid:List Int)(r:bE)(set other:Nat):Prop where
 s:ug k
 ps:aj2 p
 jq:Wq k
 rin:XU k r
 right:∀g∈p,Gt k g
 gri:Xc grid
 cells:∀x∈Kz k p r,Xd grid x.1
 vals:Xe (kQ k) grid
 cO:lF k.aK
 Ap:grid.length=k.aK.length
 st:r.set=(set:Int)/\set<2^63
 ot:r.other=(other:Int)/\other<2^63
 kind:1<=r.kind/\r.kind<=11
 giv:r.kind=2\/r.kind=3\/r.kind=11->∀x∈Kz k p r,0<x.2.length
 few:∀x∈Kz k p r,x.1.length<=4096
 one:r.kind=11->∀x∈Kz k p r,0<x.1.length
section
variable {k:bN} {p:ae Clue} {grid:ae Int} {r:bE} {set other:Nat} {bv br:Nat} {vh vs vr vc vu gh gc vn vl vp vg vv v1 v2:ah}
def XV.aK(H:XV k p grid r set other):∀l∈k.aK,∀b∈l,0<=b/\b<grid.length:=by
 intro l hl b hb;obtain⟨i,hi⟩:=jM hl;obtain⟨j,hj⟩:=jM hb;have:=H.cO.ok i l hi j b hj;have:=H.Ap;omega
end
structure Cn(k:bN):Prop where
 dw:lI k.decl.w
 dh:lI k.decl.h
 gw:lI k.grid.w
 gh:lI k.grid.h
 holes:k.decl.holes.length<2^63
 dG:k.decl.symbols.length<2^63
 regs:k.decl.regions.length<2^63
 tV:∀r∈k.decl.regions,r.lists.length<2^63/\∀l∈r.lists,l.length<2^63
 kD:k.decl.aR.length<2^63
 l7:k.decl.rules.length<2^63
 tT:∀r∈k.decl.rules,r.names.length<2^63/\r.others.length<2^63
 Lf:k.grid.holes.length<2^63
 cells:k.grid.cells.length<2^63
 aK:k.aK.length<2^63/\∀l∈k.aK,l.length<2^63
 lists:k.lists.length<2^63/\∀l∈k.lists,l.length<2^63/\∀m∈l,m.length<2^63
structure aj3(k:bN):Prop where
 cells:k.grid.cells.length<=16
 Lf:k.grid.holes.length<=256
 aK:k.aK.length<=20
 lists:k.lists.length<=12
 dG:k.decl.symbols.length<=6
 regs:k.decl.regions.length<=6
 kD:k.decl.aR.length<=6
 l7:k.decl.rules.length<=10
 holes:k.decl.holes.length<=256
 each:∀l∈k.lists,l.length<=40
 reg:∀r∈k.decl.regions,r.lists.length<=20
def ug.of{k:bN}(hB:Cn k)(hF:aj3 k):ug k:=by
 have f1:=hF.cells;have f2:=hF.Lf;have f5:=hF.dG;have f6:=hF.regs;have f7:=hF.kD;have f8:=hF.l7;have f9:=hF.holes;exact gR
def XW{k:Int}(h:(gy k).read=true):1<=k/\k<=11:=by
 apply Classical.byContradiction;intro hn;have hc:(k<0\/14<=k)\/k=0\/k=12\/k=13:=tr
 rcases hc with hc|rfl|rfl|rfl
 .rw[Ei hc]at h;cases h
 .cases h
 .cases h
 .cases h
def XX{dG:ae ByteArray}(hs:dG.length<=16):∀(l:ae ByteArray),(∀s∈l,s∈dG)->gq dG l<2^16:=by
 have h:∀(l:ae ByteArray) (m:Nat),m<2^16->(∀s∈l,s∈dG)->l.foldl (λm s=>m|||1<<<dV s dG) m<2^16:=by
  exact eC
 intro l hl;exact h l 0 tA hl
variable{k:bN}
def eY.oH(h:eY k){r:bE}(hr:r∈k.decl.rules):∃q∈k.decl.rules,r=nS (bS k.decl) (cZ k.decl) (dM k.decl) q:=by
 have h1:r∈(Kd.bH k.decl).rules:=by rw[<- h.decl];exact hr
 obtain⟨q,hq,e⟩:=eF.1 (show r∈k.decl.rules.map (nS (bS k.decl) (cZ k.decl) (dM k.decl))from h1);exact⟨q,hq,e.symm⟩
def eY.je(h:eY k):k.lists.length=8+k.decl.regions.length:=by
 rw[h.lists];unfold mI;rw[ik,bZ,bZ,qm]
def eY.cO(h:eY k):eU (aU k.decl):=⟨h.typ.Ej,rfl⟩
def eY.inr(h:eY k){r:bE}(hr:r∈k.decl.rules):XU k r:=by
 obtain⟨q,hq,rfl⟩:=h.oH hr;have hro:=h.b.rs.oH q hq;have hl:=h.je;have hfl:(cZ k.decl).length=8+k.decl.regions.length:=by
  unfold cZ;rw[ik,bZ];rfl
 refine⟨?_,?_⟩
 .show 0<=(if q.on=⟨⟨[]⟩⟩then(0:Int)else(dV q.on (cZ k.decl):Int))/\(if q.on=⟨⟨[]⟩⟩then(0:Int)else(dV q.on (cZ k.decl):Int))<_;by_cases e:q.on=⟨⟨[]⟩⟩
  .rw[if_pos e];omega
  .rw[if_neg e];have:=yS (hro.on.resolve_left e);omega
 .show(if q.dB=⟨⟨[]⟩⟩then(-1:Int)else(dV q.dB (dM k.decl):Int))<_;by_cases e:q.dB=⟨⟨[]⟩⟩
  .rw[if_pos e];omega
  .rw[if_neg e];have h1:=yS (hro.dB.resolve_left e);have h2:(dM k.decl).length=k.decl.aR.length:=by unfold dM;rw[bZ]
   omega
end Go.Proofs.YtignbinlipkmfaaGreatDoor
namespace Go.Proofs.YtignbinlipkmfaaGreatDoor
open Tryz (prog)
open Go.Ideal Kd Canon Gph
structure RF(k:bN)(r:bE):Prop where
 kd:1<=r.kind/\r.kind<=11
 x:wM (gy r.kind) k.decl.aR r
 by0:r.dB=qh↔r.aX<0
 s1:∃n:Nat,r.set=(n:Int)/\n<2^k.decl.symbols.length
 s2:∃n:Nat,r.other=(n:Int)/\n<2^k.decl.symbols.length
 f0:0<=r.family/\r.family<k.lists.length
 cl:0<=r.aX->(r.kind=2\/r.kind=3\/r.kind=5\/r.kind=11)/\∃c,k.decl.aR[r.aX.toNat]? =some c/\c.family=BQ r/\qg c/\(r.kind=2\/r.kind=3->c.type=2)/\(r.kind=5->c.type=3)/\(r.kind=11->c.type=1)
 ncl:r.kind=5\/r.kind=11->0<=r.aX
 op:r.kind=2\/r.kind=3->1<=r.op/\r.op<=3
def XY{dG:ae ByteArray}:∀(l:ae ByteArray),(∀s∈l,s∈dG)->gq dG l<2^dG.length:=by
 have h:∀(l:ae ByteArray) (m:Nat),m<2^dG.length->(∀s∈l,s∈dG)->l.foldl (λm s=>m|||1<<<dV s dG) m<2^dG.length:=by
  exact eC
 intro l hl;exact h l 0 (Nat.two_pow_pos _) hl
variable{k:bN}
def eY.rf(hK:eY k){r:bE}(hr:r∈k.decl.rules):RF k r:=by
 have hty:=hK.typ;have hin:=hK.inr hr;obtain⟨q,hq,hre⟩:=hK.oH hr;have hro:=hK.b.rs.oH q hq;have hrx:=hty.form.l7 r hr;have hkd:1<=r.kind/\r.kind<=11:=by
  refine XW ?_;have:=hty.read;exact gg
 have hsl:(bS k.decl).length=k.decl.symbols.length:=by unfold bS;rw[bZ]
 have hb1:r.dB=q.dB:=AE
 have hb2:r.aX=if q.dB=qh then(-1:Int)else(dV q.dB (dM k.decl):Int):=AE
 have hby:r.dB=qh↔r.aX<0:=by
  rw[hb1,hb2];by_cases e:q.dB=qh
  .rw[if_pos e];exact⟨λ_=>by omega,λ_=>e⟩
  .rw[if_neg e];exact⟨λh=>absurd h e,λh=>by omega⟩
 refine⟨hkd,hrx,hby,⟨gq (bS k.decl) q.names,by rw[hre];rfl,by rw[<- hsl];exact XY _ hro.names⟩,⟨gq (bS k.decl) q.others,by rw[hre];rfl,by rw[<- hsl];exact XY _ hro.others⟩,hin.jq,?_,?_,?_⟩
 .intro hc;have hne:r.dB≠qh:=λe=>by have:=hby.1 e;omega
  rcases hrx.XM _ rfl with⟨_,a,_⟩|⟨a0,a1,a2,c,a3,a4,a5⟩
  .exact absurd a hne
  have hcp:=(hty.form.kD _ c a3).2;have hk:r.kind=1\/r.kind=2\/r.kind=3\/r.kind=4\/r.kind=5\/r.kind=6\/r.kind=7\/r.kind=8\/r.kind=9\/r.kind=10\/r.kind=11:=tr
  have hf:∀f:Int,BQ r=f->c.family=f->c.family=BQ r:=λf h1 h2=>by omega
  rcases hk with e|e|e|e|e|e|e|e|e|e|e<;>rw[e]at a0 a4 a5<;>simp[gy,hne]at a0 a4 a5
  .exact da
  .exact da
  .exact da
  .refine⟨tr,c,a3,?_,hcp,tr,tr,tr⟩;unfold BQ;rw[if_neg tr,if_neg tr,if_pos e];unfold qg at hcp;omega
 .intro h;rcases hrx.XM _ rfl with⟨a0,_,_⟩|⟨_,a1,_⟩
  .rcases h with e|e<;>rw[e]at a0<;>simp[gy]at a0
  .exact a1
 .intro h;refine hrx.op.1 ?_;rcases h with e|e<;>rw[e]<;>rfl
def RF.vals{p:ae Clue}{r:bE}{ls:ae (ae Int)}(h:RF k r)(hQ:D5 k p){y:Nat×ae Int×ae Int}(hy:y∈PG p r ls):
 (r.aX<0/\y.2.2=[])\/(0<=r.aX/\∃c,k.decl.aR[r.aX.toNat]? =some c/\qg c/\((c.type=1/\r.kind=11/\y.2.2.length=1/\∀x∈y.2.2,0<=x/\x<=(k.decl.symbols.length:Int) - 1)\/(c.type=2/\(r.kind=2\/r.kind=3)/\y.2.2.length=1/\∀x∈y.2.2,0<=x/\x<=65536)\/
   (c.type=3/\r.kind=5/\y.2.2.length<=8/\∀x∈y.2.2,1<=x/\x<=256))):=by
 obtain⟨h1,h2⟩:=ahp.1 hy;rcases h2 with h2|⟨h2,h3⟩
 .exact .inl h2
 right;refine⟨h2,?_⟩;obtain⟨hk,c,c1,c2,c3,c4,c5,c6⟩:=h.cl h2;refine⟨c,c1,c3,?_⟩;obtain⟨g,g1,g2,g3,g4⟩:=(aho hQ).1 h3;obtain⟨c',l,a1,a2,a3,a4,a5,a6⟩:=hQ.right g g1;rw[g2,c1]at a2;cases a2;rw[g4]at a6;have hcp:=c3;unfold qg at hcp;have hn:∀x:Int,c.lo<=x/\x<=c.hi->c.type=2->0<=x/\x<=65536:=λx hx ht=>by omega
 rcases a6 with⟨b1,b2,b3⟩|⟨b1,b2,b3⟩|⟨b1,b2,b3,b4⟩
 .exact .inl ⟨b1,tr,b2,b3⟩
 .exact .inr (.inl ⟨b1,tr,b2,λx hx=>hn x (b3 x hx) b1⟩)
 .exact .inr (.inr ⟨tr,tr,b3,b4⟩)
