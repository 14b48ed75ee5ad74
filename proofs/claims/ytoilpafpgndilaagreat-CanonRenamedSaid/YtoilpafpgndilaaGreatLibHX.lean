/-
  Part LibHX.
-/
import Derived.Test.YtoilpafpgndilaaGreatLibGX
set_option linter.all false
set_option maxRecDepth 10000
set_option maxHeartbeats 4000000
namespace Go.Proofs.YtoilpafpgndilaaGreat
open Go.Ideal Kd
noncomputable def VZ:gV:=⟨51,[(.tmp 2)],(.seq (kO [kS 2 (.nD (kI 0))]) (.seq (.seq (kO [kM 4 0,kM 5 0,kS 6 (.lm 5),kS 7 (.fQ 0 6),kS 8 (.fQ 0 7),kS 9 (.fQ 2 8),kS 10 (.gQ 9),kM 11 0,kS 12 (.lm 11),kS 13 (.fQ 0 12),kS 14 (.fQ 0 13),kS 15 (.fQ 3 14),kS 16 (.gQ 15),kM 17 0,kS 18 (.lm 17),kS 19 (.fQ 0 18),kS 20 (.fQ 0 19),kS 21 (.fQ 4 20),kS 22 (.gQ 21),kM 23 0,kS 24 (.lm 23),kS 25 (.fQ 0 24),kS 26 (.fQ 0 25),kS 27 (.fQ 5 26),kS 28 (.gQ 27),kS 29 (kC 208 [10,16,22,28]),kM 3 29,kS 30 (.extract 3 0),kS 31 (.extract 3 1),kS 32 (.lm 4),kS 33 (.fQ 0 32),kS 34 (.fQ 10 33),kN (.store 5 34 30),kS 2 (.nD 31)]) (.seq (kO [kM 35 2,kS 36 (.bin .eql 43 35 (kI 0))]) (.cond 36 (kO [kM 38 0,kM 39 0,kS 40 (.lm 39),kS 41 (.fQ 0 40),kS 42 (.fQ 10 41),kS 43 (.pW 5 42),kS 44 (kC 209 [43]),kM 37 44,kS 45 (.extract 37 0),kS 46 (.extract 37 1),kS 47 (.lm 38),kS 48 (.fQ 0 47),kS 49 (.fQ 15 48),kN (.store 1 49 45),kS 2 (.nD 46)]) .skip))) (.seq (kO [kM 50 2,kS 2 (.nD 50)]) .ret)))⟩
theorem agL:mO Tryz.prog 140=some VZ:=by kernel_rfl
abbrev bL(d:bF)(vh vs vr vc vu g1 g2 g3 g4 g5 g6 g7:Value):List Value:=[.string d.name,.int .i64 d.version,.int .i64 d.shape,.int .i64 d.w,.int .i64 d.h,vh,vs,vr,vc,vu,g1,g2,g3,g4,g5,g6,g7]
abbrev zL(g1 g2 g3 g4 g5 g6 g7:Value):List Value:=[.string ⟨⟨[]⟩⟩,.int .i64 0,.int .i64 0,.int .i64 0,.int .i64 0,.slice none 0 0,.slice none 0 0,.slice none 0 0,.slice none 0 0,.slice none 0 0,g1,g2,g3,g4,g5,g6,g7]
theorem agM{b:Nat}{d:bF}{vh vs vr vc vu g1 g2 g3 g4 g5 g6 g7:Value}(hS:ng d):bA Tryz.prog (.func 138) [ptr' b] [] [pt b (.cells (bL d vh vs vr vc vu g1 g2 g3 g4 g5 g6 g7))] (lG d vh vs vr vc vu) (λy:FE=>.int .i64 y.e)
 (λy=>[pt b (.cells (cond y.ok (bL (Kd.bE d) vh vs vr y.vc y.vu g1 g2 g3 g4 g5 g6 g7) (zL g1 g2 g3 g4 g5 g6 g7)))]) (oL d) (Bg d):=by
 refine aM _ (aP 138) λB w0=>?_;refine go ?_;refine ay (Vy (d:=d) hS) (next:=λy hy=>?_);obtain⟨ok,e,v1,v2⟩:=y;cases ok with
 |false=>
  dsimp only[rX,oL,cond,List.nil_append]at hy⊢;refine go ?_;exact ah ⟨false,e,v1,v2⟩ (hv:=rfl) (hp:=hy)
 |true=>
  dsimp only[rX,oL,cond,List.cons_append,List.nil_append]at hy⊢;refine go ?_;exact ah ⟨true,e,v1,v2⟩ (hv:=rfl) (hp:=hy) (hF:=by show Sub [ai bI v1 (Kd.bE d).aJ,ai aY v2 (Kd.bE d).rules] _;exact .cons (by simp) (.cons (by simp) .nil))
theorem agN{b:Nat}{d:bF}{vh vs vr vc vu g1 g2 g3 g4 g5 g6 g7:Value}(hT:vC d):bA Tryz.prog (.func 139) [ptr' b] [] [pt b (.cells (bL d vh vs vr vc vu g1 g2 g3 g4 g5 g6 g7))] (lG d vh vs vr vc vu) (λe:Int=>.int .i64 e)
 (λ_=>[pt b (.cells (bL d vh vs vr vc vu g1 g2 g3 g4 g5 g6 g7))]) (λ_=>[]) (λe=>e=0↔FO d):=by
 refine aM _ (aP 139) λB w0=>?_;refine go ?_;refine ay (agK (d:=d) hT) (next:=λe he=>?_);refine go ?_;exact ah e (hv:=rfl) (hp:=he)
structure DrY where
 gh:Value
 gc:Value
 vn:Value
theorem agP{b:Nat}{d:bF}{vh vs vr vc vu g1 g2 g3 g4 g5 g6 g7:Value}(hT:vC d)(hm:oH d.shape d.w d.h d.holes):
 bA Tryz.prog (.func 140) [ptr' b] [] [pt b (.cells (bL d vh vs vr vc vu g1 g2 g3 g4 g5 g6 g7))] (lG d vh vs vr vc vu) (λ_:DrY=>.int .i64 0)
 (λy=>[pt b (.cells (bL d vh vs vr vc vu (.int .i64 (aT d).shape) (.int .i64 (aT d).w) (.int .i64 (aT d).h) y.gh y.gc y.vn g7))])
 (λy=>[ai ae y.gh (aT d).holes,ai ae y.gc (aT d).cells,ai (ak ae) y.vn (bJ (aT d))]) (λ_=>True):=by
 have hG:=FP hm;have hgo:fE (aT d):=⟨hm,rfl⟩
 refine aM VZ agL λB w0=>?_;refine go ?_;refine ay (Om (s:=d.shape) (w:=d.w) (h:=d.h) (holes:=d.holes) (vh:=vh) hT.w hT.h hT.holes) (next:=λy hy=>?_);obtain⟨ok,v1,v2⟩:=y;cases ok with
 |false=>exact absurd (hy.2 hm) (by simp)
 |true=>
 dsimp only[cond,mkV,pM];rw[show wH d.shape d.w d.h d.holes=aT d from rfl];dsimp only[jq,iO,List.cons_append,List.nil_append];refine go ?_;refine ay (VN (g:=aT d) (vh:=v1) (vc:=v2) hG) (next:=λy hy2=>?_);obtain⟨vn,e⟩:=y;have he:e=0:=hy2.2 hgo;subst he;refine eF (ai (tY ae) vn (bJ (aT d))) (λw hw=>hw (jr ((0:Int)=0) (ai (tY ae) vn (bJ (aT d)))) (by simp) rfl) ?_;refine eF (ai (ak ae) vn (bJ (aT d))) (λw hw=>TP (hw (ai (tY ae) vn (bJ (aT d))) (by simp))) ?_;dsimp only[wI];refine aS (E:=ak ae) (v:=vn) (xs:=bJ (aT d)) (by simp) λan cn en=>?_;subst en;refine go ?_;exact ah ⟨v1,v2,.slice an (bJ (aT d)).length cn⟩ (hv:=rfl) (hp:=trivial)
def ja(g:bz)(k:Nat):List (List (List Int)):=(List.range k).map λf:Nat=>dM g (f:Int)
theorem V3(g:bz)(k:Nat):ja g (k+1)=ja g k++[dM g (k:Int)]:=by
 unfold ja;rw[Gm,fP,sQ]
theorem JQ(g:bz)(k:Nat):(ja g k).length=k:=by unfold ja;simp
theorem agQ{b:Nat}{d:bF}{vh vs vr vc vu gh gc vn:Value}(hT:vC d)(hm:oH d.shape d.w d.h d.holes)(hr:∀r∈d.regions,zy (aT d) r):
 bA Tryz.prog (.func 141) [ptr' b] [] [pt b (.cells (bL d vh vs vr vc vu (.int .i64 (aT d).shape) (.int .i64 (aT d).w) (.int .i64 (aT d).h) gh gc vn (.slice none 0 0)))]
 [ai eY vr d.regions,ai ae gh (aT d).holes,ai ae gc (aT d).cells] (λ_:Value=>.int .i64 0)
 (λvl=>[pt b (.cells (bL d vh vs vr vc vu (.int .i64 (aT d).shape) (.int .i64 (aT d).w) (.int .i64 (aT d).h) gh gc vn vl))])
 (λvl=>[ai (ak (ak ae)) vl (oI d)]) (λ_=>True):=by
 have hG:=FP hm;have hgo:fE (aT d):=⟨hm,rfl⟩
 have hrl:=hT.s.regs;refine aM _ (aP 141) λB w0=>?_;refine aS (E:=eY) (v:=vr) (xs:=d.regions) (by simp) λar cr er=>?_;subst er;refine go ?_;refine gH (ak (ak ae)) ?_;refine aU (λy:Nat×Value=>8 - y.1) (λy=>[(10,.int .i64 (y.1:Int))]) (λy=>[pt b (.cells (bL d vh vs (.slice ar d.regions.length cr) vc vu (.int .i64 (aT d).shape) (.int .i64 (aT d).w) (.int .i64 (aT d).h) gh gc vn y.2)),ap (ak (ak ae)) y.2 (ja (aT d) y.1)]) (λ_=>[]) (λy=>y.1<=8) (0,.slice none 0 0) (bR _) (hk:=by repeat (first|exact aI.nil|(apply aI.cons;(focus (repeat (first|exact az.here|apply az.there)))))) (body:=?_);rintro⟨k,vl⟩ hk;dsimp only at hk⊢;have hkl:=JQ (aT d) k;refine go ?_;refine aA rfl (λh1=>?_) (λh1=>?_)
 ·refine go ?_;refine ay (af4 (g:=aT d) (vh:=gh) (vc:=gc) (k:=(k:Int)) hG) (next:=λy hy=>?_);obtain⟨v4,e⟩:=y;have he:e=0:=hy.2 ⟨hgo,by omega,by omega⟩;subst he;dsimp only[JM,List.cons_append,List.nil_append];refine eF (ai (ak ae) v4 (dM (aT d) (k:Int))) (λw hw=>hw (jr ((0:Int)=0) (ai (ak ae) v4 (dM (aT d) (k:Int)))) (by simp) rfl) ?_;refine aS (E:=ak ae) (v:=v4) (xs:=dM (aT d) (k:Int)) (by simp) λa4 c4 e4=>?_;subst e4;refine go ?_;intro V4;refine go ?_;refine fB (xs:=ja (aT d) k) (ak (ak ae)) (dM (aT d) (k:Int)) (.slice a4 (dM (aT d) (k:Int)).length c4) (by omega) (next:=λad=>?_);rw[<- V3];refine go ?_;exact aN (k+1,.slice ad ((ja (aT d) k).length+1) ((ja (aT d) k).length+1)) (by show 8 - (k+1)<8 - k;omega) (by show k+1<=_;omega)
 have OG:k=8:=by omega
 subst OG;refine go ?_;refine aU (λy:Nat×Value=>d.regions.length - y.1) (λy=>[(46,.int .i64 (y.1:Int))]) (λy=>[pt b (.cells (bL d vh vs (.slice ar d.regions.length cr) vc vu (.int .i64 (aT d).shape) (.int .i64 (aT d).w) (.int .i64 (aT d).h) gh gc vn y.2)),ap (ak (ak ae)) y.2 (ja (aT d) 8++(d.regions.take y.1).map λr=>dW (aT d) r.lists)]) (λ_=>[]) (λy=>y.1<=d.regions.length) (0,vl) (bR _) (hk:=by rw[show ja (aT d) 8++(d.regions.take 0).map (λr=>dW (aT d) r.lists)=ja (aT d) 8 from gU _];repeat (first|exact aI.nil|(apply aI.cons;(focus (repeat (first|exact az.here|apply az.there)))))) (body:=?_);rintro⟨k,v2⟩ hk;dsimp only at hk⊢;have hkl:(ja (aT d) 8++(d.regions.take k).map λr=>dW (aT d) r.lists).length=8+k:=by rw[iH,JQ,bY,gT];omega
 refine go ?_;refine aA rfl (λh1=>?_) (λh1=>?_)
 ·refine go ?_;refine bi eY (xs:=d.regions) (next:=λ_ _ r (OH:Value) Dm=>?_);have hrm:=aZ Dm;obtain⟨hl1,hl2⟩:=hT.s.rZ r hrm;obtain⟨⟨_,hro⟩,_⟩:=hr r hrm;refine go ?_;intro b7;refine go ?_;refine ay (VV (g:=aT d) (vh:=gh) (vc:=gc) (vr:=OH) (rs:=r.lists) hG hl1 hl2) (next:=λy hy=>?_);obtain⟨v8,e⟩:=y;have he:e=0:=hy.2 ⟨hgo,hro⟩;subst he;dsimp only[JO,List.cons_append,List.nil_append];refine eF (ai (ak ae) v8 (dW (aT d) r.lists)) (λw hw=>hw (jr ((0:Int)=0) (ai (ak ae) v8 (dW (aT d) r.lists))) (by simp) rfl) ?_;refine aS (E:=ak ae) (v:=v8) (xs:=dW (aT d) r.lists) (by simp) λa8 c8 e8=>?_;subst e8;refine go ?_;intro b71;refine go ?_;have htk:ja (aT d) 8++(d.regions.take (k+1)).map (λr=>dW (aT d) r.lists)=(ja (aT d) 8++(d.regions.take k).map λr=>dW (aT d) r.lists)++[dW (aT d) r.lists]:=by
   rw[bZ Dm,fP,sQ,List.append_assoc]
  refine fB (xs:=ja (aT d) 8++(d.regions.take k).map λr=>dW (aT d) r.lists) (ak (ak ae)) (dW (aT d) r.lists) (.slice a8 (dW (aT d) r.lists).length c8) (by omega) (next:=λad=>?_);rw[<- htk];refine go ?_;exact aN (k+1,.slice ad ((ja (aT d) 8++(d.regions.take k).map λr=>dW (aT d) r.lists).length+1) ((ja (aT d) 8++(d.regions.take k).map λr=>dW (aT d) r.lists).length+1)) (by show d.regions.length - (k+1)<d.regions.length - k;omega) (by show k+1<=_;omega)
 have hke:k=d.regions.length:=by omega
 subst hke;rw[bU];rw[show ja (aT d) 8++d.regions.map (λr=>dW (aT d) r.lists)=oI d from rfl];refine bn (gz (E:=ak (ak ae)) (v:=v2) (xs:=oI d)) (h:=?_);refine go ?_;exact ah v2 (hv:=rfl) (hp:=trivial)
abbrev agS:List Value:=zL (.int .i64 0) (.int .i64 0) (.int .i64 0) (.slice none 0 0) (.slice none 0 0) (.slice none 0 0) (.slice none 0 0)
abbrev kZ(k:bD)(vh vs vr vc vu gh gc vn vl:Value):List Value:=bL k.decl vh vs vr vc vu (.int .i64 k.grid.shape) (.int .i64 k.grid.w) (.int .i64 k.grid.h) gh gc vn vl
abbrev j6(k:bD)(vh vs vr vc vu gh gc vn vl:Value)(F:List aO):List aO:=ai ae vh k.decl.holes::ai fF vs k.decl.symbols::ai eY vr k.decl.regions::ai bI vc k.decl.aJ::ai aY vu k.decl.rules::ai ae gh k.grid.holes::ai ae gc k.grid.cells::ai (ak ae) vn k.aQ::ai (ak (ak ae)) vl k.lists::F
structure FQ(d:bF):Prop where
 rs:CU d
 typ:FO (Kd.bE d)
structure dH(k:bD):Prop where
 b:FQ k.decl
 e:k=kF (Kd.bE k.decl)
structure OI where
 ok:Bool
 e:Int
 vc:Value
 vu:Value
 gh:Value
 gc:Value
 vn:Value
 vl:Value
abbrev Dn(d:bF)(vh vs vr:Value)(y:OI):Value:=.tuple ⟨[.agg ⟨cond y.ok (kZ (kF (Kd.bE d)) vh vs vr y.vc y.vu y.gh y.gc y.vn y.vl) agS⟩,.int .i64 y.e]⟩
abbrev Dp(d:bF)(vh vs vr:Value)(y:OI):List aO:=cond y.ok [ai bI y.vc (Kd.bE d).aJ,ai aY y.vu (Kd.bE d).rules,ai ae y.gh (aT (Kd.bE d)).holes,ai ae y.gc (aT (Kd.bE d)).cells,ai (ak ae) y.vn (bJ (aT (Kd.bE d))),ai (ak (ak ae)) y.vl (oI (Kd.bE d))] []
def JR(d:bF)(y:OI):Prop:=(y.ok=true->y.e=0/\FQ d)/\(y.ok=false->y.e≠0/\¬FQ d)
theorem agT{d:bF}{vh vs vr vc vu:Value}(hT:vC d):bA Tryz.prog (.func 107) [.agg ⟨gB d vh vs vr vc vu⟩] [] [] (lG d vh vs vr vc vu) (Dn d vh vs vr) (λ_=>[]) (Dp d vh vs vr) (JR d):=by
 have qV:vC (Kd.bE d):=⟨hT.s.bE,hT.w,hT.h,hT.holes⟩
 have hend:∀{e:Int} {vc vu gh gc vn vl:Value},e≠0->¬FQ d->JR d ⟨false,e,vc,vu,gh,gc,vn,vl⟩:=λhe hb=>⟨(λh=>by cases h),λ_=>⟨he,hb⟩⟩
 refine aM _ (aP 107) λB w0=>?_;refine go ?_;intro b1 b2 b4 b15;refine mR ?_;refine go ?_;refine ay (agM (b:=b4) (d:=d) hT.s) (next:=λy hy=>?_);obtain⟨ok,e,v1,v2⟩:=y;cases ok with
 |false=>
  obtain⟨he,hno⟩:=hy.2 rfl;dsimp only[cond,oL,List.nil_append]at he⊢;refine go ?_;refine aA rfl (λh1=>?_) (λh1=>?_)
  ·refine go ?_;exact ah ⟨false,e,v1,v2,v1,v1,v1,v1⟩ (hv:=rfl) (hp:=hend he λh=>hno h.rs)
  ·exact absurd (ic.1 h1) he
 |true=>
 obtain⟨he,hres⟩:=hy.1 rfl;have he:e=0:=he;subst he;clear hy;dsimp only[cond,oL,List.cons_append,List.nil_append];refine eF (ai ae vh (Kd.bE d).holes) (λw hw=>hw (ai ae vh d.holes) (by simp)) ?_;refine eF (ai fF vs (Kd.bE d).symbols) (λw hw=>hw (ai fF vs d.symbols) (by simp)) ?_;refine eF (ai eY vr (Kd.bE d).regions) (λw hw=>hw (ai eY vr d.regions) (by simp)) ?_;refine go ?_;refine mR ?_;refine go ?_;refine ay (agN (b:=b4) (d:=Kd.bE d) (vc:=v1) (vu:=v2) qV) (next:=λe he=>?_);refine go ?_;refine aA rfl (λhne=>?_) (λhz=>?_)
 ·refine go ?_;exact ah ⟨false,e,v1,v2,v1,v1,v1,v1⟩ (hv:=rfl) (hp:=hend hne λh=>hne (he.2 h.typ))
 have hty:=he.1 (ic.1 hz);clear he hz;refine go ?_;refine mR ?_;refine go ?_;refine ay (agP (b:=b4) (d:=Kd.bE d) (vc:=v1) (vu:=v2) qV hty.Dk) (next:=λy _=>?_);obtain⟨gh,gc,vn⟩:=y;dsimp only[List.cons_append,List.nil_append];refine go ?_;refine mR ?_;refine go ?_;refine ay (agQ (b:=b4) (d:=Kd.bE d) (vc:=v1) (vu:=v2) qV hty.Dk hty.Dl) (next:=λvl _=>?_);dsimp only[List.cons_append,List.nil_append];refine go ?_;refine mR ?_;refine go ?_;refine ah ⟨true,0,v1,v2,gh,gc,vn,vl⟩ (hv:=rfl) (hp:=⟨λ_=>⟨rfl,hres,hty⟩,(λh=>by cases h)⟩) (hF:=?_);show Sub [ai bI v1 (Kd.bE d).aJ,ai aY v2 (Kd.bE d).rules,ai ae gh (aT (Kd.bE d)).holes,ai ae gc (aT (Kd.bE d)).cells,ai (ak ae) vn (bJ (aT (Kd.bE d))),ai (ak (ak ae)) vl (oI (Kd.bE d))] _;exact .cons (by simp) (.cons (by simp) (.cons (by simp) (.cons (by simp) (.cons (by simp) (.cons (by simp) .nil)))))
structure nZ(k:bD):Prop where
 d:vC k.decl
 g:qP k.grid
 aQ:k.aQ.length<9223372036854775808/\∀l∈k.aQ,l.length<9223372036854775808
 lists:k.lists.length<9223372036854775808/\∀l∈k.lists,l.length<9223372036854775808/\∀m∈l,m.length<9223372036854775808
theorem agU{x y:bD}{h1 s1 r1 c1 u1 zz zA n1 l1 h2 s2 r2 c2 u2 zB zC n2 l2:Value}(hS:nZ x):dD Tryz.prog 108 [.agg ⟨kZ x h1 s1 r1 c1 u1 zz zA n1 l1⟩,.agg ⟨kZ y h2 s2 r2 c2 u2 zB zC n2 l2⟩]
 (j6 x h1 s1 r1 c1 u1 zz zA n1 l1 (j6 y h2 s2 r2 c2 u2 zB zC n2 l2 [])) (.bool (decide (x=y))):=by
 have e1:=hS.d.s;have e2:=hS.g.holes;have e3:=hS.g.cells;obtain⟨e4,e5⟩:=hS.aQ;obtain⟨e6,e7⟩:=hS.lists;clear hS;obtain⟨xd,⟨xs,xw,xh,Br,Bt⟩,xn,xl⟩:=x;obtain⟨yd,⟨ys,yw,yh,OJ,FT⟩,yn,yl⟩:=y;dsimp only at e1 e2 e3 e4 e5 e6 e7;dsimp only[kZ,j6];refine aM _ (aP 108) λB w0=>?_;refine go ?_;intro b2 b3;refine go ?_;refine gG (λk1=>?_) (λk1=>?_)
 ·refine go ?_;refine ah () (hv:=?_) (hp:=trivial);rw[aR (λe=>k1 (by cases e;rfl))];rfl
 refine go ?_;refine gG (λk2=>?_) (λk2=>?_)
 ·refine go ?_;refine ah () (hv:=?_) (hp:=trivial);rw[aR (λe=>k2 (by cases e;rfl))];rfl
 refine go ?_;refine gG (λk3=>?_) (λk3=>?_)
 ·refine go ?_;refine ah () (hv:=?_) (hp:=trivial);rw[aR (λe=>k3 (by cases e;rfl))];rfl
 refine go ?_;refine ay (Bf (xs:=Br) (ys:=OJ) (by omega)) (next:=λ_ _=>?_);refine go ?_;refine gG (λk4=>?_) (λk4=>?_)
 ·refine go ?_;refine ah () (hv:=?_) (hp:=trivial);rw[aR (λe=>k4 (by cases e;rfl))];rfl
 refine go ?_;refine ay (Bf (xs:=Bt) (ys:=FT) (by omega)) (next:=λ_ _=>?_);refine go ?_;refine gG (λk5=>?_) (λk5=>?_)
 ·refine go ?_;refine ah () (hv:=?_) (hp:=trivial);rw[aR (λe=>k5 (by cases e;rfl))];rfl
 refine go ?_;have hsy:dD Tryz.prog 142 [.agg ⟨gB xd h1 s1 r1 c1 u1⟩,.agg ⟨gB yd h2 s2 r2 c2 u2⟩] [ai ae h1 xd.holes,ai fF s1 xd.symbols,ai eY r1 xd.regions,ai bI c1 xd.aJ,ai aY u1 xd.rules,ai ae h2 yd.holes,ai fF s2 yd.symbols,ai eY r2 yd.regions,ai bI c2 yd.aJ,ai aY u2 yd.rules] (.bool (decide (xd=yd))):=VD e1;refine ay hsy (next:=λ_ _=>?_);refine go ?_;refine gG (λk6=>?_) (λk6=>?_)
 ·refine go ?_;refine ah () (hv:=?_) (hp:=trivial);rw[aR (λe=>k6 (by cases e;rfl))];rfl
 refine go ?_;refine ay (VB (xs:=xn) (ys:=yn) e4 e5) (next:=λ_ _=>?_);refine go ?_;refine gG (λk7=>?_) (λk7=>?_)
 ·refine go ?_;refine ah () (hv:=?_) (hp:=trivial);rw[aR (λe=>k7 (by cases e;rfl))];rfl
 refine go ?_;refine ay (afo (xs:=xl) (ys:=yl) e6 e7) (next:=λ_ _=>?_);refine go ?_;refine ah () (hv:=?_) (hp:=trivial);subst k1 k2 k3 k4 k5 k6 k7;rw[show decide (bD.mk xd ⟨xs,xw,xh,Br,Bt⟩ xn xl=bD.mk xd ⟨xs,xw,xh,Br,Bt⟩ xn yl)=decide (xl=yl)from nO.2 ⟨λh=>by cases h;rfl,λh=>by rw[h]⟩];rfl
theorem agV{k:bD}{vh vs vr vc vu gh gc vn vl:Value}(hS:nZ k):bA Tryz.prog (.func 74) [.agg ⟨kZ k vh vs vr vc vu gh gc vn vl⟩] [] [] (j6 k vh vs vr vc vu gh gc vn vl []) (λb:Bool=>.int .i64 (cond b 0 180)) (λ_=>[]) (λ_=>[]) (λb=>b=true↔dH k):=by
 refine aM _ (aP 74) λB w0=>?_;refine go ?_;intro b1;refine go ?_;refine ay (agT (d:=k.decl) hS.d) (next:=λy hy=>?_);obtain⟨ok,e,v1,v2,v3,v4,v5,v6⟩:=y;cases ok with
 |false=>
  obtain⟨he,hno⟩:=hy.2 rfl;have he:e≠0:=he;dsimp only[cond,Dn,Dp,List.nil_append];refine go ?_;intro b3;refine go ?_;refine gG (λh1=>?_) (λh1=>?_)
  ·exact absurd (ic.1 h1) he
  refine go ?_;exact ah false (hv:=rfl) (hp:=⟨(λh=>by cases h),λh=>absurd h.b hno⟩)
 |true=>
 obtain⟨he,hb⟩:=hy.1 rfl;have he:e=0:=he;subst he;clear hy;dsimp only[cond,Dn,Dp,List.cons_append,List.nil_append];refine go ?_;intro b3;refine go ?_;have hsm:=agU (x:=k) (y:=kF (Kd.bE k.decl)) (h1:=vh) (s1:=vs) (r1:=vr) (c1:=vc) (u1:=vu) (zz:=gh) (zA:=gc) (n1:=vn) (l1:=vl) (h2:=vh) (s2:=vs) (r2:=vr) (c2:=v1) (u2:=v2) (zB:=v3) (zC:=v4) (n2:=v5) (l2:=v6) hS;refine eF (ai ae vh (kF (Kd.bE k.decl)).decl.holes) (λw hw=>hw (ai ae vh k.decl.holes) (by simp)) ?_;refine eF (ai fF vs (kF (Kd.bE k.decl)).decl.symbols) (λw hw=>hw (ai fF vs k.decl.symbols) (by simp)) ?_;refine eF (ai eY vr (kF (Kd.bE k.decl)).decl.regions) (λw hw=>hw (ai eY vr k.decl.regions) (by simp)) ?_;refine eF (ai bI v1 (kF (Kd.bE k.decl)).decl.aJ) (λw hw=>hw (ai bI v1 (Kd.bE k.decl).aJ) (by simp)) ?_;refine eF (ai aY v2 (kF (Kd.bE k.decl)).decl.rules) (λw hw=>hw (ai aY v2 (Kd.bE k.decl).rules) (by simp)) ?_;refine eF (ai ae v3 (kF (Kd.bE k.decl)).grid.holes) (λw hw=>hw (ai ae v3 (aT (Kd.bE k.decl)).holes) (by simp)) ?_;refine eF (ai ae v4 (kF (Kd.bE k.decl)).grid.cells) (λw hw=>hw (ai ae v4 (aT (Kd.bE k.decl)).cells) (by simp)) ?_;refine eF (ai (ak ae) v5 (kF (Kd.bE k.decl)).aQ) (λw hw=>hw (ai (ak ae) v5 (bJ (aT (Kd.bE k.decl)))) (by simp)) ?_;refine eF (ai (ak (ak ae)) v6 (kF (Kd.bE k.decl)).lists) (λw hw=>hw (ai (ak (ak ae)) v6 (oI (Kd.bE k.decl))) (by simp)) ?_;refine ay hsm (next:=λ_ _=>?_);refine go ?_;refine fq rfl (λh3=>?_) (λh3=>?_)
 ·refine go ?_;exact ah false (hv:=rfl) (hp:=⟨(λh=>by cases h),λh=>absurd h.e h3⟩)
 ·refine go ?_;exact ah true (hv:=rfl) (hp:=⟨λ_=>⟨hb,h3⟩,λ_=>rfl⟩)
