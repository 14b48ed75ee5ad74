/-
  Part LibKR.
-/
import Derived.Test.YtpkieeggilkagaaGreatLibJR
import Derived.Test.YtpkieeggilkagaaGreatPlainCR
set_option linter.all false
set_option maxRecDepth 10000
set_option maxHeartbeats 4000000
namespace Go.Proofs.YtpkieeggilkagaaGreat
open Go.Ideal Kd
noncomputable def VM:gW:=⟨51,[(.tmp 2)],(.seq (kO [kS 2 (.nD (kI 0))]) (.seq (.seq (kO [kM 4 0,kM 5 0,kS 6 (.lc 5),kS 7 (.fP 0 6),kS 8 (.fP 0 7),kS 9 (.fP 2 8),kS 10 (.gT 9),kM 11 0,kS 12 (.lc 11),kS 13 (.fP 0 12),kS 14 (.fP 0 13),kS 15 (.fP 3 14),kS 16 (.gT 15),kM 17 0,kS 18 (.lc 17),kS 19 (.fP 0 18),kS 20 (.fP 0 19),kS 21 (.fP 4 20),kS 22 (.gT 21),kM 23 0,kS 24 (.lc 23),kS 25 (.fP 0 24),kS 26 (.fP 0 25),kS 27 (.fP 5 26),kS 28 (.gT 27),kS 29 (kC 184 [10,16,22,28]),kM 3 29,kS 30 (.extract 3 0),kS 31 (.extract 3 1),kS 32 (.lc 4),kS 33 (.fP 0 32),kS 34 (.fP 10 33),kN (.store 5 34 30),kS 2 (.nD 31)]) (.seq (kO [kM 35 2,kS 36 (.bin .eql 40 35 (kI 0))]) (.cond 36 (kO [kM 38 0,kM 39 0,kS 40 (.lc 39),kS 41 (.fP 0 40),kS 42 (.fP 10 41),kS 43 (.qw 5 42),kS 44 (kC 185 [43]),kM 37 44,kS 45 (.extract 37 0),kS 46 (.extract 37 1),kS 47 (.lc 38),kS 48 (.fP 0 47),kS 49 (.fP 15 48),kN (.store 1 49 45),kS 2 (.nD 46)]) .skip))) (.seq (kO [kM 50 2,kS 2 (.nD 50)]) .ret)))⟩
theorem agC:nV Tryz.prog 142=some VM:=by kernel_rfl
abbrev bL(d:bG)(vh vs vr vc vu g1 g2 g3 g4 g5 g6 g7:Value):List Value:=[.string d.name,.int .i64 d.version,.int .i64 d.shape,.int .i64 d.w,.int .i64 d.h,vh,vs,vr,vc,vu,g1,g2,g3,g4,g5,g6,g7]
abbrev zL(g1 g2 g3 g4 g5 g6 g7:Value):List Value:=[.string ⟨⟨[]⟩⟩,.int .i64 0,.int .i64 0,.int .i64 0,.int .i64 0,.slice none 0 0,.slice none 0 0,.slice none 0 0,.slice none 0 0,.slice none 0 0,g1,g2,g3,g4,g5,g6,g7]
theorem agD{b:Nat}{d:bG}{vh vs vr vc vu g1 g2 g3 g4 g5 g6 g7:Value}(hS:mZ d):aV Tryz.prog (.func 140) [ptr' b] [] [pt b (.cells (bL d vh vs vr vc vu g1 g2 g3 g4 g5 g6 g7))] (mi d vh vs vr vc vu) (λy:FL=>.int .i64 y.e)
 (λy=>[pt b (.cells (cond y.ok (bL (Kd.bH d) vh vs vr y.vc y.vu g1 g2 g3 g4 g5 g6 g7) (zL g1 g2 g3 g4 g5 g6 g7)))]) (oO d) (AY d):=by
 refine aC _ (aF 140) λB w0=>?_;refine go ?_;refine aj (Vr (d:=d) hS) (next:=λy hy=>?_);obtain⟨ok,e,v1,v2⟩:=y;cases ok with
 |false=>
  dsimp only[rT,oO,cond,List.nil_append]at hy⊢;refine go ?_;exact ae ⟨false,e,v1,v2⟩ (hv:=rfl) (hp:=hy)
 |true=>
  dsimp only[rT,oO,cond,List.cons_append,List.nil_append]at hy⊢;refine go ?_;exact ae ⟨true,e,v1,v2⟩ (hv:=rfl) (hp:=hy) (hF:=by show Sub [ah bI v1 (Kd.bH d).aM,ah aZ v2 (Kd.bH d).rules] _;exact .cons (by simp) (.cons (by simp) .nil))
theorem agE{b:Nat}{d:bG}{vh vs vr vc vu g1 g2 g3 g4 g5 g6 g7:Value}(hT:uT d):aV Tryz.prog (.func 141) [ptr' b] [] [pt b (.cells (bL d vh vs vr vc vu g1 g2 g3 g4 g5 g6 g7))] (mi d vh vs vr vc vu) (λe:Int=>.int .i64 e)
 (λ_=>[pt b (.cells (bL d vh vs vr vc vu g1 g2 g3 g4 g5 g6 g7))]) (λ_=>[]) (λe=>e=0↔FW d):=by
 refine aC _ (aF 141) λB w0=>?_;refine go ?_;refine aj (agB (d:=d) hT) (next:=λe he=>?_);refine go ?_;exact ae e (hv:=rfl) (hp:=he)
structure DrY where
 gh:Value
 gc:Value
 vn:Value
theorem agG{b:Nat}{d:bG}{vh vs vr vc vu g1 g2 g3 g4 g5 g6 g7:Value}(hT:uT d)(hm:oM d.shape d.w d.h d.holes):
 aV Tryz.prog (.func 142) [ptr' b] [] [pt b (.cells (bL d vh vs vr vc vu g1 g2 g3 g4 g5 g6 g7))] (mi d vh vs vr vc vu) (λ_:DrY=>.int .i64 0)
 (λy=>[pt b (.cells (bL d vh vs vr vc vu (.int .i64 (aQ d).shape) (.int .i64 (aQ d).w) (.int .i64 (aQ d).h) y.gh y.gc y.vn g7))])
 (λy=>[ah aa y.gh (aQ d).holes,ah aa y.gc (aQ d).cells,ah (ax aa) y.vn (bO (aQ d))]) (λ_=>True):=by
 have hG:=FX hm;have hgo:fH (aQ d):=⟨hm,rfl⟩
 refine aC VM agC λB w0=>?_;refine go ?_;refine aj (Om (s:=d.shape) (w:=d.w) (h:=d.h) (holes:=d.holes) (vh:=vh) hT.w hT.h hT.holes) (next:=λy hy=>?_);obtain⟨ok,v1,v2⟩:=y;cases ok with
 |false=>exact absurd (hy.2 hm) (by simp)
 |true=>
 dsimp only[cond,mkV,pG];rw[show wm d.shape d.w d.h d.holes=aQ d from rfl];dsimp only[jD,iW,List.cons_append,List.nil_append];refine go ?_;refine aj (VG (g:=aQ d) (vh:=v1) (vc:=v2) hG) (next:=λy hy2=>?_);obtain⟨vn,e⟩:=y;have he:e=0:=hy2.2 hgo;subst he;refine fD (ah (tH aa) vn (bO (aQ d))) (λw hw=>hw (kX ((0:Int)=0) (ah (tH aa) vn (bO (aQ d)))) (by simp) rfl) ?_;refine fD (ah (ax aa) vn (bO (aQ d))) (λw hw=>TC (hw (ah (tH aa) vn (bO (aQ d))) (by simp))) ?_;dsimp only[tT];refine aT (E:=ax aa) (v:=vn) (xs:=bO (aQ d)) (by simp) λan cn en=>?_;subst en;refine go ?_;exact ae ⟨v1,v2,.slice an (bO (aQ d)).length cn⟩ (hv:=rfl) (hp:=trivial)
def ji(g:bD)(k:Nat):List (List (List Int)):=(List.range k).map λf:Nat=>dx g (f:Int)
theorem VN(g:bD)(k:Nat):ji g (k+1)=ji g k++[dx g (k:Int)]:=by
 unfold ji;rw[Gj,ed,oW]
theorem JO(g:bD)(k:Nat):(ji g k).length=k:=by unfold ji;simp
theorem agH{b:Nat}{d:bG}{vh vs vr vc vu gh gc vn:Value}(hT:uT d)(hm:oM d.shape d.w d.h d.holes)(hr:∀r∈d.regions,zo (aQ d) r):
 aV Tryz.prog (.func 143) [ptr' b] [] [pt b (.cells (bL d vh vs vr vc vu (.int .i64 (aQ d).shape) (.int .i64 (aQ d).w) (.int .i64 (aQ d).h) gh gc vn (.slice none 0 0)))]
 [ah fA vr d.regions,ah aa gh (aQ d).holes,ah aa gc (aQ d).cells] (λ_:Value=>.int .i64 0)
 (λvl=>[pt b (.cells (bL d vh vs vr vc vu (.int .i64 (aQ d).shape) (.int .i64 (aQ d).w) (.int .i64 (aQ d).h) gh gc vn vl))])
 (λvl=>[ah (ax (ax aa)) vl (l5 d)]) (λ_=>True):=by
 have hG:=FX hm;have hgo:fH (aQ d):=⟨hm,rfl⟩
 have hrl:=hT.s.regs;refine aC _ (aF 143) λB w0=>?_;refine aT (E:=fA) (v:=vr) (xs:=d.regions) (by simp) λar cr er=>?_;subst er;refine go ?_;refine fJ (ax (ax aa)) ?_;refine aR (λy:Nat×Value=>8 - y.1) (λy=>[(10,.int .i64 (y.1:Int))]) (λy=>[pt b (.cells (bL d vh vs (.slice ar d.regions.length cr) vc vu (.int .i64 (aQ d).shape) (.int .i64 (aQ d).w) (.int .i64 (aQ d).h) gh gc vn y.2)),ap (ax (ax aa)) y.2 (ji (aQ d) y.1)]) (λ_=>[]) (λy=>y.1<=8) (0,.slice none 0 0) (bJ _) (hk:=by repeat (first|exact aJ.nil|(apply aJ.cons;(focus (repeat (first|exact aA.here|apply aA.there)))))) (body:=?_);rintro⟨k,vl⟩ hk;dsimp only at hk⊢;have hkl:=JO (aQ d) k;refine go ?_;refine ay rfl (λh1=>?_) (λh1=>?_)
 ·refine go ?_;refine aj (afW (g:=aQ d) (vh:=gh) (vc:=gc) (k:=(k:Int)) hG) (next:=λy hy=>?_);obtain⟨v4,e⟩:=y;have he:e=0:=hy.2 ⟨hgo,by omega,by omega⟩;subst he;dsimp only[JJ,List.cons_append,List.nil_append];refine fD (ah (ax aa) v4 (dx (aQ d) (k:Int))) (λw hw=>hw (kX ((0:Int)=0) (ah (ax aa) v4 (dx (aQ d) (k:Int)))) (by simp) rfl) ?_;refine aT (E:=ax aa) (v:=v4) (xs:=dx (aQ d) (k:Int)) (by simp) λa4 c4 e4=>?_;subst e4;refine go ?_;intro b33;refine go ?_;refine eG (xs:=ji (aQ d) k) (ax (ax aa)) (dx (aQ d) (k:Int)) (.slice a4 (dx (aQ d) (k:Int)).length c4) (by omega) (next:=λad=>?_);rw[<- VN];refine go ?_;exact aD (k+1,.slice ad ((ji (aQ d) k).length+1) ((ji (aQ d) k).length+1)) (by show 8 - (k+1)<8 - k;omega) (by show k+1<=_;omega)
 have OE:k=8:=by omega
 subst OE;refine go ?_;refine aR (λy:Nat×Value=>d.regions.length - y.1) (λy=>[(46,.int .i64 (y.1:Int))]) (λy=>[pt b (.cells (bL d vh vs (.slice ar d.regions.length cr) vc vu (.int .i64 (aQ d).shape) (.int .i64 (aQ d).w) (.int .i64 (aQ d).h) gh gc vn y.2)),ap (ax (ax aa)) y.2 (ji (aQ d) 8++(d.regions.take y.1).map λr=>eD (aQ d) r.lists)]) (λ_=>[]) (λy=>y.1<=d.regions.length) (0,vl) (bJ _) (hk:=by rw[show ji (aQ d) 8++(d.regions.take 0).map (λr=>eD (aQ d) r.lists)=ji (aQ d) 8 from gV _];repeat (first|exact aJ.nil|(apply aJ.cons;(focus (repeat (first|exact aA.here|apply aA.there)))))) (body:=?_);rintro⟨k,v2⟩ hk;dsimp only at hk⊢;have hkl:(ji (aQ d) 8++(d.regions.take k).map λr=>eD (aQ d) r.lists).length=8+k:=by rw[gU,JO,dV,gL];omega
 refine go ?_;refine ay rfl (λh1=>?_) (λh1=>?_)
 ·refine go ?_;refine aU fA (xs:=d.regions) (next:=λ_ _ r (OG:Value) FY=>?_);have hrm:=aP FY;obtain⟨hl1,hl2⟩:=hT.s.vZ r hrm;obtain⟨⟨_,hro⟩,_⟩:=hr r hrm;refine go ?_;intro b7;refine go ?_;refine aj (VI (g:=aQ d) (vh:=gh) (vc:=gc) (vr:=OG) (rs:=r.lists) hG hl1 hl2) (next:=λy hy=>?_);obtain⟨v8,e⟩:=y;have he:e=0:=hy.2 ⟨hgo,hro⟩;subst he;dsimp only[JL,List.cons_append,List.nil_append];refine fD (ah (ax aa) v8 (eD (aQ d) r.lists)) (λw hw=>hw (kX ((0:Int)=0) (ah (ax aa) v8 (eD (aQ d) r.lists))) (by simp) rfl) ?_;refine aT (E:=ax aa) (v:=v8) (xs:=eD (aQ d) r.lists) (by simp) λa8 c8 e8=>?_;subst e8;refine go ?_;intro b71;refine go ?_;have htk:ji (aQ d) 8++(d.regions.take (k+1)).map (λr=>eD (aQ d) r.lists)=(ji (aQ d) 8++(d.regions.take k).map λr=>eD (aQ d) r.lists)++[eD (aQ d) r.lists]:=by
   rw[bS FY,ed,oW,fI]
  refine eG (xs:=ji (aQ d) 8++(d.regions.take k).map λr=>eD (aQ d) r.lists) (ax (ax aa)) (eD (aQ d) r.lists) (.slice a8 (eD (aQ d) r.lists).length c8) (by omega) (next:=λad=>?_);rw[<- htk];refine go ?_;exact aD (k+1,.slice ad ((ji (aQ d) 8++(d.regions.take k).map λr=>eD (aQ d) r.lists).length+1) ((ji (aQ d) 8++(d.regions.take k).map λr=>eD (aQ d) r.lists).length+1)) (by show d.regions.length - (k+1)<d.regions.length - k;omega) (by show k+1<=_;omega)
 have hke:k=d.regions.length:=by omega
 subst hke;rw[bC];rw[show ji (aQ d) 8++d.regions.map (λr=>eD (aQ d) r.lists)=l5 d from rfl];refine aW (fG (E:=ax (ax aa)) (v:=v2) (xs:=l5 d)) (h:=?_);refine go ?_;exact ae v2 (hv:=rfl) (hp:=trivial)
abbrev agK:List Value:=zL (.int .i64 0) (.int .i64 0) (.int .i64 0) (.slice none 0 0) (.slice none 0 0) (.slice none 0 0) (.slice none 0 0)
abbrev jq(k:bR)(vh vs vr vc vu gh gc vn vl:Value):List Value:=bL k.decl vh vs vr vc vu (.int .i64 k.grid.shape) (.int .i64 k.grid.w) (.int .i64 k.grid.h) gh gc vn vl
abbrev iB(k:bR)(vh vs vr vc vu gh gc vn vl:Value)(F:List aL):List aL:=ah aa vh k.decl.holes::ah fo vs k.decl.symbols::ah fA vr k.decl.regions::ah bI vc k.decl.aM::ah aZ vu k.decl.rules::ah aa gh k.grid.holes::ah aa gc k.grid.cells::ah (ax aa) vn k.aN::ah (ax (ax aa)) vl k.lists::F
structure FZ(d:bG):Prop where
 rs:CR d
 typ:FW (Kd.bH d)
structure eH(k:bR):Prop where
 b:FZ k.decl
 e:k=kG (Kd.bH k.decl)
structure OH where
 ok:Bool
 e:Int
 vc:Value
 vu:Value
 gh:Value
 gc:Value
 vn:Value
 vl:Value
abbrev Dh(d:bG)(vh vs vr:Value)(y:OH):Value:=.tuple ⟨[.agg ⟨cond y.ok (jq (kG (Kd.bH d)) vh vs vr y.vc y.vu y.gh y.gc y.vn y.vl) agK⟩,.int .i64 y.e]⟩
abbrev Di(d:bG)(vh vs vr:Value)(y:OH):List aL:=cond y.ok [ah bI y.vc (Kd.bH d).aM,ah aZ y.vu (Kd.bH d).rules,ah aa y.gh (aQ (Kd.bH d)).holes,ah aa y.gc (aQ (Kd.bH d)).cells,ah (ax aa) y.vn (bO (aQ (Kd.bH d))),ah (ax (ax aa)) y.vl (l5 (Kd.bH d))] []
def JP(d:bG)(y:OH):Prop:=(y.ok=true->y.e=0/\FZ d)/\(y.ok=false->y.e≠0/\¬FZ d)
theorem agL{d:bG}{vh vs vr vc vu:Value}(hT:uT d):aV Tryz.prog (.func 97) [.agg ⟨gI d vh vs vr vc vu⟩] [] [] (mi d vh vs vr vc vu) (Dh d vh vs vr) (λ_=>[]) (Di d vh vs vr) (JP d):=by
 have uU:uT (Kd.bH d):=⟨hT.s.bH,hT.w,hT.h,hT.holes⟩
 have hend:∀{e:Int} {vc vu gh gc vn vl:Value},e≠0->¬FZ d->JP d ⟨false,e,vc,vu,gh,gc,vn,vl⟩:=λhe hb=>⟨(λh=>by cases h),λ_=>⟨he,hb⟩⟩
 refine aC _ (aF 97) λB w0=>?_;refine go ?_;intro b1 b2 b4 b15;refine pX ?_;refine go ?_;refine aj (agD (b:=b4) (d:=d) hT.s) (next:=λy hy=>?_);obtain⟨ok,e,v1,v2⟩:=y;cases ok with
 |false=>
  obtain⟨he,hno⟩:=hy.2 rfl;dsimp only[cond,oO,List.nil_append]at he⊢;refine go ?_;refine ay rfl (λh1=>?_) (λh1=>?_)
  ·refine go ?_;exact ae ⟨false,e,v1,v2,v1,v1,v1,v1⟩ (hv:=rfl) (hp:=hend he λh=>hno h.rs)
  ·exact absurd (gM.1 h1) he
 |true=>
 obtain⟨he,hres⟩:=hy.1 rfl;have he:e=0:=he;subst he;clear hy;dsimp only[cond,oO,List.cons_append,List.nil_append];refine fD (ah aa vh (Kd.bH d).holes) (λw hw=>hw (ah aa vh d.holes) (by simp)) ?_;refine fD (ah fo vs (Kd.bH d).symbols) (λw hw=>hw (ah fo vs d.symbols) (by simp)) ?_;refine fD (ah fA vr (Kd.bH d).regions) (λw hw=>hw (ah fA vr d.regions) (by simp)) ?_;refine go ?_;refine pX ?_;refine go ?_;refine aj (agE (b:=b4) (d:=Kd.bH d) (vc:=v1) (vu:=v2) uU) (next:=λe he=>?_);refine go ?_;refine ay rfl (λhne=>?_) (λhz=>?_)
 ·refine go ?_;exact ae ⟨false,e,v1,v2,v1,v1,v1,v1⟩ (hv:=rfl) (hp:=hend hne λh=>hne (he.2 h.typ))
 have hty:=he.1 (gM.1 hz);clear he hz;refine go ?_;refine pX ?_;refine go ?_;refine aj (agG (b:=b4) (d:=Kd.bH d) (vc:=v1) (vu:=v2) uU hty.Dg) (next:=λy _=>?_);obtain⟨gh,gc,vn⟩:=y;dsimp only[List.cons_append,List.nil_append];refine go ?_;refine pX ?_;refine go ?_;refine aj (agH (b:=b4) (d:=Kd.bH d) (vc:=v1) (vu:=v2) uU hty.Dg hty.Bd) (next:=λvl _=>?_);dsimp only[List.cons_append,List.nil_append];refine go ?_;refine pX ?_;refine go ?_;refine ae ⟨true,0,v1,v2,gh,gc,vn,vl⟩ (hv:=rfl) (hp:=⟨λ_=>⟨rfl,hres,hty⟩,(λh=>by cases h)⟩) (hF:=?_);show Sub [ah bI v1 (Kd.bH d).aM,ah aZ v2 (Kd.bH d).rules,ah aa gh (aQ (Kd.bH d)).holes,ah aa gc (aQ (Kd.bH d)).cells,ah (ax aa) vn (bO (aQ (Kd.bH d))),ah (ax (ax aa)) vl (l5 (Kd.bH d))] _;exact .cons (by simp) (.cons (by simp) (.cons (by simp) (.cons (by simp) (.cons (by simp) (.cons (by simp) .nil)))))
structure lJ(k:bR):Prop where
 d:uT k.decl
 g:qM k.grid
 aN:k.aN.length<9223372036854775808/\∀l∈k.aN,l.length<9223372036854775808
 lists:k.lists.length<9223372036854775808/\∀l∈k.lists,l.length<9223372036854775808/\∀m∈l,m.length<9223372036854775808
theorem agM{x y:bR}{h1 s1 r1 c1 u1 zq zu n1 l1 h2 s2 r2 c2 u2 zw zx n2 l2:Value}(hS:lJ x):bV Tryz.prog 98 [.agg ⟨jq x h1 s1 r1 c1 u1 zq zu n1 l1⟩,.agg ⟨jq y h2 s2 r2 c2 u2 zw zx n2 l2⟩]
 (iB x h1 s1 r1 c1 u1 zq zu n1 l1 (iB y h2 s2 r2 c2 u2 zw zx n2 l2 [])) (.bool (decide (x=y))):=by
 have e1:=hS.d.s;have e2:=hS.g.holes;have e3:=hS.g.cells;obtain⟨e4,e5⟩:=hS.aN;obtain⟨e6,e7⟩:=hS.lists;clear hS;obtain⟨xd,⟨xs,xw,xh,Be,Bf⟩,xn,xl⟩:=x;obtain⟨yd,⟨ys,yw,yh,OI,F3⟩,yn,yl⟩:=y;dsimp only at e1 e2 e3 e4 e5 e6 e7;dsimp only[jq,iB];refine aC _ (aF 98) λB w0=>?_;refine go ?_;intro b2 b3;refine go ?_;refine gG (λk1=>?_) (λk1=>?_)
 ·refine go ?_;refine ae () (hv:=?_) (hp:=trivial);rw[aS (λe=>k1 (by cases e;rfl))];rfl
 refine go ?_;refine gG (λk2=>?_) (λk2=>?_)
 ·refine go ?_;refine ae () (hv:=?_) (hp:=trivial);rw[aS (λe=>k2 (by cases e;rfl))];rfl
 refine go ?_;refine gG (λk3=>?_) (λk3=>?_)
 ·refine go ?_;refine ae () (hv:=?_) (hp:=trivial);rw[aS (λe=>k3 (by cases e;rfl))];rfl
 refine go ?_;refine aj (zk (xs:=Be) (ys:=OI) (by omega)) (next:=λ_ _=>?_);refine go ?_;refine gG (λk4=>?_) (λk4=>?_)
 ·refine go ?_;refine ae () (hv:=?_) (hp:=trivial);rw[aS (λe=>k4 (by cases e;rfl))];rfl
 refine go ?_;refine aj (zk (xs:=Bf) (ys:=F3) (by omega)) (next:=λ_ _=>?_);refine go ?_;refine gG (λk5=>?_) (λk5=>?_)
 ·refine go ?_;refine ae () (hv:=?_) (hp:=trivial);rw[aS (λe=>k5 (by cases e;rfl))];rfl
 refine go ?_;have hsy:bV Tryz.prog 144 [.agg ⟨gI xd h1 s1 r1 c1 u1⟩,.agg ⟨gI yd h2 s2 r2 c2 u2⟩] [ah aa h1 xd.holes,ah fo s1 xd.symbols,ah fA r1 xd.regions,ah bI c1 xd.aM,ah aZ u1 xd.rules,ah aa h2 yd.holes,ah fo s2 yd.symbols,ah fA r2 yd.regions,ah bI c2 yd.aM,ah aZ u2 yd.rules] (.bool (decide (xd=yd))):=Vw e1;refine aj hsy (next:=λ_ _=>?_);refine go ?_;refine gG (λk6=>?_) (λk6=>?_)
 ·refine go ?_;refine ae () (hv:=?_) (hp:=trivial);rw[aS (λe=>k6 (by cases e;rfl))];rfl
 refine go ?_;refine aj (Vu (xs:=xn) (ys:=yn) e4 e5) (next:=λ_ _=>?_);refine go ?_;refine gG (λk7=>?_) (λk7=>?_)
 ·refine go ?_;refine ae () (hv:=?_) (hp:=trivial);rw[aS (λe=>k7 (by cases e;rfl))];rfl
 refine go ?_;refine aj (afi (xs:=xl) (ys:=yl) e6 e7) (next:=λ_ _=>?_);refine go ?_;refine ae () (hv:=?_) (hp:=trivial);subst k1 k2 k3 k4 k5 k6 k7;rw[show decide (bR.mk xd ⟨xs,xw,xh,Be,Bf⟩ xn xl=bR.mk xd ⟨xs,xw,xh,Be,Bf⟩ xn yl)=decide (xl=yl)from l6.2 ⟨λh=>by cases h;rfl,λh=>by rw[h]⟩];rfl
theorem VO{k:bR}{vh vs vr vc vu gh gc vn vl:Value}(hS:lJ k):aV Tryz.prog (.func 39) [.agg ⟨jq k vh vs vr vc vu gh gc vn vl⟩] [] [] (iB k vh vs vr vc vu gh gc vn vl []) (λb:Bool=>.int .i64 (cond b 0 180)) (λ_=>[]) (λ_=>[]) (λb=>b=true↔eH k):=by
 refine aC _ (aF 39) λB w0=>?_;refine go ?_;intro b1;refine go ?_;refine aj (agL (d:=k.decl) hS.d) (next:=λy hy=>?_);obtain⟨ok,e,v1,v2,v3,v4,v5,v6⟩:=y;cases ok with
 |false=>
  obtain⟨he,hno⟩:=hy.2 rfl;have he:e≠0:=he;dsimp only[cond,Dh,Di,List.nil_append];refine go ?_;intro b3;refine go ?_;refine gG (λh1=>?_) (λh1=>?_)
  ·exact absurd (gM.1 h1) he
  refine go ?_;exact ae false (hv:=rfl) (hp:=⟨(λh=>by cases h),λh=>absurd h.b hno⟩)
 |true=>
 obtain⟨he,hb⟩:=hy.1 rfl;have he:e=0:=he;subst he;clear hy;dsimp only[cond,Dh,Di,List.cons_append,List.nil_append];refine go ?_;intro b3;refine go ?_;have hsm:=agM (x:=k) (y:=kG (Kd.bH k.decl)) (h1:=vh) (s1:=vs) (r1:=vr) (c1:=vc) (u1:=vu) (zq:=gh) (zu:=gc) (n1:=vn) (l1:=vl) (h2:=vh) (s2:=vs) (r2:=vr) (c2:=v1) (u2:=v2) (zw:=v3) (zx:=v4) (n2:=v5) (l2:=v6) hS;refine fD (ah aa vh (kG (Kd.bH k.decl)).decl.holes) (λw hw=>hw (ah aa vh k.decl.holes) (by simp)) ?_;refine fD (ah fo vs (kG (Kd.bH k.decl)).decl.symbols) (λw hw=>hw (ah fo vs k.decl.symbols) (by simp)) ?_;refine fD (ah fA vr (kG (Kd.bH k.decl)).decl.regions) (λw hw=>hw (ah fA vr k.decl.regions) (by simp)) ?_;refine fD (ah bI v1 (kG (Kd.bH k.decl)).decl.aM) (λw hw=>hw (ah bI v1 (Kd.bH k.decl).aM) (by simp)) ?_;refine fD (ah aZ v2 (kG (Kd.bH k.decl)).decl.rules) (λw hw=>hw (ah aZ v2 (Kd.bH k.decl).rules) (by simp)) ?_;refine fD (ah aa v3 (kG (Kd.bH k.decl)).grid.holes) (λw hw=>hw (ah aa v3 (aQ (Kd.bH k.decl)).holes) (by simp)) ?_;refine fD (ah aa v4 (kG (Kd.bH k.decl)).grid.cells) (λw hw=>hw (ah aa v4 (aQ (Kd.bH k.decl)).cells) (by simp)) ?_;refine fD (ah (ax aa) v5 (kG (Kd.bH k.decl)).aN) (λw hw=>hw (ah (ax aa) v5 (bO (aQ (Kd.bH k.decl)))) (by simp)) ?_;refine fD (ah (ax (ax aa)) v6 (kG (Kd.bH k.decl)).lists) (λw hw=>hw (ah (ax (ax aa)) v6 (l5 (Kd.bH k.decl))) (by simp)) ?_;refine aj hsm (next:=λ_ _=>?_);refine go ?_;refine eX rfl (λh3=>?_) (λh3=>?_)
 ·refine go ?_;exact ae false (hv:=rfl) (hp:=⟨(λh=>by cases h),λh=>absurd h.e h3⟩)
 ·refine go ?_;exact ae true (hv:=rfl) (hp:=⟨λ_=>⟨hb,h3⟩,λ_=>rfl⟩)
set_option maxHeartbeats 1000000
open Go.Ideal Canon
theorem drop_cons{α:Type}{xs:List α}{k:Nat}{x:α}(h:xs[k]? =some x):xs.drop k=x::xs.drop (k+1):=by
 obtain⟨hlt,he⟩:=bK.1 h;rw[nR hlt,he]
theorem Dj{xs ys:List Int}{k:Nat}(hx:k<=xs.length)(hy:k<=ys.length)(h:k=xs.length\/k=ys.length):
 jb gK (xs.drop k) (ys.drop k)=if xs.length<ys.length then -1 else if ys.length<xs.length then 1 else 0:=by
 rcases h with h|h
 ·rw[show xs.drop k=[]from DF (by omega)];by_cases e:xs.length<ys.length
  ·rw[if_pos e];have:k<ys.length:=by omega
   rw[nR this];rfl
  ·rw[if_neg e,if_neg (by omega),show ys.drop k=[]from DF (by omega)];rfl
 ·rw[show ys.drop k=[]from DF (by omega)];by_cases e:ys.length<xs.length
  ·rw[if_neg (by omega),if_pos e];have:k<xs.length:=by omega
   rw[nR this];rfl
  ·rw[if_neg (by omega),if_neg e,show xs.drop k=[]from DF (by omega)];rfl
open Go.Ideal Kd Canon
theorem VP(x:Int):bV Tryz.prog 203 [.int .i64 x] [] (.bool false):=by
 refine aC _ (aF 203) λB w0=>?_;refine go ?_;refine ae () (hv:=?_) (hp:=trivial);simp[rO]
theorem VQ(x y:Int):bV Tryz.prog 160 [.int .i64 x,.int .i64 y] [] (.int .i64 (gK x y)):=by
 refine aC _ (aF 160) λB w0=>?_;refine go ?_;refine aj (VP x) (next:=λ_ _=>?_);refine go ?_;refine aj (VP y) (next:=λ_ _=>?_);refine go ?_;refine ay rfl (λh1=>?_) (λh1=>?_)
 ·refine go ?_;refine ae () (hv:=?_) (hp:=trivial);rw[gK,if_pos h1];rfl
 refine go ?_;refine ay rfl (λh2=>?_) (λh2=>?_)
 ·refine go ?_;refine ae () (hv:=?_) (hp:=trivial);rw[gK,if_neg h1,if_pos h2];rfl
 refine go ?_;refine ae () (hv:=?_) (hp:=trivial);rw[gK,if_neg h1,if_neg h2];rfl
theorem agN{α:Type}{xs:List α}{k:Nat}{x:α}(h:xs[k]? =some x):xs.drop k=x::xs.drop (k+1):=by
 obtain⟨hlt,he⟩:=bK.1 h;rw[nR hlt,he]
theorem agO{v:Value}{xs:List Int}(hl:xs.length<9223372036854775808):bV Tryz.prog 159 [v] [ah aa v xs] (.int .i64 (uQ xs)):=by
 refine aC _ (aF 159) λB w0=>?_;refine go ?_;refine aR (λk=>xs.length - k) (λk:Nat=>[(8,.int .i64 (k:Int))]) (λ_=>[]) (λ_=>[]) (λk=>k<=xs.length/\uQ xs=uQ (xs.drop k)) 0 ⟨by omega,rfl⟩ (body:=?_);rintro k ⟨hk,hf⟩;refine go ?_;refine ay rfl (λh1=>?_) (λh1=>?_)
 ·refine go ?_;intro _ _ x hx;have hd:=agN hx;refine go ?_;refine ay rfl (λh2=>?_) (λh2=>?_)
  ·refine go ?_;refine ae () (hv:=?_) (hp:=trivial);rw[hf,hd,uQ,if_pos h2];rfl
  ·refine go ?_;refine aD (k+1) (by show xs.length - (k+1)<xs.length - k;omega) ⟨by omega,?_⟩;rw[hf,hd,uQ,if_neg h2]
 have hk:k=xs.length:=by omega
 refine go ?_;refine ae () (hv:=?_) (hp:=trivial);rw[hf,hk,Gn];rfl
theorem agP{a b:Clue}{va vb:Value}:bV Tryz.prog 115 [CV a va,CV b vb] [] (.int .i64 (iF a b)):=by
 refine aC _ (aF 115) λB w0=>?_;refine go ?_;intro b2 b3;refine go ?_;refine aj (VQ a.aB b.aB) (next:=λ_ _=>?_);refine go ?_;refine aj (VQ a.at_ b.at_) (next:=λ_ _=>?_);refine go ?_;intro b15;refine aW (A:=pt b15 (.cells [.int .i64 (gK a.aB b.aB),.int .i64 (gK a.at_ b.at_)])) (fs:=[ah aa (.slice (some ⟨b15,0,some 0⟩) 2 2) [gK a.aB b.aB,gK a.at_ b.at_]]) (yU (b:=b15) (f:=0) (c:=2) (xs:=[gK a.aB b.aB,gK a.at_ b.at_])) (h:=?_);refine go ?_;refine aj (agO (xs:=[gK a.aB b.aB,gK a.at_ b.at_]) (by simp)) (next:=λ_ _=>?_);refine go ?_;exact ae () (hv:=rfl) (hp:=trivial)
