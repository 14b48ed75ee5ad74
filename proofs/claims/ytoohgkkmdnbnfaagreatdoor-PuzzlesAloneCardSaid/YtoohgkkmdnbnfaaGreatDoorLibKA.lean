/-
  Kinds: the steps in which one is built.
-/
import Derived.Test.YtoohgkkmdnbnfaaGreatDoorLibJA
set_option linter.all false
set_option maxRecDepth 10000
set_option maxHeartbeats 4000000
namespace Go.Proofs.YtoohgkkmdnbnfaaGreatDoor
open Go.Ideal Kd
noncomputable def UY:gN:=⟨51,[(.tmp 2)],(.seq (.ops [2] [⟨⟨(some 2),none,(.jc (.const (.int .i64 0)))⟩,[]⟩]) (.seq (.seq (.ops [4,5,6,7,8,9,10,11,12,13,14,15,16,17,18,19,20,21,22,23,24,25,26,27,28,29,3,30,31,32,33,34,2] [⟨⟨(some 4),none,(.mv (.tmp 0))⟩,[]⟩,⟨⟨(some 5),none,(.mv (.tmp 0))⟩,[]⟩,⟨⟨(some 6),none,(.kK (.tmp 5))⟩,[]⟩,⟨⟨(some 7),none,(.fK 0 (.tmp 6))⟩,[]⟩,⟨⟨(some 8),none,(.fK 0 (.tmp 7))⟩,[]⟩,⟨⟨(some 9),none,(.fK 2 (.tmp 8))⟩,[]⟩,⟨⟨(some 10),none,(.gK (.tmp 9))⟩,[]⟩,⟨⟨(some 11),none,(.mv (.tmp 0))⟩,[]⟩,⟨⟨(some 12),none,(.kK (.tmp 11))⟩,[]⟩,⟨⟨(some 13),none,(.fK 0 (.tmp 12))⟩,[]⟩,⟨⟨(some 14),none,(.fK 0 (.tmp 13))⟩,[]⟩,⟨⟨(some 15),none,(.fK 3 (.tmp 14))⟩,[]⟩,⟨⟨(some 16),none,(.gK (.tmp 15))⟩,[]⟩,⟨⟨(some 17),none,(.mv (.tmp 0))⟩,[]⟩,⟨⟨(some 18),none,(.kK (.tmp 17))⟩,[]⟩,⟨⟨(some 19),none,(.fK 0 (.tmp 18))⟩,[]⟩,⟨⟨(some 20),none,(.fK 0 (.tmp 19))⟩,[]⟩,⟨⟨(some 21),none,(.fK 4 (.tmp 20))⟩,[]⟩,⟨⟨(some 22),none,(.gK (.tmp 21))⟩,[]⟩,⟨⟨(some 23),none,(.mv (.tmp 0))⟩,[]⟩,⟨⟨(some 24),none,(.kK (.tmp 23))⟩,[]⟩,⟨⟨(some 25),none,(.fK 0 (.tmp 24))⟩,[]⟩,⟨⟨(some 26),none,(.fK 0 (.tmp 25))⟩,[]⟩,⟨⟨(some 27),none,(.fK 5 (.tmp 26))⟩,[]⟩,⟨⟨(some 28),none,(.gK (.tmp 27))⟩,[]⟩,⟨⟨(some 29),none,(.call (.func 152) [(.tmp 10),(.tmp 16),(.tmp 22),(.tmp 28)])⟩,[]⟩,⟨⟨(some 3),none,(.mv (.tmp 29))⟩,[]⟩,⟨⟨(some 30),none,(.extract (.tmp 3) 0)⟩,[]⟩,⟨⟨(some 31),none,(.extract (.tmp 3) 1)⟩,[]⟩,⟨⟨(some 32),none,(.kK (.tmp 4))⟩,[]⟩,⟨⟨(some 33),none,(.fK 0 (.tmp 32))⟩,[]⟩,⟨⟨(some 34),none,(.fK 10 (.tmp 33))⟩,[]⟩,⟨⟨none,none,(.store 5 (.tmp 34) (.tmp 30))⟩,[]⟩,⟨⟨(some 2),none,(.jc (.tmp 31))⟩,[]⟩]) (.seq (.ops [35,36] [⟨⟨(some 35),none,(.mv (.tmp 2))⟩,[]⟩,⟨⟨(some 36),none,(.bin .eql 41 (.tmp 35) (.const (.int .i64 0)))⟩,[]⟩]) (.cond (.tmp 36) (.ops [38,39,40,41,42,43,44,37,45,46,47,48,49,2] [⟨⟨(some 38),none,(.mv (.tmp 0))⟩,[]⟩,⟨⟨(some 39),none,(.mv (.tmp 0))⟩,[]⟩,⟨⟨(some 40),none,(.kK (.tmp 39))⟩,[]⟩,⟨⟨(some 41),none,(.fK 0 (.tmp 40))⟩,[]⟩,⟨⟨(some 42),none,(.fK 10 (.tmp 41))⟩,[]⟩,⟨⟨(some 43),none,(.pF 5 (.tmp 42))⟩,[]⟩,⟨⟨(some 44),none,(.call (.func 153) [(.tmp 43)])⟩,[]⟩,⟨⟨(some 37),none,(.mv (.tmp 44))⟩,[]⟩,⟨⟨(some 45),none,(.extract (.tmp 37) 0)⟩,[]⟩,⟨⟨(some 46),none,(.extract (.tmp 37) 1)⟩,[]⟩,⟨⟨(some 47),none,(.kK (.tmp 38))⟩,[]⟩,⟨⟨(some 48),none,(.fK 0 (.tmp 47))⟩,[]⟩,⟨⟨(some 49),none,(.fK 15 (.tmp 48))⟩,[]⟩,⟨⟨none,none,(.store 1 (.tmp 49) (.tmp 45))⟩,[]⟩,⟨⟨(some 2),none,(.jc (.tmp 46))⟩,[]⟩]) .skip))) (.seq (.ops [50,2] [⟨⟨(some 50),none,(.mv (.tmp 2))⟩,[]⟩,⟨⟨(some 2),none,(.jc (.tmp 50))⟩,[]⟩]) .ret)))⟩
theorem afW:kZ Tryz.prog 102=some UY:=by kernel_rfl
abbrev bL(d:bE)(vh vs vr vc vu g1 g2 g3 g4 g5 g6 g7:Value):List Value:=[.string d.name,.int .i64 d.version,.int .i64 d.shape,.int .i64 d.w,.int .i64 d.h,vh,vs,vr,vc,vu,g1,g2,g3,g4,g5,g6,g7]
abbrev zL(g1 g2 g3 g4 g5 g6 g7:Value):List Value:=[.string ⟨⟨[]⟩⟩,.int .i64 0,.int .i64 0,.int .i64 0,.int .i64 0,.slice none 0 0,.slice none 0 0,.slice none 0 0,.slice none 0 0,.slice none 0 0,g1,g2,g3,g4,g5,g6,g7]
theorem afX{b:Nat}{d:bE}{vh vs vr vc vu g1 g2 g3 g4 g5 g6 g7:Value}(hS:mq d):bi Tryz.prog (.func 100) [ptr' b] [] [pt b (.cells (bL d vh vs vr vc vu g1 g2 g3 g4 g5 g6 g7))] (kT d vh vs vr vc vu) (λy:FE=>.int .i64 y.e)
 (λy=>[pt b (.cells (cond y.ok (bL (Kd.bF d) vh vs vr y.vc y.vu g1 g2 g3 g4 g5 g6 g7) (zL g1 g2 g3 g4 g5 g6 g7)))]) (nW d) (Ag d):=by
 refine aK _ (aP 100) λB w0=>?_;refine go ?_;refine ax (Uq (d:=d) hS) (next:=λy hy=>?_);obtain⟨ok,e,v1,v2⟩:=y;cases ok with
 |false=>
  dsimp only[qL,nW,cond,List.nil_append]at hy⊢;refine go ?_;exact ae ⟨false,e,v1,v2⟩ (hv:=rfl) (hp:=hy)
 |true=>
  dsimp only[qL,nW,cond,List.cons_append,List.nil_append]at hy⊢;refine go ?_;exact ae ⟨true,e,v1,v2⟩ (hv:=rfl) (hp:=hy) (hF:=by show Sub [ah bM v1 (Kd.bF d).aJ,ah aY v2 (Kd.bF d).rules] _;exact .cons (by simp) (.cons (by simp) .nil))
theorem afY{b:Nat}{d:bE}{vh vs vr vc vu g1 g2 g3 g4 g5 g6 g7:Value}(hT:tY d):bi Tryz.prog (.func 101) [ptr' b] [] [pt b (.cells (bL d vh vs vr vc vu g1 g2 g3 g4 g5 g6 g7))] (kT d vh vs vr vc vu) (λe:Int=>.int .i64 e)
 (λ_=>[pt b (.cells (bL d vh vs vr vc vu g1 g2 g3 g4 g5 g6 g7))]) (λ_=>[]) (λe=>e=0↔FV d):=by
 refine aK _ (aP 101) λB w0=>?_;refine go ?_;refine ax (afV (d:=d) (vh:=vh) (vs:=vs) (vr:=vr) (vc:=vc) (vu:=vu) hT) (next:=λe he=>?_);refine go ?_;exact ae e (hv:=rfl) (hp:=he)
structure DrY where
 gh:Value
 gc:Value
 vn:Value
theorem af0{b:Nat}{d:bE}{vh vs vr vc vu g1 g2 g3 g4 g5 g6 g7:Value}(hT:tY d)(hm:nT d.shape d.w d.h d.holes):
 bi Tryz.prog (.func 102) [ptr' b] [] [pt b (.cells (bL d vh vs vr vc vu g1 g2 g3 g4 g5 g6 g7))] (kT d vh vs vr vc vu) (λ_:DrY=>.int .i64 0)
 (λy=>[pt b (.cells (bL d vh vs vr vc vu (.int .i64 (aO d).shape) (.int .i64 (aO d).w) (.int .i64 (aO d).h) y.gh y.gc y.vn g7))])
 (λy=>[ah aa y.gh (aO d).holes,ah aa y.gc (aO d).cells,ah (aj aa) y.vn (bI (aO d))]) (λ_=>True):=by
 have hG:=FW hm;have hgo:fq (aO d):=⟨hm,rfl⟩
 refine aK UY afW λB w0=>?_;refine go ?_;refine ax (M9 (s:=d.shape) (w:=d.w) (h:=d.h) (holes:=d.holes) (vh:=vh) hT.w hT.h hT.holes) (next:=λy hy=>?_);obtain⟨ok,v1,v2⟩:=y;cases ok with
 |false=>exact absurd (hy.2 hm) (by simp)
 |true=>
 dsimp only[cond,mkV,oG];rw[show uS d.shape d.w d.h d.holes=aO d from rfl];dsimp only[jy,iM,List.cons_append,List.nil_append];refine go ?_;refine ax (UE (g:=aO d) (vh:=v1) (vc:=v2) hG) (next:=λy hy2=>?_);obtain⟨vn,e⟩:=y;have he:e=0:=hy2.2 hgo;subst he;refine eX (ah (rX aa) vn (bI (aO d))) (λw hw=>hw (mF ((0:Int)=0) (ah (rX aa) vn (bI (aO d)))) (by simp) rfl) ?_;refine eX (ah (aj aa) vn (bI (aO d))) (λw hw=>Sy (hw (ah (rX aa) vn (bI (aO d))) (by simp))) ?_;dsimp only[uT];refine aS (E:=aj aa) (v:=vn) (xs:=bI (aO d)) (by simp) λan cn en=>?_;subst en;refine go ?_;exact ae ⟨v1,v2,.slice an (bI (aO d)).length cn⟩ (hv:=rfl) (hp:=trivial)
def iV(g:bA)(k:Nat):List (List (List Int)):=(List.range k).map λf:Nat=>dA g (f:Int)
theorem UZ(g:bA)(k:Nat):iV g (k+1)=iV g k++[dA g (k:Int)]:=by
 unfold iV;rw[JG,dW,oK]
theorem Je(g:bA)(k:Nat):(iV g k).length=k:=by unfold iV;simp
theorem af1{b:Nat}{d:bE}{vh vs vr vc vu gh gc vn:Value}(hT:tY d)(hm:nT d.shape d.w d.h d.holes)(hr:∀r∈d.regions,yK (aO d) r):
 bi Tryz.prog (.func 103) [ptr' b] [] [pt b (.cells (bL d vh vs vr vc vu (.int .i64 (aO d).shape) (.int .i64 (aO d).w) (.int .i64 (aO d).h) gh gc vn (.slice none 0 0)))]
 [ah eH vr d.regions,ah aa gh (aO d).holes,ah aa gc (aO d).cells] (λ_:Value=>.int .i64 0)
 (λvl=>[pt b (.cells (bL d vh vs vr vc vu (.int .i64 (aO d).shape) (.int .i64 (aO d).w) (.int .i64 (aO d).h) gh gc vn vl))])
 (λvl=>[ah (aj (aj aa)) vl (kV d)]) (λ_=>True):=by
 have hG:=FW hm;have hgo:fq (aO d):=⟨hm,rfl⟩
 have hrl:=hT.s.regs;refine aK _ (aP 103) λB w0=>?_;refine aS (E:=eH) (v:=vr) (xs:=d.regions) (by simp) λar cr er=>?_;subst er;refine go ?_;refine gI (aj (aj aa)) ?_;refine aZ (λy:Nat×Value=>8 - y.1) (λy=>[(10,.int .i64 (y.1:Int))]) (λy=>[pt b (.cells (bL d vh vs (.slice ar d.regions.length cr) vc vu (.int .i64 (aO d).shape) (.int .i64 (aO d).w) (.int .i64 (aO d).h) gh gc vn y.2)),ap (aj (aj aa)) y.2 (iV (aO d) y.1)]) (λ_=>[]) (λy=>y.1<=8) (0,.slice none 0 0) (cz _) (hk:=by repeat (first|exact aI.nil|(apply aI.cons;(focus (repeat (first|exact ay.here|apply ay.there)))))) (body:=?_);rintro⟨k,vl⟩ hk;dsimp only at hk⊢;have hkl:=Je (aO d) k;refine go ?_;refine aA rfl (λh1=>?_) (λh1=>?_)
 ·refine go ?_;refine ax (afk (g:=aO d) (vh:=gh) (vc:=gc) (k:=(k:Int)) hG) (next:=λy hy=>?_);obtain⟨v4,e⟩:=y;have he:e=0:=hy.2 ⟨hgo,by omega,by omega⟩;subst he;dsimp only[Ja,List.cons_append,List.nil_append];refine eX (ah (aj aa) v4 (dA (aO d) (k:Int))) (λw hw=>hw (mF ((0:Int)=0) (ah (aj aa) v4 (dA (aO d) (k:Int)))) (by simp) rfl) ?_;refine aS (E:=aj aa) (v:=v4) (xs:=dA (aO d) (k:Int)) (by simp) λa4 c4 e4=>?_;subst e4;refine go ?_;intro b33;refine go ?_;refine fC (xs:=iV (aO d) k) (aj (aj aa)) (dA (aO d) (k:Int)) (.slice a4 (dA (aO d) (k:Int)).length c4) (by omega) (next:=λad=>?_);rw[<- UZ];refine go ?_;exact aQ (k+1,.slice ad ((iV (aO d) k).length+1) ((iV (aO d) k).length+1)) (by show 8 - (k+1)<8 - k;omega) (by show k+1<=_;omega)
 have NC:k=8:=by omega
 subst NC;refine go ?_;refine aZ (λy:Nat×Value=>d.regions.length - y.1) (λy=>[(46,.int .i64 (y.1:Int))]) (λy=>[pt b (.cells (bL d vh vs (.slice ar d.regions.length cr) vc vu (.int .i64 (aO d).shape) (.int .i64 (aO d).w) (.int .i64 (aO d).h) gh gc vn y.2)),ap (aj (aj aa)) y.2 (iV (aO d) 8++(d.regions.take y.1).map λr=>dU (aO d) r.lists)]) (λ_=>[]) (λy=>y.1<=d.regions.length) (0,vl) (cz _) (hk:=by rw[show iV (aO d) 8++(d.regions.take 0).map (λr=>dU (aO d) r.lists)=iV (aO d) 8 from gy _];repeat (first|exact aI.nil|(apply aI.cons;(focus (repeat (first|exact ay.here|apply ay.there)))))) (body:=?_);rintro⟨k,v2⟩ hk;dsimp only at hk⊢;have hkl:(iV (aO d) 8++(d.regions.take k).map λr=>dU (aO d) r.lists).length=8+k:=by rw[fA,Je,bR,gM];omega
 refine go ?_;refine aA rfl (λh1=>?_) (λh1=>?_)
 ·refine go ?_;refine bz eH (xs:=d.regions) (next:=λ_ _ r (ND:Value) FX=>?_);have hrm:=bG FX;obtain⟨hl1,hl2⟩:=hT.s.qN r hrm;obtain⟨⟨_,hro⟩,_⟩:=hr r hrm;refine go ?_;intro b7;refine go ?_;refine ax (UR (g:=aO d) (vh:=gh) (vc:=gc) (vr:=ND) (rs:=r.lists) hG hl1 hl2) (next:=λy hy=>?_);obtain⟨v8,e⟩:=y;have he:e=0:=hy.2 ⟨hgo,hro⟩;subst he;dsimp only[Jc,List.cons_append,List.nil_append];refine eX (ah (aj aa) v8 (dU (aO d) r.lists)) (λw hw=>hw (mF ((0:Int)=0) (ah (aj aa) v8 (dU (aO d) r.lists))) (by simp) rfl) ?_;refine aS (E:=aj aa) (v:=v8) (xs:=dU (aO d) r.lists) (by simp) λa8 c8 e8=>?_;subst e8;refine go ?_;intro b71;refine go ?_;have htk:iV (aO d) 8++(d.regions.take (k+1)).map (λr=>dU (aO d) r.lists)=(iV (aO d) 8++(d.regions.take k).map λr=>dU (aO d) r.lists)++[dU (aO d) r.lists]:=by
   rw[bY FX,dW,oK,fE]
  refine fC (xs:=iV (aO d) 8++(d.regions.take k).map λr=>dU (aO d) r.lists) (aj (aj aa)) (dU (aO d) r.lists) (.slice a8 (dU (aO d) r.lists).length c8) (by omega) (next:=λad=>?_);rw[<- htk];refine go ?_;exact aQ (k+1,.slice ad ((iV (aO d) 8++(d.regions.take k).map λr=>dU (aO d) r.lists).length+1) ((iV (aO d) 8++(d.regions.take k).map λr=>dU (aO d) r.lists).length+1)) (by show d.regions.length - (k+1)<d.regions.length - k;omega) (by show k+1<=_;omega)
 have hke:k=d.regions.length:=by omega
 subst hke;rw[bK];rw[show iV (aO d) 8++d.regions.map (λr=>dU (aO d) r.lists)=kV d from rfl];refine bD (gH (E:=aj (aj aa)) (v:=v2) (xs:=kV d)) (h:=?_);refine go ?_;exact ae v2 (hv:=rfl) (hp:=trivial)
abbrev af4:List Value:=zL (.int .i64 0) (.int .i64 0) (.int .i64 0) (.slice none 0 0) (.slice none 0 0) (.slice none 0 0) (.slice none 0 0)
abbrev mG(k:bS)(vh vs vr vc vu gh gc vn vl:Value):List Value:=bL k.decl vh vs vr vc vu (.int .i64 k.grid.shape) (.int .i64 k.grid.w) (.int .i64 k.grid.h) gh gc vn vl
abbrev nI(k:bS)(vh vs vr vc vu gh gc vn vl:Value)(F:List aH):List aH:=ah aa vh k.decl.holes::ah fF vs k.decl.symbols::ah eH vr k.decl.regions::ah bM vc k.decl.aJ::ah aY vu k.decl.rules::ah aa gh k.grid.holes::ah aa gc k.grid.cells::ah (aj aa) vn k.bn::ah (aj (aj aa)) vl k.lists::F
structure FY(d:bE):Prop where
 rs:Cg d
 typ:FV (Kd.bF d)
structure fT(k:bS):Prop where
 b:FY k.decl
 e:k=kg (Kd.bF k.decl)
structure NE where
 ok:Bool
 e:Int
 vc:Value
 vu:Value
 gh:Value
 gc:Value
 vn:Value
 vl:Value
abbrev Cv(d:bE)(vh vs vr:Value)(y:NE):Value:=.tuple ⟨[.agg ⟨cond y.ok (mG (kg (Kd.bF d)) vh vs vr y.vc y.vu y.gh y.gc y.vn y.vl) af4⟩,.int .i64 y.e]⟩
abbrev Cw(d:bE)(vh vs vr:Value)(y:NE):List aH:=cond y.ok [ah bM y.vc (Kd.bF d).aJ,ah aY y.vu (Kd.bF d).rules,ah aa y.gh (aO (Kd.bF d)).holes,ah aa y.gc (aO (Kd.bF d)).cells,ah (aj aa) y.vn (bI (aO (Kd.bF d))),ah (aj (aj aa)) y.vl (kV (Kd.bF d))] []
def Jf(d:bE)(y:NE):Prop:=(y.ok=true->y.e=0/\FY d)/\(y.ok=false->y.e≠0/\¬FY d)
theorem af5{d:bE}{vh vs vr vc vu:Value}(hT:tY d):bi Tryz.prog (.func 63) [.agg ⟨gF d vh vs vr vc vu⟩] [] [] (kT d vh vs vr vc vu) (Cv d vh vs vr) (λ_=>[]) (Cw d vh vs vr) (Jf d):=by
 have tZ:tY (Kd.bF d):=⟨hT.s.bF,hT.w,hT.h,hT.holes⟩
 have hend:∀{e:Int} {vc vu gh gc vn vl:Value},e≠0->¬FY d->Jf d ⟨false,e,vc,vu,gh,gc,vn,vl⟩:=λhe hb=>⟨(λh=>by cases h),λ_=>⟨he,hb⟩⟩
 refine aK _ (aP 63) λB w0=>?_;refine go ?_;intro b1 b2 b4 b15;refine kC ?_;refine go ?_;refine ax (afX (b:=b4) (d:=d) (vh:=vh) (vs:=vs) (vr:=vr) (vc:=vc) (vu:=vu) hT.s) (next:=λy hy=>?_);obtain⟨ok,e,v1,v2⟩:=y;cases ok with
 |false=>
  obtain⟨he,hno⟩:=hy.2 rfl;dsimp only[cond,nW,List.nil_append]at he⊢;refine go ?_;refine aA rfl (λh1=>?_) (λh1=>?_)
  ·refine go ?_;exact ae ⟨false,e,v1,v2,v1,v1,v1,v1⟩ (hv:=rfl) (hp:=hend he λh=>hno h.rs)
  ·exact absurd (iO.1 h1) he
 |true=>
 obtain⟨he,hres⟩:=hy.1 rfl;have he:e=0:=he;subst he;clear hy;dsimp only[cond,nW,List.cons_append,List.nil_append];refine eX (ah aa vh (Kd.bF d).holes) (λw hw=>hw (ah aa vh d.holes) (by simp)) ?_;refine eX (ah fF vs (Kd.bF d).symbols) (λw hw=>hw (ah fF vs d.symbols) (by simp)) ?_;refine eX (ah eH vr (Kd.bF d).regions) (λw hw=>hw (ah eH vr d.regions) (by simp)) ?_;refine go ?_;refine kC ?_;refine go ?_;refine ax (afY (b:=b4) (d:=Kd.bF d) (vh:=vh) (vs:=vs) (vr:=vr) (vc:=v1) (vu:=v2) tZ) (next:=λe he=>?_);refine go ?_;refine aA rfl (λhne=>?_) (λhz=>?_)
 ·refine go ?_;exact ae ⟨false,e,v1,v2,v1,v1,v1,v1⟩ (hv:=rfl) (hp:=hend hne λh=>hne (he.2 h.typ))
 have hty:=he.1 (iO.1 hz);clear he hz;refine go ?_;refine kC ?_;refine go ?_;refine ax (af0 (b:=b4) (d:=Kd.bF d) (vh:=vh) (vs:=vs) (vr:=vr) (vc:=v1) (vu:=v2) tZ hty.Cu) (next:=λy _=>?_);obtain⟨gh,gc,vn⟩:=y;dsimp only[List.cons_append,List.nil_append];refine go ?_;refine kC ?_;refine go ?_;refine ax (af1 (b:=b4) (d:=Kd.bF d) (vh:=vh) (vs:=vs) (vr:=vr) (vc:=v1) (vu:=v2) (gh:=gh) (gc:=gc) (vn:=vn) tZ hty.Cu hty.Ao) (next:=λvl _=>?_);dsimp only[List.cons_append,List.nil_append];refine go ?_;refine kC ?_;refine go ?_;refine ae ⟨true,0,v1,v2,gh,gc,vn,vl⟩ (hv:=rfl) (hp:=⟨λ_=>⟨rfl,hres,hty⟩,(λh=>by cases h)⟩) (hF:=?_);show Sub [ah bM v1 (Kd.bF d).aJ,ah aY v2 (Kd.bF d).rules,ah aa gh (aO (Kd.bF d)).holes,ah aa gc (aO (Kd.bF d)).cells,ah (aj aa) vn (bI (aO (Kd.bF d))),ah (aj (aj aa)) vl (kV (Kd.bF d))] _;exact .cons (by simp) (.cons (by simp) (.cons (by simp) (.cons (by simp) (.cons (by simp) (.cons (by simp) .nil)))))
structure qg(k:bS):Prop where
 d:tY k.decl
 g:qd k.grid
 bn:k.bn.length<9223372036854775808/\∀l∈k.bn,l.length<9223372036854775808
 lists:k.lists.length<9223372036854775808/\∀l∈k.lists,l.length<9223372036854775808/\∀m∈l,m.length<9223372036854775808
theorem af6{x y:bS}{h1 s1 r1 c1 u1 yL yM n1 l1 h2 s2 r2 c2 u2 yN yO n2 l2:Value}(hS:qg x):dz Tryz.prog 67 [.agg ⟨mG x h1 s1 r1 c1 u1 yL yM n1 l1⟩,.agg ⟨mG y h2 s2 r2 c2 u2 yN yO n2 l2⟩]
 (nI x h1 s1 r1 c1 u1 yL yM n1 l1 (nI y h2 s2 r2 c2 u2 yN yO n2 l2 [])) (.bool (decide (x=y))):=by
 have e1:=hS.d.s;have e2:=hS.g.holes;have e3:=hS.g.cells;obtain⟨e4,e5⟩:=hS.bn;obtain⟨e6,e7⟩:=hS.lists;clear hS;obtain⟨xd,⟨xs,xw,xh,Ap,Aq⟩,xn,xl⟩:=x;obtain⟨yd,⟨ys,yw,yh,NF,FZ⟩,yn,yl⟩:=y;dsimp only at e1 e2 e3 e4 e5 e6 e7;dsimp only[mG,nI];refine aK _ (aP 67) λB w0=>?_;refine go ?_;intro b2 b3;refine go ?_;first|with_reducible refine aN (λk1=>?_) (λk1=>?_)|with_reducible refine aM (λk1=>?_) (λk1=>?_)|with_reducible refine aL (λk1=>?_) (λk1=>?_)
 ·refine go ?_;refine ae () (hv:=?_) (hp:=trivial);rw[aT (λe=>k1 (by cases e;rfl))];rfl
 refine go ?_;first|with_reducible refine aN (λk2=>?_) (λk2=>?_)|with_reducible refine aM (λk2=>?_) (λk2=>?_)|with_reducible refine aL (λk2=>?_) (λk2=>?_)
 ·refine go ?_;refine ae () (hv:=?_) (hp:=trivial);rw[aT (λe=>k2 (by cases e;rfl))];rfl
 refine go ?_;first|with_reducible refine aN (λk3=>?_) (λk3=>?_)|with_reducible refine aM (λk3=>?_) (λk3=>?_)|with_reducible refine aL (λk3=>?_) (λk3=>?_)
 ·refine go ?_;refine ae () (hv:=?_) (hp:=trivial);rw[aT (λe=>k3 (by cases e;rfl))];rfl
 refine go ?_;refine ax (Af (xs:=Ap) (ys:=NF) (by omega)) (next:=λ_ _=>?_);refine go ?_;first|with_reducible refine aN (λk4=>?_) (λk4=>?_)|with_reducible refine aM (λk4=>?_) (λk4=>?_)|with_reducible refine aL (λk4=>?_) (λk4=>?_)
 ·refine go ?_;refine ae () (hv:=?_) (hp:=trivial);rw[aT (λe=>k4 (by cases e;rfl))];rfl
 refine go ?_;refine ax (Af (xs:=Aq) (ys:=FZ) (by omega)) (next:=λ_ _=>?_);refine go ?_;first|with_reducible refine aN (λk5=>?_) (λk5=>?_)|with_reducible refine aM (λk5=>?_) (λk5=>?_)|with_reducible refine aL (λk5=>?_) (λk5=>?_)
 ·refine go ?_;refine ae () (hv:=?_) (hp:=trivial);rw[aT (λe=>k5 (by cases e;rfl))];rfl
 refine go ?_;have hsy:dz Tryz.prog 105 [.agg ⟨gF xd h1 s1 r1 c1 u1⟩,.agg ⟨gF yd h2 s2 r2 c2 u2⟩] [ah aa h1 xd.holes,ah fF s1 xd.symbols,ah eH r1 xd.regions,ah bM c1 xd.aJ,ah aY u1 xd.rules,ah aa h2 yd.holes,ah fF s2 yd.symbols,ah eH r2 yd.regions,ah bM c2 yd.aJ,ah aY u2 yd.rules] (.bool (decide (xd=yd))):=Uv e1;refine ax hsy (next:=λ_ _=>?_);refine go ?_;first|with_reducible refine aN (λk6=>?_) (λk6=>?_)|with_reducible refine aM (λk6=>?_) (λk6=>?_)|with_reducible refine aL (λk6=>?_) (λk6=>?_)
 ·refine go ?_;refine ae () (hv:=?_) (hp:=trivial);rw[aT (λe=>k6 (by cases e;rfl))];rfl
 refine go ?_;refine ax (Ut (xs:=xn) (ys:=yn) e4 e5) (next:=λ_ _=>?_);refine go ?_;first|with_reducible refine aN (λk7=>?_) (λk7=>?_)|with_reducible refine aM (λk7=>?_) (λk7=>?_)|with_reducible refine aL (λk7=>?_) (λk7=>?_)
 ·refine go ?_;refine ae () (hv:=?_) (hp:=trivial);rw[aT (λe=>k7 (by cases e;rfl))];rfl
 refine go ?_;refine ax (ad5 (xs:=xl) (ys:=yl) e6 e7) (next:=λ_ _=>?_);refine go ?_;refine ae () (hv:=?_) (hp:=trivial);subst k1 k2 k3 k4 k5 k6 k7;rw[show decide (bS.mk xd ⟨xs,xw,xh,Ap,Aq⟩ xn xl=bS.mk xd ⟨xs,xw,xh,Ap,Aq⟩ xn yl)=decide (xl=yl)from oJ.2 ⟨λh=>by cases h;rfl,λh=>by rw[h]⟩];rfl
theorem af7{k:bS}{vh vs vr vc vu gh gc vn vl:Value}(hS:qg k):bi Tryz.prog (.func 36) [.agg ⟨mG k vh vs vr vc vu gh gc vn vl⟩] [] [] (nI k vh vs vr vc vu gh gc vn vl []) (λb:Bool=>.int .i64 (cond b 0 180)) (λ_=>[]) (λ_=>[]) (λb=>b=true↔fT k):=by
 refine aK _ (aP 36) λB w0=>?_;refine go ?_;intro b1;refine go ?_;refine ax (af5 (d:=k.decl) (vh:=vh) (vs:=vs) (vr:=vr) (vc:=vc) (vu:=vu) hS.d) (next:=λy hy=>?_);obtain⟨ok,e,v1,v2,v3,v4,v5,v6⟩:=y;cases ok with
 |false=>
  obtain⟨he,hno⟩:=hy.2 rfl;have he:e≠0:=he;dsimp only[cond,Cv,Cw,List.nil_append];refine go ?_;intro b3;refine go ?_;first|with_reducible refine aN (λh1=>?_) (λh1=>?_)|with_reducible refine aM (λh1=>?_) (λh1=>?_)|with_reducible refine aL (λh1=>?_) (λh1=>?_)
  ·exact absurd (iO.1 h1) he
  refine go ?_;exact ae false (hv:=rfl) (hp:=⟨(λh=>by cases h),λh=>absurd h.b hno⟩)
 |true=>
 obtain⟨he,hb⟩:=hy.1 rfl;have he:e=0:=he;subst he;clear hy;dsimp only[cond,Cv,Cw,List.cons_append,List.nil_append];refine go ?_;intro b3;refine go ?_;have hsm:=af6 (x:=k) (y:=kg (Kd.bF k.decl)) (h1:=vh) (s1:=vs) (r1:=vr) (c1:=vc) (u1:=vu) (yL:=gh) (yM:=gc) (n1:=vn) (l1:=vl) (h2:=vh) (s2:=vs) (r2:=vr) (c2:=v1) (u2:=v2) (yN:=v3) (yO:=v4) (n2:=v5) (l2:=v6) hS;refine eX (ah aa vh (kg (Kd.bF k.decl)).decl.holes) (λw hw=>hw (ah aa vh k.decl.holes) (by simp)) ?_;refine eX (ah fF vs (kg (Kd.bF k.decl)).decl.symbols) (λw hw=>hw (ah fF vs k.decl.symbols) (by simp)) ?_;refine eX (ah eH vr (kg (Kd.bF k.decl)).decl.regions) (λw hw=>hw (ah eH vr k.decl.regions) (by simp)) ?_;refine eX (ah bM v1 (kg (Kd.bF k.decl)).decl.aJ) (λw hw=>hw (ah bM v1 (Kd.bF k.decl).aJ) (by simp)) ?_;refine eX (ah aY v2 (kg (Kd.bF k.decl)).decl.rules) (λw hw=>hw (ah aY v2 (Kd.bF k.decl).rules) (by simp)) ?_;refine eX (ah aa v3 (kg (Kd.bF k.decl)).grid.holes) (λw hw=>hw (ah aa v3 (aO (Kd.bF k.decl)).holes) (by simp)) ?_;refine eX (ah aa v4 (kg (Kd.bF k.decl)).grid.cells) (λw hw=>hw (ah aa v4 (aO (Kd.bF k.decl)).cells) (by simp)) ?_;refine eX (ah (aj aa) v5 (kg (Kd.bF k.decl)).bn) (λw hw=>hw (ah (aj aa) v5 (bI (aO (Kd.bF k.decl)))) (by simp)) ?_;refine eX (ah (aj (aj aa)) v6 (kg (Kd.bF k.decl)).lists) (λw hw=>hw (ah (aj (aj aa)) v6 (kV (Kd.bF k.decl))) (by simp)) ?_;refine ax hsm (next:=λ_ _=>?_);refine go ?_;refine eU rfl (λh3=>?_) (λh3=>?_)
 ·refine go ?_;exact ae false (hv:=rfl) (hp:=⟨(λh=>by cases h),λh=>absurd h.e h3⟩)
 ·refine go ?_;exact ae true (hv:=rfl) (hp:=⟨λ_=>⟨hb,h3⟩,λ_=>rfl⟩)
