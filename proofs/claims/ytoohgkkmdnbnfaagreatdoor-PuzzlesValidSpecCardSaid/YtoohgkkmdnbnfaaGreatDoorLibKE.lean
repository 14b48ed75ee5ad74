/-
  Kinds: the steps in which one is built.
-/
import Derived.Test.YtoohgkkmdnbnfaaGreatDoorLibJE
set_option linter.all false
set_option maxRecDepth 10000
set_option maxHeartbeats 4000000
namespace Go.Proofs.YtoohgkkmdnbnfaaGreatDoor
open Go.Ideal Kd
noncomputable def SY:fI:=⟨51,[(.tmp 2)],(.seq (.ops [2] [⟨⟨(some 2),none,(.lG (.const (.int .i64 0)))⟩,[]⟩]) (.seq (.seq (.ops [4,5,6,7,8,9,10,11,12,13,14,15,16,17,18,19,20,21,22,23,24,25,26,27,28,29,3,30,31,32,33,34,2] [⟨⟨(some 4),none,(.mv (.tmp 0))⟩,[]⟩,⟨⟨(some 5),none,(.mv (.tmp 0))⟩,[]⟩,⟨⟨(some 6),none,(.jF (.tmp 5))⟩,[]⟩,⟨⟨(some 7),none,(.dV 0 (.tmp 6))⟩,[]⟩,⟨⟨(some 8),none,(.dV 0 (.tmp 7))⟩,[]⟩,⟨⟨(some 9),none,(.dV 2 (.tmp 8))⟩,[]⟩,⟨⟨(some 10),none,(.fH (.tmp 9))⟩,[]⟩,⟨⟨(some 11),none,(.mv (.tmp 0))⟩,[]⟩,⟨⟨(some 12),none,(.jF (.tmp 11))⟩,[]⟩,⟨⟨(some 13),none,(.dV 0 (.tmp 12))⟩,[]⟩,⟨⟨(some 14),none,(.dV 0 (.tmp 13))⟩,[]⟩,⟨⟨(some 15),none,(.dV 3 (.tmp 14))⟩,[]⟩,⟨⟨(some 16),none,(.fH (.tmp 15))⟩,[]⟩,⟨⟨(some 17),none,(.mv (.tmp 0))⟩,[]⟩,⟨⟨(some 18),none,(.jF (.tmp 17))⟩,[]⟩,⟨⟨(some 19),none,(.dV 0 (.tmp 18))⟩,[]⟩,⟨⟨(some 20),none,(.dV 0 (.tmp 19))⟩,[]⟩,⟨⟨(some 21),none,(.dV 4 (.tmp 20))⟩,[]⟩,⟨⟨(some 22),none,(.fH (.tmp 21))⟩,[]⟩,⟨⟨(some 23),none,(.mv (.tmp 0))⟩,[]⟩,⟨⟨(some 24),none,(.jF (.tmp 23))⟩,[]⟩,⟨⟨(some 25),none,(.dV 0 (.tmp 24))⟩,[]⟩,⟨⟨(some 26),none,(.dV 0 (.tmp 25))⟩,[]⟩,⟨⟨(some 27),none,(.dV 5 (.tmp 26))⟩,[]⟩,⟨⟨(some 28),none,(.fH (.tmp 27))⟩,[]⟩,⟨⟨(some 29),none,(.call (.func 152) [(.tmp 10),(.tmp 16),(.tmp 22),(.tmp 28)])⟩,[]⟩,⟨⟨(some 3),none,(.mv (.tmp 29))⟩,[]⟩,⟨⟨(some 30),none,(.extract (.tmp 3) 0)⟩,[]⟩,⟨⟨(some 31),none,(.extract (.tmp 3) 1)⟩,[]⟩,⟨⟨(some 32),none,(.jF (.tmp 4))⟩,[]⟩,⟨⟨(some 33),none,(.dV 0 (.tmp 32))⟩,[]⟩,⟨⟨(some 34),none,(.dV 10 (.tmp 33))⟩,[]⟩,⟨⟨none,none,(.store 5 (.tmp 34) (.tmp 30))⟩,[]⟩,⟨⟨(some 2),none,(.lG (.tmp 31))⟩,[]⟩]) (.seq (.ops [35,36] [⟨⟨(some 35),none,(.mv (.tmp 2))⟩,[]⟩,⟨⟨(some 36),none,(.bin .eql 41 (.tmp 35) (.const (.int .i64 0)))⟩,[]⟩]) (.cond (.tmp 36) (.ops [38,39,40,41,42,43,44,37,45,46,47,48,49,2] [⟨⟨(some 38),none,(.mv (.tmp 0))⟩,[]⟩,⟨⟨(some 39),none,(.mv (.tmp 0))⟩,[]⟩,⟨⟨(some 40),none,(.jF (.tmp 39))⟩,[]⟩,⟨⟨(some 41),none,(.dV 0 (.tmp 40))⟩,[]⟩,⟨⟨(some 42),none,(.dV 10 (.tmp 41))⟩,[]⟩,⟨⟨(some 43),none,(.nH 5 (.tmp 42))⟩,[]⟩,⟨⟨(some 44),none,(.call (.func 153) [(.tmp 43)])⟩,[]⟩,⟨⟨(some 37),none,(.mv (.tmp 44))⟩,[]⟩,⟨⟨(some 45),none,(.extract (.tmp 37) 0)⟩,[]⟩,⟨⟨(some 46),none,(.extract (.tmp 37) 1)⟩,[]⟩,⟨⟨(some 47),none,(.jF (.tmp 38))⟩,[]⟩,⟨⟨(some 48),none,(.dV 0 (.tmp 47))⟩,[]⟩,⟨⟨(some 49),none,(.dV 15 (.tmp 48))⟩,[]⟩,⟨⟨none,none,(.store 1 (.tmp 49) (.tmp 45))⟩,[]⟩,⟨⟨(some 2),none,(.lG (.tmp 46))⟩,[]⟩]) .skip))) (.seq (.ops [50,2] [⟨⟨(some 50),none,(.mv (.tmp 2))⟩,[]⟩,⟨⟨(some 2),none,(.lG (.tmp 50))⟩,[]⟩]) .ret)))⟩
theorem adi:lM Tryz.prog 102=some SY:=by kernel_rfl
abbrev bL(d:bR)(vh vs vr vc vu g1 g2 g3 g4 g5 g6 g7:Value):List Value:=[.string d.name,.int .i64 d.version,.int .i64 d.shape,.int .i64 d.w,.int .i64 d.h,vh,vs,vr,vc,vu,g1,g2,g3,g4,g5,g6,g7]
abbrev zL(g1 g2 g3 g4 g5 g6 g7:Value):List Value:=[.string ⟨⟨[]⟩⟩,.int .i64 0,.int .i64 0,.int .i64 0,.int .i64 0,.slice none 0 0,.slice none 0 0,.slice none 0 0,.slice none 0 0,.slice none 0 0,g1,g2,g3,g4,g5,g6,g7]
theorem adj{b:Nat}{d:bR}{vh vs vr vc vu g1 g2 g3 g4 g5 g6 g7:Value}(hS:nX d):aV Tryz.prog (.func 100) [ptr' b] [] [pt b (.cells (bL d vh vs vr vc vu g1 g2 g3 g4 g5 g6 g7))] (nT d vh vs vr vc vu) (λy:De=>.int .i64 y.e)
 (λy=>[pt b (.cells (cond y.ok (bL (Kd.cB d) vh vs vr y.vc y.vu g1 g2 g3 g4 g5 g6 g7) (zL g1 g2 g3 g4 g5 g6 g7)))]) (qx d) (AX d):=by
 refine aS _ (aQ 100) λB w0=>?_;refine go ?_;refine ax (R4 (d:=d) hS) (next:=λy hy=>?_);obtain⟨ok,e,v1,v2⟩:=y;cases ok with
 |false=>
  dsimp only[wC,qx,cond,List.nil_append]at hy⊢;refine go ?_;exact aa ⟨false,e,v1,v2⟩ (hv:=rfl) (hp:=hy)
 |true=>
  dsimp only[wC,qx,cond,List.cons_append,List.nil_append]at hy⊢;refine go ?_;exact aa ⟨true,e,v1,v2⟩ (hv:=rfl) (hp:=hy) (hF:=by show Sub [ai dH v1 (Kd.cB d).bI,ai bq v2 (Kd.cB d).rules] _;exact .cons (by simp) (.cons (by simp) .nil))
theorem adk{b:Nat}{d:bR}{vh vs vr vc vu g1 g2 g3 g4 g5 g6 g7:Value}(hT:wH d):aV Tryz.prog (.func 101) [ptr' b] [] [pt b (.cells (bL d vh vs vr vc vu g1 g2 g3 g4 g5 g6 g7))] (nT d vh vs vr vc vu) (λe:Int=>.int .i64 e)
 (λ_=>[pt b (.cells (bL d vh vs vr vc vu g1 g2 g3 g4 g5 g6 g7))]) (λ_=>[]) (λe=>e=0↔F5 d):=by
 refine aS _ (aQ 101) λB w0=>?_;refine go ?_;refine ax (adh (d:=d) (vh:=vh) (vs:=vs) (vr:=vr) (vc:=vc) (vu:=vu) hT) (next:=λe he=>?_);refine go ?_;exact aa e (hv:=rfl) (hp:=he)
structure DrY where
 gh:Value
 gc:Value
 vn:Value
theorem adm{b:Nat}{d:bR}{vh vs vr vc vu g1 g2 g3 g4 g5 g6 g7:Value}(hT:wH d)(hm:oV d.shape d.w d.h d.holes):
 aV Tryz.prog (.func 102) [ptr' b] [] [pt b (.cells (bL d vh vs vr vc vu g1 g2 g3 g4 g5 g6 g7))] (nT d vh vs vr vc vu) (λ_:DrY=>.int .i64 0)
 (λy=>[pt b (.cells (bL d vh vs vr vc vu (.int .i64 (aX d).shape) (.int .i64 (aX d).w) (.int .i64 (aX d).h) y.gh y.gc y.vn g7))])
 (λy=>[ai ae y.gh (aX d).holes,ai ae y.gc (aX d).cells,ai (aC ae) y.vn (dY (aX d))]) (λ_=>True):=by
 have hG:=KZ hm;have hgo:gH (aX d):=⟨hm,rfl⟩
 refine aS SY adi λB w0=>?_;refine go ?_;refine ax (Km (s:=d.shape) (w:=d.w) (h:=d.h) (holes:=d.holes) (vh:=vh) hT.w hT.h hT.holes) (next:=λy hy=>?_);obtain⟨ok,v1,v2⟩:=y;cases ok with
 |false=>exact absurd (hy.2 hm) (by simp)
 |true=>
 dsimp only[cond,mkV,sK];rw[show yI d.shape d.w d.h d.holes=aX d from rfl];dsimp only[oZ,l6,List.cons_append,List.nil_append];refine go ?_;refine ax (Sv (g:=aX d) (vh:=v1) (vc:=v2) hG) (next:=λy hy2=>?_);obtain⟨vn,e⟩:=y;have he:e=0:=hy2.2 hgo;subst he;refine iD (ai (qj ae) vn (dY (aX d))) (λw hw=>hw (rA ((0:Int)=0) (ai (qj ae) vn (dY (aX d)))) (by simp) rfl) ?_;refine iD (ai (aC ae) vn (dY (aX d))) (λw hw=>QS (hw (ai (qj ae) vn (dY (aX d))) (by simp))) ?_;dsimp only[FQ];refine fq (E:=aC ae) (v:=vn) (xs:=dY (aX d)) (by simp) λan cn en=>?_;subst en;refine go ?_;exact aa ⟨v1,v2,.slice an (dY (aX d)).length cn⟩ (hv:=rfl) (hp:=trivial)
def kT(g:bO)(k:Nat):List (List (List Int)):=(List.range k).map λf:Nat=>fJ g (f:Int)
theorem adn(g:bO)(k:Nat):kT g (k+1)=kT g k++[fJ g (k:Int)]:=by
 unfold kT;rw[List.range_succ,dM,rP]
theorem S9(g:bO)(k:Nat):(kT g k).length=k:=by unfold kT;simp
theorem ado{b:Nat}{d:bR}{vh vs vr vc vu gh gc vn:Value}(hT:wH d)(hm:oV d.shape d.w d.h d.holes)(hr:∀r∈d.regions,Dp (aX d) r):
 aV Tryz.prog (.func 103) [ptr' b] [] [pt b (.cells (bL d vh vs vr vc vu (.int .i64 (aX d).shape) (.int .i64 (aX d).w) (.int .i64 (aX d).h) gh gc vn (.slice none 0 0)))]
 [ai iV vr d.regions,ai ae gh (aX d).holes,ai ae gc (aX d).cells] (λ_:Value=>.int .i64 0)
 (λvl=>[pt b (.cells (bL d vh vs vr vc vu (.int .i64 (aX d).shape) (.int .i64 (aX d).w) (.int .i64 (aX d).h) gh gc vn vl))])
 (λvl=>[ai (aC (aC ae)) vl (lY d)]) (λ_=>True):=by
 have hG:=KZ hm;have hgo:gH (aX d):=⟨hm,rfl⟩
 have hrl:=hT.s.regs;refine aS _ (aQ 103) λB w0=>?_;refine fq (E:=iV) (v:=vr) (xs:=d.regions) (by simp) λar cr er=>?_;subst er;refine go ?_;refine mE (aC (aC ae)) ?_;refine bJ (λy:Nat×Value=>8 - y.1) (λy=>[(10,.int .i64 (y.1:Int))]) (λy=>[pt b (.cells (bL d vh vs (.slice ar d.regions.length cr) vc vu (.int .i64 (aX d).shape) (.int .i64 (aX d).w) (.int .i64 (aX d).h) gh gc vn y.2)),ap (aC (aC ae)) y.2 (kT (aX d) y.1)]) (λ_=>[]) (λy=>y.1<=8) (0,.slice none 0 0) (dD _) (hk:=by repeat (first|exact aM.nil|(apply aM.cons;(focus (repeat (first|exact aj.here|apply aj.there)))))) (body:=?_);rintro⟨k,vl⟩ hk;dsimp only at hk⊢;have hkl:=S9 (aX d) k;refine go ?_;refine aG rfl (λh1=>?_) (λh1=>?_)
 ·refine go ?_;refine ax (acF (g:=aX d) (vh:=gh) (vc:=gc) (k:=(k:Int)) hG) (next:=λy hy=>?_);obtain⟨v4,e⟩:=y;have he:e=0:=hy.2 ⟨hgo,by omega,by omega⟩;subst he;dsimp only[SK,List.cons_append,List.nil_append];refine iD (ai (aC ae) v4 (fJ (aX d) (k:Int))) (λw hw=>hw (rA ((0:Int)=0) (ai (aC ae) v4 (fJ (aX d) (k:Int)))) (by simp) rfl) ?_;refine fq (E:=aC ae) (v:=v4) (xs:=fJ (aX d) (k:Int)) (by simp) λa4 c4 e4=>?_;subst e4;refine go ?_;intro b33;refine go ?_;refine kR (xs:=kT (aX d) k) (aC (aC ae)) (fJ (aX d) (k:Int)) (.slice a4 (fJ (aX d) (k:Int)).length c4) (by omega) (next:=λad=>?_);rw[<- adn];refine go ?_;exact bi (k+1,.slice ad ((kT (aX d) k).length+1) ((kT (aX d) k).length+1)) (by show 8 - (k+1)<8 - k;omega) (by show k+1<=_;omega)
 have hk8:k=8:=by omega
 subst hk8;refine go ?_;refine bJ (λy:Nat×Value=>d.regions.length - y.1) (λy=>[(46,.int .i64 (y.1:Int))]) (λy=>[pt b (.cells (bL d vh vs (.slice ar d.regions.length cr) vc vu (.int .i64 (aX d).shape) (.int .i64 (aX d).w) (.int .i64 (aX d).h) gh gc vn y.2)),ap (aC (aC ae)) y.2 (kT (aX d) 8++(d.regions.take y.1).map λr=>gI (aX d) r.lists)]) (λ_=>[]) (λy=>y.1<=d.regions.length) (0,vl) (dD _) (hk:=by rw[show kT (aX d) 8++(d.regions.take 0).map (λr=>gI (aX d) r.lists)=kT (aX d) 8 from iX _];repeat (first|exact aM.nil|(apply aM.cons;(focus (repeat (first|exact aj.here|apply aj.there)))))) (body:=?_);rintro⟨k,v2⟩ hk;dsimp only at hk⊢;have hkl:(kT (aX d) 8++(d.regions.take k).map λr=>gI (aX d) r.lists).length=8+k:=by rw[fK,S9,bT,jE];omega
 refine go ?_;refine aG rfl (λh1=>?_) (λh1=>?_)
 ·refine go ?_;refine dm iV (xs:=d.regions) (next:=λ_ _ r (vr2:Value) Ta=>?_);have hrm:=bG Ta;obtain⟨hl1,hl2⟩:=hT.s.uD r hrm;obtain⟨⟨_,hro⟩,_⟩:=hr r hrm;refine go ?_;intro b7;refine go ?_;refine ax (SN (g:=aX d) (vh:=gh) (vc:=gc) (vr:=vr2) (rs:=r.lists) hG hl1 hl2) (next:=λy hy=>?_);obtain⟨v8,e⟩:=y;have he:e=0:=hy.2 ⟨hgo,hro⟩;subst he;dsimp only[SL,List.cons_append,List.nil_append];refine iD (ai (aC ae) v8 (gI (aX d) r.lists)) (λw hw=>hw (rA ((0:Int)=0) (ai (aC ae) v8 (gI (aX d) r.lists))) (by simp) rfl) ?_;refine fq (E:=aC ae) (v:=v8) (xs:=gI (aX d) r.lists) (by simp) λa8 c8 e8=>?_;subst e8;refine go ?_;intro b71;refine go ?_;have htk:kT (aX d) 8++(d.regions.take (k+1)).map (λr=>gI (aX d) r.lists)=(kT (aX d) 8++(d.regions.take k).map λr=>gI (aX d) r.lists)++[gI (aX d) r.lists]:=by
   rw[j4 Ta,dM,rP,dQ]
  refine kR (xs:=kT (aX d) 8++(d.regions.take k).map λr=>gI (aX d) r.lists) (aC (aC ae)) (gI (aX d) r.lists) (.slice a8 (gI (aX d) r.lists).length c8) (by omega) (next:=λad=>?_);rw[<- htk];refine go ?_;exact bi (k+1,.slice ad ((kT (aX d) 8++(d.regions.take k).map λr=>gI (aX d) r.lists).length+1) ((kT (aX d) 8++(d.regions.take k).map λr=>gI (aX d) r.lists).length+1)) (by show d.regions.length - (k+1)<d.regions.length - k;omega) (by show k+1<=_;omega)
 have hke:k=d.regions.length:=by omega
 subst hke;rw[eB];rw[show kT (aX d) 8++d.regions.map (λr=>gI (aX d) r.lists)=lY d from rfl];refine aZ (kE (E:=aC (aC ae)) (v:=v2) (xs:=lY d)) (h:=?_);refine go ?_;exact aa v2 (hv:=rfl) (hp:=trivial)
abbrev adr:List Value:=zL (.int .i64 0) (.int .i64 0) (.int .i64 0) (.slice none 0 0) (.slice none 0 0) (.slice none 0 0) (.slice none 0 0)
abbrev mO(k:bP)(vh vs vr vc vu gh gc vn vl:Value):List Value:=bL k.decl vh vs vr vc vu (.int .i64 k.grid.shape) (.int .i64 k.grid.w) (.int .i64 k.grid.h) gh gc vn vl
abbrev nZ(k:bP)(vh vs vr vc vu gh gc vn vl:Value)(F:List aB):List aB:=ai ae vh k.decl.holes::ai jM vs k.decl.symbols::ai iV vr k.decl.regions::ai dH vc k.decl.bI::ai bq vu k.decl.rules::ai ae gh k.grid.holes::ai ae gc k.grid.cells::ai (aC ae) vn k.aK::ai (aC (aC ae)) vl k.lists::F
structure F7(d:bR):Prop where
 rs:AJ d
 typ:F5 (Kd.cB d)
structure eY(k:bP):Prop where
 b:F7 k.decl
 e:k=ny (Kd.cB k.decl)
structure K3 where
 ok:Bool
 e:Int
 vc:Value
 vu:Value
 gh:Value
 gc:Value
 vn:Value
 vl:Value
abbrev K4(d:bR)(vh vs vr:Value)(y:K3):Value:=.tuple ⟨[.agg ⟨cond y.ok (mO (ny (Kd.cB d)) vh vs vr y.vc y.vu y.gh y.gc y.vn y.vl) adr⟩,.int .i64 y.e]⟩
abbrev K5(d:bR)(vh vs vr:Value)(y:K3):List aB:=cond y.ok [ai dH y.vc (Kd.cB d).bI,ai bq y.vu (Kd.cB d).rules,ai ae y.gh (aX (Kd.cB d)).holes,ai ae y.gc (aX (Kd.cB d)).cells,ai (aC ae) y.vn (dY (aX (Kd.cB d))),ai (aC (aC ae)) y.vl (lY (Kd.cB d))] []
def Tc(d:bR)(y:K3):Prop:=(y.ok=true->y.e=0/\F7 d)/\(y.ok=false->y.e≠0/\¬F7 d)
theorem ads{d:bR}{vh vs vr vc vu:Value}(hT:wH d):aV Tryz.prog (.func 63) [.agg ⟨jY d vh vs vr vc vu⟩] [] [] (nT d vh vs vr vc vu) (K4 d vh vs vr) (λ_=>[]) (K5 d vh vs vr) (Tc d):=by
 have K6:wH (Kd.cB d):=⟨hT.s.cB,hT.w,hT.h,hT.holes⟩
 have hend:∀{e:Int} {vc vu gh gc vn vl:Value},e≠0->¬F7 d->Tc d ⟨false,e,vc,vu,gh,gc,vn,vl⟩:=λhe hb=>⟨(λh=>by cases h),λ_=>⟨he,hb⟩⟩
 refine aS _ (aQ 63) λB w0=>?_;refine go ?_;intro b1 b2 b4 b15;refine ng ?_;refine go ?_;refine ax (adj (b:=b4) (d:=d) (vh:=vh) (vs:=vs) (vr:=vr) (vc:=vc) (vu:=vu) hT.s) (next:=λy hy=>?_);obtain⟨ok,e,v1,v2⟩:=y;cases ok with
 |false=>
  obtain⟨he,hno⟩:=hy.2 rfl;dsimp only[cond,qx,List.nil_append]at he⊢;refine go ?_;refine aG rfl (λh1=>?_) (λh1=>?_)
  ·refine go ?_;exact aa ⟨false,e,v1,v2,v1,v1,v1,v1⟩ (hv:=rfl) (hp:=hend he λh=>hno h.rs)
  ·exact absurd (nG.1 h1) he
 |true=>
 obtain⟨he,hres⟩:=hy.1 rfl;have he:e=0:=he;subst he;clear hy;dsimp only[cond,qx,List.cons_append,List.nil_append];refine iD (ai ae vh (Kd.cB d).holes) (λw hw=>hw (ai ae vh d.holes) (by simp)) ?_;refine iD (ai jM vs (Kd.cB d).symbols) (λw hw=>hw (ai jM vs d.symbols) (by simp)) ?_;refine iD (ai iV vr (Kd.cB d).regions) (λw hw=>hw (ai iV vr d.regions) (by simp)) ?_;refine go ?_;refine ng ?_;refine go ?_;refine ax (adk (b:=b4) (d:=Kd.cB d) (vh:=vh) (vs:=vs) (vr:=vr) (vc:=v1) (vu:=v2) K6) (next:=λe he=>?_);refine go ?_;refine aG rfl (λhne=>?_) (λhz=>?_)
 ·refine go ?_;exact aa ⟨false,e,v1,v2,v1,v1,v1,v1⟩ (hv:=rfl) (hp:=hend hne λh=>hne (he.2 h.typ))
 have hty:=he.1 (nG.1 hz);clear he hz;refine go ?_;refine ng ?_;refine go ?_;refine ax (adm (b:=b4) (d:=Kd.cB d) (vh:=vh) (vs:=vs) (vr:=vr) (vc:=v1) (vu:=v2) K6 hty.Dq) (next:=λy _=>?_);obtain⟨gh,gc,vn⟩:=y;dsimp only[List.cons_append,List.nil_append];refine go ?_;refine ng ?_;refine go ?_;refine ax (ado (b:=b4) (d:=Kd.cB d) (vh:=vh) (vs:=vs) (vr:=vr) (vc:=v1) (vu:=v2) (gh:=gh) (gc:=gc) (vn:=vn) K6 hty.Dq hty.F6) (next:=λvl _=>?_);dsimp only[List.cons_append,List.nil_append];refine go ?_;refine ng ?_;refine go ?_;refine aa ⟨true,0,v1,v2,gh,gc,vn,vl⟩ (hv:=rfl) (hp:=⟨λ_=>⟨rfl,hres,hty⟩,(λh=>by cases h)⟩) (hF:=?_);show Sub [ai dH v1 (Kd.cB d).bI,ai bq v2 (Kd.cB d).rules,ai ae gh (aX (Kd.cB d)).holes,ai ae gc (aX (Kd.cB d)).cells,ai (aC ae) vn (dY (aX (Kd.cB d))),ai (aC (aC ae)) vl (lY (Kd.cB d))] _;exact .cons (by simp) (.cons (by simp) (.cons (by simp) (.cons (by simp) (.cons (by simp) (.cons (by simp) .nil)))))
structure og(k:bP):Prop where
 d:wH k.decl
 g:wD k.grid
 aK:k.aK.length<9223372036854775808/\∀l∈k.aK,l.length<9223372036854775808
 lists:k.lists.length<9223372036854775808/\∀l∈k.lists,l.length<9223372036854775808/\∀m∈l,m.length<9223372036854775808
theorem adt{x y:bP}{h1 s1 r1 c1 u1 K7 K8 n1 l1 h2 s2 r2 c2 u2 K9 La n2 l2:Value}(hS:og x):dS Tryz.prog 67 [.agg ⟨mO x h1 s1 r1 c1 u1 K7 K8 n1 l1⟩,.agg ⟨mO y h2 s2 r2 c2 u2 K9 La n2 l2⟩]
 (nZ x h1 s1 r1 c1 u1 K7 K8 n1 l1 (nZ y h2 s2 r2 c2 u2 K9 La n2 l2 [])) (.bool (decide (x=y))):=by
 have e1:=hS.d.s;have e2:=hS.g.holes;have e3:=hS.g.cells;obtain⟨e4,e5⟩:=hS.aK;obtain⟨e6,e7⟩:=hS.lists;clear hS;obtain⟨xd,⟨xs,xw,xh,Lb,Lc⟩,xn,xl⟩:=x;obtain⟨yd,⟨ys,yw,yh,yho,yce⟩,yn,yl⟩:=y;dsimp only at e1 e2 e3 e4 e5 e6 e7;dsimp only[mO,nZ];refine aS _ (aQ 67) λB w0=>?_;refine go ?_;intro b2 b3;refine go ?_;first|with_reducible refine aN (λk1=>?_) (λk1=>?_)|with_reducible refine aO (λk1=>?_) (λk1=>?_)|with_reducible refine aL (λk1=>?_) (λk1=>?_)
 ·refine go ?_;refine aa () (hv:=?_) (hp:=trivial);rw[cO (λe=>k1 (by cases e;rfl))];rfl
 refine go ?_;first|with_reducible refine aN (λk2=>?_) (λk2=>?_)|with_reducible refine aO (λk2=>?_) (λk2=>?_)|with_reducible refine aL (λk2=>?_) (λk2=>?_)
 ·refine go ?_;refine aa () (hv:=?_) (hp:=trivial);rw[cO (λe=>k2 (by cases e;rfl))];rfl
 refine go ?_;first|with_reducible refine aN (λk3=>?_) (λk3=>?_)|with_reducible refine aO (λk3=>?_) (λk3=>?_)|with_reducible refine aL (λk3=>?_) (λk3=>?_)
 ·refine go ?_;refine aa () (hv:=?_) (hp:=trivial);rw[cO (λe=>k3 (by cases e;rfl))];rfl
 refine go ?_;refine ax (yD (xs:=Lb) (ys:=yho) (by omega)) (next:=λ_ _=>?_);refine go ?_;first|with_reducible refine aN (λk4=>?_) (λk4=>?_)|with_reducible refine aO (λk4=>?_) (λk4=>?_)|with_reducible refine aL (λk4=>?_) (λk4=>?_)
 ·refine go ?_;refine aa () (hv:=?_) (hp:=trivial);rw[cO (λe=>k4 (by cases e;rfl))];rfl
 refine go ?_;refine ax (yD (xs:=Lc) (ys:=yce) (by omega)) (next:=λ_ _=>?_);refine go ?_;first|with_reducible refine aN (λk5=>?_) (λk5=>?_)|with_reducible refine aO (λk5=>?_) (λk5=>?_)|with_reducible refine aL (λk5=>?_) (λk5=>?_)
 ·refine go ?_;refine aa () (hv:=?_) (hp:=trivial);rw[cO (λe=>k5 (by cases e;rfl))];rfl
 refine go ?_;have hsy:dS Tryz.prog 105 [.agg ⟨jY xd h1 s1 r1 c1 u1⟩,.agg ⟨jY yd h2 s2 r2 c2 u2⟩] [ai ae h1 xd.holes,ai jM s1 xd.symbols,ai iV r1 xd.regions,ai dH c1 xd.bI,ai bq u1 xd.rules,ai ae h2 yd.holes,ai jM s2 yd.symbols,ai iV r2 yd.regions,ai dH c2 yd.bI,ai bq u2 yd.rules] (.bool (decide (xd=yd))):=Sb e1;refine ax hsy (next:=λ_ _=>?_);refine go ?_;first|with_reducible refine aN (λk6=>?_) (λk6=>?_)|with_reducible refine aO (λk6=>?_) (λk6=>?_)|with_reducible refine aL (λk6=>?_) (λk6=>?_)
 ·refine go ?_;refine aa () (hv:=?_) (hp:=trivial);rw[cO (λe=>k6 (by cases e;rfl))];rfl
 refine go ?_;refine ax (R7 (xs:=xn) (ys:=yn) e4 e5) (next:=λ_ _=>?_);refine go ?_;first|with_reducible refine aN (λk7=>?_) (λk7=>?_)|with_reducible refine aO (λk7=>?_) (λk7=>?_)|with_reducible refine aL (λk7=>?_) (λk7=>?_)
 ·refine go ?_;refine aa () (hv:=?_) (hp:=trivial);rw[cO (λe=>k7 (by cases e;rfl))];rfl
 refine go ?_;refine ax (abb (xs:=xl) (ys:=yl) e6 e7) (next:=λ_ _=>?_);refine go ?_;refine aa () (hv:=?_) (hp:=trivial);subst k1 k2 k3 k4 k5 k6 k7;rw[show decide (bP.mk xd ⟨xs,xw,xh,Lb,Lc⟩ xn xl=bP.mk xd ⟨xs,xw,xh,Lb,Lc⟩ xn yl)=decide (xl=yl)from rO.2 ⟨λh=>by cases h;rfl,λh=>by rw[h]⟩];rfl
theorem adw{k:bP}{vh vs vr vc vu gh gc vn vl:Value}(hS:og k):aV Tryz.prog (.func 36) [.agg ⟨mO k vh vs vr vc vu gh gc vn vl⟩] [] [] (nZ k vh vs vr vc vu gh gc vn vl []) (λb:Bool=>.int .i64 (cond b 0 180)) (λ_=>[]) (λ_=>[]) (λb=>b=true↔eY k):=by
 refine aS _ (aQ 36) λB w0=>?_;refine go ?_;intro b1;refine go ?_;refine ax (ads (d:=k.decl) (vh:=vh) (vs:=vs) (vr:=vr) (vc:=vc) (vu:=vu) hS.d) (next:=λy hy=>?_);obtain⟨ok,e,v1,v2,v3,v4,v5,v6⟩:=y;cases ok with
 |false=>
  obtain⟨he,hno⟩:=hy.2 rfl;have he:e≠0:=he;dsimp only[cond,K4,K5,List.nil_append];refine go ?_;intro b3;refine go ?_;first|with_reducible refine aN (λh1=>?_) (λh1=>?_)|with_reducible refine aO (λh1=>?_) (λh1=>?_)|with_reducible refine aL (λh1=>?_) (λh1=>?_)
  ·exact absurd (nG.1 h1) he
  refine go ?_;exact aa false (hv:=rfl) (hp:=⟨(λh=>by cases h),λh=>absurd h.b hno⟩)
 |true=>
 obtain⟨he,hb⟩:=hy.1 rfl;have he:e=0:=he;subst he;clear hy;dsimp only[cond,K4,K5,List.cons_append,List.nil_append];refine go ?_;intro b3;refine go ?_;have hsm:=adt (x:=k) (y:=ny (Kd.cB k.decl)) (h1:=vh) (s1:=vs) (r1:=vr) (c1:=vc) (u1:=vu) (K7:=gh) (K8:=gc) (n1:=vn) (l1:=vl) (h2:=vh) (s2:=vs) (r2:=vr) (c2:=v1) (u2:=v2) (K9:=v3) (La:=v4) (n2:=v5) (l2:=v6) hS;refine iD (ai ae vh (ny (Kd.cB k.decl)).decl.holes) (λw hw=>hw (ai ae vh k.decl.holes) (by simp)) ?_;refine iD (ai jM vs (ny (Kd.cB k.decl)).decl.symbols) (λw hw=>hw (ai jM vs k.decl.symbols) (by simp)) ?_;refine iD (ai iV vr (ny (Kd.cB k.decl)).decl.regions) (λw hw=>hw (ai iV vr k.decl.regions) (by simp)) ?_;refine iD (ai dH v1 (ny (Kd.cB k.decl)).decl.bI) (λw hw=>hw (ai dH v1 (Kd.cB k.decl).bI) (by simp)) ?_;refine iD (ai bq v2 (ny (Kd.cB k.decl)).decl.rules) (λw hw=>hw (ai bq v2 (Kd.cB k.decl).rules) (by simp)) ?_;refine iD (ai ae v3 (ny (Kd.cB k.decl)).grid.holes) (λw hw=>hw (ai ae v3 (aX (Kd.cB k.decl)).holes) (by simp)) ?_;refine iD (ai ae v4 (ny (Kd.cB k.decl)).grid.cells) (λw hw=>hw (ai ae v4 (aX (Kd.cB k.decl)).cells) (by simp)) ?_;refine iD (ai (aC ae) v5 (ny (Kd.cB k.decl)).aK) (λw hw=>hw (ai (aC ae) v5 (dY (aX (Kd.cB k.decl)))) (by simp)) ?_;refine iD (ai (aC (aC ae)) v6 (ny (Kd.cB k.decl)).lists) (λw hw=>hw (ai (aC (aC ae)) v6 (lY (Kd.cB k.decl))) (by simp)) ?_;refine ax hsm (next:=λ_ _=>?_);refine go ?_;refine lg rfl (λh3=>?_) (λh3=>?_)
 ·refine go ?_;exact aa false (hv:=rfl) (hp:=⟨(λh=>by cases h),λh=>absurd h.e h3⟩)
 ·refine go ?_;exact aa true (hv:=rfl) (hp:=⟨λ_=>⟨hb,h3⟩,λ_=>rfl⟩)
