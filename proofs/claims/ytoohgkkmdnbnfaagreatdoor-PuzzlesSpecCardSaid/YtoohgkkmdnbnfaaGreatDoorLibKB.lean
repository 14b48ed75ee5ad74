/-
  Kinds: the steps in which one is built.
-/
import Derived.Test.YtoohgkkmdnbnfaaGreatDoorLibJB
set_option linter.all false
set_option maxRecDepth 10000
set_option maxHeartbeats 4000000
namespace Go.Proofs.YtoohgkkmdnbnfaaGreatDoor
open Go.Ideal Kd
noncomputable def Sm:gF:=⟨51,[(.tmp 2)],(.seq (.ops [2] [⟨⟨(some 2),none,(.iM (.const (.int .i64 0)))⟩,[]⟩]) (.seq (.seq (.ops [4,5,6,7,8,9,10,11,12,13,14,15,16,17,18,19,20,21,22,23,24,25,26,27,28,29,3,30,31,32,33,34,2] [⟨⟨(some 4),none,(.mv (.tmp 0))⟩,[]⟩,⟨⟨(some 5),none,(.mv (.tmp 0))⟩,[]⟩,⟨⟨(some 6),none,(.jW (.tmp 5))⟩,[]⟩,⟨⟨(some 7),none,(.fA 0 (.tmp 6))⟩,[]⟩,⟨⟨(some 8),none,(.fA 0 (.tmp 7))⟩,[]⟩,⟨⟨(some 9),none,(.fA 2 (.tmp 8))⟩,[]⟩,⟨⟨(some 10),none,(.fT (.tmp 9))⟩,[]⟩,⟨⟨(some 11),none,(.mv (.tmp 0))⟩,[]⟩,⟨⟨(some 12),none,(.jW (.tmp 11))⟩,[]⟩,⟨⟨(some 13),none,(.fA 0 (.tmp 12))⟩,[]⟩,⟨⟨(some 14),none,(.fA 0 (.tmp 13))⟩,[]⟩,⟨⟨(some 15),none,(.fA 3 (.tmp 14))⟩,[]⟩,⟨⟨(some 16),none,(.fT (.tmp 15))⟩,[]⟩,⟨⟨(some 17),none,(.mv (.tmp 0))⟩,[]⟩,⟨⟨(some 18),none,(.jW (.tmp 17))⟩,[]⟩,⟨⟨(some 19),none,(.fA 0 (.tmp 18))⟩,[]⟩,⟨⟨(some 20),none,(.fA 0 (.tmp 19))⟩,[]⟩,⟨⟨(some 21),none,(.fA 4 (.tmp 20))⟩,[]⟩,⟨⟨(some 22),none,(.fT (.tmp 21))⟩,[]⟩,⟨⟨(some 23),none,(.mv (.tmp 0))⟩,[]⟩,⟨⟨(some 24),none,(.jW (.tmp 23))⟩,[]⟩,⟨⟨(some 25),none,(.fA 0 (.tmp 24))⟩,[]⟩,⟨⟨(some 26),none,(.fA 0 (.tmp 25))⟩,[]⟩,⟨⟨(some 27),none,(.fA 5 (.tmp 26))⟩,[]⟩,⟨⟨(some 28),none,(.fT (.tmp 27))⟩,[]⟩,⟨⟨(some 29),none,(.call (.func 152) [(.tmp 10),(.tmp 16),(.tmp 22),(.tmp 28)])⟩,[]⟩,⟨⟨(some 3),none,(.mv (.tmp 29))⟩,[]⟩,⟨⟨(some 30),none,(.extract (.tmp 3) 0)⟩,[]⟩,⟨⟨(some 31),none,(.extract (.tmp 3) 1)⟩,[]⟩,⟨⟨(some 32),none,(.jW (.tmp 4))⟩,[]⟩,⟨⟨(some 33),none,(.fA 0 (.tmp 32))⟩,[]⟩,⟨⟨(some 34),none,(.fA 10 (.tmp 33))⟩,[]⟩,⟨⟨none,none,(.store 5 (.tmp 34) (.tmp 30))⟩,[]⟩,⟨⟨(some 2),none,(.iM (.tmp 31))⟩,[]⟩]) (.seq (.ops [35,36] [⟨⟨(some 35),none,(.mv (.tmp 2))⟩,[]⟩,⟨⟨(some 36),none,(.bin .eql 41 (.tmp 35) (.const (.int .i64 0)))⟩,[]⟩]) (.cond (.tmp 36) (.ops [38,39,40,41,42,43,44,37,45,46,47,48,49,2] [⟨⟨(some 38),none,(.mv (.tmp 0))⟩,[]⟩,⟨⟨(some 39),none,(.mv (.tmp 0))⟩,[]⟩,⟨⟨(some 40),none,(.jW (.tmp 39))⟩,[]⟩,⟨⟨(some 41),none,(.fA 0 (.tmp 40))⟩,[]⟩,⟨⟨(some 42),none,(.fA 10 (.tmp 41))⟩,[]⟩,⟨⟨(some 43),none,(.oz 5 (.tmp 42))⟩,[]⟩,⟨⟨(some 44),none,(.call (.func 153) [(.tmp 43)])⟩,[]⟩,⟨⟨(some 37),none,(.mv (.tmp 44))⟩,[]⟩,⟨⟨(some 45),none,(.extract (.tmp 37) 0)⟩,[]⟩,⟨⟨(some 46),none,(.extract (.tmp 37) 1)⟩,[]⟩,⟨⟨(some 47),none,(.jW (.tmp 38))⟩,[]⟩,⟨⟨(some 48),none,(.fA 0 (.tmp 47))⟩,[]⟩,⟨⟨(some 49),none,(.fA 15 (.tmp 48))⟩,[]⟩,⟨⟨none,none,(.store 1 (.tmp 49) (.tmp 45))⟩,[]⟩,⟨⟨(some 2),none,(.iM (.tmp 46))⟩,[]⟩]) .skip))) (.seq (.ops [50,2] [⟨⟨(some 50),none,(.mv (.tmp 2))⟩,[]⟩,⟨⟨(some 2),none,(.iM (.tmp 50))⟩,[]⟩]) .ret)))⟩
theorem adt:kz Tryz.prog 102=some Sm:=by kernel_rfl
abbrev bL(d:bq)(vh vs vr vc vu g1 g2 g3 g4 g5 g6 g7:Value):List Value:=[.string d.name,.int .i64 d.version,.int .i64 d.shape,.int .i64 d.w,.int .i64 d.h,vh,vs,vr,vc,vu,g1,g2,g3,g4,g5,g6,g7]
abbrev zL(g1 g2 g3 g4 g5 g6 g7:Value):List Value:=[.string ⟨⟨[]⟩⟩,.int .i64 0,.int .i64 0,.int .i64 0,.int .i64 0,.slice none 0 0,.slice none 0 0,.slice none 0 0,.slice none 0 0,.slice none 0 0,g1,g2,g3,g4,g5,g6,g7]
theorem adu{b:Nat}{d:bq}{vh vs vr vc vu g1 g2 g3 g4 g5 g6 g7:Value}(hS:lC d):aZ Tryz.prog (.func 100) [ptr' b] [] [pt b (.cells (bL d vh vs vr vc vu g1 g2 g3 g4 g5 g6 g7))] (j6 d vh vs vr vc vu) (λy:D5=>.int .i64 y.e)
 (λy=>[pt b (.cells (cond y.ok (bL (Kd.bi d) vh vs vr y.vc y.vu g1 g2 g3 g4 g5 g6 g7) (zL g1 g2 g3 g4 g5 g6 g7)))]) (mV d) (y7 d):=by
 refine aG _ (aM 100) λB w0=>?_;refine go ?_;refine ak (RF (d:=d) hS) (next:=λy hy=>?_);obtain⟨ok,e,v1,v2⟩:=y;cases ok with
 |false=>
  dsimp only[qb,mV,cond,List.nil_append]at hy⊢;refine go ?_;exact aa ⟨false,e,v1,v2⟩ (hv:=rfl) (hp:=hy)
 |true=>
  dsimp only[qb,mV,cond,List.cons_append,List.nil_append]at hy⊢;refine go ?_;exact aa ⟨true,e,v1,v2⟩ (hv:=rfl) (hp:=hy) (hF:=by show Sub [ah bC v1 (Kd.bi d).aF,ah aW v2 (Kd.bi d).rules] _;exact .cons (by simp) (.cons (by simp) .nil))
theorem adv{b:Nat}{d:bq}{vh vs vr vc vu g1 g2 g3 g4 g5 g6 g7:Value}(hT:sN d):aZ Tryz.prog (.func 101) [ptr' b] [] [pt b (.cells (bL d vh vs vr vc vu g1 g2 g3 g4 g5 g6 g7))] (j6 d vh vs vr vc vu) (λe:Int=>.int .i64 e)
 (λ_=>[pt b (.cells (bL d vh vs vr vc vu g1 g2 g3 g4 g5 g6 g7))]) (λ_=>[]) (λe=>e=0↔Ei d):=by
 refine aG _ (aM 101) λB w0=>?_;refine go ?_;refine ak (ads (d:=d) (vh:=vh) (vs:=vs) (vr:=vr) (vc:=vc) (vu:=vu) hT) (next:=λe he=>?_);refine go ?_;exact aa e (hv:=rfl) (hp:=he)
structure DrY where
 gh:Value
 gc:Value
 vn:Value
theorem adx{b:Nat}{d:bq}{vh vs vr vc vu g1 g2 g3 g4 g5 g6 g7:Value}(hT:sN d)(hm:mU d.shape d.w d.h d.holes):
 aZ Tryz.prog (.func 102) [ptr' b] [] [pt b (.cells (bL d vh vs vr vc vu g1 g2 g3 g4 g5 g6 g7))] (j6 d vh vs vr vc vu) (λ_:DrY=>.int .i64 0)
 (λy=>[pt b (.cells (bL d vh vs vr vc vu (.int .i64 (aP d).shape) (.int .i64 (aP d).w) (.int .i64 (aP d).h) y.gh y.gc y.vn g7))])
 (λy=>[ah ae y.gh (aP d).holes,ah ae y.gc (aP d).cells,ah (aj ae) y.vn (bD (aP d))]) (λ_=>True):=by
 have hG:=Ej hm;have hgo:fV (aP d):=⟨hm,rfl⟩
 refine aG Sm adt λB w0=>?_;refine go ?_;refine ak (K8 (s:=d.shape) (w:=d.w) (h:=d.h) (holes:=d.holes) (vh:=vh) hT.w hT.h hT.holes) (next:=λy hy=>?_);obtain⟨ok,v1,v2⟩:=y;cases ok with
 |false=>exact absurd (hy.2 hm) (by simp)
 |true=>
 dsimp only[cond,mkV,nJ];rw[show tT d.shape d.w d.h d.holes=aP d from rfl];dsimp only[iV,iw,List.cons_append,List.nil_append];refine go ?_;refine ak (R3 (g:=aP d) (vh:=v1) (vc:=v2) hG) (next:=λy hy2=>?_);obtain⟨vn,e⟩:=y;have he:e=0:=hy2.2 hgo;subst he;refine eO (ah (qX ae) vn (bD (aP d))) (λw hw=>hw (lG ((0:Int)=0) (ah (qX ae) vn (bD (aP d)))) (by simp) rfl) ?_;refine eO (ah (aj ae) vn (bD (aP d))) (λw hw=>Qr (hw (ah (qX ae) vn (bD (aP d))) (by simp))) ?_;dsimp only[tV];refine aT (E:=aj ae) (v:=vn) (xs:=bD (aP d)) (by simp) λan cn en=>?_;subst en;refine go ?_;exact aa ⟨v1,v2,.slice an (bD (aP d)).length cn⟩ (hv:=rfl) (hp:=trivial)
def iH(g:bz)(k:Nat):List (List (List Int)):=(List.range k).map λf:Nat=>dM g (f:Int)
theorem Sn(g:bz)(k:Nat):iH g (k+1)=iH g k++[dM g (k:Int)]:=by
 unfold iH;rw[Hu,eX,sS]
theorem GL(g:bz)(k:Nat):(iH g k).length=k:=by unfold iH;simp
theorem ady{b:Nat}{d:bq}{vh vs vr vc vu gh gc vn:Value}(hT:sN d)(hm:mU d.shape d.w d.h d.holes)(hr:∀r∈d.regions,xq (aP d) r):
 aZ Tryz.prog (.func 103) [ptr' b] [] [pt b (.cells (bL d vh vs vr vc vu (.int .i64 (aP d).shape) (.int .i64 (aP d).w) (.int .i64 (aP d).h) gh gc vn (.slice none 0 0)))]
 [ah dW vr d.regions,ah ae gh (aP d).holes,ah ae gc (aP d).cells] (λ_:Value=>.int .i64 0)
 (λvl=>[pt b (.cells (bL d vh vs vr vc vu (.int .i64 (aP d).shape) (.int .i64 (aP d).w) (.int .i64 (aP d).h) gh gc vn vl))])
 (λvl=>[ah (aj (aj ae)) vl (nT d)]) (λ_=>True):=by
 have hG:=Ej hm;have hgo:fV (aP d):=⟨hm,rfl⟩
 have hrl:=hT.s.regs;refine aG _ (aM 103) λB w0=>?_;refine aT (E:=dW) (v:=vr) (xs:=d.regions) (by simp) λar cr er=>?_;subst er;refine go ?_;refine gq (aj (aj ae)) ?_;refine aX (λy:Nat×Value=>8 - y.1) (λy=>[(10,.int .i64 (y.1:Int))]) (λy=>[pt b (.cells (bL d vh vs (.slice ar d.regions.length cr) vc vu (.int .i64 (aP d).shape) (.int .i64 (aP d).w) (.int .i64 (aP d).h) gh gc vn y.2)),ap (aj (aj ae)) y.2 (iH (aP d) y.1)]) (λ_=>[]) (λy=>y.1<=8) (0,.slice none 0 0) (bX _) (hk:=by repeat (first|exact aH.nil|(apply aH.cons;(focus (repeat (first|exact ay.here|apply ay.there)))))) (body:=?_);rintro⟨k,vl⟩ hk;dsimp only at hk⊢;have hkl:=GL (aP d) k;refine go ?_;refine az rfl (λh1=>?_) (λh1=>?_)
 ·refine go ?_;refine ak (acM (g:=aP d) (vh:=gh) (vc:=gc) (k:=(k:Int)) hG) (next:=λy hy=>?_);obtain⟨v4,e⟩:=y;have he:e=0:=hy.2 ⟨hgo,by omega,by omega⟩;subst he;dsimp only[GG,List.cons_append,List.nil_append];refine eO (ah (aj ae) v4 (dM (aP d) (k:Int))) (λw hw=>hw (lG ((0:Int)=0) (ah (aj ae) v4 (dM (aP d) (k:Int)))) (by simp) rfl) ?_;refine aT (E:=aj ae) (v:=v4) (xs:=dM (aP d) (k:Int)) (by simp) λa4 c4 e4=>?_;subst e4;refine go ?_;intro b33;refine go ?_;refine fe (xs:=iH (aP d) k) (aj (aj ae)) (dM (aP d) (k:Int)) (.slice a4 (dM (aP d) (k:Int)).length c4) (by omega) (next:=λad=>?_);rw[<- Sn];refine go ?_;exact aO (k+1,.slice ad ((iH (aP d) k).length+1) ((iH (aP d) k).length+1)) (by show 8 - (k+1)<8 - k;omega) (by show k+1<=_;omega)
 have LD:k=8:=by omega
 subst LD;refine go ?_;refine aX (λy:Nat×Value=>d.regions.length - y.1) (λy=>[(46,.int .i64 (y.1:Int))]) (λy=>[pt b (.cells (bL d vh vs (.slice ar d.regions.length cr) vc vu (.int .i64 (aP d).shape) (.int .i64 (aP d).w) (.int .i64 (aP d).h) gh gc vn y.2)),ap (aj (aj ae)) y.2 (iH (aP d) 8++(d.regions.take y.1).map λr=>dP (aP d) r.lists)]) (λ_=>[]) (λy=>y.1<=d.regions.length) (0,vl) (bX _) (hk:=by rw[show iH (aP d) 8++(d.regions.take 0).map (λr=>dP (aP d) r.lists)=iH (aP d) 8 from gD _];repeat (first|exact aH.nil|(apply aH.cons;(focus (repeat (first|exact ay.here|apply ay.there)))))) (body:=?_);rintro⟨k,v2⟩ hk;dsimp only at hk⊢;have hkl:(iH (aP d) 8++(d.regions.take k).map λr=>dP (aP d) r.lists).length=8+k:=by rw[gB,GL,di,gM];omega
 refine go ?_;refine az rfl (λh1=>?_) (λh1=>?_)
 ·refine go ?_;refine aY dW (xs:=d.regions) (next:=λ_ _ r (LF:Value) Em=>?_);have hrm:=bJ Em;obtain⟨hl1,hl2⟩:=hT.s.qd r hrm;obtain⟨⟨_,hro⟩,_⟩:=hr r hrm;refine go ?_;intro b7;refine go ?_;refine ak (Si (g:=aP d) (vh:=gh) (vc:=gc) (vr:=LF) (rs:=r.lists) hG hl1 hl2) (next:=λy hy=>?_);obtain⟨v8,e⟩:=y;have he:e=0:=hy.2 ⟨hgo,hro⟩;subst he;dsimp only[GI,List.cons_append,List.nil_append];refine eO (ah (aj ae) v8 (dP (aP d) r.lists)) (λw hw=>hw (lG ((0:Int)=0) (ah (aj ae) v8 (dP (aP d) r.lists))) (by simp) rfl) ?_;refine aT (E:=aj ae) (v:=v8) (xs:=dP (aP d) r.lists) (by simp) λa8 c8 e8=>?_;subst e8;refine go ?_;intro b71;refine go ?_;have htk:iH (aP d) 8++(d.regions.take (k+1)).map (λr=>dP (aP d) r.lists)=(iH (aP d) 8++(d.regions.take k).map λr=>dP (aP d) r.lists)++[dP (aP d) r.lists]:=by
   rw[bV Em,eX,sS,fE]
  refine fe (xs:=iH (aP d) 8++(d.regions.take k).map λr=>dP (aP d) r.lists) (aj (aj ae)) (dP (aP d) r.lists) (.slice a8 (dP (aP d) r.lists).length c8) (by omega) (next:=λad=>?_);rw[<- htk];refine go ?_;exact aO (k+1,.slice ad ((iH (aP d) 8++(d.regions.take k).map λr=>dP (aP d) r.lists).length+1) ((iH (aP d) 8++(d.regions.take k).map λr=>dP (aP d) r.lists).length+1)) (by show d.regions.length - (k+1)<d.regions.length - k;omega) (by show k+1<=_;omega)
 have hke:k=d.regions.length:=by omega
 subst hke;rw[bK];rw[show iH (aP d) 8++d.regions.map (λr=>dP (aP d) r.lists)=nT d from rfl];refine bB (gp (E:=aj (aj ae)) (v:=v2) (xs:=nT d)) (h:=?_);refine go ?_;exact aa v2 (hv:=rfl) (hp:=trivial)
abbrev adB:List Value:=zL (.int .i64 0) (.int .i64 0) (.int .i64 0) (.slice none 0 0) (.slice none 0 0) (.slice none 0 0) (.slice none 0 0)
abbrev mD(k:eT)(vh vs vr vc vu gh gc vn vl:Value):List Value:=bL k.decl vh vs vr vc vu (.int .i64 k.grid.shape) (.int .i64 k.grid.w) (.int .i64 k.grid.h) gh gc vn vl
abbrev lH(k:eT)(vh vs vr vc vu gh gc vn vl:Value)(F:List aJ):List aJ:=ah ae vh k.decl.holes::ah fu vs k.decl.symbols::ah dW vr k.decl.regions::ah bC vc k.decl.aF::ah aW vu k.decl.rules::ah ae gh k.grid.holes::ah ae gc k.grid.cells::ah (aj ae) vn k.bR::ah (aj (aj ae)) vl k.lists::F
structure En(d:bq):Prop where
 rs:AJ d
 typ:Ei (Kd.bi d)
structure gP(k:eT):Prop where
 b:En k.decl
 e:k=jL (Kd.bi k.decl)
structure LG where
 ok:Bool
 e:Int
 vc:Value
 vu:Value
 gh:Value
 gc:Value
 vn:Value
 vl:Value
abbrev A9(d:bq)(vh vs vr:Value)(y:LG):Value:=.tuple ⟨[.agg ⟨cond y.ok (mD (jL (Kd.bi d)) vh vs vr y.vc y.vu y.gh y.gc y.vn y.vl) adB⟩,.int .i64 y.e]⟩
abbrev Ba(d:bq)(vh vs vr:Value)(y:LG):List aJ:=cond y.ok [ah bC y.vc (Kd.bi d).aF,ah aW y.vu (Kd.bi d).rules,ah ae y.gh (aP (Kd.bi d)).holes,ah ae y.gc (aP (Kd.bi d)).cells,ah (aj ae) y.vn (bD (aP (Kd.bi d))),ah (aj (aj ae)) y.vl (nT (Kd.bi d))] []
def GM(d:bq)(y:LG):Prop:=(y.ok=true->y.e=0/\En d)/\(y.ok=false->y.e≠0/\¬En d)
theorem adC{d:bq}{vh vs vr vc vu:Value}(hT:sN d):aZ Tryz.prog (.func 63) [.agg ⟨fO d vh vs vr vc vu⟩] [] [] (j6 d vh vs vr vc vu) (A9 d vh vs vr) (λ_=>[]) (Ba d vh vs vr) (GM d):=by
 have sO:sN (Kd.bi d):=⟨hT.s.bi,hT.w,hT.h,hT.holes⟩
 have hend:∀{e:Int} {vc vu gh gc vn vl:Value},e≠0->¬En d->GM d ⟨false,e,vc,vu,gh,gc,vn,vl⟩:=λhe hb=>⟨(λh=>by cases h),λ_=>⟨he,hb⟩⟩
 refine aG _ (aM 63) λB w0=>?_;refine go ?_;intro b1 b2 b4 b15;refine jT ?_;refine go ?_;refine ak (adu (b:=b4) (d:=d) (vh:=vh) (vs:=vs) (vr:=vr) (vc:=vc) (vu:=vu) hT.s) (next:=λy hy=>?_);obtain⟨ok,e,v1,v2⟩:=y;cases ok with
 |false=>
  obtain⟨he,hno⟩:=hy.2 rfl;dsimp only[cond,mV,List.nil_append]at he⊢;refine go ?_;refine az rfl (λh1=>?_) (λh1=>?_)
  ·refine go ?_;exact aa ⟨false,e,v1,v2,v1,v1,v1,v1⟩ (hv:=rfl) (hp:=hend he λh=>hno h.rs)
  ·exact absurd (iF.1 h1) he
 |true=>
 obtain⟨he,hres⟩:=hy.1 rfl;have he:e=0:=he;subst he;clear hy;dsimp only[cond,mV,List.cons_append,List.nil_append];refine eO (ah ae vh (Kd.bi d).holes) (λw hw=>hw (ah ae vh d.holes) (by simp)) ?_;refine eO (ah fu vs (Kd.bi d).symbols) (λw hw=>hw (ah fu vs d.symbols) (by simp)) ?_;refine eO (ah dW vr (Kd.bi d).regions) (λw hw=>hw (ah dW vr d.regions) (by simp)) ?_;refine go ?_;refine jT ?_;refine go ?_;refine ak (adv (b:=b4) (d:=Kd.bi d) (vh:=vh) (vs:=vs) (vr:=vr) (vc:=v1) (vu:=v2) sO) (next:=λe he=>?_);refine go ?_;refine az rfl (λhne=>?_) (λhz=>?_)
 ·refine go ?_;exact aa ⟨false,e,v1,v2,v1,v1,v1,v1⟩ (hv:=rfl) (hp:=hend hne λh=>hne (he.2 h.typ))
 have hty:=he.1 (iF.1 hz);clear he hz;refine go ?_;refine jT ?_;refine go ?_;refine ak (adx (b:=b4) (d:=Kd.bi d) (vh:=vh) (vs:=vs) (vr:=vr) (vc:=v1) (vu:=v2) sO hty.A8) (next:=λy _=>?_);obtain⟨gh,gc,vn⟩:=y;dsimp only[List.cons_append,List.nil_append];refine go ?_;refine jT ?_;refine go ?_;refine ak (ady (b:=b4) (d:=Kd.bi d) (vh:=vh) (vs:=vs) (vr:=vr) (vc:=v1) (vu:=v2) (gh:=gh) (gc:=gc) (vn:=vn) sO hty.A8 hty.GK) (next:=λvl _=>?_);dsimp only[List.cons_append,List.nil_append];refine go ?_;refine jT ?_;refine go ?_;refine aa ⟨true,0,v1,v2,gh,gc,vn,vl⟩ (hv:=rfl) (hp:=⟨λ_=>⟨rfl,hres,hty⟩,(λh=>by cases h)⟩) (hF:=?_);show Sub [ah bC v1 (Kd.bi d).aF,ah aW v2 (Kd.bi d).rules,ah ae gh (aP (Kd.bi d)).holes,ah ae gc (aP (Kd.bi d)).cells,ah (aj ae) vn (bD (aP (Kd.bi d))),ah (aj (aj ae)) vl (nT (Kd.bi d))] _;exact .cons (by simp) (.cons (by simp) (.cons (by simp) (.cons (by simp) (.cons (by simp) (.cons (by simp) .nil)))))
structure nZ(k:eT):Prop where
 d:sN k.decl
 g:oV k.grid
 bR:k.bR.length<9223372036854775808/\∀l∈k.bR,l.length<9223372036854775808
 lists:k.lists.length<9223372036854775808/\∀l∈k.lists,l.length<9223372036854775808/\∀m∈l,m.length<9223372036854775808
theorem adD{x y:eT}{h1 s1 r1 c1 u1 xu xy n1 l1 h2 s2 r2 c2 u2 xz xA n2 l2:Value}(hS:nZ x):bY Tryz.prog 67 [.agg ⟨mD x h1 s1 r1 c1 u1 xu xy n1 l1⟩,.agg ⟨mD y h2 s2 r2 c2 u2 xz xA n2 l2⟩]
 (lH x h1 s1 r1 c1 u1 xu xy n1 l1 (lH y h2 s2 r2 c2 u2 xz xA n2 l2 [])) (.bool (decide (x=y))):=by
 have e1:=hS.d.s;have e2:=hS.g.holes;have e3:=hS.g.cells;obtain⟨e4,e5⟩:=hS.bR;obtain⟨e6,e7⟩:=hS.lists;clear hS;obtain⟨xd,⟨xs,xw,xh,zh,zi⟩,xn,xl⟩:=x;obtain⟨yd,⟨ys,yw,yh,LH,Eo⟩,yn,yl⟩:=y;dsimp only at e1 e2 e3 e4 e5 e6 e7;dsimp only[mD,lH];refine aG _ (aM 67) λB w0=>?_;refine go ?_;intro b2 b3;refine go ?_;first|with_reducible refine aL (λk1=>?_) (λk1=>?_)|with_reducible refine aK (λk1=>?_) (λk1=>?_)|with_reducible refine aI (λk1=>?_) (λk1=>?_)
 ·refine go ?_;refine aa () (hv:=?_) (hp:=trivial);rw[aR (λe=>k1 (by cases e;rfl))];rfl
 refine go ?_;first|with_reducible refine aL (λk2=>?_) (λk2=>?_)|with_reducible refine aK (λk2=>?_) (λk2=>?_)|with_reducible refine aI (λk2=>?_) (λk2=>?_)
 ·refine go ?_;refine aa () (hv:=?_) (hp:=trivial);rw[aR (λe=>k2 (by cases e;rfl))];rfl
 refine go ?_;first|with_reducible refine aL (λk3=>?_) (λk3=>?_)|with_reducible refine aK (λk3=>?_) (λk3=>?_)|with_reducible refine aI (λk3=>?_) (λk3=>?_)
 ·refine go ?_;refine aa () (hv:=?_) (hp:=trivial);rw[aR (λe=>k3 (by cases e;rfl))];rfl
 refine go ?_;refine ak (y5 (xs:=zh) (ys:=LH) (by omega)) (next:=λ_ _=>?_);refine go ?_;first|with_reducible refine aL (λk4=>?_) (λk4=>?_)|with_reducible refine aK (λk4=>?_) (λk4=>?_)|with_reducible refine aI (λk4=>?_) (λk4=>?_)
 ·refine go ?_;refine aa () (hv:=?_) (hp:=trivial);rw[aR (λe=>k4 (by cases e;rfl))];rfl
 refine go ?_;refine ak (y5 (xs:=zi) (ys:=Eo) (by omega)) (next:=λ_ _=>?_);refine go ?_;first|with_reducible refine aL (λk5=>?_) (λk5=>?_)|with_reducible refine aK (λk5=>?_) (λk5=>?_)|with_reducible refine aI (λk5=>?_) (λk5=>?_)
 ·refine go ?_;refine aa () (hv:=?_) (hp:=trivial);rw[aR (λe=>k5 (by cases e;rfl))];rfl
 refine go ?_;have hsy:bY Tryz.prog 105 [.agg ⟨fO xd h1 s1 r1 c1 u1⟩,.agg ⟨fO yd h2 s2 r2 c2 u2⟩] [ah ae h1 xd.holes,ah fu s1 xd.symbols,ah dW r1 xd.regions,ah bC c1 xd.aF,ah aW u1 xd.rules,ah ae h2 yd.holes,ah fu s2 yd.symbols,ah dW r2 yd.regions,ah bC c2 yd.aF,ah aW u2 yd.rules] (.bool (decide (xd=yd))):=RN e1;refine ak hsy (next:=λ_ _=>?_);refine go ?_;first|with_reducible refine aL (λk6=>?_) (λk6=>?_)|with_reducible refine aK (λk6=>?_) (λk6=>?_)|with_reducible refine aI (λk6=>?_) (λk6=>?_)
 ·refine go ?_;refine aa () (hv:=?_) (hp:=trivial);rw[aR (λe=>k6 (by cases e;rfl))];rfl
 refine go ?_;refine ak (RI (xs:=xn) (ys:=yn) e4 e5) (next:=λ_ _=>?_);refine go ?_;first|with_reducible refine aL (λk7=>?_) (λk7=>?_)|with_reducible refine aK (λk7=>?_) (λk7=>?_)|with_reducible refine aI (λk7=>?_) (λk7=>?_)
 ·refine go ?_;refine aa () (hv:=?_) (hp:=trivial);rw[aR (λe=>k7 (by cases e;rfl))];rfl
 refine go ?_;refine ak (abp (xs:=xl) (ys:=yl) e6 e7) (next:=λ_ _=>?_);refine go ?_;refine aa () (hv:=?_) (hp:=trivial);subst k1 k2 k3 k4 k5 k6 k7;rw[show decide (eT.mk xd ⟨xs,xw,xh,zh,zi⟩ xn xl=eT.mk xd ⟨xs,xw,xh,zh,zi⟩ xn yl)=decide (xl=yl)from mG.2 ⟨λh=>by cases h;rfl,λh=>by rw[h]⟩];rfl
theorem adE{k:eT}{vh vs vr vc vu gh gc vn vl:Value}(hS:nZ k):aZ Tryz.prog (.func 36) [.agg ⟨mD k vh vs vr vc vu gh gc vn vl⟩] [] [] (lH k vh vs vr vc vu gh gc vn vl []) (λb:Bool=>.int .i64 (cond b 0 180)) (λ_=>[]) (λ_=>[]) (λb=>b=true↔gP k):=by
 refine aG _ (aM 36) λB w0=>?_;refine go ?_;intro b1;refine go ?_;refine ak (adC (d:=k.decl) (vh:=vh) (vs:=vs) (vr:=vr) (vc:=vc) (vu:=vu) hS.d) (next:=λy hy=>?_);obtain⟨ok,e,v1,v2,v3,v4,v5,v6⟩:=y;cases ok with
 |false=>
  obtain⟨he,hno⟩:=hy.2 rfl;have he:e≠0:=he;dsimp only[cond,A9,Ba,List.nil_append];refine go ?_;intro b3;refine go ?_;first|with_reducible refine aL (λh1=>?_) (λh1=>?_)|with_reducible refine aK (λh1=>?_) (λh1=>?_)|with_reducible refine aI (λh1=>?_) (λh1=>?_)
  ·exact absurd (iF.1 h1) he
  refine go ?_;exact aa false (hv:=rfl) (hp:=⟨(λh=>by cases h),λh=>absurd h.b hno⟩)
 |true=>
 obtain⟨he,hb⟩:=hy.1 rfl;have he:e=0:=he;subst he;clear hy;dsimp only[cond,A9,Ba,List.cons_append,List.nil_append];refine go ?_;intro b3;refine go ?_;have hsm:=adD (x:=k) (y:=jL (Kd.bi k.decl)) (h1:=vh) (s1:=vs) (r1:=vr) (c1:=vc) (u1:=vu) (xu:=gh) (xy:=gc) (n1:=vn) (l1:=vl) (h2:=vh) (s2:=vs) (r2:=vr) (c2:=v1) (u2:=v2) (xz:=v3) (xA:=v4) (n2:=v5) (l2:=v6) hS;refine eO (ah ae vh (jL (Kd.bi k.decl)).decl.holes) (λw hw=>hw (ah ae vh k.decl.holes) (by simp)) ?_;refine eO (ah fu vs (jL (Kd.bi k.decl)).decl.symbols) (λw hw=>hw (ah fu vs k.decl.symbols) (by simp)) ?_;refine eO (ah dW vr (jL (Kd.bi k.decl)).decl.regions) (λw hw=>hw (ah dW vr k.decl.regions) (by simp)) ?_;refine eO (ah bC v1 (jL (Kd.bi k.decl)).decl.aF) (λw hw=>hw (ah bC v1 (Kd.bi k.decl).aF) (by simp)) ?_;refine eO (ah aW v2 (jL (Kd.bi k.decl)).decl.rules) (λw hw=>hw (ah aW v2 (Kd.bi k.decl).rules) (by simp)) ?_;refine eO (ah ae v3 (jL (Kd.bi k.decl)).grid.holes) (λw hw=>hw (ah ae v3 (aP (Kd.bi k.decl)).holes) (by simp)) ?_;refine eO (ah ae v4 (jL (Kd.bi k.decl)).grid.cells) (λw hw=>hw (ah ae v4 (aP (Kd.bi k.decl)).cells) (by simp)) ?_;refine eO (ah (aj ae) v5 (jL (Kd.bi k.decl)).bR) (λw hw=>hw (ah (aj ae) v5 (bD (aP (Kd.bi k.decl)))) (by simp)) ?_;refine eO (ah (aj (aj ae)) v6 (jL (Kd.bi k.decl)).lists) (λw hw=>hw (ah (aj (aj ae)) v6 (nT (Kd.bi k.decl))) (by simp)) ?_;refine ak hsm (next:=λ_ _=>?_);refine go ?_;refine ed rfl (λh3=>?_) (λh3=>?_)
 ·refine go ?_;exact aa false (hv:=rfl) (hp:=⟨(λh=>by cases h),λh=>absurd h.e h3⟩)
 ·refine go ?_;exact aa true (hv:=rfl) (hp:=⟨λ_=>⟨hb,h3⟩,λ_=>rfl⟩)
