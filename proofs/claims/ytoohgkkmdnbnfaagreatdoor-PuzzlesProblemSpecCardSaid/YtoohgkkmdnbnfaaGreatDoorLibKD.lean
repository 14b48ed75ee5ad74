/-
  Kinds: the steps in which one is built.
-/
import Derived.Test.YtoohgkkmdnbnfaaGreatDoorLibJD
set_option linter.all false
set_option maxRecDepth 10000
set_option maxHeartbeats 4000000
namespace Go.Proofs.YtoohgkkmdnbnfaaGreatDoor
open Go.Ideal Kd
noncomputable def Uy:gP:=⟨51,[(.tmp 2)],(.seq (.ops [2] [⟨⟨(some 2),none,(.mq (.const (.int .i64 0)))⟩,[]⟩]) (.seq (.seq (.ops [4,5,6,7,8,9,10,11,12,13,14,15,16,17,18,19,20,21,22,23,24,25,26,27,28,29,3,30,31,32,33,34,2] [⟨⟨(some 4),none,(.mv (.tmp 0))⟩,[]⟩,⟨⟨(some 5),none,(.mv (.tmp 0))⟩,[]⟩,⟨⟨(some 6),none,(.kG (.tmp 5))⟩,[]⟩,⟨⟨(some 7),none,(.fK 0 (.tmp 6))⟩,[]⟩,⟨⟨(some 8),none,(.fK 0 (.tmp 7))⟩,[]⟩,⟨⟨(some 9),none,(.fK 2 (.tmp 8))⟩,[]⟩,⟨⟨(some 10),none,(.gM (.tmp 9))⟩,[]⟩,⟨⟨(some 11),none,(.mv (.tmp 0))⟩,[]⟩,⟨⟨(some 12),none,(.kG (.tmp 11))⟩,[]⟩,⟨⟨(some 13),none,(.fK 0 (.tmp 12))⟩,[]⟩,⟨⟨(some 14),none,(.fK 0 (.tmp 13))⟩,[]⟩,⟨⟨(some 15),none,(.fK 3 (.tmp 14))⟩,[]⟩,⟨⟨(some 16),none,(.gM (.tmp 15))⟩,[]⟩,⟨⟨(some 17),none,(.mv (.tmp 0))⟩,[]⟩,⟨⟨(some 18),none,(.kG (.tmp 17))⟩,[]⟩,⟨⟨(some 19),none,(.fK 0 (.tmp 18))⟩,[]⟩,⟨⟨(some 20),none,(.fK 0 (.tmp 19))⟩,[]⟩,⟨⟨(some 21),none,(.fK 4 (.tmp 20))⟩,[]⟩,⟨⟨(some 22),none,(.gM (.tmp 21))⟩,[]⟩,⟨⟨(some 23),none,(.mv (.tmp 0))⟩,[]⟩,⟨⟨(some 24),none,(.kG (.tmp 23))⟩,[]⟩,⟨⟨(some 25),none,(.fK 0 (.tmp 24))⟩,[]⟩,⟨⟨(some 26),none,(.fK 0 (.tmp 25))⟩,[]⟩,⟨⟨(some 27),none,(.fK 5 (.tmp 26))⟩,[]⟩,⟨⟨(some 28),none,(.gM (.tmp 27))⟩,[]⟩,⟨⟨(some 29),none,(.call (.func 152) [(.tmp 10),(.tmp 16),(.tmp 22),(.tmp 28)])⟩,[]⟩,⟨⟨(some 3),none,(.mv (.tmp 29))⟩,[]⟩,⟨⟨(some 30),none,(.extract (.tmp 3) 0)⟩,[]⟩,⟨⟨(some 31),none,(.extract (.tmp 3) 1)⟩,[]⟩,⟨⟨(some 32),none,(.kG (.tmp 4))⟩,[]⟩,⟨⟨(some 33),none,(.fK 0 (.tmp 32))⟩,[]⟩,⟨⟨(some 34),none,(.fK 10 (.tmp 33))⟩,[]⟩,⟨⟨none,none,(.store 5 (.tmp 34) (.tmp 30))⟩,[]⟩,⟨⟨(some 2),none,(.mq (.tmp 31))⟩,[]⟩]) (.seq (.ops [35,36] [⟨⟨(some 35),none,(.mv (.tmp 2))⟩,[]⟩,⟨⟨(some 36),none,(.bin .eql 41 (.tmp 35) (.const (.int .i64 0)))⟩,[]⟩]) (.cond (.tmp 36) (.ops [38,39,40,41,42,43,44,37,45,46,47,48,49,2] [⟨⟨(some 38),none,(.mv (.tmp 0))⟩,[]⟩,⟨⟨(some 39),none,(.mv (.tmp 0))⟩,[]⟩,⟨⟨(some 40),none,(.kG (.tmp 39))⟩,[]⟩,⟨⟨(some 41),none,(.fK 0 (.tmp 40))⟩,[]⟩,⟨⟨(some 42),none,(.fK 10 (.tmp 41))⟩,[]⟩,⟨⟨(some 43),none,(.pq 5 (.tmp 42))⟩,[]⟩,⟨⟨(some 44),none,(.call (.func 153) [(.tmp 43)])⟩,[]⟩,⟨⟨(some 37),none,(.mv (.tmp 44))⟩,[]⟩,⟨⟨(some 45),none,(.extract (.tmp 37) 0)⟩,[]⟩,⟨⟨(some 46),none,(.extract (.tmp 37) 1)⟩,[]⟩,⟨⟨(some 47),none,(.kG (.tmp 38))⟩,[]⟩,⟨⟨(some 48),none,(.fK 0 (.tmp 47))⟩,[]⟩,⟨⟨(some 49),none,(.fK 15 (.tmp 48))⟩,[]⟩,⟨⟨none,none,(.store 1 (.tmp 49) (.tmp 45))⟩,[]⟩,⟨⟨(some 2),none,(.mq (.tmp 46))⟩,[]⟩]) .skip))) (.seq (.ops [50,2] [⟨⟨(some 50),none,(.mv (.tmp 2))⟩,[]⟩,⟨⟨(some 2),none,(.mq (.tmp 50))⟩,[]⟩]) .ret)))⟩
theorem aff:mF Tryz.prog 102=some Uy:=by kernel_rfl
abbrev bL(d:bF)(vh vs vr vc vu g1 g2 g3 g4 g5 g6 g7:Value):List Value:=[.string d.name,.int .i64 d.version,.int .i64 d.shape,.int .i64 d.w,.int .i64 d.h,vh,vs,vr,vc,vu,g1,g2,g3,g4,g5,g6,g7]
abbrev zL(g1 g2 g3 g4 g5 g6 g7:Value):List Value:=[.string ⟨⟨[]⟩⟩,.int .i64 0,.int .i64 0,.int .i64 0,.int .i64 0,.slice none 0 0,.slice none 0 0,.slice none 0 0,.slice none 0 0,.slice none 0 0,g1,g2,g3,g4,g5,g6,g7]
theorem afg{b:Nat}{d:bF}{vh vs vr vc vu g1 g2 g3 g4 g5 g6 g7:Value}(hS:l6 d):bn Tryz.prog (.func 100) [ptr' b] [] [pt b (.cells (bL d vh vs vr vc vu g1 g2 g3 g4 g5 g6 g7))] (kM d vh vs vr vc vu) (λy:Eu=>.int .i64 y.e)
 (λy=>[pt b (.cells (cond y.ok (bL (Kd.bG d) vh vs vr y.vc y.vu g1 g2 g3 g4 g5 g6 g7) (zL g1 g2 g3 g4 g5 g6 g7)))]) (nN d) (zU d):=by
 refine aI _ (aO 100) λB w0=>?_;refine go ?_;refine ax (TS (d:=d) hS) (next:=λy hy=>?_);obtain⟨ok,e,v1,v2⟩:=y;cases ok with
 |false=>
  dsimp only[qD,nN,cond,List.nil_append]at hy⊢;refine go ?_;exact ae ⟨false,e,v1,v2⟩ (hv:=rfl) (hp:=hy)
 |true=>
  dsimp only[qD,nN,cond,List.cons_append,List.nil_append]at hy⊢;refine go ?_;exact ae ⟨true,e,v1,v2⟩ (hv:=rfl) (hp:=hy) (hF:=by show Sub [ah bM v1 (Kd.bG d).aJ,ah aY v2 (Kd.bG d).rules] _;exact .cons (by simp) (.cons (by simp) .nil))
theorem afh{b:Nat}{d:bF}{vh vs vr vc vu g1 g2 g3 g4 g5 g6 g7:Value}(hT:tH d):bn Tryz.prog (.func 101) [ptr' b] [] [pt b (.cells (bL d vh vs vr vc vu g1 g2 g3 g4 g5 g6 g7))] (kM d vh vs vr vc vu) (λe:Int=>.int .i64 e)
 (λ_=>[pt b (.cells (bL d vh vs vr vc vu g1 g2 g3 g4 g5 g6 g7))]) (λ_=>[]) (λe=>e=0↔EH d):=by
 refine aI _ (aO 101) λB w0=>?_;refine go ?_;refine ax (afe (d:=d) (vh:=vh) (vs:=vs) (vr:=vr) (vc:=vc) (vu:=vu) hT) (next:=λe he=>?_);refine go ?_;exact ae e (hv:=rfl) (hp:=he)
structure DrY where
 gh:Value
 gc:Value
 vn:Value
theorem afj{b:Nat}{d:bF}{vh vs vr vc vu g1 g2 g3 g4 g5 g6 g7:Value}(hT:tH d)(hm:nL d.shape d.w d.h d.holes):
 bn Tryz.prog (.func 102) [ptr' b] [] [pt b (.cells (bL d vh vs vr vc vu g1 g2 g3 g4 g5 g6 g7))] (kM d vh vs vr vc vu) (λ_:DrY=>.int .i64 0)
 (λy=>[pt b (.cells (bL d vh vs vr vc vu (.int .i64 (aR d).shape) (.int .i64 (aR d).w) (.int .i64 (aR d).h) y.gh y.gc y.vn g7))])
 (λy=>[ah aa y.gh (aR d).holes,ah aa y.gc (aR d).cells,ah (aj aa) y.vn (bJ (aR d))]) (λ_=>True):=by
 have hG:=EI hm;have hgo:fw (aR d):=⟨hm,rfl⟩
 refine aI Uy aff λB w0=>?_;refine go ?_;refine ax (MS (s:=d.shape) (w:=d.w) (h:=d.h) (holes:=d.holes) (vh:=vh) hT.w hT.h hT.holes) (next:=λy hy=>?_);obtain⟨ok,v1,v2⟩:=y;cases ok with
 |false=>exact absurd (hy.2 hm) (by simp)
 |true=>
 dsimp only[cond,mkV,oq];rw[show uN d.shape d.w d.h d.holes=aR d from rfl];dsimp only[jq,iO,List.cons_append,List.nil_append];refine go ?_;refine ax (Ug (g:=aR d) (vh:=v1) (vc:=v2) hG) (next:=λy hy2=>?_);obtain⟨vn,e⟩:=y;have he:e=0:=hy2.2 hgo;subst he;refine eT (ah (rO aa) vn (bJ (aR d))) (λw hw=>hw (l9 ((0:Int)=0) (ah (rO aa) vn (bJ (aR d)))) (by simp) rfl) ?_;refine eT (ah (aj aa) vn (bJ (aR d))) (λw hw=>Sj (hw (ah (rO aa) vn (bJ (aR d))) (by simp))) ?_;dsimp only[uO];refine aS (E:=aj aa) (v:=vn) (xs:=bJ (aR d)) (by simp) λan cn en=>?_;subst en;refine go ?_;exact ae ⟨v1,v2,.slice an (bJ (aR d)).length cn⟩ (hv:=rfl) (hp:=trivial)
def iW(g:bC)(k:Nat):List (List (List Int)):=(List.range k).map λf:Nat=>dA g (f:Int)
theorem Uz(g:bC)(k:Nat):iW g (k+1)=iW g k++[dA g (k:Int)]:=by
 unfold iW;rw[Jy,eB,nV]
theorem IZ(g:bC)(k:Nat):(iW g k).length=k:=by unfold iW;simp
theorem afk{b:Nat}{d:bF}{vh vs vr vc vu gh gc vn:Value}(hT:tH d)(hm:nL d.shape d.w d.h d.holes)(hr:∀r∈d.regions,yA (aR d) r):
 bn Tryz.prog (.func 103) [ptr' b] [] [pt b (.cells (bL d vh vs vr vc vu (.int .i64 (aR d).shape) (.int .i64 (aR d).w) (.int .i64 (aR d).h) gh gc vn (.slice none 0 0)))]
 [ah eG vr d.regions,ah aa gh (aR d).holes,ah aa gc (aR d).cells] (λ_:Value=>.int .i64 0)
 (λvl=>[pt b (.cells (bL d vh vs vr vc vu (.int .i64 (aR d).shape) (.int .i64 (aR d).w) (.int .i64 (aR d).h) gh gc vn vl))])
 (λvl=>[ah (aj (aj aa)) vl (lG d)]) (λ_=>True):=by
 have hG:=EI hm;have hgo:fw (aR d):=⟨hm,rfl⟩
 have hrl:=hT.s.regs;refine aI _ (aO 103) λB w0=>?_;refine aS (E:=eG) (v:=vr) (xs:=d.regions) (by simp) λar cr er=>?_;subst er;refine go ?_;refine fZ (aj (aj aa)) ?_;refine aZ (λy:Nat×Value=>8 - y.1) (λy=>[(10,.int .i64 (y.1:Int))]) (λy=>[pt b (.cells (bL d vh vs (.slice ar d.regions.length cr) vc vu (.int .i64 (aR d).shape) (.int .i64 (aR d).w) (.int .i64 (aR d).h) gh gc vn y.2)),ap (aj (aj aa)) y.2 (iW (aR d) y.1)]) (λ_=>[]) (λy=>y.1<=8) (0,.slice none 0 0) (bY _) (hk:=by repeat (first|exact aG.nil|(apply aG.cons;(focus (repeat (first|exact az.here|apply az.there)))))) (body:=?_);rintro⟨k,vl⟩ hk;dsimp only at hk⊢;have hkl:=IZ (aR d) k;refine go ?_;refine ay rfl (λh1=>?_) (λh1=>?_)
 ·refine go ?_;refine ax (aeD (g:=aR d) (vh:=gh) (vc:=gc) (k:=(k:Int)) hG) (next:=λy hy=>?_);obtain⟨v4,e⟩:=y;have he:e=0:=hy.2 ⟨hgo,by omega,by omega⟩;subst he;dsimp only[IV,List.cons_append,List.nil_append];refine eT (ah (aj aa) v4 (dA (aR d) (k:Int))) (λw hw=>hw (l9 ((0:Int)=0) (ah (aj aa) v4 (dA (aR d) (k:Int)))) (by simp) rfl) ?_;refine aS (E:=aj aa) (v:=v4) (xs:=dA (aR d) (k:Int)) (by simp) λa4 c4 e4=>?_;subst e4;refine go ?_;intro b33;refine go ?_;refine eO (xs:=iW (aR d) k) (aj (aj aa)) (dA (aR d) (k:Int)) (.slice a4 (dA (aR d) (k:Int)).length c4) (by omega) (next:=λad=>?_);rw[<- Uz];refine go ?_;exact aP (k+1,.slice ad ((iW (aR d) k).length+1) ((iW (aR d) k).length+1)) (by show 8 - (k+1)<8 - k;omega) (by show k+1<=_;omega)
 have Nn:k=8:=by omega
 subst Nn;refine go ?_;refine aZ (λy:Nat×Value=>d.regions.length - y.1) (λy=>[(46,.int .i64 (y.1:Int))]) (λy=>[pt b (.cells (bL d vh vs (.slice ar d.regions.length cr) vc vu (.int .i64 (aR d).shape) (.int .i64 (aR d).w) (.int .i64 (aR d).h) gh gc vn y.2)),ap (aj (aj aa)) y.2 (iW (aR d) 8++(d.regions.take y.1).map λr=>dV (aR d) r.lists)]) (λ_=>[]) (λy=>y.1<=d.regions.length) (0,vl) (bY _) (hk:=by rw[show iW (aR d) 8++(d.regions.take 0).map (λr=>dV (aR d) r.lists)=iW (aR d) 8 from gN _];repeat (first|exact aG.nil|(apply aG.cons;(focus (repeat (first|exact az.here|apply az.there)))))) (body:=?_);rintro⟨k,v2⟩ hk;dsimp only at hk⊢;have hkl:(iW (aR d) 8++(d.regions.take k).map λr=>dV (aR d) r.lists).length=8+k:=by rw[gH,IZ,cz,gW];omega
 refine go ?_;refine ay rfl (λh1=>?_) (λh1=>?_)
 ·refine go ?_;refine bi eG (xs:=d.regions) (next:=λ_ _ r (Np:Value) EJ=>?_);have hrm:=bH EJ;obtain⟨hl1,hl2⟩:=hT.s.qF r hrm;obtain⟨⟨_,hro⟩,_⟩:=hr r hrm;refine go ?_;intro b7;refine go ?_;refine ax (Ut (g:=aR d) (vh:=gh) (vc:=gc) (vr:=Np) (rs:=r.lists) hG hl1 hl2) (next:=λy hy=>?_);obtain⟨v8,e⟩:=y;have he:e=0:=hy.2 ⟨hgo,hro⟩;subst he;dsimp only[IX,List.cons_append,List.nil_append];refine eT (ah (aj aa) v8 (dV (aR d) r.lists)) (λw hw=>hw (l9 ((0:Int)=0) (ah (aj aa) v8 (dV (aR d) r.lists))) (by simp) rfl) ?_;refine aS (E:=aj aa) (v:=v8) (xs:=dV (aR d) r.lists) (by simp) λa8 c8 e8=>?_;subst e8;refine go ?_;intro b71;refine go ?_;have htk:iW (aR d) 8++(d.regions.take (k+1)).map (λr=>dV (aR d) r.lists)=(iW (aR d) 8++(d.regions.take k).map λr=>dV (aR d) r.lists)++[dV (aR d) r.lists]:=by
   rw[bU EJ,eB,nV,fB]
  refine eO (xs:=iW (aR d) 8++(d.regions.take k).map λr=>dV (aR d) r.lists) (aj (aj aa)) (dV (aR d) r.lists) (.slice a8 (dV (aR d) r.lists).length c8) (by omega) (next:=λad=>?_);rw[<- htk];refine go ?_;exact aP (k+1,.slice ad ((iW (aR d) 8++(d.regions.take k).map λr=>dV (aR d) r.lists).length+1) ((iW (aR d) 8++(d.regions.take k).map λr=>dV (aR d) r.lists).length+1)) (by show d.regions.length - (k+1)<d.regions.length - k;omega) (by show k+1<=_;omega)
 have hke:k=d.regions.length:=by omega
 subst hke;rw[bK];rw[show iW (aR d) 8++d.regions.map (λr=>dV (aR d) r.lists)=lG d from rfl];refine bA (fV (E:=aj (aj aa)) (v:=v2) (xs:=lG d)) (h:=?_);refine go ?_;exact ae v2 (hv:=rfl) (hp:=trivial)
abbrev afn:List Value:=zL (.int .i64 0) (.int .i64 0) (.int .i64 0) (.slice none 0 0) (.slice none 0 0) (.slice none 0 0) (.slice none 0 0)
abbrev kD(k:bS)(vh vs vr vc vu gh gc vn vl:Value):List Value:=bL k.decl vh vs vr vc vu (.int .i64 k.grid.shape) (.int .i64 k.grid.w) (.int .i64 k.grid.h) gh gc vn vl
abbrev kX(k:bS)(vh vs vr vc vu gh gc vn vl:Value)(F:List aF):List aF:=ah aa vh k.decl.holes::ah fq vs k.decl.symbols::ah eG vr k.decl.regions::ah bM vc k.decl.aJ::ah aY vu k.decl.rules::ah aa gh k.grid.holes::ah aa gc k.grid.cells::ah (aj aa) vn k.bq::ah (aj (aj aa)) vl k.lists::F
structure EK(d:bF):Prop where
 rs:BJ d
 typ:EH (Kd.bG d)
structure fC(k:bS):Prop where
 b:EK k.decl
 e:k=j4 (Kd.bG k.decl)
structure Nq where
 ok:Bool
 e:Int
 vc:Value
 vu:Value
 gh:Value
 gc:Value
 vn:Value
 vl:Value
abbrev Cb(d:bF)(vh vs vr:Value)(y:Nq):Value:=.tuple ⟨[.agg ⟨cond y.ok (kD (j4 (Kd.bG d)) vh vs vr y.vc y.vu y.gh y.gc y.vn y.vl) afn⟩,.int .i64 y.e]⟩
abbrev Cc(d:bF)(vh vs vr:Value)(y:Nq):List aF:=cond y.ok [ah bM y.vc (Kd.bG d).aJ,ah aY y.vu (Kd.bG d).rules,ah aa y.gh (aR (Kd.bG d)).holes,ah aa y.gc (aR (Kd.bG d)).cells,ah (aj aa) y.vn (bJ (aR (Kd.bG d))),ah (aj (aj aa)) y.vl (lG (Kd.bG d))] []
def I1(d:bF)(y:Nq):Prop:=(y.ok=true->y.e=0/\EK d)/\(y.ok=false->y.e≠0/\¬EK d)
theorem afo{d:bF}{vh vs vr vc vu:Value}(hT:tH d):bn Tryz.prog (.func 63) [.agg ⟨gD d vh vs vr vc vu⟩] [] [] (kM d vh vs vr vc vu) (Cb d vh vs vr) (λ_=>[]) (Cc d vh vs vr) (I1 d):=by
 have tJ:tH (Kd.bG d):=⟨hT.s.bG,hT.w,hT.h,hT.holes⟩
 have hend:∀{e:Int} {vc vu gh gc vn vl:Value},e≠0->¬EK d->I1 d ⟨false,e,vc,vu,gh,gc,vn,vl⟩:=λhe hb=>⟨(λh=>by cases h),λ_=>⟨he,hb⟩⟩
 refine aI _ (aO 63) λB w0=>?_;refine go ?_;intro b1 b2 b4 b15;refine oJ ?_;refine go ?_;refine ax (afg (b:=b4) (d:=d) (vh:=vh) (vs:=vs) (vr:=vr) (vc:=vc) (vu:=vu) hT.s) (next:=λy hy=>?_);obtain⟨ok,e,v1,v2⟩:=y;cases ok with
 |false=>
  obtain⟨he,hno⟩:=hy.2 rfl;dsimp only[cond,nN,List.nil_append]at he⊢;refine go ?_;refine ay rfl (λh1=>?_) (λh1=>?_)
  ·refine go ?_;exact ae ⟨false,e,v1,v2,v1,v1,v1,v1⟩ (hv:=rfl) (hp:=hend he λh=>hno h.rs)
  ·exact absurd (iI.1 h1) he
 |true=>
 obtain⟨he,hres⟩:=hy.1 rfl;have he:e=0:=he;subst he;clear hy;dsimp only[cond,nN,List.cons_append,List.nil_append];refine eT (ah aa vh (Kd.bG d).holes) (λw hw=>hw (ah aa vh d.holes) (by simp)) ?_;refine eT (ah fq vs (Kd.bG d).symbols) (λw hw=>hw (ah fq vs d.symbols) (by simp)) ?_;refine eT (ah eG vr (Kd.bG d).regions) (λw hw=>hw (ah eG vr d.regions) (by simp)) ?_;refine go ?_;refine oJ ?_;refine go ?_;refine ax (afh (b:=b4) (d:=Kd.bG d) (vh:=vh) (vs:=vs) (vr:=vr) (vc:=v1) (vu:=v2) tJ) (next:=λe he=>?_);refine go ?_;refine ay rfl (λhne=>?_) (λhz=>?_)
 ·refine go ?_;exact ae ⟨false,e,v1,v2,v1,v1,v1,v1⟩ (hv:=rfl) (hp:=hend hne λh=>hne (he.2 h.typ))
 have hty:=he.1 (iI.1 hz);clear he hz;refine go ?_;refine oJ ?_;refine go ?_;refine ax (afj (b:=b4) (d:=Kd.bG d) (vh:=vh) (vs:=vs) (vr:=vr) (vc:=v1) (vu:=v2) tJ hty.Ca) (next:=λy _=>?_);obtain⟨gh,gc,vn⟩:=y;dsimp only[List.cons_append,List.nil_append];refine go ?_;refine oJ ?_;refine go ?_;refine ax (afk (b:=b4) (d:=Kd.bG d) (vh:=vh) (vs:=vs) (vr:=vr) (vc:=v1) (vu:=v2) (gh:=gh) (gc:=gc) (vn:=vn) tJ hty.Ca hty.Ab) (next:=λvl _=>?_);dsimp only[List.cons_append,List.nil_append];refine go ?_;refine oJ ?_;refine go ?_;refine ae ⟨true,0,v1,v2,gh,gc,vn,vl⟩ (hv:=rfl) (hp:=⟨λ_=>⟨rfl,hres,hty⟩,(λh=>by cases h)⟩) (hF:=?_);show Sub [ah bM v1 (Kd.bG d).aJ,ah aY v2 (Kd.bG d).rules,ah aa gh (aR (Kd.bG d)).holes,ah aa gc (aR (Kd.bG d)).cells,ah (aj aa) vn (bJ (aR (Kd.bG d))),ah (aj (aj aa)) vl (lG (Kd.bG d))] _;exact .cons (by simp) (.cons (by simp) (.cons (by simp) (.cons (by simp) (.cons (by simp) (.cons (by simp) .nil)))))
structure nu(k:bS):Prop where
 d:tH k.decl
 g:pV k.grid
 bq:k.bq.length<9223372036854775808/\∀l∈k.bq,l.length<9223372036854775808
 lists:k.lists.length<9223372036854775808/\∀l∈k.lists,l.length<9223372036854775808/\∀m∈l,m.length<9223372036854775808
theorem afp{x y:bS}{h1 s1 r1 c1 u1 yB yC n1 l1 h2 s2 r2 c2 u2 yD yE n2 l2:Value}(hS:nu x):cK Tryz.prog 67 [.agg ⟨kD x h1 s1 r1 c1 u1 yB yC n1 l1⟩,.agg ⟨kD y h2 s2 r2 c2 u2 yD yE n2 l2⟩]
 (kX x h1 s1 r1 c1 u1 yB yC n1 l1 (kX y h2 s2 r2 c2 u2 yD yE n2 l2 [])) (.bool (decide (x=y))):=by
 have e1:=hS.d.s;have e2:=hS.g.holes;have e3:=hS.g.cells;obtain⟨e4,e5⟩:=hS.bq;obtain⟨e6,e7⟩:=hS.lists;clear hS;obtain⟨xd,⟨xs,xw,xh,Ac,Ad⟩,xn,xl⟩:=x;obtain⟨yd,⟨ys,yw,yh,Nr,EL⟩,yn,yl⟩:=y;dsimp only at e1 e2 e3 e4 e5 e6 e7;dsimp only[kD,kX];refine aI _ (aO 67) λB w0=>?_;refine go ?_;intro b2 b3;refine go ?_;first|with_reducible refine aN (λk1=>?_) (λk1=>?_)|with_reducible refine aM (λk1=>?_) (λk1=>?_)|with_reducible refine aK (λk1=>?_) (λk1=>?_)
 ·refine go ?_;refine ae () (hv:=?_) (hp:=trivial);rw[aU (λe=>k1 (by cases e;rfl))];rfl
 refine go ?_;first|with_reducible refine aN (λk2=>?_) (λk2=>?_)|with_reducible refine aM (λk2=>?_) (λk2=>?_)|with_reducible refine aK (λk2=>?_) (λk2=>?_)
 ·refine go ?_;refine ae () (hv:=?_) (hp:=trivial);rw[aU (λe=>k2 (by cases e;rfl))];rfl
 refine go ?_;first|with_reducible refine aN (λk3=>?_) (λk3=>?_)|with_reducible refine aM (λk3=>?_) (λk3=>?_)|with_reducible refine aK (λk3=>?_) (λk3=>?_)
 ·refine go ?_;refine ae () (hv:=?_) (hp:=trivial);rw[aU (λe=>k3 (by cases e;rfl))];rfl
 refine go ?_;refine ax (zT (xs:=Ac) (ys:=Nr) (by omega)) (next:=λ_ _=>?_);refine go ?_;first|with_reducible refine aN (λk4=>?_) (λk4=>?_)|with_reducible refine aM (λk4=>?_) (λk4=>?_)|with_reducible refine aK (λk4=>?_) (λk4=>?_)
 ·refine go ?_;refine ae () (hv:=?_) (hp:=trivial);rw[aU (λe=>k4 (by cases e;rfl))];rfl
 refine go ?_;refine ax (zT (xs:=Ad) (ys:=EL) (by omega)) (next:=λ_ _=>?_);refine go ?_;first|with_reducible refine aN (λk5=>?_) (λk5=>?_)|with_reducible refine aM (λk5=>?_) (λk5=>?_)|with_reducible refine aK (λk5=>?_) (λk5=>?_)
 ·refine go ?_;refine ae () (hv:=?_) (hp:=trivial);rw[aU (λe=>k5 (by cases e;rfl))];rfl
 refine go ?_;have hsy:cK Tryz.prog 105 [.agg ⟨gD xd h1 s1 r1 c1 u1⟩,.agg ⟨gD yd h2 s2 r2 c2 u2⟩] [ah aa h1 xd.holes,ah fq s1 xd.symbols,ah eG r1 xd.regions,ah bM c1 xd.aJ,ah aY u1 xd.rules,ah aa h2 yd.holes,ah fq s2 yd.symbols,ah eG r2 yd.regions,ah bM c2 yd.aJ,ah aY u2 yd.rules] (.bool (decide (xd=yd))):=TY e1;refine ax hsy (next:=λ_ _=>?_);refine go ?_;first|with_reducible refine aN (λk6=>?_) (λk6=>?_)|with_reducible refine aM (λk6=>?_) (λk6=>?_)|with_reducible refine aK (λk6=>?_) (λk6=>?_)
 ·refine go ?_;refine ae () (hv:=?_) (hp:=trivial);rw[aU (λe=>k6 (by cases e;rfl))];rfl
 refine go ?_;refine ax (TV (xs:=xn) (ys:=yn) e4 e5) (next:=λ_ _=>?_);refine go ?_;first|with_reducible refine aN (λk7=>?_) (λk7=>?_)|with_reducible refine aM (λk7=>?_) (λk7=>?_)|with_reducible refine aK (λk7=>?_) (λk7=>?_)
 ·refine go ?_;refine ae () (hv:=?_) (hp:=trivial);rw[aU (λe=>k7 (by cases e;rfl))];rfl
 refine go ?_;refine ax (adm (xs:=xl) (ys:=yl) e6 e7) (next:=λ_ _=>?_);refine go ?_;refine ae () (hv:=?_) (hp:=trivial);subst k1 k2 k3 k4 k5 k6 k7;rw[show decide (bS.mk xd ⟨xs,xw,xh,Ac,Ad⟩ xn xl=bS.mk xd ⟨xs,xw,xh,Ac,Ad⟩ xn yl)=decide (xl=yl)from nU.2 ⟨λh=>by cases h;rfl,λh=>by rw[h]⟩];rfl
theorem afq{k:bS}{vh vs vr vc vu gh gc vn vl:Value}(hS:nu k):bn Tryz.prog (.func 36) [.agg ⟨kD k vh vs vr vc vu gh gc vn vl⟩] [] [] (kX k vh vs vr vc vu gh gc vn vl []) (λb:Bool=>.int .i64 (cond b 0 180)) (λ_=>[]) (λ_=>[]) (λb=>b=true↔fC k):=by
 refine aI _ (aO 36) λB w0=>?_;refine go ?_;intro b1;refine go ?_;refine ax (afo (d:=k.decl) (vh:=vh) (vs:=vs) (vr:=vr) (vc:=vc) (vu:=vu) hS.d) (next:=λy hy=>?_);obtain⟨ok,e,v1,v2,v3,v4,v5,v6⟩:=y;cases ok with
 |false=>
  obtain⟨he,hno⟩:=hy.2 rfl;have he:e≠0:=he;dsimp only[cond,Cb,Cc,List.nil_append];refine go ?_;intro b3;refine go ?_;first|with_reducible refine aN (λh1=>?_) (λh1=>?_)|with_reducible refine aM (λh1=>?_) (λh1=>?_)|with_reducible refine aK (λh1=>?_) (λh1=>?_)
  ·exact absurd (iI.1 h1) he
  refine go ?_;exact ae false (hv:=rfl) (hp:=⟨(λh=>by cases h),λh=>absurd h.b hno⟩)
 |true=>
 obtain⟨he,hb⟩:=hy.1 rfl;have he:e=0:=he;subst he;clear hy;dsimp only[cond,Cb,Cc,List.cons_append,List.nil_append];refine go ?_;intro b3;refine go ?_;have hsm:=afp (x:=k) (y:=j4 (Kd.bG k.decl)) (h1:=vh) (s1:=vs) (r1:=vr) (c1:=vc) (u1:=vu) (yB:=gh) (yC:=gc) (n1:=vn) (l1:=vl) (h2:=vh) (s2:=vs) (r2:=vr) (c2:=v1) (u2:=v2) (yD:=v3) (yE:=v4) (n2:=v5) (l2:=v6) hS;refine eT (ah aa vh (j4 (Kd.bG k.decl)).decl.holes) (λw hw=>hw (ah aa vh k.decl.holes) (by simp)) ?_;refine eT (ah fq vs (j4 (Kd.bG k.decl)).decl.symbols) (λw hw=>hw (ah fq vs k.decl.symbols) (by simp)) ?_;refine eT (ah eG vr (j4 (Kd.bG k.decl)).decl.regions) (λw hw=>hw (ah eG vr k.decl.regions) (by simp)) ?_;refine eT (ah bM v1 (j4 (Kd.bG k.decl)).decl.aJ) (λw hw=>hw (ah bM v1 (Kd.bG k.decl).aJ) (by simp)) ?_;refine eT (ah aY v2 (j4 (Kd.bG k.decl)).decl.rules) (λw hw=>hw (ah aY v2 (Kd.bG k.decl).rules) (by simp)) ?_;refine eT (ah aa v3 (j4 (Kd.bG k.decl)).grid.holes) (λw hw=>hw (ah aa v3 (aR (Kd.bG k.decl)).holes) (by simp)) ?_;refine eT (ah aa v4 (j4 (Kd.bG k.decl)).grid.cells) (λw hw=>hw (ah aa v4 (aR (Kd.bG k.decl)).cells) (by simp)) ?_;refine eT (ah (aj aa) v5 (j4 (Kd.bG k.decl)).bq) (λw hw=>hw (ah (aj aa) v5 (bJ (aR (Kd.bG k.decl)))) (by simp)) ?_;refine eT (ah (aj (aj aa)) v6 (j4 (Kd.bG k.decl)).lists) (λw hw=>hw (ah (aj (aj aa)) v6 (lG (Kd.bG k.decl))) (by simp)) ?_;refine ax hsm (next:=λ_ _=>?_);refine go ?_;refine eF rfl (λh3=>?_) (λh3=>?_)
 ·refine go ?_;exact ae false (hv:=rfl) (hp:=⟨(λh=>by cases h),λh=>absurd h.e h3⟩)
 ·refine go ?_;exact ae true (hv:=rfl) (hp:=⟨λ_=>⟨hb,h3⟩,λ_=>rfl⟩)
