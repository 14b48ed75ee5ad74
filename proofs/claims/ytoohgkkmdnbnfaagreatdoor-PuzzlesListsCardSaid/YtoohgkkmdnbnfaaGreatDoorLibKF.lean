/-
  Kinds: the steps in which one is built.
-/
import Derived.Test.YtoohgkkmdnbnfaaGreatDoorLibJF
set_option linter.all false
set_option maxRecDepth 10000
set_option maxHeartbeats 4000000
namespace Go.Proofs.YtoohgkkmdnbnfaaGreatDoor
open Go.Ideal Kd
noncomputable def Ud:gL:=⟨51,[(.tmp 2)],(.seq (.ops [2] [⟨⟨(some 2),none,(.mg (.const (.int .i64 0)))⟩,[]⟩]) (.seq (.seq (.ops [4,5,6,7,8,9,10,11,12,13,14,15,16,17,18,19,20,21,22,23,24,25,26,27,28,29,3,30,31,32,33,34,2] [⟨⟨(some 4),none,(.mv (.tmp 0))⟩,[]⟩,⟨⟨(some 5),none,(.mv (.tmp 0))⟩,[]⟩,⟨⟨(some 6),none,(.kw (.tmp 5))⟩,[]⟩,⟨⟨(some 7),none,(.fG 0 (.tmp 6))⟩,[]⟩,⟨⟨(some 8),none,(.fG 0 (.tmp 7))⟩,[]⟩,⟨⟨(some 9),none,(.fG 2 (.tmp 8))⟩,[]⟩,⟨⟨(some 10),none,(.gJ (.tmp 9))⟩,[]⟩,⟨⟨(some 11),none,(.mv (.tmp 0))⟩,[]⟩,⟨⟨(some 12),none,(.kw (.tmp 11))⟩,[]⟩,⟨⟨(some 13),none,(.fG 0 (.tmp 12))⟩,[]⟩,⟨⟨(some 14),none,(.fG 0 (.tmp 13))⟩,[]⟩,⟨⟨(some 15),none,(.fG 3 (.tmp 14))⟩,[]⟩,⟨⟨(some 16),none,(.gJ (.tmp 15))⟩,[]⟩,⟨⟨(some 17),none,(.mv (.tmp 0))⟩,[]⟩,⟨⟨(some 18),none,(.kw (.tmp 17))⟩,[]⟩,⟨⟨(some 19),none,(.fG 0 (.tmp 18))⟩,[]⟩,⟨⟨(some 20),none,(.fG 0 (.tmp 19))⟩,[]⟩,⟨⟨(some 21),none,(.fG 4 (.tmp 20))⟩,[]⟩,⟨⟨(some 22),none,(.gJ (.tmp 21))⟩,[]⟩,⟨⟨(some 23),none,(.mv (.tmp 0))⟩,[]⟩,⟨⟨(some 24),none,(.kw (.tmp 23))⟩,[]⟩,⟨⟨(some 25),none,(.fG 0 (.tmp 24))⟩,[]⟩,⟨⟨(some 26),none,(.fG 0 (.tmp 25))⟩,[]⟩,⟨⟨(some 27),none,(.fG 5 (.tmp 26))⟩,[]⟩,⟨⟨(some 28),none,(.gJ (.tmp 27))⟩,[]⟩,⟨⟨(some 29),none,(.call (.func 152) [(.tmp 10),(.tmp 16),(.tmp 22),(.tmp 28)])⟩,[]⟩,⟨⟨(some 3),none,(.mv (.tmp 29))⟩,[]⟩,⟨⟨(some 30),none,(.extract (.tmp 3) 0)⟩,[]⟩,⟨⟨(some 31),none,(.extract (.tmp 3) 1)⟩,[]⟩,⟨⟨(some 32),none,(.kw (.tmp 4))⟩,[]⟩,⟨⟨(some 33),none,(.fG 0 (.tmp 32))⟩,[]⟩,⟨⟨(some 34),none,(.fG 10 (.tmp 33))⟩,[]⟩,⟨⟨none,none,(.store 5 (.tmp 34) (.tmp 30))⟩,[]⟩,⟨⟨(some 2),none,(.mg (.tmp 31))⟩,[]⟩]) (.seq (.ops [35,36] [⟨⟨(some 35),none,(.mv (.tmp 2))⟩,[]⟩,⟨⟨(some 36),none,(.bin .eql 41 (.tmp 35) (.const (.int .i64 0)))⟩,[]⟩]) (.cond (.tmp 36) (.ops [38,39,40,41,42,43,44,37,45,46,47,48,49,2] [⟨⟨(some 38),none,(.mv (.tmp 0))⟩,[]⟩,⟨⟨(some 39),none,(.mv (.tmp 0))⟩,[]⟩,⟨⟨(some 40),none,(.kw (.tmp 39))⟩,[]⟩,⟨⟨(some 41),none,(.fG 0 (.tmp 40))⟩,[]⟩,⟨⟨(some 42),none,(.fG 10 (.tmp 41))⟩,[]⟩,⟨⟨(some 43),none,(.oU 5 (.tmp 42))⟩,[]⟩,⟨⟨(some 44),none,(.call (.func 153) [(.tmp 43)])⟩,[]⟩,⟨⟨(some 37),none,(.mv (.tmp 44))⟩,[]⟩,⟨⟨(some 45),none,(.extract (.tmp 37) 0)⟩,[]⟩,⟨⟨(some 46),none,(.extract (.tmp 37) 1)⟩,[]⟩,⟨⟨(some 47),none,(.kw (.tmp 38))⟩,[]⟩,⟨⟨(some 48),none,(.fG 0 (.tmp 47))⟩,[]⟩,⟨⟨(some 49),none,(.fG 15 (.tmp 48))⟩,[]⟩,⟨⟨none,none,(.store 1 (.tmp 49) (.tmp 45))⟩,[]⟩,⟨⟨(some 2),none,(.mg (.tmp 46))⟩,[]⟩]) .skip))) (.seq (.ops [50,2] [⟨⟨(some 50),none,(.mv (.tmp 2))⟩,[]⟩,⟨⟨(some 2),none,(.mg (.tmp 50))⟩,[]⟩]) .ret)))⟩
theorem ae5:mo Tryz.prog 102=some Ud:=by kernel_rfl
abbrev bL(d:bD)(vh vs vr vc vu g1 g2 g3 g4 g5 g6 g7:Value):List Value:=[.string d.name,.int .i64 d.version,.int .i64 d.shape,.int .i64 d.w,.int .i64 d.h,vh,vs,vr,vc,vu,g1,g2,g3,g4,g5,g6,g7]
abbrev zL(g1 g2 g3 g4 g5 g6 g7:Value):List Value:=[.string ⟨⟨[]⟩⟩,.int .i64 0,.int .i64 0,.int .i64 0,.int .i64 0,.slice none 0 0,.slice none 0 0,.slice none 0 0,.slice none 0 0,.slice none 0 0,g1,g2,g3,g4,g5,g6,g7]
theorem ae6{b:Nat}{d:bD}{vh vs vr vc vu g1 g2 g3 g4 g5 g6 g7:Value}(hS:lX d):bz Tryz.prog (.func 100) [ptr' b] [] [pt b (.cells (bL d vh vs vr vc vu g1 g2 g3 g4 g5 g6 g7))] (kG d vh vs vr vc vu) (λy:Ej=>.int .i64 y.e)
 (λy=>[pt b (.cells (cond y.ok (bL (Kd.bF d) vh vs vr y.vc y.vu g1 g2 g3 g4 g5 g6 g7) (zL g1 g2 g3 g4 g5 g6 g7)))]) (nJ d) (zI d):=by
 refine aK _ (aP 100) λB w0=>?_;refine go ?_;refine ax (Tx (d:=d) hS) (next:=λy hy=>?_);obtain⟨ok,e,v1,v2⟩:=y;cases ok with
 |false=>
  dsimp only[qw,nJ,cond,List.nil_append]at hy⊢;refine go ?_;exact ae ⟨false,e,v1,v2⟩ (hv:=rfl) (hp:=hy)
 |true=>
  dsimp only[qw,nJ,cond,List.cons_append,List.nil_append]at hy⊢;refine go ?_;exact ae ⟨true,e,v1,v2⟩ (hv:=rfl) (hp:=hy) (hF:=by show Sub [ah bJ v1 (Kd.bF d).aI,ah aY v2 (Kd.bF d).rules] _;exact .cons (by simp) (.cons (by simp) .nil))
theorem ae7{b:Nat}{d:bD}{vh vs vr vc vu g1 g2 g3 g4 g5 g6 g7:Value}(hT:sV d):bz Tryz.prog (.func 101) [ptr' b] [] [pt b (.cells (bL d vh vs vr vc vu g1 g2 g3 g4 g5 g6 g7))] (kG d vh vs vr vc vu) (λe:Int=>.int .i64 e)
 (λ_=>[pt b (.cells (bL d vh vs vr vc vu g1 g2 g3 g4 g5 g6 g7))]) (λ_=>[]) (λe=>e=0↔EA d):=by
 refine aK _ (aP 101) λB w0=>?_;refine go ?_;refine ax (ae4 (d:=d) (vh:=vh) (vs:=vs) (vr:=vr) (vc:=vc) (vu:=vu) hT) (next:=λe he=>?_);refine go ?_;exact ae e (hv:=rfl) (hp:=he)
structure DrY where
 gh:Value
 gc:Value
 vn:Value
theorem ae9{b:Nat}{d:bD}{vh vs vr vc vu g1 g2 g3 g4 g5 g6 g7:Value}(hT:sV d)(hm:nG d.shape d.w d.h d.holes):
 bz Tryz.prog (.func 102) [ptr' b] [] [pt b (.cells (bL d vh vs vr vc vu g1 g2 g3 g4 g5 g6 g7))] (kG d vh vs vr vc vu) (λ_:DrY=>.int .i64 0)
 (λy=>[pt b (.cells (bL d vh vs vr vc vu (.int .i64 (aN d).shape) (.int .i64 (aN d).w) (.int .i64 (aN d).h) y.gh y.gc y.vn g7))])
 (λy=>[ah aa y.gh (aN d).holes,ah aa y.gc (aN d).cells,ah (aj aa) y.vn (bG (aN d))]) (λ_=>True):=by
 have hG:=EB hm;have hgo:eP (aN d):=⟨hm,rfl⟩
 refine aK Ud ae5 λB w0=>?_;refine go ?_;refine ax (Mv (s:=d.shape) (w:=d.w) (h:=d.h) (holes:=d.holes) (vh:=vh) hT.w hT.h hT.holes) (next:=λy hy=>?_);obtain⟨ok,v1,v2⟩:=y;cases ok with
 |false=>exact absurd (hy.2 hm) (by simp)
 |true=>
 dsimp only[cond,mkV,nX];rw[show uG d.shape d.w d.h d.holes=aN d from rfl];dsimp only[je,iI,List.cons_append,List.nil_append];refine go ?_;refine ax (TL (g:=aN d) (vh:=v1) (vc:=v2) hG) (next:=λy hy2=>?_);obtain⟨vn,e⟩:=y;have he:e=0:=hy2.2 hgo;subst he;refine fu (ah (rD aa) vn (bG (aN d))) (λw hw=>hw (l5 ((0:Int)=0) (ah (rD aa) vn (bG (aN d)))) (by simp) rfl) ?_;refine fu (ah (aj aa) vn (bG (aN d))) (λw hw=>RO (hw (ah (rD aa) vn (bG (aN d))) (by simp))) ?_;dsimp only[uH];refine aV (E:=aj aa) (v:=vn) (xs:=bG (aN d)) (by simp) λan cn en=>?_;subst en;refine go ?_;exact ae ⟨v1,v2,.slice an (bG (aN d)).length cn⟩ (hv:=rfl) (hp:=trivial)
def iN(g:bq)(k:Nat):List (List (List Int)):=(List.range k).map λf:Nat=>dm g (f:Int)
theorem Ue(g:bq)(k:Nat):iN g (k+1)=iN g k++[dm g (k:Int)]:=by
 unfold iN;rw[Je,dY,oh]
theorem IC(g:bq)(k:Nat):(iN g k).length=k:=by unfold iN;simp
theorem afa{b:Nat}{d:bD}{vh vs vr vc vu gh gc vn:Value}(hT:sV d)(hm:nG d.shape d.w d.h d.holes)(hr:∀r∈d.regions,yj (aN d) r):
 bz Tryz.prog (.func 103) [ptr' b] [] [pt b (.cells (bL d vh vs vr vc vu (.int .i64 (aN d).shape) (.int .i64 (aN d).w) (.int .i64 (aN d).h) gh gc vn (.slice none 0 0)))]
 [ah ed vr d.regions,ah aa gh (aN d).holes,ah aa gc (aN d).cells] (λ_:Value=>.int .i64 0)
 (λvl=>[pt b (.cells (bL d vh vs vr vc vu (.int .i64 (aN d).shape) (.int .i64 (aN d).w) (.int .i64 (aN d).h) gh gc vn vl))])
 (λvl=>[ah (aj (aj aa)) vl (kI d)]) (λ_=>True):=by
 have hG:=EB hm;have hgo:eP (aN d):=⟨hm,rfl⟩
 have hrl:=hT.s.regs;refine aK _ (aP 103) λB w0=>?_;refine aV (E:=ed) (v:=vr) (xs:=d.regions) (by simp) λar cr er=>?_;subst er;refine go ?_;refine gz (aj (aj aa)) ?_;refine bi (λy:Nat×Value=>8 - y.1) (λy=>[(10,.int .i64 (y.1:Int))]) (λy=>[pt b (.cells (bL d vh vs (.slice ar d.regions.length cr) vc vu (.int .i64 (aN d).shape) (.int .i64 (aN d).w) (.int .i64 (aN d).h) gh gc vn y.2)),ap (aj (aj aa)) y.2 (iN (aN d) y.1)]) (λ_=>[]) (λy=>y.1<=8) (0,.slice none 0 0) (cB _) (hk:=by repeat (first|exact aH.nil|(apply aH.cons;(focus (repeat (first|exact ay.here|apply ay.there)))))) (body:=?_);rintro⟨k,vl⟩ hk;dsimp only at hk⊢;have hkl:=IC (aN d) k;refine go ?_;refine az rfl (λh1=>?_) (λh1=>?_)
 ·refine go ?_;refine ax (aet (g:=aN d) (vh:=gh) (vc:=gc) (k:=(k:Int)) hG) (next:=λy hy=>?_);obtain⟨v4,e⟩:=y;have he:e=0:=hy.2 ⟨hgo,by omega,by omega⟩;subst he;dsimp only[Iy,List.cons_append,List.nil_append];refine fu (ah (aj aa) v4 (dm (aN d) (k:Int))) (λw hw=>hw (l5 ((0:Int)=0) (ah (aj aa) v4 (dm (aN d) (k:Int)))) (by simp) rfl) ?_;refine aV (E:=aj aa) (v:=v4) (xs:=dm (aN d) (k:Int)) (by simp) λa4 c4 e4=>?_;subst e4;refine go ?_;intro b33;refine go ?_;refine eY (xs:=iN (aN d) k) (aj (aj aa)) (dm (aN d) (k:Int)) (.slice a4 (dm (aN d) (k:Int)).length c4) (by omega) (next:=λad=>?_);rw[<- Ue];refine go ?_;exact aQ (k+1,.slice ad ((iN (aN d) k).length+1) ((iN (aN d) k).length+1)) (by show 8 - (k+1)<8 - k;omega) (by show k+1<=_;omega)
 have M0:k=8:=by omega
 subst M0;refine go ?_;refine bi (λy:Nat×Value=>d.regions.length - y.1) (λy=>[(46,.int .i64 (y.1:Int))]) (λy=>[pt b (.cells (bL d vh vs (.slice ar d.regions.length cr) vc vu (.int .i64 (aN d).shape) (.int .i64 (aN d).w) (.int .i64 (aN d).h) gh gc vn y.2)),ap (aj (aj aa)) y.2 (iN (aN d) 8++(d.regions.take y.1).map λr=>dS (aN d) r.lists)]) (λ_=>[]) (λy=>y.1<=d.regions.length) (0,vl) (cB _) (hk:=by rw[show iN (aN d) 8++(d.regions.take 0).map (λr=>dS (aN d) r.lists)=iN (aN d) 8 from gK _];repeat (first|exact aH.nil|(apply aH.cons;(focus (repeat (first|exact ay.here|apply ay.there)))))) (body:=?_);rintro⟨k,v2⟩ hk;dsimp only at hk⊢;have hkl:(iN (aN d) 8++(d.regions.take k).map λr=>dS (aN d) r.lists).length=8+k:=by rw[gD,IC,bU,iy];omega
 refine go ?_;refine az rfl (λh1=>?_) (λh1=>?_)
 ·refine go ?_;refine aZ ed (xs:=d.regions) (next:=λ_ _ r (M3:Value) EC=>?_);have hrm:=bI EC;obtain⟨hl1,hl2⟩:=hT.s.qy r hrm;obtain⟨⟨_,hro⟩,_⟩:=hr r hrm;refine go ?_;intro b7;refine go ?_;refine ax (TZ (g:=aN d) (vh:=gh) (vc:=gc) (vr:=M3) (rs:=r.lists) hG hl1 hl2) (next:=λy hy=>?_);obtain⟨v8,e⟩:=y;have he:e=0:=hy.2 ⟨hgo,hro⟩;subst he;dsimp only[IA,List.cons_append,List.nil_append];refine fu (ah (aj aa) v8 (dS (aN d) r.lists)) (λw hw=>hw (l5 ((0:Int)=0) (ah (aj aa) v8 (dS (aN d) r.lists))) (by simp) rfl) ?_;refine aV (E:=aj aa) (v:=v8) (xs:=dS (aN d) r.lists) (by simp) λa8 c8 e8=>?_;subst e8;refine go ?_;intro Uf;refine go ?_;have htk:iN (aN d) 8++(d.regions.take (k+1)).map (λr=>dS (aN d) r.lists)=(iN (aN d) 8++(d.regions.take k).map λr=>dS (aN d) r.lists)++[dS (aN d) r.lists]:=by
   rw[bX EC,dY,oh,fq]
  refine eY (xs:=iN (aN d) 8++(d.regions.take k).map λr=>dS (aN d) r.lists) (aj (aj aa)) (dS (aN d) r.lists) (.slice a8 (dS (aN d) r.lists).length c8) (by omega) (next:=λad=>?_);rw[<- htk];refine go ?_;exact aQ (k+1,.slice ad ((iN (aN d) 8++(d.regions.take k).map λr=>dS (aN d) r.lists).length+1) ((iN (aN d) 8++(d.regions.take k).map λr=>dS (aN d) r.lists).length+1)) (by show d.regions.length - (k+1)<d.regions.length - k;omega) (by show k+1<=_;omega)
 have hke:k=d.regions.length:=by omega
 subst hke;rw[bK];rw[show iN (aN d) 8++d.regions.map (λr=>dS (aN d) r.lists)=kI d from rfl];refine bC (gy (E:=aj (aj aa)) (v:=v2) (xs:=kI d)) (h:=?_);refine go ?_;exact ae v2 (hv:=rfl) (hp:=trivial)
abbrev afc:List Value:=zL (.int .i64 0) (.int .i64 0) (.int .i64 0) (.slice none 0 0) (.slice none 0 0) (.slice none 0 0) (.slice none 0 0)
abbrev l6(k:bT)(vh vs vr vc vu gh gc vn vl:Value):List Value:=bL k.decl vh vs vr vc vu (.int .i64 k.grid.shape) (.int .i64 k.grid.w) (.int .i64 k.grid.h) gh gc vn vl
abbrev mW(k:bT)(vh vs vr vc vu gh gc vn vl:Value)(F:List aF):List aF:=ah aa vh k.decl.holes::ah fA vs k.decl.symbols::ah ed vr k.decl.regions::ah bJ vc k.decl.aI::ah aY vu k.decl.rules::ah aa gh k.grid.holes::ah aa gc k.grid.cells::ah (aj aa) vn k.bE::ah (aj (aj aa)) vl k.lists::F
structure ED(d:bD):Prop where
 rs:BB d
 typ:EA (Kd.bF d)
structure fV(k:bT):Prop where
 b:ED k.decl
 e:k=jV (Kd.bF k.decl)
structure M4 where
 ok:Bool
 e:Int
 vc:Value
 vu:Value
 gh:Value
 gc:Value
 vn:Value
 vl:Value
abbrev BP(d:bD)(vh vs vr:Value)(y:M4):Value:=.tuple ⟨[.agg ⟨cond y.ok (l6 (jV (Kd.bF d)) vh vs vr y.vc y.vu y.gh y.gc y.vn y.vl) afc⟩,.int .i64 y.e]⟩
abbrev BQ(d:bD)(vh vs vr:Value)(y:M4):List aF:=cond y.ok [ah bJ y.vc (Kd.bF d).aI,ah aY y.vu (Kd.bF d).rules,ah aa y.gh (aN (Kd.bF d)).holes,ah aa y.gc (aN (Kd.bF d)).cells,ah (aj aa) y.vn (bG (aN (Kd.bF d))),ah (aj (aj aa)) y.vl (kI (Kd.bF d))] []
def IE(d:bD)(y:M4):Prop:=(y.ok=true->y.e=0/\ED d)/\(y.ok=false->y.e≠0/\¬ED d)
theorem afd{d:bD}{vh vs vr vc vu:Value}(hT:sV d):bz Tryz.prog (.func 63) [.agg ⟨gq d vh vs vr vc vu⟩] [] [] (kG d vh vs vr vc vu) (BP d vh vs vr) (λ_=>[]) (BQ d vh vs vr) (IE d):=by
 have sW:sV (Kd.bF d):=⟨hT.s.bF,hT.w,hT.h,hT.holes⟩
 have hend:∀{e:Int} {vc vu gh gc vn vl:Value},e≠0->¬ED d->IE d ⟨false,e,vc,vu,gh,gc,vn,vl⟩:=λhe hb=>⟨(λh=>by cases h),λ_=>⟨he,hb⟩⟩
 refine aK _ (aP 63) λB w0=>?_;refine go ?_;intro b1 b2 b4 b15;refine oD ?_;refine go ?_;refine ax (ae6 (b:=b4) (d:=d) (vh:=vh) (vs:=vs) (vr:=vr) (vc:=vc) (vu:=vu) hT.s) (next:=λy hy=>?_);obtain⟨ok,e,v1,v2⟩:=y;cases ok with
 |false=>
  obtain⟨he,hno⟩:=hy.2 rfl;dsimp only[cond,nJ,List.nil_append]at he⊢;refine go ?_;refine az rfl (λh1=>?_) (λh1=>?_)
  ·refine go ?_;exact ae ⟨false,e,v1,v2,v1,v1,v1,v1⟩ (hv:=rfl) (hp:=hend he λh=>hno h.rs)
  ·exact absurd (iK.1 h1) he
 |true=>
 obtain⟨he,hres⟩:=hy.1 rfl;have he:e=0:=he;subst he;clear hy;dsimp only[cond,nJ,List.cons_append,List.nil_append];refine fu (ah aa vh (Kd.bF d).holes) (λw hw=>hw (ah aa vh d.holes) (by simp)) ?_;refine fu (ah fA vs (Kd.bF d).symbols) (λw hw=>hw (ah fA vs d.symbols) (by simp)) ?_;refine fu (ah ed vr (Kd.bF d).regions) (λw hw=>hw (ah ed vr d.regions) (by simp)) ?_;refine go ?_;refine oD ?_;refine go ?_;refine ax (ae7 (b:=b4) (d:=Kd.bF d) (vh:=vh) (vs:=vs) (vr:=vr) (vc:=v1) (vu:=v2) sW) (next:=λe he=>?_);refine go ?_;refine az rfl (λhne=>?_) (λhz=>?_)
 ·refine go ?_;exact ae ⟨false,e,v1,v2,v1,v1,v1,v1⟩ (hv:=rfl) (hp:=hend hne λh=>hne (he.2 h.typ))
 have hty:=he.1 (iK.1 hz);clear he hz;refine go ?_;refine oD ?_;refine go ?_;refine ax (ae9 (b:=b4) (d:=Kd.bF d) (vh:=vh) (vs:=vs) (vr:=vr) (vc:=v1) (vu:=v2) sW hty.BN) (next:=λy _=>?_);obtain⟨gh,gc,vn⟩:=y;dsimp only[List.cons_append,List.nil_append];refine go ?_;refine oD ?_;refine go ?_;refine ax (afa (b:=b4) (d:=Kd.bF d) (vh:=vh) (vs:=vs) (vr:=vr) (vc:=v1) (vu:=v2) (gh:=gh) (gc:=gc) (vn:=vn) sW hty.BN hty.zQ) (next:=λvl _=>?_);dsimp only[List.cons_append,List.nil_append];refine go ?_;refine oD ?_;refine go ?_;refine ae ⟨true,0,v1,v2,gh,gc,vn,vl⟩ (hv:=rfl) (hp:=⟨λ_=>⟨rfl,hres,hty⟩,(λh=>by cases h)⟩) (hF:=?_);show Sub [ah bJ v1 (Kd.bF d).aI,ah aY v2 (Kd.bF d).rules,ah aa gh (aN (Kd.bF d)).holes,ah aa gc (aN (Kd.bF d)).cells,ah (aj aa) vn (bG (aN (Kd.bF d))),ah (aj (aj aa)) vl (kI (Kd.bF d))] _;exact .cons (by simp) (.cons (by simp) (.cons (by simp) (.cons (by simp) (.cons (by simp) (.cons (by simp) .nil)))))
structure pO(k:bT):Prop where
 d:sV k.decl
 g:pK k.grid
 bE:k.bE.length<9223372036854775808/\∀l∈k.bE,l.length<9223372036854775808
 lists:k.lists.length<9223372036854775808/\∀l∈k.lists,l.length<9223372036854775808/\∀m∈l,m.length<9223372036854775808
theorem afe{x y:bT}{h1 s1 r1 c1 u1 ym yo n1 l1 h2 s2 r2 c2 u2 yu yx n2 l2:Value}(hS:pO x):dG Tryz.prog 67 [.agg ⟨l6 x h1 s1 r1 c1 u1 ym yo n1 l1⟩,.agg ⟨l6 y h2 s2 r2 c2 u2 yu yx n2 l2⟩]
 (mW x h1 s1 r1 c1 u1 ym yo n1 l1 (mW y h2 s2 r2 c2 u2 yu yx n2 l2 [])) (.bool (decide (x=y))):=by
 have e1:=hS.d.s;have e2:=hS.g.holes;have e3:=hS.g.cells;obtain⟨e4,e5⟩:=hS.bE;obtain⟨e6,e7⟩:=hS.lists;clear hS;obtain⟨xd,⟨xs,xw,xh,zR,zS⟩,xn,xl⟩:=x;obtain⟨yd,⟨ys,yw,yh,M5,EE⟩,yn,yl⟩:=y;dsimp only at e1 e2 e3 e4 e5 e6 e7;dsimp only[l6,mW];refine aK _ (aP 67) λB w0=>?_;refine go ?_;intro b2 b3;refine go ?_;first|with_reducible refine aL (λk1=>?_) (λk1=>?_)|with_reducible refine aO (λk1=>?_) (λk1=>?_)|with_reducible refine aM (λk1=>?_) (λk1=>?_)
 ·refine go ?_;refine ae () (hv:=?_) (hp:=trivial);rw[aT (λe=>k1 (by cases e;rfl))];rfl
 refine go ?_;first|with_reducible refine aL (λk2=>?_) (λk2=>?_)|with_reducible refine aO (λk2=>?_) (λk2=>?_)|with_reducible refine aM (λk2=>?_) (λk2=>?_)
 ·refine go ?_;refine ae () (hv:=?_) (hp:=trivial);rw[aT (λe=>k2 (by cases e;rfl))];rfl
 refine go ?_;first|with_reducible refine aL (λk3=>?_) (λk3=>?_)|with_reducible refine aO (λk3=>?_) (λk3=>?_)|with_reducible refine aM (λk3=>?_) (λk3=>?_)
 ·refine go ?_;refine ae () (hv:=?_) (hp:=trivial);rw[aT (λe=>k3 (by cases e;rfl))];rfl
 refine go ?_;refine ax (zH (xs:=zR) (ys:=M5) (by omega)) (next:=λ_ _=>?_);refine go ?_;first|with_reducible refine aL (λk4=>?_) (λk4=>?_)|with_reducible refine aO (λk4=>?_) (λk4=>?_)|with_reducible refine aM (λk4=>?_) (λk4=>?_)
 ·refine go ?_;refine ae () (hv:=?_) (hp:=trivial);rw[aT (λe=>k4 (by cases e;rfl))];rfl
 refine go ?_;refine ax (zH (xs:=zS) (ys:=EE) (by omega)) (next:=λ_ _=>?_);refine go ?_;first|with_reducible refine aL (λk5=>?_) (λk5=>?_)|with_reducible refine aO (λk5=>?_) (λk5=>?_)|with_reducible refine aM (λk5=>?_) (λk5=>?_)
 ·refine go ?_;refine ae () (hv:=?_) (hp:=trivial);rw[aT (λe=>k5 (by cases e;rfl))];rfl
 refine go ?_;have hsy:dG Tryz.prog 105 [.agg ⟨gq xd h1 s1 r1 c1 u1⟩,.agg ⟨gq yd h2 s2 r2 c2 u2⟩] [ah aa h1 xd.holes,ah fA s1 xd.symbols,ah ed r1 xd.regions,ah bJ c1 xd.aI,ah aY u1 xd.rules,ah aa h2 yd.holes,ah fA s2 yd.symbols,ah ed r2 yd.regions,ah bJ c2 yd.aI,ah aY u2 yd.rules] (.bool (decide (xd=yd))):=TC e1;refine ax hsy (next:=λ_ _=>?_);refine go ?_;first|with_reducible refine aL (λk6=>?_) (λk6=>?_)|with_reducible refine aO (λk6=>?_) (λk6=>?_)|with_reducible refine aM (λk6=>?_) (λk6=>?_)
 ·refine go ?_;refine ae () (hv:=?_) (hp:=trivial);rw[aT (λe=>k6 (by cases e;rfl))];rfl
 refine go ?_;refine ax (TA (xs:=xn) (ys:=yn) e4 e5) (next:=λ_ _=>?_);refine go ?_;first|with_reducible refine aL (λk7=>?_) (λk7=>?_)|with_reducible refine aO (λk7=>?_) (λk7=>?_)|with_reducible refine aM (λk7=>?_) (λk7=>?_)
 ·refine go ?_;refine ae () (hv:=?_) (hp:=trivial);rw[aT (λe=>k7 (by cases e;rfl))];rfl
 refine go ?_;refine ax (ada (xs:=xl) (ys:=yl) e6 e7) (next:=λ_ _=>?_);refine go ?_;refine ae () (hv:=?_) (hp:=trivial);subst k1 k2 k3 k4 k5 k6 k7;rw[show decide (bT.mk xd ⟨xs,xw,xh,zR,zS⟩ xn xl=bT.mk xd ⟨xs,xw,xh,zR,zS⟩ xn yl)=decide (xl=yl)from og.2 ⟨λh=>by cases h;rfl,λh=>by rw[h]⟩];rfl
theorem aff{k:bT}{vh vs vr vc vu gh gc vn vl:Value}(hS:pO k):bz Tryz.prog (.func 36) [.agg ⟨l6 k vh vs vr vc vu gh gc vn vl⟩] [] [] (mW k vh vs vr vc vu gh gc vn vl []) (λb:Bool=>.int .i64 (cond b 0 180)) (λ_=>[]) (λ_=>[]) (λb=>b=true↔fV k):=by
 refine aK _ (aP 36) λB w0=>?_;refine go ?_;intro b1;refine go ?_;refine ax (afd (d:=k.decl) (vh:=vh) (vs:=vs) (vr:=vr) (vc:=vc) (vu:=vu) hS.d) (next:=λy hy=>?_);obtain⟨ok,e,v1,v2,v3,v4,v5,v6⟩:=y;cases ok with
 |false=>
  obtain⟨he,hno⟩:=hy.2 rfl;have he:e≠0:=he;dsimp only[cond,BP,BQ,List.nil_append];refine go ?_;intro b3;refine go ?_;first|with_reducible refine aL (λh1=>?_) (λh1=>?_)|with_reducible refine aO (λh1=>?_) (λh1=>?_)|with_reducible refine aM (λh1=>?_) (λh1=>?_)
  ·exact absurd (iK.1 h1) he
  refine go ?_;exact ae false (hv:=rfl) (hp:=⟨(λh=>by cases h),λh=>absurd h.b hno⟩)
 |true=>
 obtain⟨he,hb⟩:=hy.1 rfl;have he:e=0:=he;subst he;clear hy;dsimp only[cond,BP,BQ,List.cons_append,List.nil_append];refine go ?_;intro b3;refine go ?_;have hsm:=afe (x:=k) (y:=jV (Kd.bF k.decl)) (h1:=vh) (s1:=vs) (r1:=vr) (c1:=vc) (u1:=vu) (ym:=gh) (yo:=gc) (n1:=vn) (l1:=vl) (h2:=vh) (s2:=vs) (r2:=vr) (c2:=v1) (u2:=v2) (yu:=v3) (yx:=v4) (n2:=v5) (l2:=v6) hS;refine fu (ah aa vh (jV (Kd.bF k.decl)).decl.holes) (λw hw=>hw (ah aa vh k.decl.holes) (by simp)) ?_;refine fu (ah fA vs (jV (Kd.bF k.decl)).decl.symbols) (λw hw=>hw (ah fA vs k.decl.symbols) (by simp)) ?_;refine fu (ah ed vr (jV (Kd.bF k.decl)).decl.regions) (λw hw=>hw (ah ed vr k.decl.regions) (by simp)) ?_;refine fu (ah bJ v1 (jV (Kd.bF k.decl)).decl.aI) (λw hw=>hw (ah bJ v1 (Kd.bF k.decl).aI) (by simp)) ?_;refine fu (ah aY v2 (jV (Kd.bF k.decl)).decl.rules) (λw hw=>hw (ah aY v2 (Kd.bF k.decl).rules) (by simp)) ?_;refine fu (ah aa v3 (jV (Kd.bF k.decl)).grid.holes) (λw hw=>hw (ah aa v3 (aN (Kd.bF k.decl)).holes) (by simp)) ?_;refine fu (ah aa v4 (jV (Kd.bF k.decl)).grid.cells) (λw hw=>hw (ah aa v4 (aN (Kd.bF k.decl)).cells) (by simp)) ?_;refine fu (ah (aj aa) v5 (jV (Kd.bF k.decl)).bE) (λw hw=>hw (ah (aj aa) v5 (bG (aN (Kd.bF k.decl)))) (by simp)) ?_;refine fu (ah (aj (aj aa)) v6 (jV (Kd.bF k.decl)).lists) (λw hw=>hw (ah (aj (aj aa)) v6 (kI (Kd.bF k.decl))) (by simp)) ?_;refine ax hsm (next:=λ_ _=>?_);refine go ?_;refine eO rfl (λh3=>?_) (λh3=>?_)
 ·refine go ?_;exact ae false (hv:=rfl) (hp:=⟨(λh=>by cases h),λh=>absurd h.e h3⟩)
 ·refine go ?_;exact ae true (hv:=rfl) (hp:=⟨λ_=>⟨hb,h3⟩,λ_=>rfl⟩)
