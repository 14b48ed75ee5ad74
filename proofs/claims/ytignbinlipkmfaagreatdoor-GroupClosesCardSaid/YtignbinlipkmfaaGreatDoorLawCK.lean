/- Part. -/
import Derived.Test.YtignbinlipkmfaaGreatDoorLibACK
import Derived.Test.YtignbinlipkmfaaGreatDoorSaneHK
set_option linter.all false
set_option maxRecDepth 10000
set_option maxHeartbeats 4000000
namespace Go.Proofs.YtignbinlipkmfaaGreatDoor
open Go.Ideal Kd Canon
theorem oL.one{k:bN}(hK:eY k):oL k (upTo' k.grid.cells.length) (upTo' k.decl.symbols.length):=
 (aku hK).2 ⟨bW.ident _,λv v0 v1=>by rw[BZ v0 v1];exact sw.refl _ _⟩
theorem anH{k:bN}{s t s2 t2:ae Int}{vh vs vr vc vu gh gc vn vl sc st Mi st2:ah}(hB:Cn k)(hs:s.length<2^63)(ht:t.length<2^63)(hs2:s2.length<2^63)(ht2:t2.length<2^63):
 dL Tryz.prog 8 [.agg ⟨mM k vh vs vr vc vu gh gc vn vl⟩,.agg ⟨[sc,st]⟩,.agg ⟨[Mi,st2]⟩] (Gl 6::aj ai sc s::aj ai st t::aj ai Mi s2::aj ai st2 t2::lN k vh vs vr vc vu gh gc vn vl []) (.bool true):=by
 refine gB 8 λB w0=>?_;dsimp only[lN];refine gF ai gc k.grid.cells λag cg eg=>?_;subst eg;refine gF eT vs k.decl.symbols λpg cs1 es1=>?_;subst es1;refine go ?_;intro b3 b4 b5;refine gC aaJ λ_ _=>?_;refine gC (Y8 (k:=k) hB) λb hb=>?_;cases b with
 |false=>
  exact fH
 |true=>
 obtain⟨qC,_,_⟩:=hb rfl;clear hb;have hS:=ug.YT hB qC;refine gC (Rf (s:=s) (t:=t) (sc:=sc) (st:=st)) λb hb=>?_;cases b with
 |false=>
  exact fH
 |true=>
 clear hb;refine gC (Rf (s:=s2) (t:=t2) (sc:=Mi) (st:=st2)) λb hb=>?_;cases b with
 |false=>
  exact fH
 |true=>
 clear hb;refine gC (YQ (k:=k) hS) λb hb=>?_;cases b with
 |false=>
  dsimp only[cond];exact fH
 |true=>
 have hK:=hb.1 rfl;clear hb;have hn:=hK.Ap;have hm:=hK.typ.lim.s1;dsimp only[cond];refine gC (Zb (n:=k.grid.cells.length) tr) λv1 _=>?_;refine gF ai v1 (upTo' k.grid.cells.length) λa1 c1 e1=>?_;subst e1;refine gC (Zb (n:=k.decl.symbols.length) tr) λv2 _=>?_;refine gF ai v2 (upTo' k.decl.symbols.length) λa2 c2 e2=>?_;subst e2;refine go ?_;have hl1:=nT k.grid.cells.length;have hl2:=nT k.decl.symbols.length;refine eO (Ep (k:=k) (s:=(upTo' k.grid.cells.length)) (t:=(upTo' k.decl.symbols.length)) (sc:=(.slice a1 (upTo' k.grid.cells.length).length c1)) (st:=(.slice a2 (upTo' k.decl.symbols.length).length c2)) hS tr tr) (next:=λy hy=>?_);obtain⟨x0,e⟩:=y;obtain⟨he,hx0⟩:=hy.ok hK;dsimp only at he hx0;subst he;clear hy;obtain rfl:x0=true:=hx0.2 (oL.one hK);refine gC (Ep (k:=k) (s:=s) (t:=t) (sc:=sc) (st:=st) hS hs ht) λy hy=>?_;obtain⟨x1,e⟩:=y;obtain⟨he,hx1⟩:=hy.ok hK;dsimp only at he hx1;subst he;clear hy;refine gC (Ep (k:=k) (s:=s2) (t:=t2) (sc:=Mi) (st:=st2) hS hs2 ht2) λy hy=>?_;obtain⟨x2,e⟩:=y;obtain⟨he,hx2⟩:=hy.ok hK;dsimp only at he hx2;subst he;clear hy;refine go ?_;cases x1 with
 |false=>
  exact fH
 |true=>
 cases x2 with
 |false=>
  exact fH
 |true=>
 have k1:=hx1.1 rfl;have k2:=hx2.1 rfl;clear hx0 hx1 hx2;have q1:=k1.pc.len;have q2:=k1.ps.len;have q3:=k2.pc.len;have q4:=k2.ps.len;refine gC (X7 (a:=s) (b:=s2) hs hs2) λy hy=>?_;obtain⟨v15,e⟩:=y;dsimp only at hy⊢;obtain rfl:e=0:=hy.1.2 ⟨tr,by rw[q1];exact k1.pc,by rw[q1];exact k2.pc⟩;clear hy;refine fM (aj ai v15 (eX s s2)) (λw hw=>hw (kZ ((0:Int)=0) (aj ai v15 (eX s s2))) tt rfl) ?_;refine gF ai v15 (eX s s2) λa15 c15 e15=>?_;subst e15;refine gC (X7 (a:=t) (b:=t2) ht ht2) λy hy=>?_;obtain⟨v16,e⟩:=y;dsimp only at hy⊢;obtain rfl:e=0:=hy.1.2 ⟨tr,by rw[q2];exact k1.ps,by rw[q2];exact k2.ps⟩;clear hy;refine fM (aj ai v16 (eX t t2)) (λw hw=>hw (kZ ((0:Int)=0) (aj ai v16 (eX t t2))) tt rfl) ?_;refine gF ai v16 (eX t t2) λa16 c16 e16=>?_;subst e16;refine gC (X8 (p:=s) hs) λy hy=>?_;obtain⟨v17,e⟩:=y;dsimp only at hy⊢;obtain rfl:e=0:=hy.1.2 ⟨tr,by rw[q1];exact k1.pc⟩;clear hy;refine fM (aj ai v17 (iH s)) (λw hw=>hw (kZ ((0:Int)=0) (aj ai v17 (iH s))) tt rfl) ?_;refine gF ai v17 (iH s) λa17 c17 e17=>?_;subst e17;refine gC (X8 (p:=t) ht) λy hy=>?_;obtain⟨v18,e⟩:=y;dsimp only at hy⊢;obtain rfl:e=0:=hy.1.2 ⟨tr,by rw[q2];exact k1.ps⟩;clear hy;refine fM (aj ai v18 (iH t)) (λw hw=>hw (kZ ((0:Int)=0) (aj ai v18 (iH t))) tt rfl) ?_;refine gF ai v18 (iH t) λa18 c18 e18=>?_;subst e18;have kc:=k2.comp hK k1;have ki:=k1.inv hK;have r1:=kc.pc.len;have r2:=kc.ps.len;have r3:=ki.pc.len;have r4:=ki.ps.len;refine gC (Ep (k:=k) (s:=(eX s s2)) (t:=(eX t t2)) (sc:=(.slice a15 (eX s s2).length c15)) (st:=(.slice a16 (eX t t2).length c16)) hS tr tr) λy hy=>?_;obtain⟨x3,e⟩:=y;obtain⟨he,hx3⟩:=hy.ok hK;dsimp only at he hx3;subst he;clear hy;obtain rfl:x3=true:=hx3.2 kc;refine gC (Ep (k:=k) (s:=(iH s)) (t:=(iH t)) (sc:=(.slice a17 (iH s).length c17)) (st:=(.slice a18 (iH t).length c18)) hS tr tr) λy hy=>?_;obtain⟨x4,e⟩:=y;obtain⟨he,hx4⟩:=hy.ok hK;dsimp only at he hx4;subst he;clear hy;obtain rfl:x4=true:=hx4.2 ki;exact fH
