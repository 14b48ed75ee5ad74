/-
  Part LawRX.
-/
import Derived.Test.YtoilpafpgndilaaGreatLibACX
import Derived.Test.YtoilpafpgndilaaGreatLibADX
import Derived.Test.YtoilpafpgndilaaGreatLibAEX
import Derived.Test.YtoilpafpgndilaaGreatSaneCX
set_option linter.all false
set_option maxRecDepth 10000
set_option maxHeartbeats 4000000
namespace Go.Proofs.YtoilpafpgndilaaGreat
open Go.Ideal Kd Canon
theorem Dv.same{k:bD}{p:List Clue}{cl:List Int}{e e2:Int}(h:Dv k p cl e)(h2:Dv k p cl e2):e=e2:=by
 by_cases hK:dH k
 ·by_cases hQ:gX k p
  ·by_cases hC:vw k.decl.symbols.length cl
   ·rw[h.ok hK hQ hC,h2.ok hK hQ hC]
   ·rw[h.nc hK hQ hC,h2.nc hK hQ hC]
  ·rw[h.np hK hQ,h2.np hK hQ]
 ·rw[h.nk hK,h2.nk hK]
theorem F7{k:bD}{p:List Clue}(h:gX k p){t:List Int}:short (bK (aK k) t p):=λg hg=>by
 obtain⟨a,ha,rfl⟩:=eT.1 hg;obtain⟨c',L',a1,a2,a3,a4,a5,a6⟩:=h.right a ha;have hl:a.values.length<=8:=by rcases a6 with⟨_,b,_⟩|⟨_,b,_⟩|⟨_,_,b,_⟩<;>omega
 unfold iQ;dsimp only;split
 ·rw[NG];omega
 ·omega
theorem F8(sy:Int->Bool)(t:List Int)(p:List Clue):(bK sy t p).length=p.length:=by unfold bK;rw[bY]
theorem ajx{k:bD}{cl:List Int}{p:List Clue}{vh vs vr vc vu gh gc vn vl vp jR:Value}(hB:Bu k)(hP:wK p)(hl:cl.length<9223372036854775808):
 dD Tryz.prog 4 [.agg ⟨kZ k vh vs vr vc vu gh gc vn vl⟩,jR,.agg ⟨[vp]⟩] (ai ae jR cl::ai bO vp p::j6 k vh vs vr vc vu gh gc vn vl []) (.bool true):=by
 refine aM _ (aP 4) λB w0=>?_;dsimp only[j6];refine aS (E:=ae) (v:=jR) (xs:=cl) (by simp) λacl Xb F4=>?_;subst F4;refine go ?_;intro b3 b5;refine go ?_;refine ay Vi (next:=λ_ _=>?_);refine go ?_;refine ay (Xm (k:=k) hB) (next:=λb hb=>?_);cases b with
 |false=>
  refine go ?_;exact ah () (hv:=rfl) (hp:=trivial)
 |true=>
 obtain⟨mI,_,_⟩:=hb rfl;clear hb;have hS:=nZ.WV hB mI;refine go ?_;refine gG (λh20=>?_) (λh20=>?_)
 rotate_left
 ·refine go ?_;exact ah () (hv:=rfl) (hp:=trivial)
 refine go ?_;refine ay (Xo (va:=vp) (xs:=p)) (next:=λb hb=>?_);cases b with
 |false=>
  refine go ?_;exact ah () (hv:=rfl) (hp:=trivial)
 |true=>
 clear hb;refine go ?_;refine ay (Kb (k:=k) (cl:=cl) (p:=p) hS hP hl) (next:=λy1 hy1=>?_);obtain⟨v1,s1,e1⟩:=y1;dsimp only at hy1⊢;refine go ?_;intro b7;refine go ?_;refine ay (ajk (k:=k) (cl:=cl) (p:=p) hS hP hl) (next:=λy2 hy2=>?_);obtain⟨v2,s2,e2⟩:=y2;dsimp only at hy2⊢;obtain rfl:e1=e2:=hy1.1.same hy2.1;refine go ?_;intro b10;by_cases h0:e1=0
 ·subst h0;have hr1:Dv k p cl 0:=hy1.1;have hK:dH k:=Classical.byContradiction λh=>by have:=hr1.nk h;omega
  have hQ:gX k p:=Classical.byContradiction λh=>by have:=hr1.np hK h;omega
  have hC:vw k.decl.symbols.length cl:=Classical.byContradiction λh=>by have:=hr1.nc hK hQ h;omega
  have hgl:=(FC hC.len (gX.oJ hQ)).p.len;have hm:=hK.typ.lim.s1;have hpl:=hQ.len;have hrl:=F8 (aK k) (dz (aK k) cl p) p;refine eF (ai bO v1 (bK (aK k) (dz (aK k) cl p) p)) (λw hw=>hw (jr ((0:Int)=0) (ai bO v1 (bK (aK k) (dz (aK k) cl p) p))) (by simp) rfl) ?_;refine eF (ai bO v2 (bK (aK k) (dz (aK k) cl p) p)) (λw hw=>hw (jr ((0:Int)=0) (ai bO v2 (bK (aK k) (dz (aK k) cl p) p))) (by simp) rfl) ?_;refine eF (ai ae s1 (dz (aK k) cl p)) (λw hw=>hw (jr ((0:Int)=0) (ai ae s1 (dz (aK k) cl p))) (by simp) rfl) ?_;refine eF (ai ae s2 (dz (aK k) cl p)) (λw hw=>hw (jr ((0:Int)=0) (ai ae s2 (dz (aK k) cl p))) (by simp) rfl) ?_;refine go ?_;refine ay (F3 (va:=v1) (vb:=v2) (xs:=bK (aK k) (dz (aK k) cl p) p) (ys:=bK (aK k) (dz (aK k) cl p) p) (by omega) (F7 hQ) (F7 hQ)) (next:=λ_ _=>?_);rw[dK (rfl:bK (aK k) (dz (aK k) cl p) p=bK (aK k) (dz (aK k) cl p) p)];refine go ?_;refine ay (zF (va:=s1) (vb:=s2) (xs:=dz (aK k) cl p) (ys:=dz (aK k) cl p) (by omega)) (next:=λ_ _=>?_);rw[dK (rfl:dz (aK k) cl p=dz (aK k) cl p)];refine go ?_;refine ah () (hv:=?_) (hp:=trivial);exact congrArg Value.bool (dK rfl)
 ·obtain⟨rfl,rfl⟩:=hy1.2 h0;obtain⟨rfl,rfl⟩:=hy2.2 h0;refine eF (ai bO (.slice none 0 0) ([]:List Clue)) (λw _=>.inl ⟨rfl,none,0,rfl,trivial⟩) ?_;refine eF (ai ae (.slice none 0 0) ([]:List Int)) (λw _=>.inl ⟨rfl,none,0,rfl,trivial⟩) ?_;refine go ?_;refine ay (F3 (va:=(.slice none 0 0)) (vb:=(.slice none 0 0)) (xs:=([]:List Clue)) (ys:=([]:List Clue)) (bR _) (λg hg=>by cases hg) (λg hg=>by cases hg)) (next:=λ_ _=>?_);rw[dK (rfl:([]:List Clue)=([]:List Clue))];refine go ?_;refine ay (zF (va:=(.slice none 0 0)) (vb:=(.slice none 0 0)) (xs:=([]:List Int)) (ys:=([]:List Int)) (by decide)) (next:=λ_ _=>?_);rw[dK (rfl:([]:List Int)=([]:List Int))];refine go ?_;refine ah () (hv:=?_) (hp:=trivial);exact congrArg Value.bool (dK rfl)
