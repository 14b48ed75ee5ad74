/- Part. -/
import Derived.Test.YtoilpafpgndilaaGreatLibAHF
set_option linter.all false
set_option maxRecDepth 10000
set_option maxHeartbeats 4000000
namespace Go.Proofs.YtoilpafpgndilaaGreat
open Go.Ideal Kd Canon
variable{cl:kI Int}{L:kI (kI Int)}{vL jR:vI}
theorem ar7:fC Tryz.prog 19 [.agg ⟨[vL,jR]⟩] [ai (ak ae) vL L,ai ae jR cl] (λb:Bool=>.bool b) (λ_=>True):=by
 refine gB 19 λB w0=>?_;refine gF ae jR cl λacl Xb F4=>?_;subst F4;refine gF (ak ae) vL L λaL cL eL=>?_;subst eL;refine go ?_;intro b1;refine gN L.length 3 (λk=>k<=L.length/\k<=100) ⟨bR _,bR _⟩ ?_;rintro k ⟨hk,hk1⟩;refine gH ?_ ?_<;>intro h1
 .exact rK
 refine gIf ?_ ?_<;>intro h2
 rotate_left
 .exact rK
 refine gX (ak ae) (xs:=L) λ_ _ x (vx:vI) hx=>?_;refine gF ae vx x λax cx ex=>?_;subst ex;refine gIf ?_ ?_<;>intro h3
 .refine go ?_;exact gQ false trivial
 refine go ?_;exact aN (k+1) z7 ⟨z7,z7⟩
variable{s:kI Int}{vc:vI}
theorem ar8{va vb vd:vI}{t:kI Int}(hs:s.length<2^63)(ht:t.length<2^63):dD Tryz.prog 22 [.agg ⟨[va,vb]⟩,.agg ⟨[vc,vd]⟩] [ai ae va s,ai ae vb t,ai ae vc s,ai ae vd t] (.bool true):=by
 refine gB 22 λB w0=>?_;refine go ?_;intro b2 b3;refine gC (amt (va:=va) (vb:=vc) (xs:=s) (ys:=s) hs) λ_ _=>?_;rw[dK (rfl:s=s)];refine gC (amt (va:=vb) (vb:=vd) (xs:=t) (ys:=t) ht) λ_ _=>?_;rw[dK (rfl:t=t)];exact afN
def CaS(c:CaR):Prop:=alr c/\c.s.length<2^63/\c.t.length<2^63
theorem amh(e:Int):CaS (caE e):=⟨anu e,by show(0:Nat)<2^63;decide,by show(0:Nat)<2^63;decide⟩
theorem aoR:∀(xs:kI CaR) (b:Bool×CaR),CaS b.2->(∀c∈xs,CaS c)->CaS (xs.foldl akI b).2
 |[],b,h,_=>h
 |x::xs,b,h,hx=>by
  rw[wO];refine aoR xs _ ?_ (λc hc=>hx c (cO _ hc));show CaS (if _ then x else b.2);split
  .exact hx x (cB ..)
  .exact h
variable{k:bD}{p:kI Clue}
theorem ar9(hK:dH k)(hQ:age k p)(hC:akC k.decl.symbols.length cl)(hk:lc k s (idI cl.length)):CaS (akl k cl p s):=by
 have hm:=hK.typ.lim.s1;have hn:=hK.Vm;have hsl:=hk.pc.len;refine⟨anx hK hQ hk,by unfold akl;dsimp only;omega,?_⟩;have hsy:oK (aK k) k.decl.symbols.length (akM (p.map (l8 k s (idI cl.length)))):=by
  rcases aoN (p.map (l8 k s (idI cl.length)))with h|h
  .exact age.oJ (ahk hK hk hQ h)
  .rw[h];exact λg hg=>by cases hg
 have hgl:=(FC hC.len hsy).p.len;unfold akl;dsimp only;omega
theorem aoS{k:bD}{cl:kI Int}{p:kI Clue}(hK:dH k)(hQ:age k p)(hC:akC k.decl.symbols.length cl):∀(L:kI (kI Int)),∀c∈air k cl p L,CaS c
 |[],c,hc=>by cases hc
 |s::L,c,hc=>by
  rw[air]at hc;split at hc
  .rename_i h;rcases dx.1 hc with rfl|hc
   .exact ar9 hK hQ hC h
   .exact aoS hK hQ hC L c hc
  .obtain rfl:=bM.1 hc;exact amh _
theorem alE.good{a:CaR}(h:alE k cl p L a):CaS a:=by
 by_cases hK:dH k
 .by_cases hQ:age k p
  .by_cases hC:akC k.decl.symbols.length cl/\L≠[]
   .rw[h.ok hK hQ hC];exact aoR _ _ (amh 0) (aoS hK hQ hC.1 L)
   .rw[h.nc hK hQ hC];exact amh _
  .rw[h.np hK hQ];exact amh _
 .rw[h.nk hK];exact amh _
theorem asa{vh vs vr vu gh gc vn vl vp:vI}(hB:Bu k)(hP:wK p)(hl:cl.length<2^63)(hLl:L.length<2^63)(hLs:∀s∈L,s.length<2^63):
 dD Tryz.prog 5 [.agg ⟨kZ k vh vs vr vc vu gh gc vn vl⟩,.agg ⟨[vL,jR]⟩,.agg ⟨[vp]⟩] (ai (ak ae) vL L::ai ae jR cl::ai bO vp p::j6 k vh vs vr vc vu gh gc vn vl []) (.bool true):=by
 refine gB 5 λB w0=>?_;dsimp only[j6];refine go ?_;intro b3 b4 b5;refine gC Vi λ_ _=>?_;refine gC (Xm (k:=k) hB) λb hb=>?_;cases b with
 |false=>
  exact afN
 |true=>
 obtain⟨mI,_,_⟩:=hb rfl;clear hb;have hS:=nZ.WV hB mI;refine gC (ar7 (vL:=vL) (jR:=jR) (L:=L) (cl:=cl)) λb _=>?_;cases b with
 |false=>
  exact afN
 |true=>
 refine gC (Xo (va:=vp) (xs:=p)) λb hb=>?_;cases b with
 |false=>
  exact afN
 |true=>
 clear hb;refine gC (arQ (k:=k) (cl:=cl) (p:=p) (L:=L) (jR:=jR) (vL:=vL) hS hP hl hLl hLs) λy1 hy1=>?_;obtain⟨p1,s1,t1,c⟩:=y1;dsimp only at hy1⊢;have hg:=hy1.good;refine gF ae s1 c.s λkY cs1 es1=>?_;subst es1;refine gF ae t1 c.t λuS ct1 et1=>?_;subst et1;refine go ?_;intro b7 b8;refine gC (arZ (k:=k) (cl:=cl) (p:=p) (L:=L) (jR:=jR) (vL:=vL) hS hP hl hLl hLs) λy2 hy2=>?_;obtain⟨p2,s2,t2,c2⟩:=y2;dsimp only at hy2⊢;obtain rfl:c=c2:=hy1.same hy2;refine gF ae s2 c.s λas2 cs2 es2=>?_;subst es2;refine gF ae t2 c.t λat2 ct2 et2=>?_;subst et2;refine go ?_;intro b10 b11;refine gC (F3 (va:=p1) (vb:=p2) (xs:=c.p) (ys:=c.p) hg.1.1 hg.1.2 hg.1.2) λ_ _=>?_;rw[dK (rfl:c.p=c.p)];refine gC (ar8 (va:=.slice kY c.s.length cs1) (vb:=.slice uS c.t.length ct1) (vc:=.slice as2 c.s.length cs2) (vd:=.slice at2 c.t.length ct2) hg.2.1 hg.2.2) λ_ _=>?_;refine acM ?_;exact congrArg Value.bool (dK rfl)
