/-
  Part LibADW.
-/
import Derived.Test.YtfakljdleblkoaaGreatLibACW
import Derived.Test.YtfakljdleblkoaaGreatLibQW
set_option linter.all false
set_option maxRecDepth 10000
set_option maxHeartbeats 4000000
namespace Go.Proofs.YtfakljdleblkoaaGreat
open Go.Ideal Kd Canon
variable{s l:List Int}{sc st vb:Value}
theorem akL{n:Nat}(hs:s.length=n)(hl:oq n l)(hn:n<=1000000)(hll:l.length<=1000000):Ro Tryz.prog 81 [.agg ⟨[sc,st]⟩,vb] [ai ae sc s,ai ae vb l] ae (img s l):=by
 refine aH _ (aN 81) λB w0=>?_;refine go ?_;intro b2;refine bi (dR (b:=b2)) (h:=?_);refine go ?_;refine gH ae ?_;refine aW (λy:Nat×Value=>l.length - y.1) (λy=>[(6,.int .i64 (y.1:Int)),(5,y.2)]) (λy=>[ap ae y.2 (img s (l.take y.1))]) (λ_=>[]) (λy=>y.1<=l.length) (0,.slice none 0 0) (bQ _) (hk:=we) (body:=?_);rintro⟨q,v5⟩ hq;dsimp only at hq⊢;have Wm:(img s (l.take q)).length=q:=by rw[EO,ig];omega
 exact ud
variable{xs:List Int}{va:Value}
theorem akM(hl:xs.length<=1000000):Ro Tryz.prog 82 [va] [ai ae va xs] ae xs.reverse:=by
 refine aH _ (aN 82) λB w0=>?_;refine aT (E:=ae) (v:=va) (xs:=xs) vm λaa ca ea=>?_;subst ea;refine go ?_;refine gH ae ?_;refine aW (λy:Nat×Value=>xs.length - y.1) (λy=>[(4,.int .i64 ((xs.length:Int) - 1 - (y.1:Int))),(3,y.2)]) (λy=>[ap ae y.2 (xs.reverse.take y.1)]) (λ_=>[]) (λy=>y.1<=xs.length) (0,.slice none 0 0) (bQ _) (hl:=Cl) (hk:=we) (body:=?_);rintro⟨q,v5⟩ hq;dsimp only at hq⊢;have Wm:(xs.reverse.take q).length=q:=by rw[ig,FN];omega
 exact cI
theorem anc{ys:List Int}(hl:xs.length<9223372036854775808)(hl2:ys.length<9223372036854775808):dL Tryz.prog 151 [va,vb] [ai ae va xs,ai ae vb ys] (.bool (qH xs ys)):=by
 refine aH _ (aN 151) λB w0=>?_;refine aT (E:=ae) (v:=va) (xs:=xs) vm λaa ca ea=>?_;subst ea;refine aT (E:=ae) (v:=vb) (xs:=ys) vm λab cb eb=>?_;subst eb;refine go ?_;refine az rfl (λh0=>?_) (λh0=>?_)
 ·refine go ?_;refine ah () (hv:=?_) (hp:=trivial);unfold qH;rw[aS (λq=>by have:=q.2;omega)];rfl
 refine go ?_;refine aW (λk=>xs.length - k) (λk:Nat=>[(5,.int .i64 (k:Int))]) (λ_=>[]) (λ_=>[]) (λk=>k<=xs.length/\∀x∈xs.take k,x∈ys) 0 ⟨bQ _,vm⟩ (body:=?_);rintro k ⟨hk,hno⟩;refine go ?_;refine az rfl (λh1=>?_) (λh1=>?_)
 ·refine go ?_;intro _ _ x hx;refine go ?_;refine ax (al5 (xs:=ys) (x:=x) hl2) (next:=λ_ _=>?_);exact fc
 have hke:k=xs.length:=vj
 subst hke;rw[bJ]at hno;refine go ?_;refine ah () (hv:=?_) (hp:=trivial);unfold qH;rw[eY ⟨hno,vj⟩];rfl
structure ClW(k:bS)(s t:List Int)(g:Clue)(c:iJ)(L:List (List Int))(j i:Nat)(l l':List Int):Prop where
 g:Vt k s t g c L j i l l'
 ps:di k.grid.cells.length s
 f0:0<=c.family
 n1:k.grid.cells.length<=1000000
 len:L.length<=1000000
 lens:∀l∈L,l.length<=1000000
 nd:∀l∈L,l.Nodup
variable{t:List Int}{k:bS}
theorem clW(hK:eF k)(hk:nN k s t){g:Clue}(hg:EG k g):∃c L j i l l',ClW k s t g c L j i l l':=by
 obtain⟨c,L,j,i,l,l',G⟩:=goG hK hk hg;have VI:∀r∈k.decl.regions,vN (aO k.decl) r.lists:=λr hr=>(hK.typ.yX r hr).1.2;have VJ:=adw hK.bZ VI;have hlin:=adf hK.bZ VI;rw[<- hK.lists]at VJ hlin;have hn:=hK.Ao;have hLm:=aP G.hL;exact⟨c,L,j,i,l,l',G,hk.pc,(hK.iK c (aP G.hc)).1,vj,by have:=VJ L hLm;omega,λx hx=>by have:=(hlin L hLm x hx).1;omega,hK.nodup G.hL⟩
variable{l':List Int}{vh vs vr vc vu gh gc vn vl:Value}{g:Clue}{c:iJ}{L:List (List Int)}{i j:Nat}
theorem anf(H:ClW k s t g c L j i l l'):
 dL Tryz.prog 80 [.agg ⟨lC k vh vs vr vc vu gh gc vn vl⟩,.agg ⟨[sc,st]⟩,.int .i64 c.family,.int .i64 (j:Int)] [ai ae sc s,ai (ak (ak ae)) vl k.lists] (.int .i64 (i:Int)):=by
 have hsl:=H.ps.len;have hps:=H.ps;have hn1:=H.n1;have hll:=H.len;have pW:=H.lens;have hnd:=H.nd;have Wq:=H.g.iK;have lq:=H.g.goes.iM H.g.iK;have hl:=H.g.hl;have hl':=H.g.hl';have za:=H.g.hL;have hp:=H.g.perm;obtain⟨f,hf⟩:=iO H.f0;rw[hf,gy]at za;rw[hf]at lq Wq⊢;clear H;have hfl:=(bC.1 za).1;have hjl:=(bC.1 hl).1;have ajM:=(bC.1 hl').1;have hlm:=aP hl;have hlr:=Wq.eH l hlm;have hlen:=pW l hlm;have hil:(img s l).length=l.length:=EO s l;refine aH _ (aN 80) λB w0=>?_;refine aT (E:=ae) (v:=sc) (xs:=s) vm λOc Od esc=>?_;subst esc;refine go ?_;intro b4 b5;refine bi (dR (b:=b4)) (h:=?_);refine bi (dR (b:=b5)) (h:=?_);refine go ?_;refine gG (λc0=>?_) (λc0=>?_)
 rotate_left
 ·have hby:iR (f:Int)=true:=by unfold iR;simp[c0]
  exact tW
 refine go ?_;refine gG (λc4=>?_) (λc4=>?_)
 rotate_left
 ·have hby:iR (f:Int)=true:=by unfold iR;simp[c4]
  exact tW
 refine go ?_;refine az rfl (λc5=>?_) (λc5=>?_)
 ·have hby:iR (f:Int)=true:=by unfold iR;simp[c5]
  exact tW
 have hby:¬iR (f:Int)=true:=by unfold iR;rw[qM,qM,jX,jX,jX];omega
 have hin:=TY hps hlr (hnd l hlm);have hidx:oV (λx=>qH x (img s l)) L=(i:Int):=by
  unfold iM at lq;rw[if_neg hby,gy,gz hl,<- NW]at lq;unfold oV at lq⊢;rw[any_congr (p:=λx=>qH x (img s l)) (q:=λx=>decide (bM x=bM (img s l))) λx hx=>Ww (hnd x hx) hin];exact lq
 refine go ?_;refine bq (ak (ak ae)) (xs:=k.lists) (k:=f) (next:=λ_ _ L2 (vL:Value) hL2=>?_);rw[za]at hL2;obtain rfl:L=L2:=Option.some.inj hL2;refine aT (E:=ak ae) (v:=vL) (xs:=L) vm λaL cL eL=>?_;subst eL;refine go ?_;refine bq (ak ae) (xs:=L) (k:=j) (next:=λ_ _ l2 (y8:Value) hl2=>?_);rw[hl]at hl2;obtain rfl:l=l2:=Option.some.inj hl2;refine go ?_;refine ax (akL (sc:=.slice Oc s.length Od) (st:=st) (s:=s) (l:=l) hsl hlr hn1 hlen) (next:=λvi _=>?_);refine go ?_;refine aW (λq:Nat=>L.length - q) (λq=>[(10,.int .i64 (q:Int))]) (λ_=>[]) (λ_=>[]) (λq=>q<=L.length/\(L.take q).any (λx=>qH x (img s l))=false) 0 ⟨bQ _,vm⟩ (body:=?_);rintro q ⟨hq,hno⟩;refine go ?_;refine bq (ak (ak ae)) (xs:=k.lists) (k:=f) (next:=λ_ _ L2 (vL2:Value) hL2=>?_);rw[za]at hL2;obtain rfl:L=L2:=Option.some.inj hL2;refine aT (E:=ak ae) (v:=vL2) (xs:=L) vm λaL2 cL2 eL2=>?_;subst eL2;refine go ?_;refine az rfl (λh1=>?_) (λh1=>?_)
 ·refine go ?_;refine bq (ak (ak ae)) (xs:=k.lists) (k:=f) (next:=λ_ _ L2 (vL3:Value) hL2=>?_);rw[za]at hL2;obtain rfl:L=L2:=Option.some.inj hL2;refine go ?_;refine bq (ak ae) (xs:=L) (k:=q) (next:=λ_ _ x (vx:Value) hx=>?_);have hxl:=pW x (aP hx);refine go ?_;refine ax (anc (xs:=x) (ys:=img s l) vj AS) (next:=λ_ _=>?_);refine go ?_;refine jh rfl (λh2=>?_) (λh2=>?_)
  ·refine go ?_;refine ah () (hv:=?_) (hp:=trivial);rw[<- hidx,Vl hno hx h2];rfl
  ·exact rh
 have hke:q=L.length:=vj
 subst hke;rw[bJ]at hno;have:=Vm hno;omega
theorem anh{vv:Value}(H:ClW k s t g c L j i l l')(hpt:di k.decl.symbols.length t)(hv1:c.type=1->∃v0:Nat,g.values=[(v0:Int)]/\v0<k.decl.symbols.length)(hvl:g.values.length<=1000000):
 aU Tryz.prog (.func 48) [.agg ⟨lC k vh vs vr vc vu gh gc vn vl⟩,.agg ⟨[sc,st]⟩,aeQ g vv] [] [] [ai ae vv g.values,ai ae sc s,ai ae st t,ai bP vc k.decl.aJ,ai (ak (ak ae)) vl k.lists] (λv:Value=>aeQ (Vs k s t g) v) (λ_=>[]) (λv=>[ai ae v (Vs k s t g).values]) (λ_=>True):=by
 have hsl:=H.ps.len;have htl:=hpt.len;have hn1:=H.n1;have hll:=H.len;have pW:=H.lens;have akO:=anf (vh:=vh) (vs:=vs) (vr:=vr) (vc:=vc) (vu:=vu) (gh:=gh) (gc:=gc) (vn:=vn) (vl:=vl) (sc:=sc) (st:=st) H;have Wq:=H.g.iK;have hl:=H.g.hl;have hl':=H.g.hl';have za:=H.g.hL;have hlm:=aP hl;have hlr:=Wq.eH l hlm;have hlen:=pW l hlm;have hlen':=pW l' (aP hl');have hil:(img s l).length=l.length:=EO s l;have hrl:(img s l).reverse.length=l.length:=by rw[FN];exact hil
 have afn:=H.g.img;obtain⟨f,hf⟩:=iO H.f0;rw[hf,gy]at za;rw[hf]at akO;have hfl:=(bC.1 za).1;have hjl:=(bC.1 hl).1;have ajM:=(bC.1 hl').1;have hcl:=H.g.aQ;have hcc:=H.g.hc;have hat:=H.g.at_;clear H;obtain⟨cn,hcn⟩:=iO hcl;rw[hcn,gy]at hcc;have akG:=(bC.1 hcc).1;have hgg:aeQ g vv=.agg ⟨[.int .i64 (cn:Int),.int .i64 (j:Int),vv]⟩:=by unfold aeQ;rw[<- hcn,<- hat]
 rw[hgg];rw[hcn]at afn;refine aH _ (aN 48) λB w0=>?_;refine aT (E:=ae) (v:=vv) (xs:=g.values) vm λavv cvv evv=>?_;subst evv;refine go ?_;intro b3 b4 b5 b6;refine bi (dR (b:=b3)) (h:=?_);refine bi (dR (b:=b4)) (h:=?_);refine bi (dR (b:=b5)) (h:=?_);refine go ?_;refine bq bP (xs:=k.decl.aJ) (k:=cn) (next:=λ_ _ c2 (_:Unit) hc2=>?_);rw[hcc]at hc2;obtain rfl:c=c2:=Option.some.inj hc2;refine go ?_;intro b7;refine go ?_;refine bi (dR (b:=b7)) (h:=?_);refine go ?_;rw[hf];refine ax akO (next:=λ_ _=>?_);refine go ?_;by_cases t1:c.type=1
 ·obtain⟨v0,hv0,hvm⟩:=hv1 t1;rw[hv0];refine az rfl (λ_=>?_) (λh=>absurd t1 h);refine go ?_;refine bq ae (xs:=[(v0:Int)]) (k:=0) (h1:=vm) (next:=λ_ _ x (_:Unit) hx=>?_);have hx0:(v0:Int)=x:=by simpa using hx
  subst hx0;refine go ?_;intro _ _ zt hzt;have aj9:=l6 hzt;refine go ?_;intro b38;refine go ?_;refine az rfl (λh3=>by omega) (λh3=>?_);refine bi alO (h:=?_);have hval:(Vs k s t g).values=[zt]:=by
   rw[afn];dsimp only;unfold Vr;rw[if_pos t1,hv0];show[aR t (v0:Int)]=[zt]
   rw[aj9]
  refine go ?_;refine fK (ai ae (.slice (some ⟨b38,0,some 0⟩) 1 1) (Vs k s t g).values) (λw hw=>by rw[hval];exact hw (ai ae (.slice (some ⟨b38,0,some 0⟩) 1 1) [zt]) vm) ?_;refine ah (.slice (some ⟨b38,0,some 0⟩) 1 1) (hv:=?_) (hp:=trivial);rw[afn];rfl
 refine az rfl (λh=>absurd h t1) (λ_=>?_);refine go ?_;by_cases t3:c.type=3
 ·refine az rfl (λ_=>?_) (λh=>absurd t3 h);refine go ?_;refine bq (ak (ak ae)) (xs:=k.lists) (k:=f) (next:=λ_ _ L2 (vL:Value) hL2=>?_);rw[za]at hL2;obtain rfl:L=L2:=Option.some.inj hL2;refine go ?_;refine bq (ak ae) (xs:=L) (k:=j) (next:=λ_ _ l2 (y8:Value) hl2=>?_);rw[hl]at hl2;obtain rfl:l=l2:=Option.some.inj hl2;refine go ?_;refine ax (akL (sc:=sc) (st:=st) (s:=s) (l:=l) hsl hlr hn1 hlen) (next:=λvi _=>?_);refine go ?_;refine bq (ak (ak ae)) (xs:=k.lists) (k:=f) (next:=λ_ _ L2 (vL2:Value) hL2=>?_);rw[za]at hL2;obtain rfl:L=L2:=Option.some.inj hL2;refine go ?_;refine bq (ak ae) (xs:=L) (k:=i) (next:=λ_ _ l3 (VB:Value) hl3=>?_);rw[hl']at hl3;obtain rfl:l'=l3:=Option.some.inj hl3;refine go ?_;refine ax (ajZ (xs:=img s l) (ys:=l') vj) (next:=λ_ _=>?_);have htb:ags s l l'=(!decide (img s l=l')&&decide ((img s l).reverse=l')):=rfl;by_cases e0:img s l=l'
  ·rw[eY e0];have hval:(Vs k s t g).values=g.values:=by
    rw[afn];dsimp only;unfold Vr;rw[if_neg t1,if_neg (λq=>by have:=q.2;rw[htb,eY e0]at this;cases this)]
   exact fk
  rw[aS e0];refine go ?_;refine bq (ak (ak ae)) (xs:=k.lists) (k:=f) (next:=λ_ _ L2 (vL4:Value) hL2=>?_);rw[za]at hL2;obtain rfl:L=L2:=Option.some.inj hL2;refine go ?_;refine bq (ak ae) (xs:=L) (k:=i) (next:=λ_ _ l4 (vl4:Value) hl4=>?_);rw[hl']at hl4;obtain rfl:l'=l4:=Option.some.inj hl4;refine go ?_;refine ax (akM (xs:=img s l) vj) (next:=λvb _=>?_);refine go ?_;refine ax (ajZ (xs:=(img s l).reverse) (ys:=l') vj) (next:=λ_ _=>?_);refine go ?_;refine az rfl (λe2=>?_) (λe2=>?_)
  ·refine go ?_;refine ax (akM (xs:=g.values) vj) (next:=λNS _=>?_);refine aT (E:=ae) (v:=NS) (xs:=g.values.reverse) vm λavr cvr evr=>?_;subst evr;have hval:(Vs k s t g).values=g.values.reverse:=by
    rw[afn];dsimp only;unfold Vr;rw[if_neg t1,if_pos ⟨t3,by rw[htb,aS e0,eY e2];rfl⟩]
   refine go ?_;refine go ?_;refine fK (ai ae (.slice avr g.values.reverse.length cvr) (Vs k s t g).values) (λw hw=>by rw[hval];exact hw (ai ae (.slice avr g.values.reverse.length cvr) g.values.reverse) vm) ?_;refine ah (.slice avr g.values.reverse.length cvr) (hv:=?_) (hp:=trivial);rw[afn];rfl
  ·have hval:(Vs k s t g).values=g.values:=by
    rw[afn];dsimp only;unfold Vr;rw[if_neg t1,if_neg (λq=>by have:=q.2;rw[htb,aS e2,Bool.and_false]at this;cases this)]
   exact fk
 refine az rfl (λh=>absurd h t3) (λ_=>?_);have hval:(Vs k s t g).values=g.values:=by
  rw[afn];dsimp only;unfold Vr;rw[if_neg t1,if_neg (λq=>t3 q.1)]
 refine go ?_;refine go ?_;refine fK (ai ae (.slice avv g.values.length cvv) (Vs k s t g).values) (λw hw=>by rw[hval];exact hw (ai ae (.slice avv g.values.length cvv) g.values) vm) ?_;refine ah (.slice avv g.values.length cvv) (hv:=?_) (hp:=trivial);rw[afn];rfl
theorem ank{grid:List Int}{vg:Value}(hS:tC k)(hs:s.length<9223372036854775808)(ht:t.length<9223372036854775808)(hl:grid.length<9223372036854775808):
 aU Tryz.prog (.func 22) [.agg ⟨lC k vh vs vr vc vu gh gc vn vl⟩,.agg ⟨[sc,st]⟩,vg] [] [] (ai ae vg grid::ai ae sc s::ai ae st t::ku k vh vs vr vc vu gh gc vn vl []) vY (λ_=>[])
  (λy=>[mQ (y.e=0) (ai ae y.v (acN s t grid))]) (λy=>aje k s t grid y.e/\(y.e≠0->y.v=.slice none 0 0)):=by
 refine aH _ (aN 22) λB w0=>?_;dsimp only[ku];refine aT (E:=ae) (v:=sc) (xs:=s) vm λOc Od esc=>?_;subst esc;refine aT (E:=ae) (v:=st) (xs:=t) vm λast cst est=>?_;subst est;refine aT (E:=ae) (v:=vg) (xs:=grid) vm λag cg eg=>?_;subst eg;refine go ?_;intro b3 b4;refine bi (dR (b:=b4)) (h:=?_);refine go ?_;refine ax (aiq (k:=k) (s:=s) (t:=t) hS hs ht) (next:=λe he=>?_);refine go ?_;refine az rfl (λhne=>?_) (λhz=>?_)
 ·exact gv
 have hz:e=0:=gT.1 hz;subst hz;have hK:eF k:=Classical.byContradiction λh=>by have:=he.nk h;omega
 have hk:nN k s t:=Classical.byContradiction λh=>by have:=he.ns hK h;omega
 refine go ?_;refine ax (anb (k:=k) (grid:=grid) hS hl) (next:=λe he=>?_);refine go ?_;refine az rfl (λhne=>?_) (λhz=>?_)
 ·exact gb
 have hz:e=0:=gT.1 hz;subst hz;have hF:NV k grid:=Classical.byContradiction λh=>by have:=he.2.1 hK h;omega
 clear he;have hG:=NV.gri hk hF;have hgl:=hG.len;have hsl:=hk.pc.len;have htl:=hk.ps.len;have hn:=hK.Ao;refine go ?_;refine Mh grid.length ⟨vj,vj,vj⟩ λbm=>?_;rw[agr];refine go ?_;refine aW (λy:Nat×List Int=>grid.length - y.1) (λy=>[(11,.int .i64 (y.1:Int))]) (λy=>[pt bm (.cells (y.2.map (.int .i64)))]) (λ_=>[]) (λy=>y.1<=grid.length/\y.2.length=grid.length/\∀c:Int,0<=c->c<(y.1:Int)->aR y.2 (aR s c)=aR t (aR grid c)) (0,rQ [] grid.length) ⟨bQ _,agm (bQ _),λc c0 c1=>by have c1:c<(0:Nat):=c1;omega⟩ (hk:=we) (body:=?_);rintro⟨j,ys⟩ ⟨hj,hyl,hy⟩;dsimp only at hj hyl hy⊢;refine go ?_;refine az rfl (λh1=>?_) (λh1=>?_)
 ·refine go ?_;intro _ _ d hd;have hdr:=hk.pc.eH d (aP hd);have hdg:=l6 hd;obtain⟨dn,rfl⟩:=iO hdr.1;refine go ?_;intro _ _ x hx;have oQ:=hG.vQ x (aP hx);have hxg:=l6 hx;obtain⟨xn,rfl⟩:=iO oQ.1;exact cT
 have gV:j=grid.length:=vj
 subst gV;have hfin:ys=acN s t grid:=by
  exact mu
 subst hfin;refine bi (A:=pt bm (.cells ((acN s t grid).map (.int .i64)))) (fs:=[ai ae (.slice (some ⟨bm,0,some 0⟩) grid.length grid.length) (acN s t grid)]) C7 (h:=?_);refine go ?_;refine lu (c:=(0:Int)=0) (f:=ai ae (.slice (some ⟨bm,0,some 0⟩) grid.length grid.length) (acN s t grid)) vm ?_;exact ah ⟨.slice (some ⟨bm,0,some 0⟩) grid.length grid.length,0⟩ (hv:=rfl) (hp:=⟨⟨λh=>absurd hK h,λ_ h=>absurd hk h,λ_ _ h=>absurd hF h,λ_ _ _=>rfl⟩,λh=>absurd rfl h⟩)
theorem anl{p:List Clue}{vp:Value}(hS:tC k)(hP:aga p)(hs:s.length<9223372036854775808)(ht:t.length<9223372036854775808):
 aU Tryz.prog (.func 24) [.agg ⟨lC k vh vs vr vc vu gh gc vn vl⟩,.agg ⟨[sc,st]⟩,.agg ⟨[vp]⟩] [] [] (ai aaH vp p::ai ae sc s::ai ae st t::ku k vh vs vr vc vu gh gc vn vl []) (λy:akH=>.tuple ⟨[.agg ⟨[y.v]⟩,.int .i64 y.e]⟩) (λ_=>[])
  (λy=>[mQ (y.e=0) (ai aaH y.v y.x)]) (λy=>ajp k s t p y.e/\(y.e=0->Cn (p.map (Vs k s t)) y.x)/\(y.e≠0->y.v=.slice none 0 0)):=by
 refine aH _ (aN 24) λB w0=>?_;dsimp only[ku];refine aT (E:=aaH) (v:=vp) (xs:=p) vm λap1 cp ep=>?_;subst ep;refine go ?_;intro b3 b4 b5 b6;refine bi (dR (b:=b3)) (h:=?_);refine bi (dR (b:=b4)) (h:=?_);refine bi (dR (b:=b5)) (h:=?_);refine go ?_;refine ax (aiq (k:=k) (s:=s) (t:=t) hS hs ht) (next:=λe he=>?_);refine go ?_;refine az rfl (λhne=>?_) (λhz=>?_)
 ·refine go ?_;refine mg (c:=e=0) (f:=ai aaH (.slice none 0 0) ([]:List Clue)) hne ?_;exact ah ⟨.slice none 0 0,[],e⟩ (hv:=rfl) (hp:=⟨⟨he.nk,he.ns,λa b _=>absurd (he.ok a b) hne,λa b _=>absurd (he.ok a b) hne⟩,λh=>absurd h hne,λ_=>rfl⟩)
 have hz:e=0:=gT.1 hz;subst hz;have hK:eF k:=Classical.byContradiction λh=>by have:=he.nk h;omega
 have hk:nN k s t:=Classical.byContradiction λh=>by have:=he.ns hK h;omega
 clear he;refine go ?_;refine ax (am9 (k:=k) (p:=p) hS hP) (next:=λe he=>?_);refine go ?_;refine az rfl (λhne=>?_) (λhz=>?_)
 ·refine go ?_;refine mg (c:=e=0) (f:=ai aaH (.slice none 0 0) ([]:List Clue)) hne ?_;exact ah ⟨.slice none 0 0,[],e⟩ (hv:=rfl) (hp:=⟨⟨λh=>absurd hK h,λ_ h=>absurd hk h,λa _ b=>he.2.1 a b,λa _ b=>absurd (he.2.2 a b) hne⟩,λh=>absurd h hne,λ_=>rfl⟩)
 have hz:e=0:=gT.1 hz;subst hz;have hQ:Ck k p:=Classical.byContradiction λh=>by have:=he.2.1 hK h;omega
 clear he;have hpl:=hQ.len;refine go ?_;refine gH aaH ?_;refine aW (λy:Nat×Value=>p.length - y.1) (λy=>[(11,.int .i64 (y.1:Int)),(10,y.2)]) (λy=>[ap aaH y.2 ((p.take y.1).map (Vs k s t))]) (λ_=>[]) (λy=>y.1<=p.length) (0,.slice none 0 0) (bQ _) (hk:=we) (body:=?_);rintro⟨q,v10⟩ hq;dsimp only at hq⊢;have Wm:((p.take q).map (Vs k s t)).length=q:=by rw[cz,ig];omega
 refine go ?_;refine az rfl (λh2=>?_) (λh2=>?_)
 ·refine go ?_;refine bq aaH (xs:=p) (k:=q) (next:=λ_ _ g (vv:Value) hg=>?_);have hgR:=hQ.right g (aP hg);have hgl:=EG.ajm hgR;obtain⟨c,L,j,i,l,l',H⟩:=clW hK hk hgR;have hv1:c.type=1->∃v0:Nat,g.values=[(v0:Int)]/\v0<k.decl.symbols.length:=λt1=>by
   obtain⟨c',L',a1,a2,a3,a4,a5,a6⟩:=hgR;rw[H.g.hc]at a2;cases a2;rcases a6 with⟨a,b,d⟩|⟨a,b,_⟩|⟨a,_,b,_⟩
   ·obtain⟨v0,hv0⟩:∃v0,g.values=[v0]:=by
     match g.values,b with
     |[v0],_=>exact⟨v0,rfl⟩
    have:=d v0 (by rw[hv0];exact bK.2 rfl);obtain⟨vn0,rfl⟩:=iO (by omega:0<=v0);exact⟨vn0,hv0,vj⟩
   ·omega
   ·omega
  refine go ?_;refine ax (anh (sc:=sc) (st:=st) (vv:=vv) H hk.ps hv1 vj) (next:=λvw _=>?_);refine go ?_;intro b42;refine go ?_;refine fw (xs:=(p.take q).map (Vs k s t)) aaH (Vs k s t g) vw vj (next:=λad=>?_);rw[show(p.take q).map (Vs k s t)++[Vs k s t g]=(p.take (q+1)).map (Vs k s t)by rw[bU hg,fD,r9]];refine go ?_;exact aM (q+1,.slice ad (((p.take q).map (Vs k s t)).length+1) (((p.take q).map (Vs k s t)).length+1)) (by show p.length - (q+1)<p.length - q;omega) (by show q+1<=_;omega)
 have hqe:q=p.length:=vj
 subst hqe;rw[bJ]at Wm⊢;refine bi (A:=ap aaH v10 (p.map (Vs k s t))) (fs:=[ai aaH v10 (p.map (Vs k s t))]) fQ (h:=?_);refine go ?_;refine ax (amj (v:=v10) (xs:=p.map (Vs k s t)) vj (λx hx=>by
  exact s7)) (next:=λy hy=>?_)
 obtain⟨v2,ys⟩:=y;dsimp only[List.cons_append,List.nil_append]at hy⊢;refine go ?_;refine lu (c:=(0:Int)=0) (f:=ai aaH v2 ys) vm ?_;exact ah ⟨v2,ys,0⟩ (hv:=rfl) (hp:=⟨⟨λh=>absurd hK h,λ_ h=>absurd hk h,λ_ _ h=>absurd hQ h,λ_ _ _=>rfl⟩,λ_=>hy,λh=>absurd rfl h⟩)
