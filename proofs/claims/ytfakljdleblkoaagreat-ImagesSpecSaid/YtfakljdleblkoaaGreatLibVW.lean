/-
  Part LibVW.
-/
import Derived.Test.YtfakljdleblkoaaGreatLibSW
set_option linter.all false
set_option maxRecDepth 10000
set_option maxHeartbeats 4000000
namespace Go.Proofs.YtfakljdleblkoaaGreat
open Go.Ideal Kd
variable{va vb:Value}{xs ys:List Int}
theorem VZ(hl:xs.length<9223372036854775808):dL Tryz.prog 193 [va,vb] [ai ae va xs,ai ae vb ys] (.bool (decide (xs=ys))):=by
 refine aH _ (aN 193) λB w0=>?_;refine aT (E:=ae) (v:=va) (xs:=xs) vm λa1 c1 e1=>?_;subst e1;refine aT (E:=ae) (v:=vb) (xs:=ys) vm λa2 c2 e2=>?_;subst e2;refine go ?_;refine az rfl (λh1=>?_) (λh1=>?_)
 ·exact c7
 exact ck
theorem V3(hl:xs.length<9223372036854775808):dL Tryz.prog 220 [va,vb] [ai ae va xs,ai ae vb ys] (.bool (decide (xs=ys))):=by
 refine aH _ (aN 220) λB w0=>?_;refine aT (E:=ae) (v:=va) (xs:=xs) vm λa1 c1 e1=>?_;subst e1;refine aT (E:=ae) (v:=vb) (xs:=ys) vm λa2 c2 e2=>?_;subst e2;refine go ?_;refine az rfl (λh1=>?_) (λh1=>?_)
 ·exact c7
 exact ck
theorem V4{xs ys:List ByteArray}(hl:xs.length<9223372036854775808):dL Tryz.prog 269 [va,vb] [ai bD va xs,ai bD vb ys] (.bool (decide (xs=ys))):=by
 refine aH _ (aN 269) λB w0=>?_;refine aT (E:=bD) (v:=va) (xs:=xs) vm λa1 c1 e1=>?_;subst e1;refine aT (E:=bD) (v:=vb) (xs:=ys) vm λa2 c2 e2=>?_;subst e2;refine go ?_;refine az rfl (λh1=>?_) (λh1=>?_)
 ·exact c7
 exact tR
theorem V5{xs ys:List ByteArray}(hl:xs.length<9223372036854775808):dL Tryz.prog 293 [va,vb] [ai bD va xs,ai bD vb ys] (.bool (decide (xs=ys))):=by
 refine aH _ (aN 293) λB w0=>?_;refine aT (E:=bD) (v:=va) (xs:=xs) vm λa1 c1 e1=>?_;subst e1;refine aT (E:=bD) (v:=vb) (xs:=ys) vm λa2 c2 e2=>?_;subst e2;refine go ?_;refine az rfl (λh1=>?_) (λh1=>?_)
 ·exact c7
 exact tR
theorem V6{xs ys:List (List Int)}(hl:xs.length<9223372036854775808)(hll:∀l∈xs,l.length<9223372036854775808):dL Tryz.prog 136 [va,vb] [ai (ak ae) va xs,ai (ak ae) vb ys] (.bool (decide (xs=ys))):=by
 refine aH _ (aN 136) λB w0=>?_;refine aT (E:=ak ae) (v:=va) (xs:=xs) vm λa1 c1 e1=>?_;subst e1;refine aT (E:=ak ae) (v:=vb) (xs:=ys) vm λa2 c2 e2=>?_;subst e2;refine go ?_;refine az rfl (λh1=>?_) (λh1=>?_)
 ·exact c7
 have hlen:xs.length=ys.length:=vj
 refine go ?_;refine aW (λk=>xs.length - k) (λk:Nat=>[(5,.int .i64 (k:Int))]) (λ_=>[]) (λ_=>[]) (λk=>k<=xs.length/\xs.take k=ys.take k) 0 ⟨vj,vm⟩ (body:=?_);rintro k ⟨hk,hsame⟩;refine go ?_;refine az rfl (λh2=>?_) (λh2=>?_)
 ·refine go ?_;refine bq (ak ae) (xs:=xs) (next:=λ_ _ x (_:Value) hx=>?_);refine go ?_;refine bq (ak ae) (xs:=ys) (next:=λ_ _ y (_:Value) hy=>?_);refine go ?_;refine ax (CG (xs:=x) (ys:=y) (hll x (aP hx))) (next:=λ_ _=>?_);exact uc
 exact cM
theorem ahl{xs ys:List (List Int)}(hl:xs.length<9223372036854775808)(hll:∀l∈xs,l.length<9223372036854775808):dL Tryz.prog 221 [va,vb] [ai (ak ae) va xs,ai (ak ae) vb ys] (.bool (decide (xs=ys))):=by
 refine aH _ (aN 221) λB w0=>?_;refine aT (E:=ak ae) (v:=va) (xs:=xs) vm λa1 c1 e1=>?_;subst e1;refine aT (E:=ak ae) (v:=vb) (xs:=ys) vm λa2 c2 e2=>?_;subst e2;refine go ?_;refine az rfl (λh1=>?_) (λh1=>?_)
 ·exact c7
 have hlen:xs.length=ys.length:=vj
 refine go ?_;refine aW (λk=>xs.length - k) (λk:Nat=>[(5,.int .i64 (k:Int))]) (λ_=>[]) (λ_=>[]) (λk=>k<=xs.length/\xs.take k=ys.take k) 0 ⟨vj,vm⟩ (body:=?_);rintro k ⟨hk,hsame⟩;refine go ?_;refine az rfl (λh2=>?_) (λh2=>?_)
 ·refine go ?_;refine bq (ak ae) (xs:=xs) (next:=λ_ _ x (_:Value) hx=>?_);refine go ?_;refine bq (ak ae) (xs:=ys) (next:=λ_ _ y (_:Value) hy=>?_);refine go ?_;refine ax (V3 (xs:=x) (ys:=y) (hll x (aP hx))) (next:=λ_ _=>?_);exact uc
 exact cM
variable{u1 u2 v1 v2:Value}{x y:bA}
theorem ahm(hl:x.names.length<9223372036854775808)(hll:x.others.length<9223372036854775808):dL Tryz.prog 195 [.agg ⟨jI x v1 v2⟩,.agg ⟨jI y u1 u2⟩] [ai bD v1 x.names,ai bD v2 x.others,ai bD u1 y.names,ai bD u2 y.others] (.bool (decide (x=y))):=by
 obtain⟨n1,o1,k1,f1,vW,os1,s1,t1,p1,m1,y1,c1⟩:=x;obtain⟨n2,o2,k2,f2,Cw,os2,s2,t2,p2,m2,y2,c2⟩:=y;dsimp only[jI]at hl hll⊢;refine aH _ (aN 195) λB w0=>?_;refine go ?_;intro b2 b3;refine go ?_;refine gG (λh1=>?_) (λh1=>?_)
 ·rw[dY]at h1;have h1:=mV h1;exact lA
 rw[dY]at h1;have h1:=gQ h1;refine go ?_;refine gG (λh2=>?_) (λh2=>?_)
 ·rw[dY]at h2;have h2:=mV h2;exact lz
 rw[dY]at h2;have h2:=gQ h2;refine go ?_;refine gG (λh3=>?_) (λh3=>?_)
 ·exact sv
 refine go ?_;refine gG (λh4=>?_) (λh4=>?_)
 ·exact sq
 refine go ?_;refine ax (V4 (xs:=vW) (ys:=Cw) hl) (next:=λ_ _=>?_);refine go ?_;refine gG (λh5=>?_) (λh5=>?_)
 ·exact sk
 refine go ?_;refine ax (V4 (xs:=os1) (ys:=os2) hll) (next:=λ_ _=>?_);refine go ?_;refine gG (λh6=>?_) (λh6=>?_)
 ·exact sg
 refine go ?_;refine gG (λh7=>?_) (λh7=>?_)
 ·exact r8
 refine go ?_;refine gG (λh8=>?_) (λh8=>?_)
 ·exact r7
 refine go ?_;refine gG (λh9=>?_) (λh9=>?_)
 ·exact r6
 refine go ?_;refine gG (λh10=>?_) (λh10=>?_)
 ·exact rN
 refine go ?_;refine gG (λh11=>?_) (λh11=>?_)
 ·rw[dY]at h11;have h11:=mV h11;exact rL
 rw[dY]at h11;have h11:=gQ h11;exact fL
theorem ahn(hl:x.names.length<9223372036854775808)(hll:x.others.length<9223372036854775808):dL Tryz.prog 222 [.agg ⟨jI x v1 v2⟩,.agg ⟨jI y u1 u2⟩] [ai bD v1 x.names,ai bD v2 x.others,ai bD u1 y.names,ai bD u2 y.others] (.bool (decide (x=y))):=by
 obtain⟨n1,o1,k1,f1,vW,os1,s1,t1,p1,m1,y1,c1⟩:=x;obtain⟨n2,o2,k2,f2,Cw,os2,s2,t2,p2,m2,y2,c2⟩:=y;dsimp only[jI]at hl hll⊢;refine aH _ (aN 222) λB w0=>?_;refine go ?_;intro b2 b3;refine go ?_;refine gG (λh1=>?_) (λh1=>?_)
 ·rw[dY]at h1;have h1:=mV h1;exact lA
 rw[dY]at h1;have h1:=gQ h1;refine go ?_;refine gG (λh2=>?_) (λh2=>?_)
 ·rw[dY]at h2;have h2:=mV h2;exact lz
 rw[dY]at h2;have h2:=gQ h2;refine go ?_;refine gG (λh3=>?_) (λh3=>?_)
 ·rw[dY]at h3;have h3:=mV h3;exact sv
 rw[dY]at h3;have h3:=gQ h3;refine go ?_;refine ax (V5 (xs:=vW) (ys:=Cw) hl) (next:=λ_ _=>?_);refine go ?_;refine gG (λh4=>?_) (λh4=>?_)
 ·exact sq
 refine go ?_;refine ax (V5 (xs:=os1) (ys:=os2) hll) (next:=λ_ _=>?_);refine go ?_;refine gG (λh5=>?_) (λh5=>?_)
 ·exact sk
 refine go ?_;refine gG (λh6=>?_) (λh6=>?_)
 ·exact sg
 refine go ?_;refine gG (λh7=>?_) (λh7=>?_)
 ·exact r8
 refine go ?_;refine gG (λh8=>?_) (λh8=>?_)
 ·exact r7
 refine go ?_;refine gG (λh9=>?_) (λh9=>?_)
 ·exact r6
 refine go ?_;refine gG (λh10=>?_) (λh10=>?_)
 ·exact rN
 refine go ?_;refine gG (λh11=>?_) (λh11=>?_)
 ·exact rL
 exact fL
variable{h1 c1 h2 c2:Value}
theorem aho{x y:bz}(hS:qC x):dL Tryz.prog 138 [.agg ⟨iH x h1 c1⟩,.agg ⟨iH y h2 c2⟩] [ai ae h1 x.holes,ai ae c1 x.cells,ai ae h2 y.holes,ai ae c2 y.cells] (.bool (decide (x=y))):=by
 have e2:=hS.holes;have e3:=hS.cells;clear hS;obtain⟨xs,xw,xh,AB,AC⟩:=x;obtain⟨ys,yw,yh,NU,Fe⟩:=y;dsimp only[iH]at e2 e3⊢;refine aH _ (aN 138) λB w0=>?_;refine go ?_;intro b2 b3;refine go ?_;refine gG (λk1=>?_) (λk1=>?_)
 ·exact eV
 refine go ?_;refine gG (λk2=>?_) (λk2=>?_)
 ·exact eR
 refine go ?_;refine gG (λk3=>?_) (λk3=>?_)
 ·exact eN
 refine go ?_;refine ax (CG (xs:=AB) (ys:=NU) vj) (next:=λ_ _=>?_);refine go ?_;refine gG (λk4=>?_) (λk4=>?_)
 ·exact eM
 refine go ?_;refine ax (CG (xs:=AC) (ys:=Fe) vj) (next:=λ_ _=>?_);refine go ?_;refine ah () (hv:=?_) (hp:=trivial);subst k1 k2 k3 k4;rw[show decide (bz.mk xs xw xh AB AC=bz.mk xs xw xh AB Fe)=decide (AC=Fe)from nS.2 ⟨λh=>by cases h;rfl,λh=>by rw[h]⟩];rfl
theorem ahp{x y:mH}{vx vy:Value}(hl:x.lists.length<9223372036854775808)(hll:∀l∈x.lists,l.length<9223372036854775808):dL Tryz.prog 194 [.agg ⟨[.string x.name,vx]⟩,.agg ⟨[.string y.name,vy]⟩] [ai (ak ae) vx x.lists,ai (ak ae) vy y.lists] (.bool (decide (x=y))):=by
 obtain⟨n1,xs⟩:=x;obtain⟨n2,ys⟩:=y;dsimp only at hl hll⊢;refine aH _ (aN 194) λB w0=>?_;refine aT (E:=ak ae) (v:=vx) (xs:=xs) vm λa1 c1 e1=>?_;subst e1;refine aT (E:=ak ae) (v:=vy) (xs:=ys) vm λa2 c2 e2=>?_;subst e2;refine go ?_;intro b2 b3;refine go ?_;refine lH (λk1=>?_) (λk1=>?_)
 rotate_left
 ·exact ur
 rw[dY]at k1;have k1:n1=n2:=by simpa using k1
 subst k1;have hdd:decide (mH.mk n1 xs=mH.mk n1 ys)=decide (xs=ys):=nS.2 ⟨λh=>by cases h;rfl,λh=>by rw[h]⟩;rw[hdd];refine go ?_;refine az rfl (λh1=>?_) (λh1=>?_)
 ·exact c7
 have hlen:xs.length=ys.length:=vj
 refine go ?_;refine aW (λk=>xs.length - k) (λk:Nat=>[(5,.int .i64 (k:Int))]) (λ_=>[]) (λ_=>[]) (λk=>k<=xs.length/\xs.take k=ys.take k) 0 ⟨vj,vm⟩ (body:=?_);rintro k ⟨hk,hsame⟩;refine go ?_;refine az rfl (λh2=>?_) (λh2=>?_)
 ·refine go ?_;refine bq (ak ae) (xs:=xs) (next:=λ_ _ x (_:Value) hx=>?_);refine go ?_;refine bq (ak ae) (xs:=ys) (next:=λ_ _ y (_:Value) hy=>?_);refine go ?_;refine ax (VZ (xs:=x) (ys:=y) (hll x (aP hx))) (next:=λ_ _=>?_);exact uc
 exact cM
variable{s1 r1 s2 r2:Value}
theorem ahq{x y:bE}(hS:mM x):dL Tryz.prog 137 [.agg ⟨gu x h1 s1 r1 c1 u1⟩,.agg ⟨gu y h2 s2 r2 c2 u2⟩] (lZ x h1 s1 r1 c1 u1++lZ y h2 s2 r2 c2 u2) (.bool (decide (x=y))):=by
 have e1:=hS.dJ;have e2:=hS.regs;have e3:=hS.jR;have e4:=hS.lQ;have e5:=hS.vT;have e6:=hS.holes;have e7:=hS.vU;clear hS;obtain⟨fs1,hu1,Oy⟩:=Nw;obtain⟨fs2,hu2,hrow2⟩:=Ny;obtain⟨n1,v1,p1,w1,g1,ho1,mO,l8,mP,l9⟩:=x;obtain⟨n2,v2,p2,w2,g2,ho2,qA,pR,qB,pU⟩:=y;dsimp only at e1 e2 e3 e4 e5 e6 e7;dsimp only[gu,lZ,List.cons_append,List.nil_append];refine aH _ (aN 137) λB w0=>?_;refine aT (E:=eP) (v:=s1) (xs:=mO) vm λmh cs1 es=>?_;subst es;refine aT (E:=eP) (v:=s2) (xs:=qA) vm λas2 cs2 es=>?_;subst es;refine aT (E:=eZ) (v:=r1) (xs:=l8) vm λar1 cr1 es=>?_;subst es;refine aT (E:=eZ) (v:=r2) (xs:=pR) vm λar2 cr2 es=>?_;subst es;refine aT (E:=bP) (v:=c1) (xs:=mP) vm λac1 cc1 es=>?_;subst es;refine aT (E:=bP) (v:=c2) (xs:=qB) vm λac2 cc2 es=>?_;subst es;refine aT (E:=aY) (v:=u1) (xs:=l9) vm λau1 cu1 es=>?_;subst es;refine aT (E:=aY) (v:=u2) (xs:=pU) vm λau2 cu2 es=>?_;subst es;refine go ?_;intro b2 b3;refine go ?_;refine lH (λk1=>?_) (λk1=>?_)
 rotate_left
 ·exact ur
 rw[dY]at k1;have k1:n1=n2:=by simpa using k1
 refine go ?_;refine gG (λk2=>?_) (λk2=>?_)
 rotate_left
 ·exact eR
 refine go ?_;refine gG (λk3=>?_) (λk3=>?_)
 rotate_left
 ·exact eN
 refine go ?_;refine gG (λk4=>?_) (λk4=>?_)
 rotate_left
 ·exact eM
 refine go ?_;refine gG (λk5=>?_) (λk5=>?_)
 rotate_left
 ·exact gf
 refine go ?_;refine ax (VZ (xs:=ho1) (ys:=ho2) e6) (next:=λ_ _=>?_);refine go ?_;refine nu (λk6=>?_) (λk6=>?_)
 rotate_left
 ·exact eK
 refine go ?_;refine gG (λk7=>?_) (λk7=>?_)
 rotate_left
 ·exact eJ
 refine go ?_;refine gG (λk8=>?_) (λk8=>?_)
 rotate_left
 ·exact lj
 refine go ?_;refine gG (λk9=>?_) (λk9=>?_)
 rotate_left
 ·exact li
 refine go ?_;refine az rfl (λk10=>?_) (λk10=>?_)
 ·exact rK
 have l1:mO.length=qA.length:=vj
 have l2:l8.length=pR.length:=vj
 have l3:mP.length=qB.length:=vj
 have l4:l9.length=pU.length:=vj
 refine go ?_;refine aW (λk=>mO.length - k) (λk:Nat=>[(5,.int .i64 (k:Int))]) (λ_=>[]) (λ_=>[]) (λk=>k<=mO.length/\mO.take k=qA.take k) 0 ⟨vj,vm⟩ (body:=?_);rintro k ⟨hk,hsame⟩;refine go ?_;refine az rfl (λh2=>?_) (λh2=>?_)
 ·exact tU
 have hkl:k=mO.length:=vj
 subst hkl;rw[bJ,l1,bJ]at hsame;have m1:=hsame;clear hsame hk h2;refine go ?_;refine aW (λk=>l8.length - k) (λk:Nat=>[(6,.int .i64 (k:Int))]) (λ_=>[]) (λ_=>[]) (λk=>k<=l8.length/\l8.take k=pR.take k) 0 ⟨vj,vm⟩ (body:=?_);rintro k ⟨hk,hsame⟩;refine go ?_;refine az rfl (λh2=>?_) (λh2=>?_)
 ·refine go ?_;refine bq eZ (xs:=l8) (next:=λ_ _ x (vx:Value) hx=>?_);have hxl:=e7 x (aP hx);refine go ?_;refine bq eZ (xs:=pR) (next:=λ_ _ y (vy:Value) hy=>?_);refine go ?_;refine ax (ahp (x:=x) (y:=y) (vx:=vx) (vy:=vy) hxl.1 hxl.2) (next:=λ_ _=>?_);exact cj
 have hkl:k=l8.length:=vj
 subst hkl;rw[bJ,l2,bJ]at hsame;have m2:=hsame;clear hsame hk h2;refine go ?_;refine aW (λk=>mP.length - k) (λk:Nat=>[(7,.int .i64 (k:Int))]) (λ_=>[]) (λ_=>[]) (λk=>k<=mP.length/\mP.take k=qB.take k) 0 ⟨vj,vm⟩ (body:=?_);rintro k ⟨hk,hsame⟩;refine go ?_;refine az rfl (λh2=>?_) (λh2=>?_)
 ·exact tS
 have hkl:k=mP.length:=vj
 subst hkl;rw[bJ,l3,bJ]at hsame;have m3:=hsame;clear hsame hk h2;refine go ?_;refine aW (λk=>l9.length - k) (λk:Nat=>[(8,.int .i64 (k:Int))]) (λ_=>[]) (λ_=>[]) (λk=>k<=l9.length/\l9.take k=pU.take k) 0 ⟨vj,vm⟩ (body:=?_);rintro k ⟨hk,hsame⟩;refine go ?_;refine az rfl (λh2=>?_) (λh2=>?_)
 ·refine go ?_;refine bq aY (xs:=l9) (next:=λ_ _ x (vx:Value×Value) hx=>?_);have hxl:=e5 x (aP hx);refine go ?_;refine bq aY (xs:=pU) (next:=λ_ _ y (vy:Value×Value) hy=>?_);refine go ?_;refine ax (ahm (x:=x) (y:=y) (v1:=vx.1) (v2:=vx.2) (u1:=vy.1) (u2:=vy.2) hxl.1 hxl.2) (next:=λ_ _=>?_);exact cj
 exact fb
theorem ahG{x y:bE}(hS:mM x):dL Tryz.prog 162 [.agg ⟨gu x h1 s1 r1 c1 u1⟩,.agg ⟨gu y h2 s2 r2 c2 u2⟩] (lZ x h1 s1 r1 c1 u1++lZ y h2 s2 r2 c2 u2) (.bool (decide (x=y))):=by
 have e1:=hS.dJ;have e2:=hS.regs;have e3:=hS.jR;have e4:=hS.lQ;have e5:=hS.vT;have e6:=hS.holes;have e7:=hS.vU;clear hS;obtain⟨fs1,hu1,Oy⟩:=Nw;obtain⟨fs2,hu2,hrow2⟩:=Ny;obtain⟨n1,v1,p1,w1,g1,ho1,mO,l8,mP,l9⟩:=x;obtain⟨n2,v2,p2,w2,g2,ho2,qA,pR,qB,pU⟩:=y;dsimp only at e1 e2 e3 e4 e5 e6 e7;dsimp only[gu,lZ,List.cons_append,List.nil_append];refine aH _ (aN 162) λB w0=>?_;refine aT (E:=eP) (v:=s1) (xs:=mO) vm λmh cs1 es=>?_;subst es;refine aT (E:=eP) (v:=s2) (xs:=qA) vm λas2 cs2 es=>?_;subst es;refine aT (E:=eZ) (v:=r1) (xs:=l8) vm λar1 cr1 es=>?_;subst es;refine aT (E:=eZ) (v:=r2) (xs:=pR) vm λar2 cr2 es=>?_;subst es;refine aT (E:=bP) (v:=c1) (xs:=mP) vm λac1 cc1 es=>?_;subst es;refine aT (E:=bP) (v:=c2) (xs:=qB) vm λac2 cc2 es=>?_;subst es;refine aT (E:=aY) (v:=u1) (xs:=l9) vm λau1 cu1 es=>?_;subst es;refine aT (E:=aY) (v:=u2) (xs:=pU) vm λau2 cu2 es=>?_;subst es;refine go ?_;intro b2 b3;refine go ?_;refine lH (λk1=>?_) (λk1=>?_)
 rotate_left
 ·exact ur
 rw[dY]at k1;have k1:n1=n2:=by simpa using k1
 refine go ?_;refine gG (λk2=>?_) (λk2=>?_)
 rotate_left
 ·exact eR
 refine go ?_;refine gG (λk3=>?_) (λk3=>?_)
 rotate_left
 ·exact eN
 refine go ?_;refine gG (λk4=>?_) (λk4=>?_)
 rotate_left
 ·exact eM
 refine go ?_;refine gG (λk5=>?_) (λk5=>?_)
 rotate_left
 ·exact gf
 refine go ?_;refine ax (V3 (xs:=ho1) (ys:=ho2) e6) (next:=λ_ _=>?_);refine go ?_;refine eO rfl (λk6=>?_) (λk6=>?_)
 ·exact eK
 refine go ?_;refine gG (λk7=>?_) (λk7=>?_)
 rotate_left
 ·exact eJ
 refine go ?_;refine gG (λk8=>?_) (λk8=>?_)
 rotate_left
 ·exact lj
 refine go ?_;refine gG (λk9=>?_) (λk9=>?_)
 rotate_left
 ·exact li
 refine go ?_;refine az rfl (λk10=>?_) (λk10=>?_)
 ·exact rK
 have l1:mO.length=qA.length:=vj
 have l2:l8.length=pR.length:=vj
 have l3:mP.length=qB.length:=vj
 have l4:l9.length=pU.length:=vj
 refine go ?_;refine aW (λk=>mO.length - k) (λk:Nat=>[(5,.int .i64 (k:Int))]) (λ_=>[]) (λ_=>[]) (λk=>k<=mO.length/\mO.take k=qA.take k) 0 ⟨vj,vm⟩ (body:=?_);rintro k ⟨hk,hsame⟩;refine go ?_;refine az rfl (λh2=>?_) (λh2=>?_)
 ·exact tU
 have hkl:k=mO.length:=vj
 subst hkl;rw[bJ,l1,bJ]at hsame;have m1:=hsame;clear hsame hk h2;refine go ?_;refine aW (λk=>l8.length - k) (λk:Nat=>[(6,.int .i64 (k:Int))]) (λ_=>[]) (λ_=>[]) (λk=>k<=l8.length/\l8.take k=pR.take k) 0 ⟨vj,vm⟩ (body:=?_);rintro k ⟨hk,hsame⟩;refine go ?_;refine az rfl (λh2=>?_) (λh2=>?_)
 ·refine go ?_;refine bq eZ (xs:=l8) (next:=λ_ _ x (vx:Value) hx=>?_);have hxl:=e7 x (aP hx);refine go ?_;refine bq eZ (xs:=pR) (next:=λ_ _ y (vy:Value) hy=>?_);refine go ?_;refine lH (λj1=>?_) (λj1=>?_)
  rotate_left
  ·rw[dY]at j1;have j1:¬x.name=y.name:=by simpa using j1
   have h3:¬x=y:=λe=>j1 xT;refine go ?_;refine ah () (hv:=?_) (hp:=trivial);rw[aS (λe=>by cases e;rw[hx]at hy;exact h3 (Option.some.inj hy))];rfl
  rw[dY]at j1;have j1:x.name=y.name:=by simpa using j1
  refine go ?_;refine bq eZ (xs:=l8) (next:=λ_ _ x' (vx:Value) hx'=>?_);cases hx.symm.trans hx';refine go ?_;refine bq eZ (xs:=pR) (next:=λ_ _ y' (vy:Value) hy'=>?_);cases hy.symm.trans hy';refine go ?_;refine ax (ahl (xs:=x.lists) (ys:=y.lists) hxl.1 hxl.2) (next:=λ_ _=>?_);refine go ?_;refine eO rfl (λh3=>?_) (λh3=>?_)
  ·have h3:¬x=y:=λe=>h3 xT;refine go ?_;refine ah () (hv:=?_) (hp:=trivial);rw[aS (λe=>by cases e;rw[hx]at hy;exact h3 (Option.some.inj hy))];rfl
  have h3:x=y:=by
   obtain⟨a,b⟩:=x;obtain⟨c,d⟩:=y;dsimp only at j1 h3;rw[j1,h3]
  exact cF
 have hkl:k=l8.length:=vj
 subst hkl;rw[bJ,l2,bJ]at hsame;have m2:=hsame;clear hsame hk h2;refine go ?_;refine aW (λk=>mP.length - k) (λk:Nat=>[(7,.int .i64 (k:Int))]) (λ_=>[]) (λ_=>[]) (λk=>k<=mP.length/\mP.take k=qB.take k) 0 ⟨vj,vm⟩ (body:=?_);rintro k ⟨hk,hsame⟩;refine go ?_;refine az rfl (λh2=>?_) (λh2=>?_)
 ·exact tS
 have hkl:k=mP.length:=vj
 subst hkl;rw[bJ,l3,bJ]at hsame;have m3:=hsame;clear hsame hk h2;refine go ?_;refine aW (λk=>l9.length - k) (λk:Nat=>[(8,.int .i64 (k:Int))]) (λ_=>[]) (λ_=>[]) (λk=>k<=l9.length/\l9.take k=pU.take k) 0 ⟨vj,vm⟩ (body:=?_);rintro k ⟨hk,hsame⟩;refine go ?_;refine az rfl (λh2=>?_) (λh2=>?_)
 ·refine go ?_;refine bq aY (xs:=l9) (next:=λ_ _ x (vx:Value×Value) hx=>?_);have hxl:=e5 x (aP hx);refine go ?_;refine bq aY (xs:=pU) (next:=λ_ _ y (vy:Value×Value) hy=>?_);refine go ?_;refine ax (ahn (x:=x) (y:=y) (v1:=vx.1) (v2:=vx.2) (u1:=vy.1) (u2:=vy.2) hxl.1 hxl.2) (next:=λ_ _=>?_);exact cj
 exact fb
