/-
  Part LibABW.
-/
import Derived.Test.YtfakljdleblkoaaGreatLibOW
set_option linter.all false
set_option maxRecDepth 10000
set_option maxHeartbeats 4000000
namespace Go.Proofs.YtfakljdleblkoaaGreat
open Go.Ideal Kd Canon
variable{va:Value}{xs:List Int}
theorem Wj{z:Int}(hl:xs.length<9223372036854775808):dL Tryz.prog 274 [va,.int .i64 z] [ai ae va xs] (.bool (decide (z∈xs))):=by
 refine aH _ (aN 274) λB w0=>?_;refine go ?_;refine aW (λk=>xs.length - k) (λk:Nat=>[(5,.int .i64 (k:Int))]) (λ_=>[]) (λ_=>[]) (λk=>k<=xs.length/\¬z∈xs.take k) 0 ⟨bQ _,vm⟩ (body:=?_);rintro k ⟨hk,hno⟩;refine go ?_;refine az rfl (λh1=>?_) (λh1=>?_)
 ·refine go ?_;intro _ _ x hx;refine go ?_;refine az rfl (λh2=>?_) (λh2=>?_)
  ·refine go ?_;refine ah () (hv:=?_) (hp:=trivial);rw[eY (by rw[<- h2];exact aP hx)];rfl
  refine go ?_;refine aM (k+1) vj ⟨vj,?_⟩;rw[bU hx,dW,bK];rintro(h|h)
  ·exact hno h
  ·exact h2 h.symm
 have hke:k=xs.length:=vj
 subst hke;rw[bJ]at hno;refine go ?_;exact nr
def qH(xs ys:List Int):Bool:=decide ((∀x∈xs,x∈ys)/\xs.length=ys.length)
variable{vb:Value}
theorem JJ{ys:List Int}(hl:xs.length<9223372036854775808)(hl2:ys.length<9223372036854775808):dL Tryz.prog 310 [va,vb] [ai ae va xs,ai ae vb ys] (.bool (qH xs ys)):=by
 refine aH _ (aN 310) λB w0=>?_;refine go ?_;refine aW (λk=>xs.length - k) (λk:Nat=>[(5,.int .i64 (k:Int))]) (λ_=>[]) (λ_=>[]) (λk=>k<=xs.length/\∀x∈xs.take k,x∈ys) 0 ⟨bQ _,vm⟩ (body:=?_);rintro k ⟨hk,hno⟩;refine go ?_;refine az rfl (λh1=>?_) (λh1=>?_)
 ·refine go ?_;intro _ _ x hx;refine go ?_;refine ax (Wj (xs:=ys) (z:=x) hl2) (next:=λ_ _=>?_);exact fc
 have hke:k=xs.length:=vj
 subst hke;rw[bJ]at hno;refine go ?_;refine ah () (hv:=?_) (hp:=trivial);unfold qH;refine congrArg Value.bool (nS.2 ⟨λq=>⟨hno,vj⟩,λq=>by have:=q.2;omega⟩)
theorem Wl{n:Nat}{s l:List Int}(hs:s.length=n)(hl:oq n l)(hn:n<=1000000)(hll:l.length<=1000000):Ro Tryz.prog 271 [va,vb] [ai ae va s,ai ae vb l] ae (img s l):=by
 refine aH _ (aN 271) λB w0=>?_;refine go ?_;intro b0;refine LZ ae ay.here ?_;refine aW (λy:Nat×Value=>l.length - y.1) (λy=>[(6,.int .i64 (y.1:Int)),(5,y.2)]) (λy=>[ap ae y.2 (img s (l.take y.1))]) (λ_=>[]) (λy=>y.1<=l.length) (0,.slice (some ⟨b0,0,some 0⟩) 0 0) (bQ _) (hk:=we) (body:=?_);rintro⟨q,v5⟩ hq;dsimp only at hq⊢;have Wm:(img s (l.take q)).length=q:=by rw[EO,ig];omega
 exact ud
theorem aib(hl:xs.length<=1000000):Ro Tryz.prog 273 [va] [ai ae va xs] ae xs.reverse:=by
 refine aH _ (aN 273) λB w0=>?_;refine go ?_;intro b0;refine LZ ae ay.here ?_;refine go ?_;refine aW (λy:Nat×Value=>xs.length - y.1) (λy=>[(4,.int .i64 ((xs.length:Int) - 1 - (y.1:Int))),(3,y.2)]) (λy=>[ap ae y.2 (xs.reverse.take y.1)]) (λ_=>[]) (λy=>y.1<=xs.length) (0,.slice (some ⟨b0,0,some 0⟩) 0 0) (bQ _) (hl:=Cl) (hk:=we) (body:=?_);rintro⟨q,v5⟩ hq;dsimp only at hq⊢;have Wm:(xs.reverse.take q).length=q:=by rw[ig,FN];omega
 exact cI
end Go.Proofs.YtfakljdleblkoaaGreat
namespace Go.Proofs.YtfakljdleblkoaaGreat
open Go.Ideal Kd Canon
section
variable {m:Nat} {k:bS} {s t:List Int} {vh vs vr vc vu gh gc vn vl:Value}
variable{vt:Value}
theorem aic(hm:k.decl.symbols.length=m)(ht:di m t)(hl:m<=4096):dL Tryz.prog 198 [.agg ⟨lC k vh vs vr vc vu gh gc vn vl⟩,vt] ([ai ae vt t,ai eP vs k.decl.symbols]) (.bool (kg (kP k) t)):=by
 have htl:=ht.len;refine aH _ (aN 198) λB w0=>?_;refine aT (E:=ae) (v:=vt) (xs:=t) vm λsO ct et=>?_;subst et;refine aT (E:=eP) (v:=vs) (xs:=k.decl.symbols) vm λmh cs1 es1=>?_;subst es1;refine go ?_;intro b2;refine bi (dR (b:=b2)) (h:=?_);refine aW (λj:Nat=>t.length - j) (λj=>[(5,.int .i64 (j:Int))]) (λ_=>[]) (λ_=>[]) (λj=>j<=t.length/\∀i',i'<j->∀x,t[i']? =some x->aR (kP k) (i':Int)=aR (kP k) x) 0 ⟨bQ _,λi' h=>absurd h (A9 _)⟩ (body:=?_);rintro j ⟨hj,hall⟩;refine go ?_;refine az rfl (λh1=>?_) (λh1=>?_)
 ·refine go ?_;refine bq eP (xs:=k.decl.symbols) (k:=j) (next:=λ_ _ y (_:Unit) hy=>?_);have e1:=Jw hy;refine go ?_;intro _ _ x hx;have oQ:=ht.eH x (aP hx);obtain⟨i,rfl⟩:=iO oQ.1;exact c9
 exact jx
theorem aid{n:Nat}(hN:tq n k.aD)(hs:di n s)(hl:n<=1000000)(hll:∀l∈k.aD,l.length<=1000000):dL Tryz.prog 199 [.agg ⟨lC k vh vs vr vc vu gh gc vn vl⟩,vt] ([ai ae vt s,ai (ak ae) vn k.aD]) (.bool (jC k.aD s)):=by
 have hsl:=hs.len;have hnl:=hN.1;refine aH _ (aN 199) λB w0=>?_;refine aT (E:=ae) (v:=vt) (xs:=s) vm λOc Od esc=>?_;subst esc;refine aT (E:=ak ae) (v:=vn) (xs:=k.aD) vm λan cn en=>?_;subst en;refine go ?_;intro b2;refine bi (dR (b:=b2)) (h:=?_);refine go ?_;refine aW (λj:Nat=>k.aD.length - j) (λj=>[(5,.int .i64 (j:Int))]) (λ_=>[]) (λ_=>[]) (λj=>j<=k.aD.length/\∀i',i'<j->∀l,k.aD[i']? =some l->∀b∈l,aR s b∈k.aD.getD (aR s (i':Int)).toNat []) 0 ⟨bQ _,λi' h=>absurd h (A9 _)⟩ (body:=?_);rintro j ⟨hj,hall⟩;refine go ?_;refine az rfl (λh1=>?_) (λh1=>?_)
 ·obtain⟨l,hl2⟩:∃l,k.aD[j]? =some l:=⟨_,bW vj⟩
  have hlm:=aP hl2;have hlr:=hN.2 l hlm;have hlen:=hll l hlm;refine go ?_;refine aW (λi:Nat=>l.length - i) (λi=>[(6,.int .i64 (i:Int))]) (λ_=>[]) (λ_=>[]) (λi=>i<=l.length/\∀b∈l.take i,aR s b∈k.aD.getD (aR s (j:Int)).toNat []) 0 ⟨bQ _,vm⟩ (body:=?_);rintro i ⟨hi,uM⟩;refine go ?_;refine bq (ak ae) (xs:=k.aD) (k:=j) (next:=λ_ _ lx (y8:Value) hlx=>?_);rw[hl2]at hlx;obtain rfl:l=lx:=Option.some.inj hlx;refine go ?_;refine az rfl (λh2=>?_) (λh2=>?_)
  ·refine go ?_;intro _ _ u hu;have Oe:=l6 hu;have hur:=hs.eH u (aP hu);obtain⟨un,rfl⟩:=iO hur.1;refine go ?_;refine bq (ak ae) (xs:=k.aD) (k:=un) (next:=λ_ _ l2 (VB:Value) hl3=>?_);have agJ:=hll l2 (aP hl3);refine go ?_;refine bq (ak ae) (xs:=k.aD) (k:=j) (next:=λ_ _ ly (vl4:Value) Wn=>?_);rw[hl2]at Wn;obtain rfl:l=ly:=Option.some.inj Wn;refine go ?_;intro _ _ b hb;have hbr:=hlr b (aP hb);obtain⟨bn,rfl⟩:=iO hbr.1;refine go ?_;intro _ _ z hz;have hzg:=l6 hz;refine go ?_;refine ax (Wj (xs:=l2) (z:=z) vj) (next:=λ_ _=>?_);have hd:k.aD.getD (aR s (j:Int)).toNat []=l2:=by rw[Oe,gy];exact gz hl3
   refine go ?_;refine eO rfl (λh3=>?_) (λh3=>?_)
   ·exact fh
   refine go ?_;refine aM (i+1) vj ⟨vj,?_⟩;rw[bU hb];intro y hy;rcases dW.1 hy with hy|hy
   ·exact uM y hy
   ·rw[bK.1 hy,hd,hzg];exact h3
  have hie:i=l.length:=vj
  subst hie;rw[bJ]at uM;refine go ?_;refine aM (j+1) vj ⟨vj,λi' hi' l' hl'=>?_⟩;exact rj
 exact gR
end
end Go.Proofs.YtfakljdleblkoaaGreat
namespace Go.Proofs.YtfakljdleblkoaaGreat
open Go.Ideal Kd Canon
def nR(L:List (List Int))(s:List Int)(f:Int)(l:List Int)(j:Nat):Int:=
 if iR f then(if qH (L.getD (aR s (j:Int)).toNat []) (img s l)then aR s (j:Int)else -1)else oV (λx=>qH x (img s l)) L
theorem aif{n:Nat}{k:bS}{s:List Int}{r:bA}{L:List (List Int)}{l:List Int}{f j:Nat}{vh vs vr vc vu gh gc vn vl vt:Value}(hf:r.family=(f:Int))(H:y9 n k s r L)(hl:L[j]? =some l):
 dL Tryz.prog 270 [.agg ⟨lC k vh vs vr vc vu gh gc vn vl⟩,vt,.int .i64 (f:Int),.int .i64 (j:Int)] [ai ae vt s,ai (ak (ak ae)) vl k.lists] (.int .i64 (nR L s (f:Int) l j)):=by
 have hsl:=H.ps.len;have hn1:=H.n1;have hll:=H.len;have pW:=H.lens;have H':=H;have za:k.lists[f]? =some L:=by have:=H.hL;rwa [hf,gy]at this
 have hfl:=(bC.1 za).1;have hjl:=(bC.1 hl).1;have hlr:=H.iK.eH l (aP hl);have hlen:=pW l (aP hl);have hil:(img s l).length=l.length:=EO s l;obtain⟨rn,ro,rk,rf,cB,cK,Ju,Jv,gL,gM,gN,gP⟩:=r;dsimp only at hf;subst hf;refine aH _ (aN 270) λB w0=>?_;refine aT (E:=ae) (v:=vt) (xs:=s) vm λOc Od esc=>?_;subst esc;refine go ?_;intro b4;refine bi (dR (b:=b4)) (h:=?_);refine go ?_;refine bq (ak (ak ae)) (xs:=k.lists) (k:=f) (next:=λ_ _ L2 (vL:Value) hL2=>?_);rw[za]at hL2;obtain rfl:L=L2:=Option.some.inj hL2;refine aT (E:=ak ae) (v:=vL) (xs:=L) vm λaL cL eL=>?_;subst eL;refine go ?_;refine bq (ak ae) (xs:=L) (k:=j) (next:=λ_ _ l2 (y8:Value) hl2=>?_);rw[hl]at hl2;obtain rfl:l=l2:=Option.some.inj hl2;refine go ?_;refine ax (Wl (s:=s) (l:=l) hsl hlr hn1 hlen) (next:=λvi _=>?_);refine go ?_;refine gG (λc0=>?_) (λc0=>?_)
 rotate_left
 ·have hjs:j<s.length:=by
   have:=H.iK.len AK;omega
  have hby:iR (f:Int)=true:=AK
  exact cq
 refine go ?_;refine gG (λc4=>?_) (λc4=>?_)
 rotate_left
 ·have hjs:j<s.length:=by
   have:=H.iK.len AM;omega
  have hby:iR (f:Int)=true:=AM
  exact cq
 refine go ?_;refine az rfl (λc5=>?_) (λc5=>?_)
 ·have hjs:j<s.length:=by
   have:=H.iK.len AN;omega
  have hby:iR (f:Int)=true:=AN
  exact cq
 have hby:¬iR (f:Int)=true:=by unfold iR;rw[qM,qM,jX,jX,jX];omega
 have hr:nR L s (f:Int) l j=oV (λx=>qH x (img s l)) L:=by unfold nR;rw[if_neg hby]
 refine go ?_;refine aW (λq:Nat=>L.length - q) (λq=>[(11,.int .i64 (q:Int))]) (λ_=>[]) (λ_=>[]) (λq=>q<=L.length/\(L.take q).any (λx=>qH x (img s l))=false) 0 ⟨bQ _,vm⟩ (body:=?_);rintro q ⟨hq,hno⟩;refine go ?_;refine az rfl (λh1=>?_) (λh1=>?_)
 ·refine go ?_;refine bq (ak ae) (xs:=L) (next:=λ_ _ x (vx:Value) hx=>?_);have hxl:=pW x (aP hx);refine go ?_;refine ax (JJ (xs:=x) (ys:=img s l) vj AS) (next:=λ_ _=>?_);refine go ?_;refine jh rfl (λh2=>?_) (λh2=>?_)
  ·refine go ?_;refine ah () (hv:=?_) (hp:=trivial);rw[hr,Vl hno hx h2];rfl
  ·exact rh
 have hke:q=L.length:=vj
 subst hke;rw[bJ]at hno;refine go ?_;refine ah () (hv:=?_) (hp:=trivial);rw[hr,Vm hno];rfl
end Go.Proofs.YtfakljdleblkoaaGreat
namespace Go.Proofs.YtfakljdleblkoaaGreat
open Go.Ideal Kd Canon
variable{xs ys:List Int}{va vb:Value}
theorem aih(hl:xs.length<9223372036854775808)(hl2:ys.length<9223372036854775808):aU Tryz.prog (.func 311) [va,vb] [] [] [ai ae va xs,ai ae vb ys] (λo:Int=>.int .i64 o) (λ_=>[]) (λ_=>[]) (λo=>o=0↔xs=ys):=by
 refine aH _ (aN 311) λB w0=>?_;refine aT (E:=ae) (v:=va) (xs:=xs) vm λaa ca ea=>?_;subst ea;refine aT (E:=ae) (v:=vb) (xs:=ys) vm λab cb eb=>?_;subst eb;refine go ?_;refine aW (λk=>xs.length - k) (λk:Nat=>[(5,.int .i64 (k:Int))]) (λ_=>[]) (λ_=>[]) (λk=>k<=xs.length/\k<=ys.length/\xs.take k=ys.take k) 0 ⟨bQ _,bQ _,vm⟩ (body:=?_);rintro k ⟨hk,hk2,hno⟩;refine go ?_;refine gG (λh1=>?_) (λh1=>?_)
 ·have hke:k=xs.length:=by omega
  subst hke;rw[bJ]at hno;refine go ?_;have key:xs=ys↔xs.length=ys.length:=⟨λe=>by rw[e],λe=>by rw[hno,e,bJ]⟩
  exact eE
 refine go ?_;refine az rfl (λh2=>?_) (λh2=>?_)
 ·refine go ?_;intro _ _ x hx;refine go ?_;intro _ _ y hy;have hne:x≠y->¬xs=ys:=λh e=>by subst e;rw[hx]at hy;exact h (Option.some.inj hy)
  refine go ?_;refine az rfl (λh3=>?_) (λh3=>?_)
  ·refine go ?_;exact ah (-1) (hv:=rfl) (hp:=⟨λh=>by omega,λh=>absurd h (hne vj)⟩)
  refine go ?_;intro _ _ x2 hx2;rw[hx]at hx2;obtain rfl:x=x2:=Option.some.inj hx2;refine go ?_;intro _ _ y2 hy2;rw[hy]at hy2;obtain rfl:y=y2:=Option.some.inj hy2;refine go ?_;refine az rfl (λh4=>?_) (λh4=>?_)
  ·refine go ?_;exact ah 1 (hv:=rfl) (hp:=⟨λh=>by omega,λh=>absurd h (hne vj)⟩)
  refine go ?_;refine aM (k+1) vj ⟨vj,vj,?_⟩;rw[bU hx,bU hy,hno,show x=y by omega]
 have hke:k=ys.length:=vj
 subst hke;rw[bJ]at hno;refine go ?_;have key:xs=ys↔xs.length=ys.length:=⟨λe=>by rw[e],λe=>by rw[<- hno,<- e,bJ]⟩
 exact eE
theorem Wo(hl:xs.length<9223372036854775808)(hl2:ys.length<9223372036854775808):dL Tryz.prog 272 [va,vb] [ai ae va xs,ai ae vb ys] (.bool (decide (xs=ys))):=by
 refine aH _ (aN 272) λB w0=>?_;refine go ?_;refine ax (aih (xs:=xs) (ys:=ys) hl hl2) (next:=λo ho=>?_);refine go ?_;refine ah () (hv:=?_) (hp:=trivial);exact congrArg Value.bool (nS.2 ho)
def uP(L:List (List Int))(s:List Int)(f:Int)(ord kQ:Bool)(l:List Int)(j:Nat):Bool:=
 decide (0<=nR L s f l j)&&(!ord||(decide (L.getD (nR L s f l j).toNat []=img s l)||(kQ&&decide (L.getD (nR L s f l j).toNat []=(img s l).reverse))))
def tK(L:List (List Int))(s:List Int)(f:Int)(ord kQ:Bool):Bool:=L.zipIdx.all λx=>uP L s f ord kQ x.1 x.2
variable{L:List (List Int)}{s l:List Int}{ord kQ:Bool}{j:Nat}
theorem Oz{f:Int}(hl:L[j]? =some l)(h:uP L s f ord kQ l j=false):tK L s f ord kQ=false:=by
 cases e:tK L s f ord kQ with
 |false=>rfl
 |true=>
  unfold tK at e;exact tr
variable{n:Nat}{k:bS}{r:bA}
theorem aii(H:y9 n k s r L)(hl:L[j]? =some l)(h:0<=nR L s r.family l j):∃(i:Nat) (l':List Int),nR L s r.family l j=(i:Int)/\L[i]? =some l':=by
 obtain⟨i,hi⟩:=iO h;have hjl:=(bC.1 hl).1;refine⟨i,L[i]'?_,hi,bW _⟩;unfold nR at hi;split at hi
 ·rename_i hb;have hLn:=H.iK.len hb;split at hi
  ·have:=H.ps.at_ (c:=(j:Int)) vj vj;omega
  ·omega
 ·unfold oV at hi;split at hi
  ·rename_i q hq;rw[WM]at hq;obtain⟨h1,_⟩:=hq;omega
  ·omega
theorem aij{vh vs vr vc vu gh gc vn vl vt v1 v2:Value}(H:y9 n k s r L):
 dL Tryz.prog 197 [.agg ⟨lC k vh vs vr vc vu gh gc vn vl⟩,vt,.agg ⟨jI r v1 v2⟩,.bool ord,.bool kQ] [ai ae vt s,ai (ak (ak ae)) vl k.lists] (.bool (tK L s r.family ord kQ)):=by
 have hsl:=H.ps.len;have hn1:=H.n1;have hll:=H.len;have pW:=H.lens;have hf0:0<=r.family:=H.f0;obtain⟨f,hf⟩:=iO hf0;have za:k.lists[f]? =some L:=by have:=H.hL;rwa [hf,gy]at this
 have hfl:=(bC.1 za).1;have Wp:=λ(j:Nat) (l:List Int) (hl:L[j]? =some l)=>aii H hl;have him:=λ(vt:Value) (j:Nat) (l:List Int) (hl:L[j]? =some l)=>aif (vh:=vh) (vs:=vs) (vr:=vr) (vc:=vc) (vu:=vu) (gh:=gh) (gc:=gc) (vn:=vn) (vl:=vl) (vt:=vt) hf H hl;have Wq:=H.iK;clear H;obtain⟨rn,ro,rk,rf,cB,cK,Ju,Jv,gL,gM,gN,gP⟩:=r;dsimp only at hf Wp Wq⊢;subst hf;refine aH _ (aN 197) λB w0=>?_;refine go ?_;intro b5 b7;refine bi (dR (b:=b5)) (h:=?_);refine bi (dR (b:=b7)) (h:=?_);refine go ?_;refine bq (ak (ak ae)) (xs:=k.lists) (k:=f) (next:=λ_ _ L2 (vL:Value) hL2=>?_);rw[za]at hL2;obtain rfl:L=L2:=Option.some.inj hL2;refine go ?_;refine aW (λj:Nat=>L.length - j) (λj=>[(12,.int .i64 (j:Int))]) (λ_=>[]) (λ_=>[]) (λj=>j<=L.length/\∀i',i'<j->∀x,L[i']? =some x->uP L s (f:Int) ord kQ x i'=true) 0 ⟨bQ _,λi' h=>absurd h (A9 _)⟩ (body:=?_);rintro j ⟨hj,hall⟩;refine go ?_;refine az rfl (λh1=>?_) (λh1=>?_)
 rotate_left
 ·have gV:j=L.length:=by omega
  subst gV;refine go ?_;refine ah () (hv:=?_) (hp:=trivial);have:tK L s (f:Int) ord kQ=true:=by
   unfold tK;rw[lm];exact λi x hx=>hall i (bC.1 hx).1 x hx
  rw[this];rfl
 obtain⟨l,hl⟩:∃l,L[j]? =some l:=⟨_,bW vj⟩
 have hlr:=Wq.eH l (aP hl);have hlen:=pW l (aP hl);have hil:(img s l).length=l.length:=EO s l;refine go ?_;refine ax (him vt j l hl) (next:=λ_ _=>?_);have hneg:¬0<=nR L s (f:Int) l j->tK L s (f:Int) ord kQ=false:=λh=>Oz hl (by unfold uP;rw[aS h];rfl);refine go ?_;refine az rfl (λh2=>?_) (λh2=>?_)
 ·refine go ?_;refine ah () (hv:=?_) (hp:=trivial);rw[hneg vj];rfl
 obtain⟨i,l',yM,hl'⟩:=Wp j l hl vj;have pX:=pW l' (aP hl');have ajM:=(bC.1 hl').1;rw[yM];refine go ?_;refine bq (ak ae) (xs:=L) (k:=j) (next:=λ_ _ l2 (y8:Value) hl2=>?_);rw[hl]at hl2;obtain rfl:l=l2:=Option.some.inj hl2;refine go ?_;refine ax (Wl (s:=s) (l:=l) hsl hlr hn1 hlen) (next:=λvi _=>?_);cases ord with
 |false=>
  refine go ?_;refine go ?_;exact aM (j+1) Cp ⟨vj,λi' hi' x hx=>(by
   by_cases e:i'=j
   ·subst e;rw[hl]at hx;cases hx;unfold uP;rw[yM,gy,gz hl'];simp[]
   ·exact hall i' vj x hx)⟩
 |true=>
 refine go ?_;refine bq (ak ae) (xs:=L) (k:=i) (next:=λ_ _ l3 (VB:Value) hl3=>?_);rw[hl']at hl3;obtain rfl:l'=l3:=Option.some.inj hl3;refine go ?_;refine ax (Wo (xs:=l') (ys:=img s l) vj vj) (next:=λ_ _=>?_);refine go ?_;refine gG (λhs=>?_) (λhs=>?_)
 ·refine go ?_;refine go ?_;exact aM (j+1) Cp ⟨vj,λi' hi' x hx=>(by
   by_cases e:i'=j
   ·subst e;rw[hl]at hx;cases hx;unfold uP;rw[yM,gy,gz hl'];simp[hs]
   ·exact hall i' vj x hx)⟩
 cases kQ with
 |false=>
  refine go ?_;refine ah () (hv:=?_) (hp:=trivial);rw[Oz hl (by unfold uP;rw[yM,gy,gz hl',aS hs];simp)];rfl
 |true=>
 refine go ?_;refine bq (ak ae) (xs:=L) (k:=i) (next:=λ_ _ l4 (vl4:Value) hl4=>?_);rw[hl']at hl4;obtain rfl:l'=l4:=Option.some.inj hl4;refine go ?_;refine ax (aib (xs:=img s l) vj) (next:=λvb _=>?_);refine go ?_;refine ax (Wo (xs:=l') (ys:=(img s l).reverse) vj (by rw[FN];omega)) (next:=λ_ _=>?_);refine go ?_;refine eO rfl (λh5=>?_) (λh5=>?_)
 ·refine go ?_;refine ah () (hv:=?_) (hp:=trivial);rw[Oz hl (by unfold uP;rw[yM,gy,gz hl',aS hs,aS h5];simp)];rfl
 refine go ?_;refine go ?_;exact aM (j+1) Cp ⟨vj,λi' hi' x hx=>(by
  by_cases e:i'=j
  ·subst e;rw[hl]at hx;cases hx;unfold uP;rw[yM,gy,gz hl'];simp[h5]
  ·exact hall i' vj x hx)⟩
end Go.Proofs.YtfakljdleblkoaaGreat
namespace Go.Proofs.YtfakljdleblkoaaGreat
open Go.Ideal Kd Canon
variable{n:Nat}
theorem Ws{v:Value}{xs:List Int}(hn:n<=1000000)(hl:xs.length<9223372036854775808):aU Tryz.prog (.func 62) [v,.int .i64 (n:Int)] [] [] [ai ae v xs] (λb:Bool=>.bool b) (λ_=>[]) (λ_=>[]) (λb=>b=true↔di n xs):=by
 refine aH _ (aN 62) λB w0=>?_;refine aT (E:=ae) (v:=v) (xs:=xs) vm λav cv ev=>?_;subst ev;refine go ?_;refine az rfl (λh1=>?_) (λh1=>?_)
 ·refine go ?_;exact ah false (hv:=rfl) (hp:=⟨(λh=>by cases h),λq=>by have:=q.len;omega⟩)
 have kw:xs.length=n:=vj
 refine go ?_;refine Mh n ⟨vj,vj,vj⟩ λb5=>?_;rw[ae5];refine go ?_;refine aW (λk=>n - k) (λk:Nat=>[(6,.int .i64 (k:Int))]) (λk=>[pt b5 (.cells (rH n (xs.take k)))]) (λ_=>[]) (λk=>k<=n/\(∀x∈xs.take k,0<=x/\x<(n:Int))/\(xs.take k).Nodup) 0 ⟨bQ _,vm,vm⟩ (hk:=we) (body:=?_);rintro k ⟨hk,hin,hnd⟩;refine go ?_;refine az rfl (λh1=>?_) (λh1=>?_)
 ·refine go ?_;intro _ _ x hx;have hxm:=aP hx;have htk:=bU hx;have hno:¬(0<=x/\x<(n:Int))->∀b:Bool,b=false->(b=true↔di n xs):=λh b hb=>⟨(λe=>by rw[hb]at e;cases e),λq=>absurd (q.eH x hxm) h⟩
  refine go ?_;refine gG (λh2=>?_) (λh2=>?_)
  rotate_left
  ·exact ki
  refine go ?_;intro _ _ x2 hx2;rw[hx]at hx2;obtain rfl:x=x2:=Option.some.inj hx2;refine go ?_;refine gG (λh3=>?_) (λh3=>?_)
  rotate_left
  ·exact ki
  obtain⟨m,rfl⟩:=iO (by omega:0<=x);refine go ?_;intro _ _ x3 hx3;rw[hx]at hx3;obtain rfl:(m:Int)=x3:=Option.some.inj hx3;refine go ?_;refine rA (b:=b5) (o:=0+m*1) (cs:=rH n (xs.take k)) (.bool (decide ((m:Int)∈xs.take k))) (ae3 vj) ?_;refine go ?_;refine az rfl (λh4=>?_) (λh4=>?_)
  ·exact kp
  refine go ?_;intro _ _ x4 hx4;rw[hx]at hx4;obtain rfl:(m:Int)=x4:=Option.some.inj hx4;refine go ?_;refine rz (b:=b5) (o:=0+m*1) (cs:=rH n (xs.take k)) (v:=.bool true) (cs':=rH n (xs.take (k+1))) (by rw[ae4 vj,htk]) (by rw[UU];omega) ?_;exact gj
 have hke:k=n:=vj
 subst hke;rw[tV vj]at hin hnd;refine go ?_;exact ah true (hv:=rfl) (hp:=⟨λ_=>⟨kw,hin,hnd⟩,λ_=>rfl⟩)
def Wt(t:List Int)(n o:Nat):Prop:=∀b:Nat,o.testBit b=true↔∃j:Nat,t[j]? =some (b:Int)/\n.testBit j=true
theorem toNat_one{b:Bool}:((b.toNat:Nat):Int)=1↔b=true:=by cases b<;>decide
variable{m:Nat}{t:List Int}
theorem Wu{vt:Value}(ht:di m t)(hm:m<=16)(hn:n<9223372036854775808):
 aU Tryz.prog (.func 196) [vt,.int .i64 (n:Int)] [] [] [ai ae vt t] (λo:Nat=>.int .i64 (o:Int)) (λ_=>[]) (λ_=>[]) (Wt t n):=by
 have htl:=ht.len;refine aH _ (aN 196) λB w0=>?_;refine go ?_;refine aW (λy:Nat×Nat=>t.length - y.1) (λy=>[(6,.int .i64 (y.1:Int)),(5,.int .i64 (y.2:Int))]) (λ_=>[]) (λ_=>[]) (λy=>y.1<=t.length/\y.2<2^16/\∀b:Nat,y.2.testBit b=true↔∃j:Nat,j<y.1/\t[j]? =some (b:Int)/\n.testBit j=true) (0,0) ⟨bQ _,by dsimp only;omega,λb=>by simp⟩ (body:=?_);rintro⟨k,o⟩ ⟨hk,ho,hb⟩;dsimp only at hk ho hb⊢;refine go ?_;refine az rfl (λh1=>?_) (λh1=>?_)
 ·refine go ?_;refine(fq rfl rfl (aji (a:=n) (b:=k) rfl rfl vj)).h ?_;refine(fq rfl rfl (Em (a:=n>>>k) (b:=1) rfl rfl (CU (JZ _ _) hn) vj)).h ?_;rw[Fg n k];refine go ?_;have htx:t[k]? =some t[k]:=bW vj;generalize t[k]=x0 at htx;have hx0:=ht.eH x0 (aP htx);obtain⟨i0,rfl⟩:=iO hx0.1;refine az rfl (λh2=>?_) (λh2=>?_)
  ·have h2:=toNat_one.1 h2;refine go ?_;intro _ _ x hx;rw[htx]at hx;obtain rfl:(i0:Int)=x:=Option.some.inj hx;have hsh:1<<<i0<2^16:=by
    rw[JP,A7];exact oe
   refine go ?_;refine(fq rfl rfl (Md (a:=1) (b:=i0) rfl rfl vj vj)).h ?_;refine(fq rfl rfl (Me (a:=o) (b:=1<<<i0) rfl rfl vj vj)).h ?_;refine go ?_;refine aM (k+1,o|||1<<<i0) Dd ⟨by dsimp only;omega,JQ (n:=16) ho hsh,λb=>?_⟩;dsimp only;rw[Nat.testBit_or,Nat.one_shiftLeft,Nat.testBit_two_pow,qM,jX,hb b];constructor
   ·rintro(⟨j,q1,q2⟩|q)
    ·exact⟨j,vj,q2⟩
    ·subst q;exact⟨k,vj,htx,h2⟩
   ·rintro⟨j,q1,q2,q3⟩;by_cases e:j=k
    ·subst e;rw[htx]at q2;have:=Option.some.inj q2;right;omega
    ·exact .inl ⟨j,vj,q2,q3⟩
  ·have h2:¬n.testBit k=true:=λh=>h2 (toNat_one.2 h);refine go ?_;refine aM (k+1,o) Dd ⟨by dsimp only;omega,ho,λb=>?_⟩;dsimp only;rw[hb b];constructor
   ·rintro⟨j,q1,q2⟩;exact⟨j,vj,q2⟩
   ·rintro⟨j,q1,q2,q3⟩;by_cases e:j=k
    ·subst e;exact absurd q3 h2
    ·exact⟨j,vj,q2,q3⟩
 have hke:k=t.length:=vj
 subst hke;refine go ?_;refine ah o (hv:=rfl) (hp:=λb=>?_);rw[hb b];constructor
 ·rintro⟨j,_,q⟩;exact⟨j,q⟩
 ·rintro⟨j,q1,q2⟩;exact⟨j,(bC.1 q1).1,q1,q2⟩
theorem Wv{o:Nat}(ht:di m t)(hn:n<2^m)(ho:Wt t n o):o=n↔∀(i:Nat) x,t[i]? =some x->n.testBit i=n.testBit x.toNat:=by
 constructor
 ·intro e i x hx;subst e;have oQ:=ht.eH x (aP hx);obtain⟨b,rfl⟩:=iO oQ.1;rw[gy,uQ,ho b];constructor
  ·intro h;exact⟨i,hx,h⟩
  ·rintro⟨j,h1,h2⟩;have:=Cq ht.nd hx h1;subst this;exact h2
 ·intro h;apply Nat.eq_of_testBit_eq;intro b;rw[uQ,ho b];constructor
  ·rintro⟨j,h1,h2⟩;have:=h j _ h1;rw[gy]at this;rw[<- this];exact h2
  ·intro hb;have Gd:b<m:=by
    apply Classical.byContradiction;intro hge;rw[Nat.testBit_lt_two_pow (lS hn (Nat.pow_le_pow_right vj vj))]at hb;cases hb
   obtain⟨j,hj⟩:=jT (ht.mem (y:=(b:Int)) vj vj);refine⟨j,hj,?_⟩;have:=h j _ hj;rw[gy]at this;rw[this];exact hb
theorem OB{a b:Nat}:lg a b t=true↔(∀(i:Nat) x,t[i]? =some x->a.testBit i=a.testBit x.toNat)/\∀(i:Nat) x,t[i]? =some x->b.testBit i=b.testBit x.toNat:=by
 unfold lg;rw[lm];constructor
 ·intro h;refine⟨λi x hx=>?_,λi x hx=>?_⟩<;>(have:=h i x hx;simp only[eB,jX]at this)
  ·exact this.1
  ·exact this.2
 ·rintro⟨h1,h2⟩ i x hx;simp only[eB,jX];exact⟨h1 i x hx,h2 i x hx⟩
theorem Ww{a b:List Int}(ha:a.Nodup)(hb:b.Nodup):qH a b=iT a b:=by
 rw[uQ,Al];unfold qH;rw[jX];constructor
 ·rintro⟨h1,h2⟩;refine(List.perm_ext_iff_of_nodup ha hb).2 λx=>⟨h1 x,λhx=>Classical.byContradiction λhn=>?_⟩
  have:=EM (l:=x::a) (m:=b) (wo.2 ⟨hn,ha⟩) (λy hy=>by
   rcases dH.1 hy with e|e
   ·rw[e];exact hx
   ·exact h1 y e)
  rw[oD]at this;omega
 ·intro h;exact⟨λx hx=>h.mem_iff.1 hx,h.length_eq⟩
theorem any_congr{α:Type}{p q:α->Bool}:∀{L:List α},(∀x∈L,p x=q x)->L.findIdx? p=L.findIdx? q
 |[],_=>rfl
 |a::L,h=>by
  rw[List.findIdx?_cons,List.findIdx?_cons,h a (cZ ..),any_congr λx hx=>h x (dA _ hx)]
structure CL(n:Nat)(L:List (List Int))(s:List Int)(f:Int):Prop where
 iK:oP n L f
 ps:di n s
 nd:∀l∈L,l.Nodup
variable{L:List (List Int)}{s:List Int}{f:Int}
theorem aik{l:List Int}{j:Nat}(H:CL n L s f)(hl:L[j]? =some l):
 nR L s f l j=if 0<=iM L s f (j:Int)/\iT (L.getD (iM L s f (j:Int)).toNat []) (img s l)=true then iM L s f (j:Int)else -1:=by
 have hlm:=aP hl;have hjl:=(bC.1 hl).1;have hin:=TY H.ps (H.iK.eH l hlm) (H.nd l hlm);unfold nR iM;by_cases hb:iR f=true
 ·have hLn:=H.iK.len hb;have hr:=H.ps.at_ (c:=(j:Int)) vj vj;rw[if_pos hb,if_pos hb];have hm:L.getD (aR s (j:Int)).toNat []∈L:=by
   have:L[(aR s (j:Int)).toNat]? =some L[(aR s (j:Int)).toNat]:=bW vj;rw[gz this];exact aP this
  rw[Ww (H.nd _ hm) hin];by_cases e:iT (L.getD (aR s (j:Int)).toNat []) (img s l)=true
  ·rw[if_pos e,if_pos ⟨hr.1,e⟩]
  ·rw[if_neg e,if_neg (λq=>e q.2)]
 ·rw[if_neg hb,if_neg hb,gy,gz hl];have hi:oV (λx=>qH x (img s l)) L=pO L (img s l):=by
   rw[<- NW];unfold oV;rw[any_congr (p:=λx=>qH x (img s l)) (q:=λx=>decide (bM x=bM (img s l))) λx hx=>Ww (H.nd x hx) hin]
  rw[hi];by_cases e:0<=pO L (img s l)
  ·obtain⟨l',h1,h2⟩:=I8 e;rw[gz h1,if_pos ⟨e,Al.2 h2⟩]
  ·rw[if_neg (λq=>e q.1)];unfold pO at e⊢;split at e
   ·omega
   ·rfl
theorem OC(H:CL n L s f)(ord kQ:Bool)(eq:List Int->List Int->Bool)
 (he:∀a b,iT a b=true->eq a b=(!ord||(decide (a=b)||(kQ&&decide (a=b.reverse))))):tK L s f ord kQ=iN L s f eq:=by
 rw[uQ];unfold tK iN;rw[lm,lm];have key:∀(j:Nat) l,L[j]? =some l->uP L s f ord kQ l j=mK L s f eq l j:=λj l hl=>by
  unfold uP mK;rw[aik H hl];by_cases h1:0<=iM L s f (j:Int)
  ·by_cases h2:iT (L.getD (iM L s f (j:Int)).toNat []) (img s l)=true
   ·rw[if_pos ⟨h1,h2⟩,h2,he _ _ h2,Bool.true_and]
   ·rw[if_neg (λq=>h2 q.2)];have h2:iT (L.getD (iM L s f (j:Int)).toNat []) (img s l)=false:=by simpa using h2
    rw[h2,JV,Bool.and_false];rfl
  ·rw[if_neg (λq=>h1 q.1),aS h1,JV];rfl
 constructor
 ·intro h j l hl;exact(key j l hl)▸h j l hl
 ·intro h j l hl;exact(key j l hl).symm▸h j l hl
theorem Wx(H:CL n L s f)(kQ:Bool):tK L s f false kQ=iN L s f iT:=
 OC H false kQ iT λa b h=>by rw[h];rfl
theorem ail(H:CL n L s f):tK L s f true false=iN L s f rF:=
 OC H true false rF λa b h=>by unfold rF;simp
theorem aim(H:CL n L s f):tK L s f true true=iN L s f qy:=
 OC H true true qy λa b h=>by unfold qy;simp
theorem eF.nodup{k:bS}(h:eF k){i:Nat}{L:List (List Int)}(hL:k.lists[i]? =some L):∀l∈L,l.Nodup:=by
 have hm:=aP hL;rw[h.lists]at hm;exact adq h.bZ (λr hr=>(h.typ.yX r hr).1.2) L hm
