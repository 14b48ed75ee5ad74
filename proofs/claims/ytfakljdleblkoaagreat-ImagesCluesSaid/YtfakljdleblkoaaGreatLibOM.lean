/-
  Symmetries checked: lists of a rule.
-/
import Derived.Test.YtfakljdleblkoaaGreatLibMM
import Derived.Test.YtfakljdleblkoaaGreatLibNM
set_option linter.all false
set_option maxRecDepth 10000
set_option maxHeartbeats 4000000
namespace Go.Proofs.YtfakljdleblkoaaGreat
open Go.Ideal Kd Canon
section
variable {P:Program} {B:List Nat} {w0:Wd} {kl kl':List OA} {F:List aD} {K:KO} {ds:List Tmp} {rest:List bP} {n:Nat} {l:List (Nat×Value)} {D:List Deferred} {pm:Option FrameMode} {ro:Option Nat} {d:Nat} {g:Option (Tmp×Bool)}
theorem BP{x:Operand}{b:Nat}{cs:List Value}{v:Value}(j:Nat)
 (next:R (λh=>aI P ds rest (act n ((d,v)::l) D pm ro) h K) B w0 kl F)
 (hx:ev l x=.pointer (some ⟨b,0+j,none⟩):=by rfl) (hk:bz b 0 cs∈F:=by exact tX) (hv:jV cs j=some v:=by rfl) (hn:Nat.blt d n=true:=by rfl) (hg:bM l g=true:=by rfl):
 R (λh=>aI P ds (⟨⟨some d,g,.gI x⟩,[]⟩::rest) (act n l D pm ro) h K) B w0 kl F:=(I9 hn hg hx hk hv).h next
end
theorem Y7{v:Value}{xs:List Int}(hl:xs.length<=1000000):aQ Tryz.prog (.func 308) [v] [] [] [ah ae v xs] (λv':Value=>v') (λ_=>[]) (λv'=>[ah ae v' (bD xs)]) (λ_=>True):=by
 refine aK _ (aM 308) λB w0=>?_;refine go ?_;refine ak (QC (xs:=xs) hl) (next:=λa _=>?_);refine go ?_;refine ak (Gg (a:=a) (zs:=xs) rfl (by omega)) (next:=λ_ _=>?_);refine aZ (jk (E:=ae) (v:=.slice a xs.length xs.length) (xs:=bD xs)) (h:=?_);refine go ?_;exact aj (.slice a xs.length xs.length) (hv:=rfl) (hp:=trivial)
theorem Y8{va vb:Value}{a b:List Int}(ha:a.length<=1000000)(hb:b.length<=1000000):eG Tryz.prog 266 [va,vb] [ah ae va a,ah ae vb b] (.bool (jR a b)):=by
 have hsl:=xS a;refine aK _ (aM 266) λB w0=>?_;refine go ?_;refine ak (Y7 (xs:=a) ha) (next:=λv1 _=>?_);refine go ?_;refine ak (Y7 (xs:=b) hb) (next:=λv2 _=>?_);refine go ?_;refine ak (sF (xs:=bD a) (ys:=bD b) (by omega)) (next:=λ_ _=>?_);refine go ?_;exact aj () (hv:=rfl) (hp:=trivial)
theorem alb{va vb:Value}{a b:List Int}(ha:a.length<=1000000)(hb:b.length<=1000000):eG Tryz.prog 267 [va,vb] [ah ae va a,ah ae vb b] (.bool (uy a b)):=by
 have hrl:b.reverse.length=b.length:=Ch;refine aK _ (aM 267) λB w0=>?_;refine go ?_;refine ak (QC (xs:=b) hb) (next:=λc _=>?_);refine go ?_;refine ak (D8 (a:=c) (xs:=b) hb) (next:=λ_ _=>?_);refine aZ (A:=ap ae (.slice c b.length b.length) b.reverse) (fs:=[ah ae (.slice c b.length b.length) b.reverse]) jk (h:=?_);refine go ?_;refine ak (sF (xs:=a) (ys:=b) (by omega)) (next:=λ_ _=>?_);refine go ?_;refine gG (λh1=>?_) (λh1=>?_)
 rotate_left
 ·refine go ?_;refine aj () (hv:=?_) (hp:=trivial);rw[Ga.2 (.inl h1)];rfl
 refine go ?_;refine ak (sF (xs:=a) (ys:=b.reverse) (by omega)) (next:=λ_ _=>?_);refine go ?_;refine aj () (hv:=?_) (hp:=trivial);unfold uy;rw[dM h1,Bool.false_or];rfl
abbrev QM(k:aU)(vh vs vr vc vu gh gc vn vl sc st:Value):List Value:=[.string k.decl.name,.int .i64 k.decl.version,.int .i64 k.decl.shape,.int .i64 k.decl.w,.int .i64 k.decl.h,vh,vs,vr,vc,vu,.int .i64 k.grid.shape,.int .i64 k.grid.w,.int .i64 k.grid.h,gh,gc,vn,vl,sc,st]
abbrev Ll(k:aU)(s t:List Int)(vs vn vl sc st:Value):List aD:=[ah ae sc s,ah ae st t,ah jF vs k.decl.symbols,ah (aB ae) vn k.aA,ah (aB (aB ae)) vl k.lists]
theorem Gw{b:Nat}{vw:Value}{w:List Int}(hw:w.length<=1000000)(x:List Int)(hx:x.length<=1000000):DZ Tryz.prog (.func 307) [] [ptr' b] [bz b 0 [vw],ah ae vw w] (λx=>jR x w) x:=by
 intro v;rw[bH];refine aK _ (aM 307) λB w0=>?_;refine go ?_;refine ak (Y8 (a:=x) (b:=w) hx hw) (next:=λ_ _=>?_);refine go ?_;exact aj () (hv:=rfl) (hp:=trivial)
abbrev Lm(P:Program)(fe:Fn)(eq:List Int->List Int->Bool):Prop:=∀(va vb:Value) (a b:List Int),a.length<=1000000->b.length<=1000000->aQ P fe [va,vb] [] [] [ah ae va a,ah ae vb b] (λ_:Unit=>.bool (eq a b)) (λ_=>[]) (λ_=>[]) (λ_=>True)
structure Gx(n:Nat)(k:aU)(s:List Int)(r:bV)(L:List (List Int)):Prop where
 f0:0<=r.family
 hL:k.lists[r.family.toNat]? =some L
 fP:oQ n L r.family
 ps:dB n s
 n0:0<n
 n1:n<=1000000
 len:L.length<=1000000
 lens:∀l∈L,l.length<=1000000
theorem yJ{L:List (List Int)}{s:List Int}{f:Int}{eq:List Int->List Int->Bool}{j:Nat}{l:List Int}(hl:L[j]? =some l)(h:nV L s f eq l j=false):jS L s f eq=false:=by
 cases e:jS L s f eq with
 |false=>rfl
 |true=>
  unfold jS at e;rw[qw]at e;have:=e j l hl;dsimp only at this;rw[h]at this;cases this
theorem yK{L:List (List Int)}{s:List Int}{f:Int}{eq:List Int->List Int->Bool}{j:Nat}{l:List Int}{i:Int}(hi:gW L s f (j:Int)=i)(h:nV L s f eq l j=true):0<=i/\jR (L.getD i.toNat []) (img s l)=true/\eq (L.getD i.toNat []) (img s l)=true:=by
 unfold nV at h;rw[hi,eU,eU,kL]at h;exact h
theorem Lp{L:List (List Int)}{s:List Int}{f:Int}{eq:List Int->List Int->Bool}{j m:Nat}{l l':List Int}(hi:gW L s f (j:Int)=(m:Int))(hl':L[m]? =some l')(h1:jR l' (img s l)=true)(h2:eq l' (img s l)=true):nV L s f eq l j=true:=by
 unfold nV;rw[hi,eX,fC hl',h1,h2];simp
theorem alc{L:List (List Int)}{w:List Int}(h:0<=uw L w):(uw L w).toNat<L.length:=by
 obtain⟨l,h1,_⟩:=Pj h;exact(aW.1 h1).1
theorem QN{n:Nat}{k:aU}{s t:List Int}{r:bV}{L:List (List Int)}{eq:List Int->List Int->Bool}{fe:Fn}{vh vs vr vc vu gh gc vn vl sc st v1 v2:Value}(H:Gx n k s r L)(he:Lm Tryz.prog fe eq):
 aQ Tryz.prog (.func 265) [.agg ⟨QM k vh vs vr vc vu gh gc vn vl sc st⟩,.agg ⟨jG r v1 v2⟩,.func fe ⟨[]⟩ ⟨[]⟩] [] [] (Ll k s t vs vn vl sc st) (λ_:Unit=>.bool (jS L s r.family eq)) (λ_=>[]) (λ_=>[]) (λ_=>True):=by
 have hsl:=H.ps.len;have hn0:=H.n0;have hn1:=H.n1;have hll:=H.len;have Ef:=H.lens;obtain⟨rn,ro,rk,rf,rns,ros,alf,alg,rop,rnn,rby,rcl⟩:=r;have hf0:0<=rf:=H.f0;obtain⟨f,rfl⟩:=eO hf0;have Y9:k.lists[f]? =some L:=by have:=H.hL;rwa [eX]at this
 refine aK _ (aM 265) λB w0=>?_;refine bY (E:=ae) (v:=sc) (xs:=s) (by simp) λQO QR esc=>?_;subst esc;refine go ?_;intro b3 b4;refine aZ (dH (b:=b3)) (h:=?_);refine aZ (dH (b:=b4)) (h:=?_);have hfl:=(aW.1 Y9).1;refine go ?_;refine bZ (aB (aB ae)) (xs:=k.lists) (next:=λ_ _ L2 (vL:Value) hL2=>?_);rw[Y9]at hL2;obtain rfl:L=L2:=Option.some.inj hL2;refine bY (E:=aB ae) (v:=vL) (xs:=L) (by simp) λaL cL eL=>?_;subst eL;generalize hrf:(f:Int)=rf at *;refine go ?_;refine bQ (λj:Nat=>L.length - j) (λj=>[(24,.int .i64 (j:Int))]) (λ_=>[]) (λ_=>[]) (λj=>j<=L.length/\∀i',i'<j->∀x,L[i']? =some x->nV L s rf eq x i'=true) 0 ⟨dK _,λi' h=>absurd h (GR _)⟩ (body:=?_);rintro j ⟨hj,hall⟩;refine go ?_;refine aJ rfl (λh1=>?_) (λh1=>?_)
 ·refine go ?_;refine bZ (aB ae) (xs:=L) (next:=λ_ _ l (uA:Value) hl=>?_);have hlm:=aR hl;have hlr:=H.fP.dZ l hlm;have hlen:=Ef l hlm;have hil:(img s l).length=l.length:=Dz s l;refine bY (E:=ae) (v:=uA) (xs:=l) (by simp) λal cl el=>?_;subst el;refine go ?_;refine xN l.length ⟨by omega,by omega,by omega⟩ λbw=>?_;rw[Lb];refine go ?_;intro b10;refine go ?_;refine bQ (λi:Nat=>l.length - i) (λi=>[(34,.int .i64 (i:Int))]) (λi=>[pt bw (.cells ((og (img s (l.take i)) l.length).map (.int .i64))),pt b10 (.cells [.slice (some ⟨bw,0,some 0⟩) l.length l.length])]) (λ_=>[]) (λi=>i<=l.length) 0 (dK _) (hk:=by repeat (first|exact aO.nil|(apply aO.cons;(focus (repeat (first|exact az.here|apply az.there)))))) (body:=?_);intro i hi;have hcl:(img s (l.take i)).length=i:=by rw[Dz,iL];omega
  refine go ?_;refine aJ rfl (λh2=>?_) (λh2=>?_)
  ·refine go ?_;intro _ _ x hx;have nY:=hlr x (aR hx);obtain⟨m,rfl⟩:=eO nY.1;refine go ?_;refine BP 17 ?_;refine go ?_;intro _ _ z hz;have hzg:=jJ hz;have htk:img s (l.take (i+1))=img s (l.take i)++[z]:=by
    unfold img;rw[gZ hx,di,j5,hzg]
   refine go ?_;refine mD (b:=bw) (o:=0+i*1) (cs:=(og (img s (l.take i)) l.length).map (.int .i64)) (v:=.int .i64 z) (cs':=(og (img s (l.take (i+1))) l.length).map (.int .i64)) (by rw[fw,pV,<- Ao,YJ hcl.symm (by omega),htk]) (by rw[bJ,La (by omega)];omega) ?_;refine go ?_;exact bi (i+1) (by show l.length - (i+1)<l.length - i;omega) (by show i+1<=_;omega)
  have hie:i=l.length:=by omega
  subst hie;rw[eH]at hcl⊢;rw[YK hcl];refine aZ (A:=pt bw (.cells ((img s l).map (.int .i64)))) (fs:=[ah ae (.slice (some ⟨bw,0,some 0⟩) l.length l.length) (img s l)]) (by have:=uX (b:=bw) (f:=0) (c:=l.length) (xs:=img s l) (hc:=by rw[hil];exact bB _);rw[hil]at this;exact this) (h:=?_);refine aZ (dH (b:=b10)) (h:=?_);refine go ?_;refine BP 17 ?_;refine go ?_;intro _ _ z0 hz0;refine go ?_;refine aJ rfl (λc0=>?_) (λc0=>?_)
  ·refine go ?_;refine aJ rfl (λ_=>?_) (λh=>absurd c0 h);dsimp only at c0;have hjs:j<s.length:=by
    have:=H.fP.len (by unfold jQ;simp[c0]);omega
   refine go ?_;refine BP 17 ?_;refine go ?_;intro _ _ i hi;have hig:=jJ hi;have lJ:gW L s rf (j:Int)=i:=by unfold gW;rw[if_pos (by unfold jQ;simp[c0])];exact hig
   have hi0:0<=i:=(H.ps.dZ i (aR hi)).1;have QS:i<(L.length:Int):=by
    have h1:=(H.ps.dZ i (aR hi)).2;have h2:=H.fP.len (by unfold jQ;simp[c0]);omega
   obtain⟨m,rfl⟩:=eO hi0;refine go ?_;refine bZ (aB ae) (xs:=L) (next:=λ_ _ l' (oU:Value) hl'=>?_);have vP:=Ef l' (aR hl');refine go ?_;refine ak (Gw (b:=b10) (vw:=.slice (some ⟨bw,0,some 0⟩) l.length l.length) (w:=img s l) (by rw[hil];omega) l' vP oU) (next:=λ_ _=>?_);dsimp only;cases e1:jR l' (img s l)with
   |false=>
    refine go ?_;refine aj () (hv:=?_) (hp:=trivial);rw[yJ hl (by
     cases e:nV L s rf eq l j with
     |false=>rfl
     |true=>
      have:=(yK lJ e).2.1;rw[eX,fC hl',e1]at this;cases this)];rfl
   |true=>
   refine go ?_;refine bZ (aB ae) (xs:=L) (next:=λ_ _ l'' (oU:Value) vQ=>?_);rw[hl']at vQ;obtain rfl:l'=l'':=Option.some.inj vQ;refine go ?_;refine ak (he oU (.slice (some ⟨bw,0,some 0⟩) l.length l.length) l' (img s l) vP (by rw[hil];omega)) (next:=λ_ _=>?_);cases e2:eq l' (img s l)with
   |false=>
    refine go ?_;refine aj () (hv:=?_) (hp:=trivial);rw[yJ hl (by
     cases e:nV L s rf eq l j with
     |false=>rfl
     |true=>
      have:=(yK lJ e).2.2;rw[eX,fC hl',e2]at this;cases this)];rfl
   |true=>
    refine go ?_;exact bi (j+1) (by show L.length - (j+1)<L.length - j;omega) ⟨by omega,λi' hi' x hx=>(by
     by_cases e:i'=j
     ·subst e;rw[hl]at hx;cases hx;exact Lp lJ hl' e1 e2
     ·exact hall i' (by omega) x hx)⟩
  refine go ?_;refine aJ rfl (λc4=>?_) (λc4=>?_)
  ·refine go ?_;refine aJ rfl (λ_=>?_) (λh=>absurd c4 h);dsimp only at c4;have hjs:j<s.length:=by
    have:=H.fP.len (by unfold jQ;simp[c4]);omega
   refine go ?_;refine BP 17 ?_;refine go ?_;intro _ _ i hi;have hig:=jJ hi;have lJ:gW L s rf (j:Int)=i:=by unfold gW;rw[if_pos (by unfold jQ;simp[c4])];exact hig
   have hi0:0<=i:=(H.ps.dZ i (aR hi)).1;have QS:i<(L.length:Int):=by
    have h1:=(H.ps.dZ i (aR hi)).2;have h2:=H.fP.len (by unfold jQ;simp[c4]);omega
   obtain⟨m,rfl⟩:=eO hi0;refine go ?_;refine bZ (aB ae) (xs:=L) (next:=λ_ _ l' (oU:Value) hl'=>?_);have vP:=Ef l' (aR hl');refine go ?_;refine ak (Gw (b:=b10) (vw:=.slice (some ⟨bw,0,some 0⟩) l.length l.length) (w:=img s l) (by rw[hil];omega) l' vP oU) (next:=λ_ _=>?_);dsimp only;cases e1:jR l' (img s l)with
   |false=>
    refine go ?_;refine aj () (hv:=?_) (hp:=trivial);rw[yJ hl (by
     cases e:nV L s rf eq l j with
     |false=>rfl
     |true=>
      have:=(yK lJ e).2.1;rw[eX,fC hl',e1]at this;cases this)];rfl
   |true=>
   refine go ?_;refine bZ (aB ae) (xs:=L) (next:=λ_ _ l'' (oU:Value) vQ=>?_);rw[hl']at vQ;obtain rfl:l'=l'':=Option.some.inj vQ;refine go ?_;refine ak (he oU (.slice (some ⟨bw,0,some 0⟩) l.length l.length) l' (img s l) vP (by rw[hil];omega)) (next:=λ_ _=>?_);cases e2:eq l' (img s l)with
   |false=>
    refine go ?_;refine aj () (hv:=?_) (hp:=trivial);rw[yJ hl (by
     cases e:nV L s rf eq l j with
     |false=>rfl
     |true=>
      have:=(yK lJ e).2.2;rw[eX,fC hl',e2]at this;cases this)];rfl
   |true=>
    refine go ?_;exact bi (j+1) (by show L.length - (j+1)<L.length - j;omega) ⟨by omega,λi' hi' x hx=>(by
     by_cases e:i'=j
     ·subst e;rw[hl]at hx;cases hx;exact Lp lJ hl' e1 e2
     ·exact hall i' (by omega) x hx)⟩
  refine go ?_;refine aJ rfl (λc5=>?_) (λc5=>?_)
  ·dsimp only at c5;have hjs:j<s.length:=by
    have:=H.fP.len (by unfold jQ;simp[c5]);omega
   refine go ?_;refine BP 17 ?_;refine go ?_;intro _ _ i hi;have hig:=jJ hi;have lJ:gW L s rf (j:Int)=i:=by unfold gW;rw[if_pos (by unfold jQ;simp[c5])];exact hig
   have hi0:0<=i:=(H.ps.dZ i (aR hi)).1;have QS:i<(L.length:Int):=by
    have h1:=(H.ps.dZ i (aR hi)).2;have h2:=H.fP.len (by unfold jQ;simp[c5]);omega
   obtain⟨m,rfl⟩:=eO hi0;refine go ?_;refine bZ (aB ae) (xs:=L) (next:=λ_ _ l' (oU:Value) hl'=>?_);have vP:=Ef l' (aR hl');refine go ?_;refine ak (Gw (b:=b10) (vw:=.slice (some ⟨bw,0,some 0⟩) l.length l.length) (w:=img s l) (by rw[hil];omega) l' vP oU) (next:=λ_ _=>?_);dsimp only;cases e1:jR l' (img s l)with
   |false=>
    refine go ?_;refine aj () (hv:=?_) (hp:=trivial);rw[yJ hl (by
     cases e:nV L s rf eq l j with
     |false=>rfl
     |true=>
      have:=(yK lJ e).2.1;rw[eX,fC hl',e1]at this;cases this)];rfl
   |true=>
   refine go ?_;refine bZ (aB ae) (xs:=L) (next:=λ_ _ l'' (oU:Value) vQ=>?_);rw[hl']at vQ;obtain rfl:l'=l'':=Option.some.inj vQ;refine go ?_;refine ak (he oU (.slice (some ⟨bw,0,some 0⟩) l.length l.length) l' (img s l) vP (by rw[hil];omega)) (next:=λ_ _=>?_);cases e2:eq l' (img s l)with
   |false=>
    refine go ?_;refine aj () (hv:=?_) (hp:=trivial);rw[yJ hl (by
     cases e:nV L s rf eq l j with
     |false=>rfl
     |true=>
      have:=(yK lJ e).2.2;rw[eX,fC hl',e2]at this;cases this)];rfl
   |true=>
    refine go ?_;exact bi (j+1) (by show L.length - (j+1)<L.length - j;omega) ⟨by omega,λi' hi' x hx=>(by
     by_cases e:i'=j
     ·subst e;rw[hl]at hx;cases hx;exact Lp lJ hl' e1 e2
     ·exact hall i' (by omega) x hx)⟩
  dsimp only at c0 c4 c5;refine go ?_;refine ak (YG (fn:=.func 307) (first:=[]) (cap:=[ptr' b10]) (F1:=[bz b10 0 [.slice (some ⟨bw,0,some 0⟩) l.length l.length],ah ae (.slice (some ⟨bw,0,some 0⟩) l.length l.length) (img s l)]) (p:=λx=>jR x (img s l)) (va:=.slice aL L.length cL) (xs:=L) (by omega) (λx hx=>Gw (by rw[hil];omega) x (Ef x hx))) (next:=λ_ _=>?_);have lJ:gW L s rf (j:Int)=uB (λx=>jR x (img s l)) L:=by
   unfold gW;rw[if_neg (by unfold jQ;simp[c0,c4,c5]),eX,fC hl];exact(YF L (img s l)).symm
  have hlt:0<=uB (λx=>jR x (img s l)) L->uB (λx=>jR x (img s l)) L<(L.length:Int):=λh=>by
   have:=alc (L:=L) (w:=img s l) h;have e:uB (λx=>jR x (img s l)) L=uw L (img s l):=YF L (img s l);omega
  generalize uB (λx=>jR x (img s l)) L=i at lJ hlt⊢;by_cases hi0:0<=i
  ·have QS:=hlt hi0;obtain⟨m,rfl⟩:=eO hi0;refine go ?_;refine bZ (aB ae) (xs:=L) (next:=λ_ _ l' (oU:Value) hl'=>?_);have vP:=Ef l' (aR hl');refine go ?_;refine ak (Gw (b:=b10) (vw:=.slice (some ⟨bw,0,some 0⟩) l.length l.length) (w:=img s l) (by rw[hil];omega) l' vP oU) (next:=λ_ _=>?_);dsimp only;cases e1:jR l' (img s l)with
   |false=>
    refine go ?_;refine aj () (hv:=?_) (hp:=trivial);rw[yJ hl (by
     cases e:nV L s rf eq l j with
     |false=>rfl
     |true=>
      have:=(yK lJ e).2.1;rw[eX,fC hl',e1]at this;cases this)];rfl
   |true=>
   refine go ?_;refine bZ (aB ae) (xs:=L) (next:=λ_ _ l'' (oU:Value) vQ=>?_);rw[hl']at vQ;obtain rfl:l'=l'':=Option.some.inj vQ;refine go ?_;refine ak (he oU (.slice (some ⟨bw,0,some 0⟩) l.length l.length) l' (img s l) vP (by rw[hil];omega)) (next:=λ_ _=>?_);cases e2:eq l' (img s l)with
   |false=>
    refine go ?_;refine aj () (hv:=?_) (hp:=trivial);rw[yJ hl (by
     cases e:nV L s rf eq l j with
     |false=>rfl
     |true=>
      have:=(yK lJ e).2.2;rw[eX,fC hl',e2]at this;cases this)];rfl
   |true=>
    refine go ?_;exact bi (j+1) (by show L.length - (j+1)<L.length - j;omega) ⟨by omega,λi' hi' x hx=>(by
     by_cases e:i'=j
     ·subst e;rw[hl]at hx;cases hx;exact Lp lJ hl' e1 e2
     ·exact hall i' (by omega) x hx)⟩
  ·refine go ?_;refine gG (λhneg=>?_) (λhneg=>?_)
   ·exact absurd hneg (by omega)
   refine go ?_;refine aj () (hv:=?_) (hp:=trivial);rw[yJ hl (by
    cases e:nV L s rf eq l j with
    |false=>rfl
    |true=>exact absurd (yK lJ e).1 hi0)];rfl
 have iM:j=L.length:=by omega
 subst iM;refine go ?_;refine aj () (hv:=?_) (hp:=trivial);have:jS L s rf eq=true:=by
  unfold jS;rw[qw];exact λi x hx=>hall i (aW.1 hx).1 x hx
 rw[this];rfl
abbrev BQ(P:Program)(fn:Fn)(k:aU)(s t:List Int)(r:bV)(vh vs vr vc vu gh gc vn vl sc st v1 v2:Value)(c:Bool):Prop:=
 aQ P fn [.agg ⟨QM k vh vs vr vc vu gh gc vn vl sc st⟩,.agg ⟨jG r v1 v2⟩] [] [] (Ll k s t vs vn vl sc st) (λ_:Unit=>.bool c) (λ_=>[]) (λ_=>[]) (λ_=>True)
section
variable {n:Nat} {k:aU} {s t:List Int} {r:bV} {L:List (List Int)} {vh vs vr vc vu gh gc vn vl sc st v1 v2:Value}
theorem alm(H:Gx n k s r L):BQ Tryz.prog (.func 186) k s t r vh vs vr vc vu gh gc vn vl sc st v1 v2 (jS L s r.family jR):=by
 have he:Lm Tryz.prog (.func 266) jR:=λva vb a b ha hb=>Y8 ha hb;refine aK _ (aM 186) λB w0=>?_;refine go ?_;intro b2 b3;refine go ?_;refine ak (QN (t:=t) (eq:=jR) (vh:=vh) (vs:=vs) (vr:=vr) (vc:=vc) (vu:=vu) (gh:=gh) (gc:=gc) (vn:=vn) (vl:=vl) (sc:=sc) (st:=st) (v1:=v1) (v2:=v2) H he) (next:=λ_ _=>?_);refine go ?_;exact aj () (hv:=rfl) (hp:=trivial)
theorem aln(H:Gx n k s r L):BQ Tryz.prog (.func 188) k s t r vh vs vr vc vu gh gc vn vl sc st v1 v2 (jS L s r.family ym):=by
 have he:Lm Tryz.prog (.func 73) ym:=λva vb a b ha hb=>sF (by omega);refine aK _ (aM 188) λB w0=>?_;refine go ?_;intro b2 b3;refine go ?_;refine ak (QN (t:=t) (eq:=ym) (vh:=vh) (vs:=vs) (vr:=vr) (vc:=vc) (vu:=vu) (gh:=gh) (gc:=gc) (vn:=vn) (vl:=vl) (sc:=sc) (st:=st) (v1:=v1) (v2:=v2) H he) (next:=λ_ _=>?_);refine go ?_;exact aj () (hv:=rfl) (hp:=trivial)
theorem alo(H:Gx n k s r L):BQ Tryz.prog (.func 189) k s t r vh vs vr vc vu gh gc vn vl sc st v1 v2 (jS L s r.family uy):=by
 have he:Lm Tryz.prog (.func 267) uy:=λva vb a b ha hb=>alb ha hb;refine aK _ (aM 189) λB w0=>?_;refine go ?_;intro b2 b3;refine go ?_;refine ak (QN (t:=t) (eq:=uy) (vh:=vh) (vs:=vs) (vr:=vr) (vc:=vc) (vu:=vu) (gh:=gh) (gc:=gc) (vn:=vn) (vl:=vl) (sc:=sc) (st:=st) (v1:=v1) (v2:=v2) H he) (next:=λ_ _=>?_);refine go ?_;exact aj () (hv:=rfl) (hp:=trivial)
end
