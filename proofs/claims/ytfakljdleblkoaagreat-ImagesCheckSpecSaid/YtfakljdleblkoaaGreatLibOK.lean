/-
  Part LibOK.
-/
import Derived.Test.YtfakljdleblkoaaGreatLibMK
import Derived.Test.YtfakljdleblkoaaGreatLibNK
set_option linter.all false
set_option maxRecDepth 10000
set_option maxHeartbeats 4000000
namespace Go.Proofs.YtfakljdleblkoaaGreat
open Go.Ideal Kd Canon
section
variable {P:Program} {B:List Nat} {w0:Wd} {kl kl':List OA} {F:List aK} {K:KO} {ds:List Tmp} {rest:List bT} {n:Nat} {l:List (Nat×Value)} {D:List Deferred} {pm:Option FrameMode} {ro:Option Nat} {d:Nat} {g:Option (Tmp×Bool)}
theorem AJ{x:Operand}{b:Nat}{cs:List Value}{v:Value}(j:Nat)
 (next:R (λh=>aG P ds rest (act n ((d,v)::l) D pm ro) h K) B w0 kl F)
 (hx:ev l x=.pointer (some ⟨b,0+j,none⟩):=by rfl) (hk:fA b 0 cs∈F:=by exact vF) (hv:jD cs j=some v:=by rfl) (hn:Nat.blt d n=true:=by rfl) (hg:bZ l g=true:=by rfl):
 R (λh=>aG P ds (⟨⟨some d,g,.gB x⟩,[]⟩::rest) (act n l D pm ro) h K) B w0 kl F:=(Hl hn hg hx hk hv).h next
end
theorem Vz{v:Value}{xs:List Int}(hl:xs.length<=1000000):aU Tryz.prog (.func 308) [v] [] [] [ai ae v xs] (λv':Value=>v') (λ_=>[]) (λv'=>[ai ae v' (bM xs)]) (λ_=>True):=by
 refine aH _ (aN 308) λB w0=>?_;refine go ?_;refine ax (Vk (xs:=xs) hl) (next:=λa _=>?_);refine go ?_;refine ax (Jh (a:=a) (zs:=xs) rfl (by omega)) (next:=λ_ _=>?_);refine bi (fQ (E:=ae) (v:=.slice a xs.length xs.length) (xs:=bM xs)) (h:=?_);refine go ?_;exact ah (.slice a xs.length xs.length) (hv:=rfl) (hp:=trivial)
theorem VA{va vb:Value}{a b:List Int}(ha:a.length<=1000000)(hb:b.length<=1000000):dL Tryz.prog 266 [va,vb] [ai ae va a,ai ae vb b] (.bool (iT a b)):=by
 have hsl:=yI a;refine aH _ (aN 266) λB w0=>?_;refine go ?_;refine ax (Vz (xs:=a) ha) (next:=λv1 _=>?_);refine go ?_;refine ax (Vz (xs:=b) hb) (next:=λv2 _=>?_);refine go ?_;refine ax (uH (xs:=bM a) (ys:=bM b) (by omega)) (next:=λ_ _=>?_);refine go ?_;exact ah () (hv:=rfl) (hp:=trivial)
theorem agB{va vb:Value}{a b:List Int}(ha:a.length<=1000000)(hb:b.length<=1000000):dL Tryz.prog 267 [va,vb] [ai ae va a,ai ae vb b] (.bool (qy a b)):=by
 have hrl:b.reverse.length=b.length:=FN;refine aH _ (aN 267) λB w0=>?_;refine go ?_;refine ax (Vk (xs:=b) hb) (next:=λc _=>?_);refine go ?_;refine ax (agf (a:=c) (xs:=b) hb) (next:=λ_ _=>?_);refine bi (A:=ap ae (.slice c b.length b.length) b.reverse) (fs:=[ai ae (.slice c b.length b.length) b.reverse]) fQ (h:=?_);refine go ?_;refine ax (uH (xs:=a) (ys:=b) (by omega)) (next:=λ_ _=>?_);refine go ?_;refine gG (λh1=>?_) (λh1=>?_)
 rotate_left
 ·refine go ?_;refine ah () (hv:=?_) (hp:=trivial);rw[I7.2 (.inl h1)];rfl
 refine go ?_;refine ax (uH (xs:=a) (ys:=b.reverse) (by omega)) (next:=λ_ _=>?_);refine go ?_;refine ah () (hv:=?_) (hp:=trivial);unfold qy;rw[aS h1,Bool.false_or];rfl
abbrev Oa(k:bS)(vh vs vr vc vu gh gc vn vl sc st:Value):List Value:=[.string k.decl.name,.int .i64 k.decl.version,.int .i64 k.decl.shape,.int .i64 k.decl.w,.int .i64 k.decl.h,vh,vs,vr,vc,vu,.int .i64 k.grid.shape,.int .i64 k.grid.w,.int .i64 k.grid.h,gh,gc,vn,vl,sc,st]
abbrev CE(k:bS)(s t:List Int)(vs vn vl sc st:Value):List aK:=[ai ae sc s,ai ae st t,ai eP vs k.decl.symbols,ai (ak ae) vn k.aD,ai (ak (ak ae)) vl k.lists]
theorem Ff{b:Nat}{vw:Value}{w:List Int}(hw:w.length<=1000000)(x:List Int)(hx:x.length<=1000000):E5 Tryz.prog (.func 307) [] [ptr' b] [fA b 0 [vw],ai ae vw w] (λx=>iT x w) x:=by
 intro v;rw[dX];refine aH _ (aN 307) λB w0=>?_;refine go ?_;refine ax (VA (a:=x) (b:=w) hx hw) (next:=λ_ _=>?_);refine go ?_;exact ah () (hv:=rfl) (hp:=trivial)
abbrev Js(P:Program)(fe:Fn)(eq:List Int->List Int->Bool):Prop:=∀(va vb:Value) (a b:List Int),a.length<=1000000->b.length<=1000000->aU P fe [va,vb] [] [] [ai ae va a,ai ae vb b] (λ_:Unit=>.bool (eq a b)) (λ_=>[]) (λ_=>[]) (λ_=>True)
structure y9(n:Nat)(k:bS)(s:List Int)(r:bA)(L:List (List Int)):Prop where
 f0:0<=r.family
 hL:k.lists[r.family.toNat]? =some L
 iK:oP n L r.family
 ps:di n s
 n0:0<n
 n1:n<=1000000
 len:L.length<=1000000
 lens:∀l∈L,l.length<=1000000
theorem xJ{L:List (List Int)}{s:List Int}{f:Int}{eq:List Int->List Int->Bool}{j:Nat}{l:List Int}(hl:L[j]? =some l)(h:mK L s f eq l j=false):iN L s f eq=false:=by
 cases e:iN L s f eq with
 |false=>rfl
 |true=>
  unfold iN at e;rw[lm]at e;have:=e j l hl;dsimp only at this;rw[h]at this;cases this
theorem xK{L:List (List Int)}{s:List Int}{f:Int}{eq:List Int->List Int->Bool}{j:Nat}{l:List Int}{i:Int}(hi:iM L s f (j:Int)=i)(h:mK L s f eq l j=true):0<=i/\iT (L.getD i.toNat []) (img s l)=true/\eq (L.getD i.toNat []) (img s l)=true:=by
 unfold mK at h;rw[hi,eB,eB,jX]at h;exact h
theorem Jt{L:List (List Int)}{s:List Int}{f:Int}{eq:List Int->List Int->Bool}{j m:Nat}{l l':List Int}(hi:iM L s f (j:Int)=(m:Int))(hl':L[m]? =some l')(h1:iT l' (img s l)=true)(h2:eq l' (img s l)=true):mK L s f eq l j=true:=by
 unfold mK;rw[hi,gy,gz hl',h1,h2];simp
theorem agC{L:List (List Int)}{w:List Int}(h:0<=pO L w):(pO L w).toNat<L.length:=by
 obtain⟨l,h1,_⟩:=I8 h;exact(bC.1 h1).1
theorem Ob{n:Nat}{k:bS}{s t:List Int}{r:bA}{L:List (List Int)}{eq:List Int->List Int->Bool}{fe:Fn}{vh vs vr vc vu gh gc vn vl sc st v1 v2:Value}(H:y9 n k s r L)(he:Js Tryz.prog fe eq):
 aU Tryz.prog (.func 265) [.agg ⟨Oa k vh vs vr vc vu gh gc vn vl sc st⟩,.agg ⟨jI r v1 v2⟩,.func fe ⟨[]⟩ ⟨[]⟩] [] [] (CE k s t vs vn vl sc st) (λ_:Unit=>.bool (iN L s r.family eq)) (λ_=>[]) (λ_=>[]) (λ_=>True):=by
 have hsl:=H.ps.len;have hn0:=H.n0;have hn1:=H.n1;have hll:=H.len;have pW:=H.lens;obtain⟨rn,ro,rk,rf,cB,cK,Ju,Jv,gL,gM,gN,gP⟩:=r;have hf0:0<=rf:=H.f0;obtain⟨f,rfl⟩:=iO hf0;have za:k.lists[f]? =some L:=by have:=H.hL;rwa [gy]at this
 refine aH _ (aN 265) λB w0=>?_;refine aT (E:=ae) (v:=sc) (xs:=s) (by simp) λOc Od esc=>?_;subst esc;refine go ?_;intro b3 b4;refine bi (dR (b:=b3)) (h:=?_);refine bi (dR (b:=b4)) (h:=?_);have hfl:=(bC.1 za).1;refine go ?_;refine bq (ak (ak ae)) (xs:=k.lists) (next:=λ_ _ L2 (vL:Value) hL2=>?_);rw[za]at hL2;obtain rfl:L=L2:=Option.some.inj hL2;refine aT (E:=ak ae) (v:=vL) (xs:=L) (by simp) λaL cL eL=>?_;subst eL;generalize hrf:(f:Int)=rf at *;refine go ?_;refine aW (λj:Nat=>L.length - j) (λj=>[(24,.int .i64 (j:Int))]) (λ_=>[]) (λ_=>[]) (λj=>j<=L.length/\∀i',i'<j->∀x,L[i']? =some x->mK L s rf eq x i'=true) 0 ⟨bQ _,λi' h=>absurd h (A9 _)⟩ (body:=?_);rintro j ⟨hj,hall⟩;refine go ?_;refine az rfl (λh1=>?_) (λh1=>?_)
 ·refine go ?_;refine bq (ak ae) (xs:=L) (next:=λ_ _ l (y8:Value) hl=>?_);have hlm:=aP hl;have hlr:=H.iK.eH l hlm;have hlen:=pW l hlm;have hil:(img s l).length=l.length:=EO s l;refine aT (E:=ae) (v:=y8) (xs:=l) (by simp) λal cl el=>?_;subst el;refine go ?_;refine Mh l.length ⟨by omega,by omega,by omega⟩ λbw=>?_;rw[agr];refine go ?_;intro b10;refine go ?_;refine aW (λi:Nat=>l.length - i) (λi=>[(34,.int .i64 (i:Int))]) (λi=>[pt bw (.cells ((rQ (img s (l.take i)) l.length).map (.int .i64))),pt b10 (.cells [.slice (some ⟨bw,0,some 0⟩) l.length l.length])]) (λ_=>[]) (λi=>i<=l.length) 0 (bQ _) (hk:=by repeat (first|exact aI.nil|(apply aI.cons;(focus (repeat (first|exact ay.here|apply ay.there)))))) (body:=?_);intro i hi;have hcl:(img s (l.take i)).length=i:=by rw[EO,ig];omega
  refine go ?_;refine az rfl (λh2=>?_) (λh2=>?_)
  ·refine go ?_;intro _ _ x hx;have oQ:=hlr x (aP hx);obtain⟨m,rfl⟩:=iO oQ.1;refine go ?_;refine AJ 17 ?_;refine go ?_;intro _ _ z hz;have hzg:=l6 hz;have htk:img s (l.take (i+1))=img s (l.take i)++[z]:=by
    unfold img;rw[bU hx,fD,r9,hzg]
   refine go ?_;refine rz (b:=bw) (o:=0+i*1) (cs:=(rQ (img s (l.take i)) l.length).map (.int .i64)) (v:=.int .i64 z) (cs':=(rQ (img s (l.take (i+1))) l.length).map (.int .i64)) (by rw[fC,uV,<- List.map_set,agn hcl.symm (by omega),htk]) (by rw[cz,agm (by omega)];omega) ?_;refine go ?_;exact aM (i+1) (by show l.length - (i+1)<l.length - i;omega) (by show i+1<=_;omega)
  have hie:i=l.length:=by omega
  subst hie;rw[bJ]at hcl⊢;rw[agp hcl];refine bi (A:=pt bw (.cells ((img s l).map (.int .i64)))) (fs:=[ai ae (.slice (some ⟨bw,0,some 0⟩) l.length l.length) (img s l)]) (by have:=D7 (b:=bw) (f:=0) (c:=l.length) (xs:=img s l) (hc:=by rw[hil];exact bV _);rw[hil]at this;exact this) (h:=?_);refine bi (dR (b:=b10)) (h:=?_);refine go ?_;refine AJ 17 ?_;refine go ?_;intro _ _ z0 hz0;refine go ?_;refine az rfl (λc0=>?_) (λc0=>?_)
  ·refine go ?_;refine az rfl (λ_=>?_) (λh=>absurd c0 h);dsimp only at c0;have hjs:j<s.length:=by
    have:=H.iK.len (by unfold iR;simp[c0]);omega
   refine go ?_;refine AJ 17 ?_;refine go ?_;intro _ _ i hi;have hig:=l6 hi;have lq:iM L s rf (j:Int)=i:=by unfold iM;rw[if_pos (by unfold iR;simp[c0])];exact hig
   have hi0:0<=i:=(H.ps.eH i (aP hi)).1;have CF:i<(L.length:Int):=by
    have h1:=(H.ps.eH i (aP hi)).2;have h2:=H.iK.len (by unfold iR;simp[c0]);omega
   obtain⟨m,rfl⟩:=iO hi0;refine go ?_;refine bq (ak ae) (xs:=L) (next:=λ_ _ l' (nP:Value) hl'=>?_);have pX:=pW l' (aP hl');refine go ?_;refine ax (Ff (b:=b10) (vw:=.slice (some ⟨bw,0,some 0⟩) l.length l.length) (w:=img s l) (by rw[hil];omega) l' pX nP) (next:=λ_ _=>?_);dsimp only;cases e1:iT l' (img s l)with
   |false=>
    refine go ?_;refine ah () (hv:=?_) (hp:=trivial);rw[xJ hl (by
     cases e:mK L s rf eq l j with
     |false=>rfl
     |true=>
      have:=(xK lq e).2.1;rw[gy,gz hl',e1]at this;cases this)];rfl
   |true=>
   refine go ?_;refine bq (ak ae) (xs:=L) (next:=λ_ _ l'' (nP:Value) uN=>?_);rw[hl']at uN;obtain rfl:l'=l'':=Option.some.inj uN;refine go ?_;refine ax (he nP (.slice (some ⟨bw,0,some 0⟩) l.length l.length) l' (img s l) pX (by rw[hil];omega)) (next:=λ_ _=>?_);cases e2:eq l' (img s l)with
   |false=>
    refine go ?_;refine ah () (hv:=?_) (hp:=trivial);rw[xJ hl (by
     cases e:mK L s rf eq l j with
     |false=>rfl
     |true=>
      have:=(xK lq e).2.2;rw[gy,gz hl',e2]at this;cases this)];rfl
   |true=>
    refine go ?_;exact aM (j+1) (by show L.length - (j+1)<L.length - j;omega) ⟨by omega,λi' hi' x hx=>(by
     by_cases e:i'=j
     ·subst e;rw[hl]at hx;cases hx;exact Jt lq hl' e1 e2
     ·exact hall i' (by omega) x hx)⟩
  refine go ?_;refine az rfl (λc4=>?_) (λc4=>?_)
  ·refine go ?_;refine az rfl (λ_=>?_) (λh=>absurd c4 h);dsimp only at c4;have hjs:j<s.length:=by
    have:=H.iK.len (by unfold iR;simp[c4]);omega
   refine go ?_;refine AJ 17 ?_;refine go ?_;intro _ _ i hi;have hig:=l6 hi;have lq:iM L s rf (j:Int)=i:=by unfold iM;rw[if_pos (by unfold iR;simp[c4])];exact hig
   have hi0:0<=i:=(H.ps.eH i (aP hi)).1;have CF:i<(L.length:Int):=by
    have h1:=(H.ps.eH i (aP hi)).2;have h2:=H.iK.len (by unfold iR;simp[c4]);omega
   obtain⟨m,rfl⟩:=iO hi0;refine go ?_;refine bq (ak ae) (xs:=L) (next:=λ_ _ l' (nP:Value) hl'=>?_);have pX:=pW l' (aP hl');refine go ?_;refine ax (Ff (b:=b10) (vw:=.slice (some ⟨bw,0,some 0⟩) l.length l.length) (w:=img s l) (by rw[hil];omega) l' pX nP) (next:=λ_ _=>?_);dsimp only;cases e1:iT l' (img s l)with
   |false=>
    refine go ?_;refine ah () (hv:=?_) (hp:=trivial);rw[xJ hl (by
     cases e:mK L s rf eq l j with
     |false=>rfl
     |true=>
      have:=(xK lq e).2.1;rw[gy,gz hl',e1]at this;cases this)];rfl
   |true=>
   refine go ?_;refine bq (ak ae) (xs:=L) (next:=λ_ _ l'' (nP:Value) uN=>?_);rw[hl']at uN;obtain rfl:l'=l'':=Option.some.inj uN;refine go ?_;refine ax (he nP (.slice (some ⟨bw,0,some 0⟩) l.length l.length) l' (img s l) pX (by rw[hil];omega)) (next:=λ_ _=>?_);cases e2:eq l' (img s l)with
   |false=>
    refine go ?_;refine ah () (hv:=?_) (hp:=trivial);rw[xJ hl (by
     cases e:mK L s rf eq l j with
     |false=>rfl
     |true=>
      have:=(xK lq e).2.2;rw[gy,gz hl',e2]at this;cases this)];rfl
   |true=>
    refine go ?_;exact aM (j+1) (by show L.length - (j+1)<L.length - j;omega) ⟨by omega,λi' hi' x hx=>(by
     by_cases e:i'=j
     ·subst e;rw[hl]at hx;cases hx;exact Jt lq hl' e1 e2
     ·exact hall i' (by omega) x hx)⟩
  refine go ?_;refine az rfl (λc5=>?_) (λc5=>?_)
  ·dsimp only at c5;have hjs:j<s.length:=by
    have:=H.iK.len (by unfold iR;simp[c5]);omega
   refine go ?_;refine AJ 17 ?_;refine go ?_;intro _ _ i hi;have hig:=l6 hi;have lq:iM L s rf (j:Int)=i:=by unfold iM;rw[if_pos (by unfold iR;simp[c5])];exact hig
   have hi0:0<=i:=(H.ps.eH i (aP hi)).1;have CF:i<(L.length:Int):=by
    have h1:=(H.ps.eH i (aP hi)).2;have h2:=H.iK.len (by unfold iR;simp[c5]);omega
   obtain⟨m,rfl⟩:=iO hi0;refine go ?_;refine bq (ak ae) (xs:=L) (next:=λ_ _ l' (nP:Value) hl'=>?_);have pX:=pW l' (aP hl');refine go ?_;refine ax (Ff (b:=b10) (vw:=.slice (some ⟨bw,0,some 0⟩) l.length l.length) (w:=img s l) (by rw[hil];omega) l' pX nP) (next:=λ_ _=>?_);dsimp only;cases e1:iT l' (img s l)with
   |false=>
    refine go ?_;refine ah () (hv:=?_) (hp:=trivial);rw[xJ hl (by
     cases e:mK L s rf eq l j with
     |false=>rfl
     |true=>
      have:=(xK lq e).2.1;rw[gy,gz hl',e1]at this;cases this)];rfl
   |true=>
   refine go ?_;refine bq (ak ae) (xs:=L) (next:=λ_ _ l'' (nP:Value) uN=>?_);rw[hl']at uN;obtain rfl:l'=l'':=Option.some.inj uN;refine go ?_;refine ax (he nP (.slice (some ⟨bw,0,some 0⟩) l.length l.length) l' (img s l) pX (by rw[hil];omega)) (next:=λ_ _=>?_);cases e2:eq l' (img s l)with
   |false=>
    refine go ?_;refine ah () (hv:=?_) (hp:=trivial);rw[xJ hl (by
     cases e:mK L s rf eq l j with
     |false=>rfl
     |true=>
      have:=(xK lq e).2.2;rw[gy,gz hl',e2]at this;cases this)];rfl
   |true=>
    refine go ?_;exact aM (j+1) (by show L.length - (j+1)<L.length - j;omega) ⟨by omega,λi' hi' x hx=>(by
     by_cases e:i'=j
     ·subst e;rw[hl]at hx;cases hx;exact Jt lq hl' e1 e2
     ·exact hall i' (by omega) x hx)⟩
  dsimp only at c0 c4 c5;refine go ?_;refine ax (agh (fn:=.func 307) (first:=[]) (cap:=[ptr' b10]) (F1:=[fA b10 0 [.slice (some ⟨bw,0,some 0⟩) l.length l.length],ai ae (.slice (some ⟨bw,0,some 0⟩) l.length l.length) (img s l)]) (p:=λx=>iT x (img s l)) (va:=.slice aL L.length cL) (xs:=L) (by omega) (λx hx=>Ff (by rw[hil];omega) x (pW x hx))) (next:=λ_ _=>?_);have lq:iM L s rf (j:Int)=oV (λx=>iT x (img s l)) L:=by
   unfold iM;rw[if_neg (by unfold iR;simp[c0,c4,c5]),gy,gz hl];exact(NW L (img s l)).symm
  have hlt:0<=oV (λx=>iT x (img s l)) L->oV (λx=>iT x (img s l)) L<(L.length:Int):=λh=>by
   have:=agC (L:=L) (w:=img s l) h;have e:oV (λx=>iT x (img s l)) L=pO L (img s l):=NW L (img s l);omega
  generalize oV (λx=>iT x (img s l)) L=i at lq hlt⊢;by_cases hi0:0<=i
  ·have CF:=hlt hi0;obtain⟨m,rfl⟩:=iO hi0;refine go ?_;refine bq (ak ae) (xs:=L) (next:=λ_ _ l' (nP:Value) hl'=>?_);have pX:=pW l' (aP hl');refine go ?_;refine ax (Ff (b:=b10) (vw:=.slice (some ⟨bw,0,some 0⟩) l.length l.length) (w:=img s l) (by rw[hil];omega) l' pX nP) (next:=λ_ _=>?_);dsimp only;cases e1:iT l' (img s l)with
   |false=>
    refine go ?_;refine ah () (hv:=?_) (hp:=trivial);rw[xJ hl (by
     cases e:mK L s rf eq l j with
     |false=>rfl
     |true=>
      have:=(xK lq e).2.1;rw[gy,gz hl',e1]at this;cases this)];rfl
   |true=>
   refine go ?_;refine bq (ak ae) (xs:=L) (next:=λ_ _ l'' (nP:Value) uN=>?_);rw[hl']at uN;obtain rfl:l'=l'':=Option.some.inj uN;refine go ?_;refine ax (he nP (.slice (some ⟨bw,0,some 0⟩) l.length l.length) l' (img s l) pX (by rw[hil];omega)) (next:=λ_ _=>?_);cases e2:eq l' (img s l)with
   |false=>
    refine go ?_;refine ah () (hv:=?_) (hp:=trivial);rw[xJ hl (by
     cases e:mK L s rf eq l j with
     |false=>rfl
     |true=>
      have:=(xK lq e).2.2;rw[gy,gz hl',e2]at this;cases this)];rfl
   |true=>
    refine go ?_;exact aM (j+1) (by show L.length - (j+1)<L.length - j;omega) ⟨by omega,λi' hi' x hx=>(by
     by_cases e:i'=j
     ·subst e;rw[hl]at hx;cases hx;exact Jt lq hl' e1 e2
     ·exact hall i' (by omega) x hx)⟩
  ·refine go ?_;refine gG (λhneg=>?_) (λhneg=>?_)
   ·exact absurd hneg (by omega)
   refine go ?_;refine ah () (hv:=?_) (hp:=trivial);rw[xJ hl (by
    cases e:mK L s rf eq l j with
    |false=>rfl
    |true=>exact absurd (xK lq e).1 hi0)];rfl
 have gV:j=L.length:=by omega
 subst gV;refine go ?_;refine ah () (hv:=?_) (hp:=trivial);have:iN L s rf eq=true:=by
  unfold iN;rw[lm];exact λi x hx=>hall i (bC.1 hx).1 x hx
 rw[this];rfl
abbrev AL(P:Program)(fn:Fn)(k:bS)(s t:List Int)(r:bA)(vh vs vr vc vu gh gc vn vl sc st v1 v2:Value)(c:Bool):Prop:=
 aU P fn [.agg ⟨Oa k vh vs vr vc vu gh gc vn vl sc st⟩,.agg ⟨jI r v1 v2⟩] [] [] (CE k s t vs vn vl sc st) (λ_:Unit=>.bool c) (λ_=>[]) (λ_=>[]) (λ_=>True)
section
variable {n:Nat} {k:bS} {s t:List Int} {r:bA} {L:List (List Int)} {vh vs vr vc vu gh gc vn vl sc st v1 v2:Value}
theorem agD(H:y9 n k s r L):AL Tryz.prog (.func 186) k s t r vh vs vr vc vu gh gc vn vl sc st v1 v2 (iN L s r.family iT):=by
 have he:Js Tryz.prog (.func 266) iT:=λva vb a b ha hb=>VA ha hb;refine aH _ (aN 186) λB w0=>?_;refine go ?_;intro b2 b3;refine go ?_;refine ax (Ob (t:=t) (eq:=iT) (sc:=sc) (st:=st) (v1:=v1) (v2:=v2) H he) (next:=λ_ _=>?_);refine go ?_;exact ah () (hv:=rfl) (hp:=trivial)
theorem agE(H:y9 n k s r L):AL Tryz.prog (.func 188) k s t r vh vs vr vc vu gh gc vn vl sc st v1 v2 (iN L s r.family rF):=by
 have he:Js Tryz.prog (.func 73) rF:=λva vb a b ha hb=>uH (by omega);refine aH _ (aN 188) λB w0=>?_;refine go ?_;intro b2 b3;refine go ?_;refine ax (Ob (t:=t) (eq:=rF) (sc:=sc) (st:=st) (v1:=v1) (v2:=v2) H he) (next:=λ_ _=>?_);refine go ?_;exact ah () (hv:=rfl) (hp:=trivial)
theorem agF(H:y9 n k s r L):AL Tryz.prog (.func 189) k s t r vh vs vr vc vu gh gc vn vl sc st v1 v2 (iN L s r.family qy):=by
 have he:Js Tryz.prog (.func 267) qy:=λva vb a b ha hb=>agB ha hb;refine aH _ (aN 189) λB w0=>?_;refine go ?_;intro b2 b3;refine go ?_;refine ax (Ob (t:=t) (eq:=qy) (sc:=sc) (st:=st) (v1:=v1) (v2:=v2) H he) (next:=λ_ _=>?_);refine go ?_;exact ah () (hv:=rfl) (hp:=trivial)
end
