/-
  Part LibOW.
-/
import Derived.Test.YtfakljdleblkoaaGreatLibMW
import Derived.Test.YtfakljdleblkoaaGreatLibNW
set_option linter.all false
set_option maxRecDepth 10000
set_option maxHeartbeats 4000000
namespace Go.Proofs.YtfakljdleblkoaaGreat
open Go.Ideal Kd Canon
section
variable {P:Program} {B:List Nat} {w0:Wd} {kl kl':List OA} {F:List aK} {K:KO} {ds:List Tmp} {rest:List bT} {n:Nat} {l:List (Nat×Value)} {D:List Deferred} {pm:Option FrameMode} {ro:Option Nat} {d:Nat} {g:Option (Tmp×Bool)}
theorem AJ{x:Operand}{b:Nat}{cs:List Value}{v:Value}(j:Nat)
 (next:R (λh=>aG P ds rest (act n ((d,v)::l) D pm ro) h K) B w0 kl F)
 (hx:ev l x=.pointer (some ⟨b,0+j,none⟩):=by rfl) (hk:fA b 0 cs∈F:=by exact vF) (hv:jD cs j=some v:=by rfl) (hn:Nat.blt d n=true:=by rfl) (hg:bZ l g=true:=by rfl):
 R (λh=>aG P ds (⟨⟨some d,g,.gB x⟩,[]⟩::rest) (act n l D pm ro) h K) B w0 kl F:=(Hl hn hg hx hk hv).h next
end
theorem Vz{v:Value}{xs:List Int}(hl:xs.length<=1000000):aU Tryz.prog (.func 308) [v] [] [] [ai ae v xs] (λv':Value=>v') (λ_=>[]) (λv'=>[ai ae v' (bM xs)]) (λ_=>True):=by
 refine aH _ (aN 308) λB w0=>?_;refine go ?_;refine ax (Vk (xs:=xs) hl) (next:=λa _=>?_);refine go ?_;refine ax (Jh (a:=a) (zs:=xs) rfl vj) (next:=λ_ _=>?_);refine bi (fQ (E:=ae) (v:=.slice a xs.length xs.length) (xs:=bM xs)) (h:=?_);refine go ?_;exact ah (.slice a xs.length xs.length) (hv:=rfl) (hp:=trivial)
variable{a b:List Int}{va vb:Value}
theorem VA(ha:a.length<=1000000)(hb:b.length<=1000000):dL Tryz.prog 266 [va,vb] [ai ae va a,ai ae vb b] (.bool (iT a b)):=by
 have hsl:=yI a;refine aH _ (aN 266) λB w0=>?_;refine go ?_;refine ax (Vz (xs:=a) ha) (next:=λv1 _=>?_);refine go ?_;refine ax (Vz (xs:=b) hb) (next:=λv2 _=>?_);refine go ?_;refine ax (uH (xs:=bM a) (ys:=bM b) vj) (next:=λ_ _=>?_);refine go ?_;exact ah () (hv:=rfl) (hp:=trivial)
theorem agB(ha:a.length<=1000000)(hb:b.length<=1000000):dL Tryz.prog 267 [va,vb] [ai ae va a,ai ae vb b] (.bool (qy a b)):=by
 have hrl:b.reverse.length=b.length:=FN;refine aH _ (aN 267) λB w0=>?_;refine go ?_;refine ax (Vk (xs:=b) hb) (next:=λc _=>?_);refine go ?_;refine ax (agf (a:=c) (xs:=b) hb) (next:=λ_ _=>?_);refine bi (A:=ap ae (.slice c b.length b.length) b.reverse) (fs:=[ai ae (.slice c b.length b.length) b.reverse]) fQ (h:=?_);refine go ?_;refine ax (uH (xs:=a) (ys:=b) vj) (next:=λ_ _=>?_);refine go ?_;refine gG (λh1=>?_) (λh1=>?_)
 rotate_left
 ·refine go ?_;refine ah () (hv:=?_) (hp:=trivial);rw[I7.2 (.inl h1)];rfl
 refine go ?_;refine ax (uH (xs:=a) (ys:=b.reverse) vj) (next:=λ_ _=>?_);refine go ?_;refine ah () (hv:=?_) (hp:=trivial);unfold qy;rw[aS h1,Bool.false_or];rfl
abbrev Oa(k:bS)(vh vs vr vc vu gh gc vn vl sc st:Value):List Value:=[.string k.decl.name,.int .i64 k.decl.version,.int .i64 k.decl.shape,.int .i64 k.decl.w,.int .i64 k.decl.h,vh,vs,vr,vc,vu,.int .i64 k.grid.shape,.int .i64 k.grid.w,.int .i64 k.grid.h,gh,gc,vn,vl,sc,st]
abbrev ckF(k:bS)(s t:List Int)(vs vn vl sc st:Value):List aK:=[ai ae sc s,ai ae st t,ai eP vs k.decl.symbols,ai (ak ae) vn k.aD,ai (ak (ak ae)) vl k.lists]
variable{w:List Int}
theorem Ff{b:Nat}{vw:Value}(hw:w.length<=1000000)(x:List Int)(hx:x.length<=1000000):E5 Tryz.prog (.func 307) [] [ptr' b] [fA b 0 [vw],ai ae vw w] (λx=>iT x w) x:=by
 intro v;rw[dX];refine aH _ (aN 307) λB w0=>?_;refine go ?_;refine ax (VA (a:=x) (b:=w) hx hw) (next:=λ_ _=>?_);refine go ?_;exact ah () (hv:=rfl) (hp:=trivial)
abbrev Js(P:Program)(fe:Fn)(eq:List Int->List Int->Bool):Prop:=∀(va vb:Value) (a b:List Int),a.length<=1000000->b.length<=1000000->aU P fe [va,vb] [] [] [ai ae va a,ai ae vb b] (λ_:Unit=>.bool (eq a b)) (λ_=>[]) (λ_=>[]) (λ_=>True)
structure y9(n:Nat)(k:bS)(s:List Int)(r:bA)(L:List (List Int)):Prop where
 f0:0<=r.family
 hL:k.lists[r.family.toNat]? =some L
 iK:oP n L r.family
 ps:di n s
 n0:0<n
 n1:n<=1000000
 len:L.length<=1000000
 lens:∀l∈L,l.length<=1000000
variable{L:List (List Int)}{s l:List Int}{eq:List Int->List Int->Bool}{f:Int}{j:Nat}
theorem xJ(hl:L[j]? =some l)(h:mK L s f eq l j=false):iN L s f eq=false:=by
 cases e:iN L s f eq with
 |false=>rfl
 |true=>
  unfold iN at e;exact tr
theorem xK{i:Int}(hi:iM L s f (j:Int)=i)(h:mK L s f eq l j=true):0<=i/\iT (L.getD i.toNat []) (img s l)=true/\eq (L.getD i.toNat []) (img s l)=true:=by
 unfold mK at h;rw[hi,eB,eB,jX]at h;exact h
theorem Jt{m:Nat}{l':List Int}(hi:iM L s f (j:Int)=(m:Int))(hl':L[m]? =some l')(h1:iT l' (img s l)=true)(h2:eq l' (img s l)=true):mK L s f eq l j=true:=by
 unfold mK;rw[hi,gy,gz hl',h1,h2];simp
theorem agC(h:0<=pO L w):(pO L w).toNat<L.length:=by
 obtain⟨l,h1,_⟩:=I8 h;exact(bC.1 h1).1
theorem Ob{n:Nat}{k:bS}{t:List Int}{r:bA}{fe:Fn}{vh vs vr vc vu gh gc vn vl sc st v1 v2:Value}(H:y9 n k s r L)(he:Js Tryz.prog fe eq):
 aU Tryz.prog (.func 265) [.agg ⟨Oa k vh vs vr vc vu gh gc vn vl sc st⟩,.agg ⟨jI r v1 v2⟩,.func fe ⟨[]⟩ ⟨[]⟩] [] [] (ckF k s t vs vn vl sc st) (λ_:Unit=>.bool (iN L s r.family eq)) (λ_=>[]) (λ_=>[]) (λ_=>True):=by
 have hsl:=H.ps.len;have hn0:=H.n0;have hn1:=H.n1;have hll:=H.len;have pW:=H.lens;obtain⟨rn,ro,rk,rf,cB,cK,Ju,Jv,gL,gM,gN,gP⟩:=r;have hf0:0<=rf:=H.f0;obtain⟨f,rfl⟩:=iO hf0;have za:k.lists[f]? =some L:=by have:=H.hL;rwa [gy]at this
 refine aH _ (aN 265) λB w0=>?_;refine aT (E:=ae) (v:=sc) (xs:=s) vm λOc Od esc=>?_;subst esc;refine go ?_;intro b3 b4;refine bi (dR (b:=b3)) (h:=?_);refine bi (dR (b:=b4)) (h:=?_);have hfl:=(bC.1 za).1;refine go ?_;refine bq (ak (ak ae)) (xs:=k.lists) (next:=λ_ _ L2 (vL:Value) hL2=>?_);rw[za]at hL2;obtain rfl:L=L2:=Option.some.inj hL2;refine aT (E:=ak ae) (v:=vL) (xs:=L) vm λaL cL eL=>?_;subst eL;generalize hrf:(f:Int)=rf at *;refine go ?_;refine aW (λj:Nat=>L.length - j) (λj=>[(24,.int .i64 (j:Int))]) (λ_=>[]) (λ_=>[]) (λj=>j<=L.length/\∀i',i'<j->∀x,L[i']? =some x->mK L s rf eq x i'=true) 0 ⟨bQ _,λi' h=>absurd h (A9 _)⟩ (body:=?_);rintro j ⟨hj,hall⟩;refine go ?_;refine az rfl (λh1=>?_) (λh1=>?_)
 ·refine go ?_;refine bq (ak ae) (xs:=L) (next:=λ_ _ l (y8:Value) hl=>?_);have hlm:=aP hl;have hlr:=H.iK.eH l hlm;have hlen:=pW l hlm;have hil:(img s l).length=l.length:=EO s l;refine aT (E:=ae) (v:=y8) (xs:=l) vm λal cl el=>?_;subst el;refine go ?_;refine Mh l.length ⟨vj,vj,vj⟩ λbw=>?_;rw[agr];refine go ?_;intro b10;refine go ?_;refine aW (λi:Nat=>l.length - i) (λi=>[(34,.int .i64 (i:Int))]) (λi=>[pt bw (.cells ((rQ (img s (l.take i)) l.length).map (.int .i64))),pt b10 (.cells [.slice (some ⟨bw,0,some 0⟩) l.length l.length])]) (λ_=>[]) (λi=>i<=l.length) 0 (bQ _) (hk:=we) (body:=?_);intro i hi;have hcl:(img s (l.take i)).length=i:=by rw[EO,ig];omega
  refine go ?_;refine az rfl (λh2=>?_) (λh2=>?_)
  ·refine go ?_;intro _ _ x hx;have oQ:=hlr x (aP hx);obtain⟨m,rfl⟩:=iO oQ.1;refine go ?_;refine AJ 17 ?_;refine go ?_;intro _ _ z hz;have hzg:=l6 hz;have htk:img s (l.take (i+1))=img s (l.take i)++[z]:=by
    unfold img;rw[bU hx,fD,r9,hzg]
   refine go ?_;refine rz (b:=bw) (o:=0+i*1) (cs:=(rQ (img s (l.take i)) l.length).map (.int .i64)) (v:=.int .i64 z) (cs':=(rQ (img s (l.take (i+1))) l.length).map (.int .i64)) (by rw[fC,uV,<- List.map_set,agn hcl.symm vj,htk]) (by rw[cz,agm vj];omega) ?_;refine go ?_;exact aM (i+1) C5 xf
  have hie:i=l.length:=vj
  subst hie;rw[bJ]at hcl⊢;rw[agp hcl];refine bi (A:=pt bw (.cells ((img s l).map (.int .i64)))) (fs:=[ai ae (.slice (some ⟨bw,0,some 0⟩) l.length l.length) (img s l)]) (by have:=D7 (b:=bw) (f:=0) (c:=l.length) (xs:=img s l) (hc:=by rw[hil];exact bV _);rw[hil]at this;exact this) (h:=?_);refine bi (dR (b:=b10)) (h:=?_);refine go ?_;refine AJ 17 ?_;refine go ?_;intro _ _ z0 hz0;refine go ?_;refine az rfl (λc0=>?_) (λc0=>?_)
  ·refine go ?_;refine az rfl (λ_=>?_) (λh=>absurd c0 h);dsimp only at c0;have hjs:j<s.length:=by
    have:=H.iK.len AK;omega
   refine go ?_;refine AJ 17 ?_;refine go ?_;intro _ _ i hi;have hig:=l6 hi;have lq:iM L s rf (j:Int)=i:=by unfold iM;rw[if_pos AK];exact hig
   have hi0:0<=i:=(H.ps.eH i (aP hi)).1;have CF:i<(L.length:Int):=by
    have h1:=(H.ps.eH i (aP hi)).2;have h2:=H.iK.len AK;omega
   exact bh
  refine go ?_;refine az rfl (λc4=>?_) (λc4=>?_)
  ·refine go ?_;refine az rfl (λ_=>?_) (λh=>absurd c4 h);dsimp only at c4;have hjs:j<s.length:=by
    have:=H.iK.len AM;omega
   refine go ?_;refine AJ 17 ?_;refine go ?_;intro _ _ i hi;have hig:=l6 hi;have lq:iM L s rf (j:Int)=i:=by unfold iM;rw[if_pos AM];exact hig
   have hi0:0<=i:=(H.ps.eH i (aP hi)).1;have CF:i<(L.length:Int):=by
    have h1:=(H.ps.eH i (aP hi)).2;have h2:=H.iK.len AM;omega
   exact bh
  refine go ?_;refine az rfl (λc5=>?_) (λc5=>?_)
  ·dsimp only at c5;have hjs:j<s.length:=by
    have:=H.iK.len AN;omega
   refine go ?_;refine AJ 17 ?_;refine go ?_;intro _ _ i hi;have hig:=l6 hi;have lq:iM L s rf (j:Int)=i:=by unfold iM;rw[if_pos AN];exact hig
   have hi0:0<=i:=(H.ps.eH i (aP hi)).1;have CF:i<(L.length:Int):=by
    have h1:=(H.ps.eH i (aP hi)).2;have h2:=H.iK.len AN;omega
   exact bh
  dsimp only at c0 c4 c5;refine go ?_;refine ax (agh (fn:=.func 307) (first:=[]) (cap:=[ptr' b10]) (F1:=[fA b10 0 [.slice (some ⟨bw,0,some 0⟩) l.length l.length],ai ae (.slice (some ⟨bw,0,some 0⟩) l.length l.length) (img s l)]) (p:=λx=>iT x (img s l)) (va:=.slice aL L.length cL) (xs:=L) vj (λx hx=>Ff AS x (pW x hx))) (next:=λ_ _=>?_);have lq:iM L s rf (j:Int)=oV (λx=>iT x (img s l)) L:=by
   unfold iM;rw[if_neg (by unfold iR;simp[c0,c4,c5]),gy,gz hl];exact(NW L (img s l)).symm
  have hlt:0<=oV (λx=>iT x (img s l)) L->oV (λx=>iT x (img s l)) L<(L.length:Int):=λh=>by
   have:=agC (L:=L) (w:=img s l) h;have e:oV (λx=>iT x (img s l)) L=pO L (img s l):=NW L (img s l);omega
  generalize oV (λx=>iT x (img s l)) L=i at lq hlt⊢;by_cases hi0:0<=i
  ·have CF:=hlt hi0;exact bh
  ·refine go ?_;refine gG (λhneg=>?_) (λhneg=>?_)
   ·exact absurd hneg vj
   refine go ?_;refine ah () (hv:=?_) (hp:=trivial);rw[xJ hl (by
    cases e:mK L s rf eq l j with
    |false=>rfl
    |true=>exact absurd (xK lq e).1 hi0)];rfl
 have gV:j=L.length:=vj
 subst gV;refine go ?_;refine ah () (hv:=?_) (hp:=trivial);have:iN L s rf eq=true:=by
  unfold iN;rw[lm];exact λi x hx=>hall i (bC.1 hx).1 x hx
 rw[this];rfl
abbrev AL(P:Program)(fn:Fn)(k:bS)(s t:List Int)(r:bA)(vh vs vr vc vu gh gc vn vl sc st v1 v2:Value)(c:Bool):Prop:=
 aU P fn [.agg ⟨Oa k vh vs vr vc vu gh gc vn vl sc st⟩,.agg ⟨jI r v1 v2⟩] [] [] (ckF k s t vs vn vl sc st) (λ_:Unit=>.bool c) (λ_=>[]) (λ_=>[]) (λ_=>True)
section
variable {n:Nat} {k:bS} {s t:List Int} {r:bA} {L:List (List Int)} {vh vs vr vc vu gh gc vn vl sc st v1 v2:Value}
theorem agD(H:y9 n k s r L):AL Tryz.prog (.func 186) k s t r vh vs vr vc vu gh gc vn vl sc st v1 v2 (iN L s r.family iT):=by
 have he:Js Tryz.prog (.func 266) iT:=λva vb a b ha hb=>VA ha hb;refine aH _ (aN 186) λB w0=>?_;refine go ?_;intro b2 b3;refine go ?_;refine ax (Ob (t:=t) (eq:=iT) (sc:=sc) (st:=st) (v1:=v1) (v2:=v2) H he) (next:=λ_ _=>?_);refine go ?_;exact ah () (hv:=rfl) (hp:=trivial)
theorem agE(H:y9 n k s r L):AL Tryz.prog (.func 188) k s t r vh vs vr vc vu gh gc vn vl sc st v1 v2 (iN L s r.family rF):=by
 have he:Js Tryz.prog (.func 73) rF:=λva vb a b ha hb=>uH vj;refine aH _ (aN 188) λB w0=>?_;refine go ?_;intro b2 b3;refine go ?_;refine ax (Ob (t:=t) (eq:=rF) (sc:=sc) (st:=st) (v1:=v1) (v2:=v2) H he) (next:=λ_ _=>?_);refine go ?_;exact ah () (hv:=rfl) (hp:=trivial)
theorem agF(H:y9 n k s r L):AL Tryz.prog (.func 189) k s t r vh vs vr vc vu gh gc vn vl sc st v1 v2 (iN L s r.family qy):=by
 have he:Js Tryz.prog (.func 267) qy:=λva vb a b ha hb=>agB ha hb;refine aH _ (aN 189) λB w0=>?_;refine go ?_;intro b2 b3;refine go ?_;refine ax (Ob (t:=t) (eq:=qy) (sc:=sc) (st:=st) (v1:=v1) (v2:=v2) H he) (next:=λ_ _=>?_);refine go ?_;exact ah () (hv:=rfl) (hp:=trivial)
end
end Go.Proofs.YtfakljdleblkoaaGreat
namespace Go.Proofs.YtfakljdleblkoaaGreat
open Go.Ideal Kd Canon
variable{k:bS}
theorem Jw{i:Nat}{x:lY}(h:k.decl.symbols[i]? =some x):aR (kP k) (i:Int)=x.value:=by
 apply l6;unfold kP;rw[dK,h];rfl
section
variable {m:Nat} {k:bS} {s t:List Int} {r:bA} {vh vs vr vc vu gh gc vn vl sc st v1 v2:Value}
theorem agG(hm:k.decl.symbols.length=m)(ht:di m t)(hl:m<=4096):AL Tryz.prog (.func 187) k s t r vh vs vr vc vu gh gc vn vl sc st v1 v2 (kg (kP k) t):=by
 have htl:=ht.len;refine aH _ (aN 187) λB w0=>?_;refine aT (E:=ae) (v:=st) (xs:=t) vm λsO ct et=>?_;subst et;refine aT (E:=eP) (v:=vs) (xs:=k.decl.symbols) vm λmh cs1 es1=>?_;subst es1;refine go ?_;intro b2 b3;refine bi (dR (b:=b2)) (h:=?_);refine go ?_;refine aW (λj:Nat=>t.length - j) (λj=>[(11,.int .i64 (j:Int))]) (λ_=>[]) (λ_=>[]) (λj=>j<=t.length/\∀i',i'<j->∀x,t[i']? =some x->aR (kP k) (i':Int)=aR (kP k) x) 0 ⟨bQ _,λi' h=>absurd h (A9 _)⟩ (body:=?_);rintro j ⟨hj,hall⟩;refine go ?_;refine az rfl (λh1=>?_) (λh1=>?_)
 ·refine go ?_;intro _ _ x hx;have oQ:=ht.eH x (aP hx);obtain⟨i,rfl⟩:=iO oQ.1;refine go ?_;refine bq eP (xs:=k.decl.symbols) (k:=j) (next:=λ_ _ y (_:Unit) hy=>?_);have e1:=Jw hy;exact c9
 exact jx
theorem Fg(set i:Nat):set>>>i&&&1=(set.testBit i).toNat:=by
 rw[Nat.and_one_is_mod,OU,Nat.toNat_testBit]
theorem Jy{a b:Bool}:((a.toNat:Nat):Int)=((b.toNat:Nat):Int)↔a=b:=by cases a<;>cases b<;>decide
theorem agH{set other:Nat}(hs:r.set=(set:Int)/\set<9223372036854775808)(ho:r.other=(other:Int)/\other<9223372036854775808)(ht:di m t)(hl:m<=60):AL Tryz.prog (.func 134) k s t r vh vs vr vc vu gh gc vn vl sc st v1 v2 (lg set other t):=by
 have htl:=ht.len;obtain⟨hs1,hs2⟩:=hs;obtain⟨ho1,ho2⟩:=ho;obtain⟨rn,ro,rk,rf,cB,cK,Ju,Jv,gL,gM,gN,gP⟩:=r;dsimp only at hs1 ho1;subst hs1 ho1;refine aH _ (aN 134) λB w0=>?_;refine aT (E:=ae) (v:=st) (xs:=t) vm λsO ct et=>?_;subst et;refine go ?_;intro b2 b3;refine bi (dR (b:=b2)) (h:=?_);refine bi (dR (b:=b3)) (h:=?_);refine go ?_;refine aW (λj:Nat=>t.length - j) (λj=>[(11,.int .i64 (j:Int))]) (λ_=>[]) (λ_=>[]) (λj=>j<=t.length/\∀i',i'<j->∀x,t[i']? =some x->set.testBit i'=set.testBit x.toNat/\other.testBit i'=other.testBit x.toNat) 0 ⟨bQ _,λi' h=>absurd h (A9 _)⟩ (body:=?_);rintro j ⟨hj,hall⟩;refine go ?_;refine az rfl (λh1=>?_) (λh1=>?_)
 ·refine go ?_;intro _ _ x hx;have oQ:=ht.eH x (aP hx);obtain⟨i,rfl⟩:=iO oQ.1;have hno:¬(set.testBit j=set.testBit i/\other.testBit j=other.testBit i)->lg set other t=false:=λh=>by
   cases e:lg set other t with
   |false=>rfl
   |true=>
    unfold lg at e;rw[lm]at e;have:=e j _ hx;dsimp only at this;rw[gy,eB,jX,jX]at this;exact absurd this h
  refine go ?_;refine(fq rfl rfl (aji (a:=set) (b:=j) rfl rfl vj)).h ?_;refine(fq rfl rfl (Em (a:=set>>>j) (b:=1) rfl rfl (CU (JZ _ _) hs2) vj)).h ?_;rw[Fg set j];refine go ?_;refine(fq rfl rfl (aji (a:=set) (b:=i) rfl rfl vj)).h ?_;refine(fq rfl rfl (Em (a:=set>>>i) (b:=1) rfl rfl (CU (JZ _ _) hs2) vj)).h ?_;rw[Fg set i];refine go ?_;refine gG (λh2=>?_) (λh2=>?_)
  rotate_left
  ·refine go ?_;refine ah () (hv:=?_) (hp:=trivial);rw[hno (λq=>h2 (Jy.2 q.1))];rfl
  have h2:=Jy.1 (gT.1 h2);refine go ?_;refine(fq rfl rfl (aji (a:=other) (b:=j) rfl rfl vj)).h ?_;refine(fq rfl rfl (Em (a:=other>>>j) (b:=1) rfl rfl (CU (JZ _ _) ho2) vj)).h ?_;rw[Fg other j];refine go ?_;refine(fq rfl rfl (aji (a:=other) (b:=i) rfl rfl vj)).h ?_;refine(fq rfl rfl (Em (a:=other>>>i) (b:=1) rfl rfl (CU (JZ _ _) ho2) vj)).h ?_;rw[Fg other i];refine go ?_;refine az rfl (λh3=>?_) (λh3=>?_)
  ·refine go ?_;refine ah () (hv:=?_) (hp:=trivial);rw[hno (λq=>h3 (Jy.2 q.2))];rfl
  have h3:=Jy.1 (gT.1 h3);refine go ?_;refine aM (j+1) vj ⟨vj,λi' hi' x hx'=>?_⟩;by_cases e:i'=j
  ·subst e;rw[hx]at hx';cases hx';rw[gy];exact⟨h2,h3⟩
  ·exact hall i' vj x hx'
 have gV:j=t.length:=vj
 subst gV;refine go ?_;refine ah () (hv:=?_) (hp:=trivial);have:lg set other t=true:=by
  unfold lg;rw[lm];intro i x hx;have:=hall i (bC.1 hx).1 x hx;dsimp only;rw[this.1,this.2];simp
 rw[this];rfl
theorem agI{n:Nat}(hN:tq n k.aD)(hs:di n s)(hl:n<=1000000)(hll:∀l∈k.aD,l.length<=1000000):AL Tryz.prog (.func 190) k s t r vh vs vr vc vu gh gc vn vl sc st v1 v2 (jC k.aD s):=by
 have hsl:=hs.len;have hnl:=hN.1;refine aH _ (aN 190) λB w0=>?_;refine aT (E:=ae) (v:=sc) (xs:=s) vm λOc Od esc=>?_;subst esc;refine aT (E:=ak ae) (v:=vn) (xs:=k.aD) vm λan cn en=>?_;subst en;refine go ?_;intro b2 b3;refine bi (dR (b:=b2)) (h:=?_);refine go ?_;refine aW (λj:Nat=>k.aD.length - j) (λj=>[(13,.int .i64 (j:Int))]) (λ_=>[]) (λ_=>[]) (λj=>j<=k.aD.length/\∀i',i'<j->∀l,k.aD[i']? =some l->∀b∈l,aR s b∈k.aD.getD (aR s (i':Int)).toNat []) 0 ⟨bQ _,λi' h=>absurd h (A9 _)⟩ (body:=?_);rintro j ⟨hj,hall⟩;refine go ?_;refine az rfl (λh1=>?_) (λh1=>?_)
 ·refine go ?_;refine bq (ak ae) (xs:=k.aD) (next:=λ_ _ l (y8:Value) hl2=>?_);have hlm:=aP hl2;have hlr:=hN.2 l hlm;have hlen:=hll l hlm;refine aT (E:=ae) (v:=y8) (xs:=l) vm λal cl el=>?_;subst el;refine go ?_;refine aW (λi:Nat=>l.length - i) (λi=>[(20,.int .i64 (i:Int))]) (λ_=>[]) (λ_=>[]) (λi=>i<=l.length/\∀b∈l.take i,aR s b∈k.aD.getD (aR s (j:Int)).toNat []) 0 ⟨bQ _,vm⟩ (body:=?_);rintro i ⟨hi,uM⟩;refine go ?_;refine az rfl (λh2=>?_) (λh2=>?_)
  ·refine go ?_;intro _ _ b hb;have hbr:=hlr b (aP hb);obtain⟨bn,rfl⟩:=iO hbr.1;refine go ?_;refine AJ 17 ?_;refine go ?_;intro _ _ u hu;have Oe:=l6 hu;have hur:=hs.eH u (aP hu);obtain⟨un,rfl⟩:=iO hur.1;refine go ?_;refine bq (ak ae) (xs:=k.aD) (k:=un) (next:=λ_ _ l2 (VB:Value) hl3=>?_);have agJ:=hll l2 (aP hl3);refine go ?_;refine AJ 17 ?_;refine go ?_;intro _ _ z hz;have hzg:=l6 hz;refine go ?_;refine ax (aek (xs:=l2) (z:=z) vj) (next:=λ_ _=>?_);have hd:k.aD.getD (aR s (j:Int)).toNat []=l2:=by rw[Oe,gy];exact gz hl3
   refine go ?_;refine eO rfl (λh3=>?_) (λh3=>?_)
   ·exact fh
   refine go ?_;refine aM (i+1) C5 ⟨vj,λb hb'=>?_⟩;rw[bU hb]at hb';rcases dW.1 hb' with hb'|hb'
   ·exact uM b hb'
   ·rw[bK.1 hb',hd,hzg];exact h3
  have hie:i=l.length:=vj
  subst hie;rw[bJ]at uM;refine go ?_;refine aM (j+1) (by show k.aD.length - (j+1)<k.aD.length - j;omega) ⟨vj,λi' hi' l' hl'=>?_⟩;exact rj
 exact gR
end
abbrev fv(f:FuncId):Value:=.func (.func f) ⟨[]⟩ ⟨[]⟩
structure Jz where
 b1:Nat
 b2:Nat
 b3:Nat
 b4:Nat
 b5:Nat
 b6:Nat
 b7:Nat
 b8:Nat
 b9:Nat
 b10:Nat
abbrev Og(y:Jz):List Value:=[.slice none 0 0,.slice (some ⟨y.b1,0,some 0⟩) 1 1,.slice (some ⟨y.b2,0,some 0⟩) 1 1,.slice (some ⟨y.b3,0,some 0⟩) 2 2,.slice (some ⟨y.b4,0,some 0⟩) 2 2,.slice (some ⟨y.b5,0,some 0⟩) 1 1,.slice (some ⟨y.b6,0,some 0⟩) 1 1,.slice (some ⟨y.b7,0,some 0⟩) 2 2,.slice (some ⟨y.b8,0,some 0⟩) 1 1,.slice (some ⟨y.b9,0,some 0⟩) 1 1,.slice (some ⟨y.b10,0,some 0⟩) 1 1,.slice none 0 0]
abbrev vZ(y:Jz):List aK:=[fA y.b1 0 [fv 186],fA y.b2 0 [fv 186],fA y.b3 0 [fv 186,fv 187],fA y.b4 0 [fv 188,fv 187],fA y.b5 0 [fv 189],fA y.b6 0 [fv 190],fA y.b7 0 [fv 190,fv 187],fA y.b8 0 [fv 190],fA y.b9 0 [fv 190],fA y.b10 0 [fv 190]]
theorem agK:aU Tryz.prog (.func 132) [] [] [] [] (λy:Jz=>.agg ⟨Og y⟩) (λ_=>[]) (λy=>vZ y) (λ_=>True):=by
 refine aH _ (aN 132) λB w0=>?_;refine go ?_;intro b0 b1 b2 b3 b4 b5 b6 b7 b8 b9 b10;refine go ?_;refine bi (dR (b:=b1)) (h:=?_);refine bi (dR (b:=b2)) (h:=?_);refine bi (dR (b:=b3)) (h:=?_);refine bi (dR (b:=b4)) (h:=?_);refine bi (dR (b:=b5)) (h:=?_);refine bi (dR (b:=b6)) (h:=?_);refine bi (dR (b:=b7)) (h:=?_);refine bi (dR (b:=b8)) (h:=?_);refine bi (dR (b:=b9)) (h:=?_);refine bi (dR (b:=b10)) (h:=?_);exact ah ⟨b1,b2,b3,b4,b5,b6,b7,b8,b9,b10⟩ (hv:=rfl) (hp:=trivial)
section
variable {k:bS} {s t:List Int} {r:bA} {vh vs vr vc vu gh gc vn vl sc st v1 v2:Value} {bc br:Nat}
abbrev uO(k:bS)(s t:List Int)(r:bA)(vh vs vr vc vu gh gc vn vl sc st v1 v2:Value)(bc br:Nat):List aK:=fA bc 0 (Oa k vh vs vr vc vu gh gc vn vl sc st)::fA br 0 (jI r v1 v2)::ckF k s t vs vn vl sc st
theorem Fh{f:FuncId}{c:Bool}(h:AL Tryz.prog (.func f) k s t r vh vs vr vc vu gh gc vn vl sc st v1 v2 c):aU Tryz.prog (.func 133) [fv f] [ptr' bc,ptr' br] [] (uO k s t r vh vs vr vc vu gh gc vn vl sc st v1 v2 bc br) (λ_:Unit=>.bool (!c)) (λ_=>[]) (λ_=>[]) (λ_=>True):=by
 refine aH _ (aN 133) λB w0=>?_;refine go ?_;refine ax h (next:=λ_ _=>?_);refine go ?_;exact ah () (hv:=rfl) (hp:=trivial)
variable{fn:Fn}{first cap fs:List Value}{F1:List aK}{b:Nat}{p:Nat->Bool}
theorem agL(hl:fs.length<=100)(hp:∀i f,fs[i]? =some f->aU Tryz.prog fn (first++[f]) cap [] F1 (λ_:Unit=>.bool (p i)) (λ_=>[]) (λ_=>[]) (λ_=>True)):
 aU Tryz.prog (.func 191) [.slice (some ⟨b,0,some 0⟩) fs.length fs.length,.func fn ⟨first⟩ ⟨cap⟩] [] [] (fA b 0 fs::F1) (λx:Int=>.int .i64 x) (λ_=>[]) (λ_=>[]) (λx=>0<=x↔∃i,i<fs.length/\p i=true):=by
 refine aH _ (aN 191) λB w0=>?_;refine go ?_;refine aW (λj:Nat=>fs.length - j) (λj=>[(8,.int .i64 (j:Int))]) (λ_=>[]) (λ_=>[]) (λj=>j<=fs.length/\∀i,i<j->p i=false) 0 ⟨bQ _,λi h=>absurd h (A9 _)⟩ (body:=?_);rintro j ⟨hj,hall⟩;refine go ?_;refine az rfl (λh1=>?_) (λh1=>?_)
 ·have hf:fs[j]? =some fs[j]:=bW vj;generalize fs[j]=f at hf;refine go ?_;refine(Hl (b:=b) (o:=0) (j:=j*1) (cs:=fs) (v:=f) rfl rfl rfl (cZ ..) (by rw[ql,uV];exact hf)).h ?_;refine go ?_;refine ax (hp j f hf) (next:=λ_ _=>?_);refine go ?_;refine jh rfl (λh2=>?_) (λh2=>?_)
  ·refine go ?_;exact ah (j:Int) (hv:=rfl) (hp:=⟨λ_=>⟨j,vj,h2⟩,λ_=>by omega⟩)
  refine go ?_;refine aM (j+1) vj ⟨vj,λi hi=>?_⟩;by_cases e:i=j
  ·subst e;exact h2
  ·exact hall i vj
 refine go ?_;exact ah (-1) (hv:=rfl) (hp:=⟨λh=>by omega,λ⟨i,hi,h⟩=>by rw[hall i vj]at h;cases h⟩)
theorem VC(hl:fs.length<=100)(hp:∀i f,fs[i]? =some f->aU Tryz.prog fn (first++[f]) cap [] F1 (λ_:Unit=>.bool (p i)) (λ_=>[]) (λ_=>[]) (λ_=>True)):
 aU Tryz.prog (.func 135) [.slice (some ⟨b,0,some 0⟩) fs.length fs.length,.func fn ⟨first⟩ ⟨cap⟩] [] [] (fA b 0 fs::F1) (λc:Bool=>.bool c) (λ_=>[]) (λ_=>[]) (λc=>c=true↔∃i,i<fs.length/\p i=true):=by
 refine aH _ (aN 135) λB w0=>?_;refine go ?_;refine ax (agL (b:=b) hl hp) (next:=λx hx=>?_);refine go ?_;refine ah (decide (0<=x)) (hv:=rfl) (hp:=?_);rw[jX];exact hx
theorem agM:aU Tryz.prog (.func 135) [.slice none 0 0,.func fn ⟨first⟩ ⟨cap⟩] [] [] F1 (λc:Bool=>.bool c) (λ_=>[]) (λ_=>[]) (λc=>c=false):=by
 have h0:aU Tryz.prog (.func 191) [.slice none 0 0,.func fn ⟨first⟩ ⟨cap⟩] [] [] F1 (λ_:Unit=>.int .i64 (-1)) (λ_=>[]) (λ_=>[]) (λ_=>True):=by
  refine aH _ (aN 191) λB w0=>?_;refine go ?_;refine oh ?_;refine go ?_;exact ah () (hv:=rfl) (hp:=trivial)
 refine aH _ (aN 135) λB w0=>?_;refine go ?_;refine ax h0 (next:=λ_ _=>?_);refine go ?_;exact ah false (hv:=rfl) (hp:=rfl)
structure Oh(k:bS)(s t:List Int)(r:bA):Prop where
 ps:di k.grid.cells.length s
 pt:di k.decl.symbols.length t
 n1:k.grid.cells.length<=256
 m1:k.decl.symbols.length<=16
 aD:tq k.grid.cells.length k.aD
 VD:∀l∈k.aD,l.length<=1000000
 kind:1<=r.kind/\r.kind<=11
 JA:y9 k.grid.cells.length k s r (k.lists.getD r.family.toNat [])
 st:r.set=((r.set.toNat:Nat):Int)/\r.set.toNat<9223372036854775808
 ot:r.other=((r.other.toNat:Nat):Int)/\r.other.toNat<9223372036854775808
theorem VE(H:Oh k s t r)(y:Jz):∃v,(Og y)[r.kind.toNat]? =some v/\aU Tryz.prog (.func 135) [v,.func (.func 133) ⟨[]⟩ ⟨[ptr' bc,ptr' br]⟩] [] [] (vZ y++uO k s t r vh vs vr vc vu gh gc vn vl sc st v1 v2 bc br) (λc:Bool=>.bool c) (λ_=>[]) (λ_=>[]) (λc=>c=true↔jS k s t r=false):=by
 have hF:=Fh (bc:=bc) (br:=br) (agD (t:=t) (vh:=vh) (vs:=vs) (vr:=vr) (vc:=vc) (vu:=vu) (gh:=gh) (gc:=gc) (vn:=vn) (vl:=vl) (sc:=sc) (st:=st) (v1:=v1) (v2:=v2) H.JA);have hO:=Fh (bc:=bc) (br:=br) (agE (t:=t) (vh:=vh) (vs:=vs) (vr:=vr) (vc:=vc) (vu:=vu) (gh:=gh) (gc:=gc) (vn:=vn) (vl:=vl) (sc:=sc) (st:=st) (v1:=v1) (v2:=v2) H.JA);have hL:=Fh (bc:=bc) (br:=br) (agF (t:=t) (vh:=vh) (vs:=vs) (vr:=vr) (vc:=vc) (vu:=vu) (gh:=gh) (gc:=gc) (vn:=vn) (vl:=vl) (sc:=sc) (st:=st) (v1:=v1) (v2:=v2) H.JA);have hV:=Fh (bc:=bc) (br:=br) (agG (s:=s) (r:=r) (vh:=vh) (vs:=vs) (vr:=vr) (vc:=vc) (vu:=vu) (gh:=gh) (gc:=gc) (vn:=vn) (vl:=vl) (sc:=sc) (st:=st) (v1:=v1) (v2:=v2) rfl H.pt (by have:=H.m1;omega));have hB:=Fh (bc:=bc) (br:=br) (agI (t:=t) (r:=r) (vh:=vh) (vs:=vs) (vr:=vr) (vc:=vc) (vu:=vu) (gh:=gh) (gc:=gc) (vn:=vn) (vl:=vl) (sc:=sc) (st:=st) (v1:=v1) (v2:=v2) H.aD H.ps (by have:=H.n1;omega) H.VD);have one:∀(b:Nat) (f:FuncId) (c:Bool),aU Tryz.prog (.func 133) [fv f] [ptr' bc,ptr' br] [] (uO k s t r vh vs vr vc vu gh gc vn vl sc st v1 v2 bc br) (λ_:Unit=>.bool (!c)) (λ_=>[]) (λ_=>[]) (λ_=>True)->fA b 0 [fv f]∈vZ y->jS k s t r=c->
  aU Tryz.prog (.func 135) [.slice (some ⟨b,0,some 0⟩) 1 1,.func (.func 133) ⟨[]⟩ ⟨[ptr' bc,ptr' br]⟩] [] [] (vZ y++uO k s t r vh vs vr vc vu gh gc vn vl sc st v1 v2 bc br) (λc:Bool=>.bool c) (λ_=>[]) (λ_=>[]) (λc=>c=true↔jS k s t r=false):=λb f c h hm hc=>by
  have h1:=VC (b:=b) (fs:=[fv f]) (p:=λ_=>!c) (fn:=.func 133) (first:=[]) (cap:=[ptr' bc,ptr' br]) vm (λi g hg=>by
   match i,hg with
   |0,hg=>cases hg;exact h
   |i+1,hg=>simp at hg)
  refine((h1.facts (F2:=vZ y++uO k s t r vh vs vr vc vu gh gc vn vl sc st v1 v2 bc br) (λf hf=>?_))).weak λc' hc'=>?_
  ·rcases dH.1 hf with rfl|hf
   ·exact jW _ hm
   ·exact oF _ hf
  ·rw[hc',hc];constructor
   ·rintro⟨_,_,e⟩;simpa using e
   ·intro e;exact⟨0,vm,by rw[e];rfl⟩
 have two:∀(b:Nat) (f g:FuncId) (c d:Bool),aU Tryz.prog (.func 133) [fv f] [ptr' bc,ptr' br] [] (uO k s t r vh vs vr vc vu gh gc vn vl sc st v1 v2 bc br) (λ_:Unit=>.bool (!c)) (λ_=>[]) (λ_=>[]) (λ_=>True)->aU Tryz.prog (.func 133) [fv g] [ptr' bc,ptr' br] [] (uO k s t r vh vs vr vc vu gh gc vn vl sc st v1 v2 bc br) (λ_:Unit=>.bool (!d)) (λ_=>[]) (λ_=>[]) (λ_=>True)->fA b 0 [fv f,fv g]∈vZ y->jS k s t r=(c&&d)->
  aU Tryz.prog (.func 135) [.slice (some ⟨b,0,some 0⟩) 2 2,.func (.func 133) ⟨[]⟩ ⟨[ptr' bc,ptr' br]⟩] [] [] (vZ y++uO k s t r vh vs vr vc vu gh gc vn vl sc st v1 v2 bc br) (λc:Bool=>.bool c) (λ_=>[]) (λ_=>[]) (λc=>c=true↔jS k s t r=false):=λb f g c d h h2 hm hc=>by
  have h1:=VC (b:=b) (fs:=[fv f,fv g]) (p:=λi=>if i=0 then !c else !d) (fn:=.func 133) (first:=[]) (cap:=[ptr' bc,ptr' br]) vm (λi g hg=>by
   match i,hg with
   |0,hg=>cases hg;exact h
   |1,hg=>cases hg;exact h2
   |i+2,hg=>simp at hg)
  refine((h1.facts (F2:=vZ y++uO k s t r vh vs vr vc vu gh gc vn vl sc st v1 v2 bc br) (λf hf=>?_))).weak λc' hc'=>?_
  ·rcases dH.1 hf with rfl|hf
   ·exact jW _ hm
   ·exact oF _ hf
  ·rw[hc',hc];constructor
   ·rintro⟨i,hi,e⟩;by_cases e0:i=0
    ·rw[if_pos e0]at e;cases c<;>simp_all
    ·rw[if_neg e0]at e;cases d<;>simp_all
   ·intro e;cases hcc:c with
    |false=>exact⟨0,vm,rfl⟩
    |true=>
     rw[hcc,Bool.true_and]at e;exact⟨1,vm,by rw[e];rfl⟩
 have hk:=H.kind;obtain⟨kn,hkn⟩:=iO (by omega:0<=r.kind);have agN:kn=1\/kn=2\/kn=3\/kn=4\/kn=5\/kn=6\/kn=7\/kn=8\/kn=9\/kn=10\/kn=11:=vj
 rcases agN with rfl|rfl|rfl|rfl|rfl|rfl|rfl|rfl|rfl|rfl|rfl
 ·exact⟨_,by rw[hkn];rfl,one y.b1 _ _ hF vm (by unfold jS;rw[if_pos (.inl hkn)])⟩
 ·exact⟨_,by rw[hkn];rfl,one y.b2 _ _ hF vm (by unfold jS;rw[if_pos (.inr hkn)])⟩
 ·exact⟨_,by rw[hkn];rfl,two y.b3 _ _ _ _ hF hV vm (by unfold jS;rw[if_neg vj,if_pos vj])⟩
 ·exact⟨_,by rw[hkn];rfl,two y.b4 _ _ _ _ hO hV vm (by unfold jS;rw[if_neg vj,if_neg vj,if_pos vj])⟩
 ·exact⟨_,by rw[hkn];rfl,one y.b5 _ _ hL vm (by unfold jS;rw[if_neg vj,if_neg vj,if_neg vj,if_pos vj])⟩
 ·exact⟨_,by rw[hkn];rfl,one y.b6 _ _ hB vm DB⟩
 ·exact⟨_,by rw[hkn];rfl,two y.b7 _ _ _ _ hB hV vm (by unfold jS;rw[if_neg vj,if_neg vj,if_neg vj,if_neg vj,if_pos vj])⟩
 ·exact⟨_,by rw[hkn];rfl,one y.b8 _ _ hB vm DB⟩
 ·exact⟨_,by rw[hkn];rfl,one y.b9 _ _ hB vm DB⟩
 ·exact⟨_,by rw[hkn];rfl,one y.b10 _ _ hB vm DB⟩
 ·refine⟨.slice none 0 0,by rw[hkn];rfl,?_⟩;refine(agM (F1:=vZ y++uO k s t r vh vs vr vc vu gh gc vn vl sc st v1 v2 bc br)).weak λc' hc'=>?_;have:jS k s t r=true:=by unfold jS;rw[if_neg vj,if_neg vj,if_neg vj,if_neg vj,if_neg vj,if_neg vj]
  rw[hc',this];simp
end
theorem eF.set(h:eF k){r:bA}(hr:r∈k.decl.rules):(r.set=((r.set.toNat:Nat):Int)/\r.set.toNat<9223372036854775808)/\(r.other=((r.other.toNat:Nat):Int)/\r.other.toNat<9223372036854775808):=by
 obtain⟨q,hq,hre⟩:=h.nA hr;have hro:=h.b.rs.nA q hq;have hsl:=h.typ.lim.s1;have VF:r.set=((fG (bN k.decl) q.names:Nat):Int):=by rw[hre];rfl
 have VG:r.other=((fG (bN k.decl) q.others:Nat):Int):=by rw[hre];rfl
 have hsn:(bN k.decl).length<=16:=by unfold bN;rw[cz];exact hsl
 have hl1:=Vi hsn q.names hro.names;have hl2:=Vi hsn q.others hro.others;refine⟨⟨by rw[VF];omega,by rw[VF];omega⟩,⟨by rw[VG];omega,by rw[VG];omega⟩⟩
theorem eF.Ao(h:eF k):k.grid.cells.length<=256:=by
 have:=h.bZ.len;rw[h.grid];exact this
theorem eF.npos(h:eF k):0<k.grid.cells.length:=by
 rw[h.grid];exact adu h.bZ
theorem eF.VH(h:eF k){s t:List Int}(hs:di k.grid.cells.length s)(ht:di k.decl.symbols.length t){r:bA}(hr:r∈k.decl.rules):Oh k s t r:=by
 have hin:=(h.inr hr).iK;have hL:k.lists[r.family.toNat]? =some (k.lists[r.family.toNat]'(vj)):=bW _;have xI:=h.Vp hL;rw[CY hin.1]at xI;have VI:∀r∈k.decl.regions,vN (aO k.decl) r.lists:=λr hr=>(h.typ.yX r hr).1.2;have VJ:=adw h.bZ VI;have hlin:=adf h.bZ VI;rw[<- h.lists]at VJ hlin;have hn:=h.Ao;refine⟨hs,ht,h.Ao,h.typ.lim.s1,h.NY,λl hl=>?_,h.kinds hr,⟨hin.1,?_,?_,hs,h.npos,vj,?_,?_⟩,(h.set hr).1,(h.set hr).2⟩
 ·rw[h.aD]at hl;have:=EF l hl;omega
 ·rw[gz hL];exact hL
 ·rw[gz hL];exact xI
 ·rw[gz hL];have:=VJ _ (aP hL);omega
 ·rw[gz hL];intro l hl;have:=(hlin _ (aP hL) l hl).1;omega
variable{s t:List Int}{vh vs vr vc vu gh gc vn vl sc st:Value}
theorem agO(hK:eF k)(hs:s.length<9223372036854775808)(ht:t.length<9223372036854775808):
 aU Tryz.prog (.func 57) [.agg ⟨lC k vh vs vr vc vu gh gc vn vl⟩,.agg ⟨[sc,st]⟩] [] [] (ai ae sc s::ai ae st t::ku k vh vs vr vc vu gh gc vn vl []) (λb:Bool=>.bool b) (λ_=>[]) (λ_=>[]) (λb=>b=true↔nN k s t):=by
 have hn:=hK.Ao;have hm:=hK.typ.lim.s1;have vV:=hK.typ.lim.u;refine aH _ (aN 57) λB w0=>?_;dsimp only[ku];refine aT (E:=ae) (v:=gc) (xs:=k.grid.cells) vm λag cg eg=>?_;subst eg;refine aT (E:=eP) (v:=vs) (xs:=k.decl.symbols) vm λmh cs1 es1=>?_;subst es1;refine aT (E:=aY) (v:=vu) (xs:=k.decl.rules) vm λau cu eu=>?_;subst eu;refine go ?_;intro b2 b3;refine bi (dR (b:=b2)) (h:=?_);refine bi (dR (b:=b3)) (h:=?_);refine go ?_;refine ax (Vo (xs:=s) (n:=k.grid.cells.length) hn hs) (next:=λe1 he1=>?_);refine go ?_;refine gG (λh1=>?_) (λh1=>?_)
 rotate_left
 ·refine go ?_;exact ah false (hv:=rfl) (hp:=⟨(λh=>by cases h),λh=>absurd (he1.2 h.pc) h1⟩)
 have hps:=he1.1 (gT.1 h1);refine go ?_;refine ax (Vo (xs:=t) (n:=k.decl.symbols.length) vj ht) (next:=λe2 he2=>?_);refine go ?_;refine az rfl (λh2=>?_) (λh2=>?_)
 ·refine go ?_;exact ah false (hv:=rfl) (hp:=⟨(λh=>by cases h),λh=>absurd (he2.2 h.ps) h2⟩)
 have hpt:=he2.1 (gT.1 h2);refine go ?_;intro b5 b6;refine ax agK (next:=λy _=>?_);refine go ?_;refine bi (dR (b:=b5)) (h:=?_);refine bi (dR (b:=b6)) (h:=?_);refine aW (λj:Nat=>k.decl.rules.length - j) (λj=>[(36,.int .i64 (j:Int))]) (λ_=>[]) (λ_=>[]) (λj=>j<=k.decl.rules.length/\∀r∈k.decl.rules.take j,keepR k s t r=true) 0 ⟨bQ _,vm⟩ (body:=?_);rintro j ⟨hj,hall⟩;refine go ?_;refine az rfl (λh3=>?_) (λh3=>?_)
 ·refine go ?_;refine bq aY (xs:=k.decl.rules) (next:=λ_ _ r (w:Value×Value) hr=>?_);have hrm:=aP hr;have H:=hK.VH hps hpt hrm;have hkd:=H.kind;have hno:keepR k s t r=false->∀b:Bool,b=false->(b=true↔nN k s t):=λh b hb=>⟨(λe=>by rw[hb]at e;cases e),λq=>by have:=q.nA r hrm;rw[h]at this;cases this⟩
  obtain⟨vk,hvk,hcon⟩:=VE (bc:=b5) (br:=0) (vh:=vh) (vs:=.slice mh k.decl.symbols.length cs1) (vr:=vr) (vc:=vc) (vu:=.slice au k.decl.rules.length cu) (gh:=gh) (gc:=.slice ag k.grid.cells.length cg) (vn:=vn) (vl:=vl) (sc:=sc) (st:=st) (v1:=w.1) (v2:=w.2) H y;clear hcon;refine go ?_;intro b8;obtain⟨VK,VL,hcon⟩:=VE (bc:=b5) (br:=b8) (vh:=vh) (vs:=.slice mh k.decl.symbols.length cs1) (vr:=vr) (vc:=vc) (vu:=.slice au k.decl.rules.length cu) (gh:=gh) (gc:=.slice ag k.grid.cells.length cg) (vn:=vn) (vl:=vl) (sc:=sc) (st:=st) (v1:=w.1) (v2:=w.2) H y;obtain rfl:VK=vk:=by rw[hvk]at VL;exact(Option.some.inj VL).symm
  refine go ?_;refine bi (dR (b:=b8)) (h:=?_);refine go ?_;refine ax (agH (k:=k) (s:=s) (r:=r) (set:=r.set.toNat) (other:=r.other.toNat) (vh:=vh) (vs:=.slice mh k.decl.symbols.length cs1) (vr:=vr) (vc:=vc) (vu:=.slice au k.decl.rules.length cu) (gh:=gh) (gc:=.slice ag k.grid.cells.length cg) (vn:=vn) (vl:=vl) (sc:=sc) (st:=st) (v1:=w.1) (v2:=w.2) H.st H.ot hpt vj) (next:=λ_ _=>?_);cases hset:lg r.set.toNat r.other.toNat t with
  |false=>
   refine go ?_;exact ah false (hv:=rfl) (hp:=hno (by unfold keepR;rw[hset];rfl) _ rfl)
  |true=>
  obtain⟨kn,hkn⟩:=iO (by omega:0<=r.kind);rw[hkn,gy]at hvk;rw[hkn];refine go ?_;refine(Hl (b:=b6) (o:=0) (j:=kn*1) (cs:=Og y) (v:=VK) rfl rfl rfl (by repeat (first|exact cZ .. |apply dA)) (by rw[ql,uV];exact hvk)).h ?_;rw[<- hkn];refine go ?_;dsimp only[vZ,uO,ckF,List.cons_append,List.nil_append]at hcon;refine ax hcon (hF:=by repeat (first|exact Sub.nil|(apply Sub.cons;(focus (repeat (first|exact cZ .. |apply dA)))))) (next:=λc hc=>?_);refine go ?_;cases c with
  |true=>
   refine go ?_;exact ah false (hv:=rfl) (hp:=hno (by unfold keepR;rw[hc.1 rfl,Bool.and_false]) _ rfl)
  |false=>
  have hcd:jS k s t r=true:=by
   cases e:jS k s t r with
   |true=>rfl
   |false=>exact absurd (hc.2 e) vm
  refine go ?_;refine aM (j+1) C6 ⟨vj,λx hx=>?_⟩;rw[bU hr]at hx;rcases dW.1 hx with hx|hx
  ·exact hall x hx
  ·rw[bK.1 hx];unfold keepR;rw[hset,hcd];rfl
 have gV:j=k.decl.rules.length:=vj
 subst gV;rw[bJ]at hall;refine go ?_;exact ah true (hv:=rfl) (hp:=⟨λ_=>⟨hps,hpt,hall⟩,λ_=>rfl⟩)
structure VM(k:bS)(s t:List Int)(y:Bool×Int):Prop where
 nk:¬eF k->y=(false,180)
 ok:eF k->y.2=0/\(y.1=true↔nN k s t)
theorem agP(hS:tC k)(hs:s.length<9223372036854775808)(ht:t.length<9223372036854775808):
 aU Tryz.prog (.func 31) [.agg ⟨lC k vh vs vr vc vu gh gc vn vl⟩,.agg ⟨[sc,st]⟩] [] [] (ai ae sc s::ai ae st t::ku k vh vs vr vc vu gh gc vn vl []) (λy:Bool×Int=>.tuple ⟨[.bool y.1,.int .i64 y.2]⟩) (λ_=>[]) (λ_=>[]) (VM k s t):=by
 refine aH _ (aN 31) λB w0=>?_;dsimp only[ku];refine go ?_;intro b2 b3;refine go ?_;refine ax (Vb (k:=k) (vh:=vh) (vs:=vs) (vr:=vr) (vc:=vc) (vu:=vu) (gh:=gh) (gc:=gc) (vn:=vn) (vl:=vl) hS) (next:=λb hb=>?_);cases b with
 |false=>
  exact mz
 |true=>
 have hK:=hb.1 rfl;dsimp only[cond];refine go ?_;refine ax (agO (k:=k) (s:=s) (t:=t) (vh:=vh) (vs:=vs) (vr:=vr) (vc:=vc) (vu:=vu) (gh:=gh) (gc:=gc) (vn:=vn) (vl:=vl) (sc:=sc) (st:=st) hK hs ht) (next:=λc hc=>?_);refine go ?_;exact ah (c,0) (hv:=rfl) (hp:=⟨λh=>absurd hK h,λ_=>⟨rfl,hc⟩⟩)
structure Fj(k:bS)(s t:List Int)(e:Int):Prop where
 nk:¬eF k->e=180
 ns:eF k->¬nN k s t->e=230
 ok:eF k->nN k s t->e=0
theorem agQ(hS:tC k)(hs:s.length<9223372036854775808)(ht:t.length<9223372036854775808):
 aU Tryz.prog (.func 13) [.agg ⟨lC k vh vs vr vc vu gh gc vn vl⟩,.agg ⟨[sc,st]⟩] [] [] (ai ae sc s::ai ae st t::ku k vh vs vr vc vu gh gc vn vl []) (λe:Int=>.int .i64 e) (λ_=>[]) (λ_=>[]) (Fj k s t):=by
 refine aH _ (aN 13) λB w0=>?_;dsimp only[ku];refine go ?_;intro b2 b3;refine go ?_;refine ax (Vb (k:=k) (vh:=vh) (vs:=vs) (vr:=vr) (vc:=vc) (vu:=vu) (gh:=gh) (gc:=gc) (vn:=vn) (vl:=vl) hS) (next:=λb hb=>?_);cases b with
 |false=>
  exact cQ
 |true=>
 have hK:=hb.1 rfl;dsimp only[cond];refine go ?_;refine ax (agP (k:=k) (s:=s) (t:=t) (vh:=vh) (vs:=vs) (vr:=vr) (vc:=vc) (vu:=vu) (gh:=gh) (gc:=gc) (vn:=vn) (vl:=vl) (sc:=sc) (st:=st) hS hs ht) (next:=λy hy=>?_);obtain⟨c,e⟩:=y;obtain⟨he,hc⟩:=hy.ok hK;dsimp only at he hc;subst he;refine go ?_;cases c with
 |false=>
  exact mw
 |true=>
  exact pw
