/-
  points.Run: its closures.
-/
import Derived.Test.YtbdaaopebgcnaaaGreatDoorLibCM
set_option linter.all false
set_option maxRecDepth 10000
set_option maxHeartbeats 4000000
namespace Go.Proofs.YtbdaaopebgcnaaaGreatDoor
open Go.Ideal Rk
theorem ae7{x:Int}:xO Tryz.prog (.func 84) [] [] (.int .i64 x) [] (decide (x<0\/1048576<x)):=by
 refine aT _ (bz 84) λB w0=>?_;refine go ?_;refine gG (λh1=>?_) (λh1=>?_)
 ·refine go ?_;refine aj () (hv:=?_) (hp:=trivial);rw[show decide (x<0\/1048576<x)=decide (1048576<x)from zA.2 ⟨λh=>h.elim (λh=>absurd h h1) id,.inr⟩];rfl
 refine go ?_;refine aj () (hv:=?_) (hp:=trivial);rw[eP (.inl h1)];rfl
theorem UE{x:Int}:gy Tryz.prog 86 [.int .i64 x] [] (.int .i64 (hold x)):=by
 refine aT _ (bz 86) λB w0=>?_;refine go ?_;refine(bC rfl rfl (uC rfl rfl)).h ?_;refine(bC rfl rfl (qm rfl rfl)).h ?_;refine go ?_;exact aj () (hv:=rfl) (hp:=trivial)
theorem ae8{a b:Int}(ha:eu a)(hb:eu b):gy Tryz.prog 85 [.int .i64 a,.int .i64 b] [] (.int .i64 (hold (a+b))):=by
 unfold eu at ha hb;refine aT _ (bz 85) λB w0=>?_;refine go ?_;refine aB UE (next:=λ_ _=>?_);refine go ?_;exact aj () (hv:=rfl) (hp:=trivial)
theorem ae9{a b:Int}(ha:eu a)(hb:eu b):gy Tryz.prog 87 [.int .i64 a,.int .i64 b] [] (.int .i64 (hold (a - b))):=by
 unfold eu at ha hb;refine aT _ (bz 87) λB w0=>?_;refine go ?_;refine aB UE (next:=λ_ _=>?_);refine go ?_;exact aj () (hv:=rfl) (hp:=trivial)
theorem afa{a b:Int}:gy Tryz.prog 90 [.int .i64 a,.int .i64 b] [] (.int .i64 (min a b)):=by
 refine aT _ (bz 90) λB w0=>?_;refine go ?_;refine(bC rfl rfl (uC rfl rfl)).h ?_;refine go ?_;exact aj () (hv:=rfl) (hp:=trivial)
theorem afb{a b:Int}:gy Tryz.prog 91 [.int .i64 a,.int .i64 b] [] (.int .i64 (max a b)):=by
 refine aT _ (bz 91) λB w0=>?_;refine go ?_;refine(bC rfl rfl (qm rfl rfl)).h ?_;refine go ?_;exact aj () (hv:=rfl) (hp:=trivial)
theorem afc{a b:Int}:gy Tryz.prog 92 [.int .i64 a,.int .i64 b] [] (.int .i64 (if a<b then 1 else 0)):=by
 refine aT _ (bz 92) λB w0=>?_;refine go ?_;refine aC rfl (λh=>?_) (λh=>?_)
 ·refine go ?_;exact aj () (hv:=by rw[if_pos h];rfl) (hp:=trivial)
 ·refine go ?_;exact aj () (hv:=by rw[if_neg h];rfl) (hp:=trivial)
theorem afd{a b:Int}(ha:eu a)(hb:eu b):gy Tryz.prog 88 [.int .i64 a,.int .i64 b] [] (.int .i64 (mY a b)):=by
 have hr:eu (mY a b):=SL;have hm:=ha;unfold eu at ha hb;refine aT _ (bz 88) λB w0=>?_;refine go ?_;refine gG (λh1=>?_) (λh1=>?_)
 ·have hb0:b=0:=qd.1 h1;subst hb0;refine go ?_;refine aj () (hv:=?_) (hp:=trivial);show Value.int .i64 (a*0)=_;unfold mY;rw[if_neg (λh=>h1 h.1)]
 refine go ?_;refine(bC rfl rfl (Bn rfl (by omega) (by omega))).h ?_;refine(bC rfl rfl (qm rfl rfl)).h ?_;refine go ?_;refine(bC rfl rfl (Bn rfl (by omega) (by omega))).h ?_;refine(bC rfl rfl (qm rfl rfl)).h ?_;have hq:=Ip (a:=1099511627776) (b:=max b (-b)) (n:=1099511627776) (by decide);refine(bC rfl rfl (Ap rfl rfl (by omega) (by omega) (by omega))).h ?_;refine go ?_;refine aC rfl (λh2=>?_) (λh2=>?_)
 ·refine go ?_;refine iW rfl (λh3=>?_) (λh3=>?_)
  ·refine go ?_;refine aj () (hv:=?_) (hp:=trivial);show Value.int .i64 (-1099511627776)=_;unfold mY;rw[if_pos ⟨h1,h2⟩,if_pos (bne_iff_ne.1 h3)]
  ·refine go ?_;refine aj () (hv:=?_) (hp:=trivial);show Value.int .i64 1099511627776=_;unfold mY;rw[if_pos ⟨h1,h2⟩,if_neg (λh=>by rw[bne_iff_ne.2 h]at h3;cases h3)]
 have e:mY a b=a*b:=by unfold mY;rw[if_neg (λh=>h2 h.2)]
 rw[e]at hr⊢;unfold eu at hr;refine go ?_;exact aj () (hv:=rfl) (hp:=trivial)
theorem afe{a b:Int}(ha:eu a)(hb:eu b):gy Tryz.prog 89 [.int .i64 a,.int .i64 b] [] (.int .i64 (qx a b)):=by
 have hr:=SN (a:=a) (b:=b) ha hb;have hm:=ha;unfold eu at ha hb;refine aT _ (bz 89) λB w0=>?_;refine go ?_;refine aC rfl (λh1=>?_) (λh1=>?_)
 ·refine go ?_;refine aj () (hv:=?_) (hp:=trivial);show Value.int .i64 0=_;unfold qx;rw[if_pos h1]
 have hq:=Ip (a:=a) (b:=b) (n:=1099511627776) (by omega);refine go ?_;refine(bC rfl rfl (Ap rfl rfl h1 (by omega) (by omega))).h ?_;refine go ?_;refine(bC rfl rfl (Dg rfl rfl h1)).h ?_;refine go ?_;refine gG (λh2=>?_) (λh2=>?_)
 ·refine go ?_;refine aj () (hv:=?_) (hp:=trivial);show Value.int .i64 (a.tdiv b)=_;unfold qx;rw[if_neg h1,if_neg (λh=>h2 h.1)]
 refine go ?_;refine iW rfl (λh3=>?_) (λh3=>?_)
 ·refine go ?_;refine aj () (hv:=?_) (hp:=trivial);show Value.int .i64 (a.tdiv b - 1)=_;unfold qx;rw[if_neg h1,if_pos ⟨h2,bne_iff_ne.1 h3⟩]
 ·refine go ?_;refine aj () (hv:=?_) (hp:=trivial);show Value.int .i64 (a.tdiv b)=_;unfold qx;rw[if_neg h1,if_neg (λh=>by rw[bne_iff_ne.2 h.2]at h3;cases h3)]
def Nb(k:Nat):FuncId:=if k=3 then 85 else if k=4 then 87 else if k=5 then 88 else if k=6 then 89 else if k=7 then 90 else if k=8 then 91 else 92
def Nc:List Value:=[.nilFunc,.nilFunc,.nilFunc,.func (.func 85) ⟨[]⟩ ⟨[]⟩,.func (.func 87) ⟨[]⟩ ⟨[]⟩,.func (.func 88) ⟨[]⟩ ⟨[]⟩,.func (.func 89) ⟨[]⟩ ⟨[]⟩,.func (.func 90) ⟨[]⟩ ⟨[]⟩,.func (.func 91) ⟨[]⟩ ⟨[]⟩,.func (.func 92) ⟨[]⟩ ⟨[]⟩]
theorem aff{k:Nat}(h3:3<=k)(h9:k<=9):iG Nc k=some (.func (.func (Nb k)) ⟨[]⟩ ⟨[]⟩):=by
 have:k=3\/k=4\/k=5\/k=6\/k=7\/k=8\/k=9:=by omega
 rcases this with rfl|rfl|rfl|rfl|rfl|rfl|rfl<;>rfl
theorem afg{k:Nat}{a b:Int}(h3:3<=k)(h9:k<=9)(ha:eu a)(hb:eu b):gy Tryz.prog (Nb k) [.int .i64 a,.int .i64 b] [] (.int .i64 (lC k a b)):=by
 have:k=3\/k=4\/k=5\/k=6\/k=7\/k=8\/k=9:=by omega
 rcases this with rfl|rfl|rfl|rfl|rfl|rfl|rfl
 ·exact ae8 ha hb
 ·exact ae9 ha hb
 ·exact afd ha hb
 ·exact afe ha hb
 ·exact afa
 ·exact afb
 ·exact afc
theorem D6{bS:Nat}{v:Value}{st:List Int}{x:Int}(hl:st.length<=100000):aX Tryz.prog (.func 93) [] [ptr' bS] [pt bS (.cells [v]),Iq v (st++[x])] [] (λ_:Value=>.int .i64 x) (λv'=>[pt bS (.cells [v']),Iq v' st]) (λ_=>[]) (λ_=>True):=by
 have hll:(pz (st++[x])).length=st.length+1:=by rw[xP,dN];rfl
 refine aT _ (bz 93) λB w0=>?_;refine go ?_;refine uI ah (v:=v) (aa:=pz (st++[x])) (by omega) λb f c r hf hr hc e=>?_;rw[hll]at e;subst e;refine go ?_;rw[show((st.length+1:Nat):Int) - 1=((st.length:Nat):Int)by omega];refine go ?_;refine gp (o:=0+st.length*1) (.int .i64 x) (mW (E:=ah) (j:=0) (p:=(x,())) (k:=st.length) (Bo (st:=st++[x]) (k:=st.length) (x:=x) (by simp)) rfl (by show _=st.length*1+0;omega)) ?_;refine go ?_;rw[show((st.length+1:Nat):Int) - 1=((st.length:Nat):Int)by omega];refine(bC rfl rfl (Dn (lo:=0) (hi:=st.length) rfl hf (by decide) (.inl ⟨rfl,rfl⟩) (.inr ⟨_,rfl,rfl⟩) (cu _) (by omega))).h ?_;rw[show Value.slice (some ⟨b,0+0*ah.n,some f⟩) (st.length - 0) (c - 0)=.slice (some ⟨b,0,some f⟩) st.length c by rw[oQ,qb,qb]];refine go ?_;refine Mc ah (aa:=pz (st++[x])) (b:=b) (f:=f) (c:=c) (m:=st.length) (r:=r) (by omega) hf hr hc ?_;rw[show(pz (st++[x])).take st.length=pz st by rw[Ir,List.take_left]];exact aj (.slice (some ⟨b,0,some f⟩) st.length c) (hv:=rfl) (hp:=trivial)
theorem UF{fl mX:List Bool}{w:fu}(h:dm fl w=some mX)(h10:w.op=10):w.n=0/\3<=fl.length:=by
 unfold dm at h;rw[if_neg (by omega),if_neg (by omega)]at h;split at h
 ·cases h
 ·split at h
  ·rename_i h1 h2;exact⟨by omega,h2.1⟩
  ·cases h
theorem UG{fl mX:List Bool}{w:fu}(h:dm fl w=some mX)(h2:w.op=2):0<=w.n/\w.n<5:=by
 unfold dm at h;rw[if_neg (by omega),if_pos h2]at h;split at h
 ·assumption
 ·cases h
theorem UH{fl mX:List Bool}{w:fu}(h:dm fl w=some mX)(h1:w.op≠1)(h2:w.op≠2)(h3:w.op≠10):3<=w.op/\w.op<10/\2<=fl.length:=by
 unfold dm at h;rw[if_neg h1,if_neg h2]at h;split at h
 ·cases h
 ·split at h
  ·rename_i h4;split at h
   ·rename_i h5;exact⟨h4.1,h4.2,h5.1⟩
   ·cases h
  ·cases h
theorem afh{inp:List Int}(hi:yV inp):inp.any (λx=>decide (x<0\/1048576<x))=false:=by
 rw[List.any_eq_false];intro x hx;have:=hi.Mk x hx;simp;omega
theorem afi{vp vi:Value}{ws:List fu}{inp:List Int}(hp:fI ws)(hi:yV inp):aX Tryz.prog (.func 68) [vp,vi] [] [] [l6 0 mU,ae fP vp ws,ae ah vi inp] (λ_:Unit=>.tuple ⟨[.int .i64 (pts ws inp),.int .i64 0]⟩) (λ_=>[]) (λ_=>[]) (λ_=>True):=by
 have hwl:=hp.len;have hil:=hi.len;refine aT _ (bz 68) λB w0=>?_;refine go ?_;refine aB (UD (ws:=ws)) (next:=λy hy=>?_);obtain rfl:=hy.1 hp;refine go ?_;refine aB M5 (next:=λbi _=>?_);refine go ?_;refine gG (λh1=>?_) (λh1=>?_)
 rotate_left
 ·omega
 refine go ?_;refine aB (M3 (xs:=inp) (p:=λx=>decide (x<0\/1048576<x)) (by omega) (λx _=>ae7)) (next:=λ_ _=>?_);rw[afh hi];refine go ?_;intro bA;refine go ?_;intro bS;refine go ?_;refine bP (fQ (b:=bA) (cs:=Nc)) (hk:=.there .here) (h:=?_);refine L9 ah ?_;refine bR (λy:Nat×Value=>ws.length - y.1) (λy=>[(34,.int .i64 (y.1:Int))]) (λy=>[pt bS (.cells [y.2]),Iq y.2 (gZ inp (ws.take y.1))]) (λ_=>[]) (λy=>y.1<=ws.length) (0,.slice none 0 0) (cu _) (hk:=by repeat (first|exact aI.nil|(apply aI.cons;(focus (repeat (first|exact ai.here|apply ai.there)))))) (body:=?_);rintro⟨k,v⟩ hk;dsimp only at hk⊢;refine go ?_;refine aC rfl (λh0=>?_) (λh0=>?_)
 ·refine go ?_;refine cZ fP (k:=k) (next:=λbw ow w _ hw=>?_);obtain⟨fl,mX,hf1,hf2⟩:=hp.step hw;obtain⟨hsl,pR⟩:=Rk.xE hi k (by rw[cB];omega) hf1;have hfl:=Dw k (by rw[cB];omega) hf1;have hst:=SS (inp:=inp) hw;generalize gZ inp (ws.take k)=st at hsl pR hst⊢;have hpl:=xP st;refine go ?_;intro b10;obtain⟨op,n⟩:=w;dsimp only;refine go ?_;refine aC rfl (λh1=>?_) (λh1=>?_)
  ·refine go ?_;intro UI;refine go ?_;refine kv ah (v:=v) (aa:=pz st) n () ⟨by omega,by omega,by omega⟩ (λv'=>?_);refine mV ah (v:=v') λa c e=>?_;subst e;refine go ?_;rw[show pz st++[((n,()):Int×ah.Y)]=pz (gZ inp (ws.take (k+1)))by rw[hst,pQ,if_pos h1,<- uO];rfl];exact aL (k+1,.slice a _ c) (by show ws.length - (k+1)<ws.length - k;omega) (by show k+1<=_;omega)
  refine go ?_;refine aC rfl (λh2=>?_) (λh2=>?_)
  ·obtain⟨g1,g2⟩:=UG hf2 h2;dsimp only at g1 g2;refine go ?_;intro _ _ x hx;refine go ?_;intro b69;refine go ?_;refine kv ah (v:=v) (aa:=pz st) x () ⟨by omega,by omega,by omega⟩ (λv'=>?_);refine mV ah (v:=v') λa c e=>?_;subst e;refine go ?_;rw[show pz st++[((x,()):Int×ah.Y)]=pz (gZ inp (ws.take (k+1)))by rw[hst,pQ,if_neg h1,if_pos h2,iA,hx,<- uO];rfl];exact aL (k+1,.slice a _ c) (by show ws.length - (k+1)<ws.length - k;omega) (by show k+1<=_;omega)
  refine go ?_;refine aC rfl (λh3=>?_) (λh3=>?_)
  ·obtain⟨_,g2⟩:=UF hf2 h3;obtain⟨m,hm⟩:∃m,st.length=m+3:=⟨st.length - 3,by omega⟩
   have hs:=aey hm;have hnx:gZ inp (ws.take (k+1))=st.take m++[if st.getD m 0≠0 then st.getD (m+1) 0 else st.getD (m+2) 0]:=by
    rw[hst,pQ,if_neg h1,if_neg h2,if_pos h3,hm];rfl
   generalize st.getD m 0=x3 at hs hnx;generalize st.getD (m+1) 0=x2 at hs hnx;generalize st.getD (m+2) 0=x1 at hs hnx;have htl:(st.take m).length=m:=by rw[cB];omega
   generalize st.take m=s0 at hs hnx htl;subst hs;have Nf:=xP s0;refine go ?_;refine aB (D6 (bS:=bS) (v:=v) (st:=s0++[x3]++[x2]) (x:=x1) (by simp;omega)) (next:=λv1 _=>?_);refine go ?_;refine aB (D6 (bS:=bS) (v:=v1) (st:=s0++[x3]) (x:=x2) (by simp;omega)) (next:=λv2 _=>?_);refine go ?_;refine aB (D6 (bS:=bS) (v:=v2) (st:=s0) (x:=x3) (by omega)) (next:=λv3 _=>?_);refine go ?_;refine aC rfl (λh4=>?_) (λh4=>?_)
   ·refine go ?_;intro b84;refine go ?_;refine kv ah (v:=v3) (aa:=pz s0) x2 () ⟨by omega,by omega,by omega⟩ (λv'=>?_);refine mV ah (v:=v') λa c e=>?_;subst e;refine go ?_;rw[show pz s0++[((x2,()):Int×ah.Y)]=pz (gZ inp (ws.take (k+1)))by rw[hnx,if_pos h4,<- uO];rfl];exact aL (k+1,.slice a _ c) (by show ws.length - (k+1)<ws.length - k;omega) (by show k+1<=_;omega)
   ·refine go ?_;intro b84;refine go ?_;refine kv ah (v:=v3) (aa:=pz s0) x1 () ⟨by omega,by omega,by omega⟩ (λv'=>?_);refine mV ah (v:=v') λa c e=>?_;subst e;refine go ?_;rw[show pz s0++[((x1,()):Int×ah.Y)]=pz (gZ inp (ws.take (k+1)))by rw[hnx,if_neg h4,<- uO];rfl];exact aL (k+1,.slice a _ c) (by show ws.length - (k+1)<ws.length - k;omega) (by show k+1<=_;omega)
  obtain⟨g1,g2,g3⟩:=UH hf2 h1 h2 h3;dsimp only at g1 g2 g3;obtain⟨m,hm⟩:∃m,st.length=m+2:=⟨st.length - 2,by omega⟩
  have hs:=aex hm;have hnx:gZ inp (ws.take (k+1))=st.take m++[lC op (st.getD m 0) (st.getD (m+1) 0)]:=by
   rw[hst,pQ,if_neg h1,if_neg h2,if_neg h3,hm];rfl
  have r1:=pR _ (rP (st:=st) (k:=m) (by omega));have r2:=pR _ (rP (st:=st) (k:=m+1) (by omega));generalize st.getD m 0=x2 at hs hnx r1;generalize st.getD (m+1) 0=x1 at hs hnx r2;have htl:(st.take m).length=m:=by rw[cB];omega
  generalize st.take m=s0 at hs hnx htl;subst hs;have Nf:=xP s0;obtain⟨q,rfl⟩:=wE (show 0<=op by omega);refine go ?_;refine aB (D6 (bS:=bS) (v:=v) (st:=s0++[x2]) (x:=x1) (by simp;omega)) (next:=λv1 _=>?_);refine go ?_;refine aB (D6 (bS:=bS) (v:=v1) (st:=s0) (x:=x2) (by omega)) (next:=λv2 _=>?_);refine go ?_;refine(ko (b:=bA) (o:=0) (j:=(q:Int).toNat*1) (cs:=Nc) (v:=.func (.func (Nb q)) ⟨[]⟩ ⟨[]⟩) rfl rfl rfl (by repeat (first|with_reducible exact aR .. |with_reducible apply dw)) (by rw[Int.toNat_natCast,fV];exact aff (by omega) (by omega))).h ?_;refine go ?_;refine aB (afg (k:=q) (by omega) (by omega) r1 r2) (next:=λ_ _=>?_);refine go ?_;intro b52;refine go ?_;refine kv ah (v:=v2) (aa:=pz s0) (lC q x2 x1) () ⟨by omega,by omega,by omega⟩ (λv'=>?_);refine mV ah (v:=v') λa c e=>?_;subst e;refine go ?_;rw[show pz s0++[((lC q x2 x1,()):Int×ah.Y)]=pz (gZ inp (ws.take (k+1)))by rw[hnx,<- uO];rfl];exact aL (k+1,.slice a _ c) (by show ws.length - (k+1)<ws.length - k;omega) (by show k+1<=_;omega)
 have D5:k=ws.length:=by omega
 subst D5;rw[gV];obtain⟨hsl,pR⟩:=Rk.xE hi ws.length rfl hp.fl;have hpt:pts ws inp=max 0 (min 1048576 ((gZ inp ws).getD 0 0)):=rfl;obtain⟨x,hx⟩:∃x,gZ inp ws=[x]:=by
  generalize gZ inp ws=st at hsl;match st,hsl with
  |[x],_=>exact⟨x,rfl⟩
 rw[hx]at hpt⊢;refine uI ah (v:=v) (aa:=pz [x]) (by simp) λb f c r hf hr hc e=>?_;subst e;rw[show aP ah (pz [x])++r=.int .i64 x::r from rfl];refine go ?_;refine(bC rfl rfl (uC rfl rfl)).h ?_;refine(bC rfl rfl (qm rfl rfl)).h ?_;refine go ?_;exact aj () (hv:=by rw[hpt];rfl) (hp:=trivial)
