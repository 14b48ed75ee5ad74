/-
  The reference's programs: Check, operate.
-/
import Derived.Test.YtbdaaopebgcnaaaGreatDoorLibGM
set_option linter.all false
set_option maxRecDepth 10000
set_option maxHeartbeats 4000000
namespace Go.Proofs.YtbdaaopebgcnaaaGreatDoor
open Go.Ideal Rk
def qB(ws:List fu):Prop:=∀w∈ws, -9223372036854775808<=w.n/\w.n<9223372036854775808
structure WhY where
 v:Value
 ok:Bool
theorem afU{vp:Value}{ws:List fu}(hW:qB ws)(hl:ws.length<9223372036854775808):aX Tryz.prog (.func 105) [vp] [] [] [ae fP vp ws] (λy:WhY=>.tuple ⟨[y.v,.bool y.ok]⟩) (λ_=>[]) (λ_=>[]) (λy=>(y.ok=true↔fI ws)):=by
 refine aT _ (bz 105) λB w0=>?_;refine go ?_;refine aC rfl (λh1=>?_) (λh1=>?_)
 ·have hno:¬fI ws:=λh=>by have:=h.len;omega
  refine go ?_;exact aj ⟨.slice none 0 0,false⟩ (hv:=rfl) (hp:=⟨(λe=>by cases e),λh=>absurd h hno⟩)
 refine go ?_;refine bJ (ae aV (.slice none 0 0) ([]:List (Bool×List ByteArray))) (λw _=>.inl ⟨rfl,none,0,rfl,trivial⟩) ?_;refine bR (λy:Nat×Value×List (Bool×List ByteArray)=>ws.length - y.1) (λy=>[(5,.int .i64 (y.1:Int)),(4,y.2.1)]) (λ_=>[]) (λy=>[ae aV y.2.1 y.2.2]) (λy=>y.1<=ws.length/\lu (ws.take y.1)=some (je y.2.2)/\j3 y.2.2<=8*y.1) (0,.slice none 0 0,[]) ⟨cu _,rfl,cu _⟩ (body:=?_);rintro⟨k,v,L⟩ ⟨hk,hfl,htot⟩;dsimp only at hk hfl htot⊢;have yQ:L.length<=256:=by have:=Dw k (by rw[cB];omega) hfl;rw[pU]at this;omega
 refine go ?_;refine aC rfl (λh2=>?_) (λh2=>?_)
 ·refine go ?_;refine cZ fP (k:=k) (next:=λbw ow w _ hw=>?_);have hwr:=hW w (dA hw);have hstep:=HV hw hfl;obtain⟨op,n⟩:=w;dsimp only at hwr;refine go ?_;refine aB (afP (L:=L) (op:=op) (n:=n) hwr.1 hwr.2 yQ (by omega)) (next:=λy hy=>?_);obtain⟨v',ok,L'⟩:=y;obtain⟨hy1,hy2⟩:=hy;dsimp only at hy1 hy2⊢;cases ok with
  |false=>
   refine go ?_;have hno:¬fI ws:=λh=>by have:=h.fl;rw[Mj (k:=k+1) (by rw[hstep];exact hy2 rfl)]at this;cases this
   refine go ?_;exact aj ⟨.slice none 0 0,false⟩ (hv:=rfl) (hp:=⟨(λe=>by cases e),λh=>absurd h hno⟩)
  |true=>
   obtain⟨c1,c2⟩:=hy1 rfl;refine bJ (ae aV v' L') (λw hw=>hw _ (aR ..) rfl) ?_;refine go ?_;exact aL (k+1,v',L') (by show ws.length - (k+1)<ws.length - k;omega) ⟨by show k+1<=_;omega,hstep.trans c1,by show j3 L'<=8*(k+1);omega⟩
 have hkl:k=ws.length:=by omega
 subst hkl;rw[gV]at hfl;refine go ?_;refine gG (λh3=>?_) (λh3=>?_)
 rotate_left
 ·have hno:¬fI ws:=λh=>by have:=h.fl;rw[hfl]at this;have:=congrArg List.length (Option.some.inj this);rw[pU]at this;exact h3 (by show(L.length:Int)=1;rw[this];rfl)
  refine go ?_;exact aj ⟨.slice none 0 0,false⟩ (hv:=rfl) (hp:=⟨(λe=>by cases e),λh=>absurd h hno⟩)
 have hL1:L.length=1:=by omega
 obtain⟨p,rfl⟩:∃p,L=[p]:=by
  match L,hL1 with
  |[p],_=>exact⟨p,rfl⟩
 refine go ?_;refine cZ aV (k:=0) (xs:=[p]) (v:=v) (h1:=by simp) (next:=λb o q (y:Value) hq=>?_);cases hq;refine go ?_;refine iW rfl (λh4=>?_) (λh4=>?_)
 ·have hno:¬fI ws:=λh=>by have:=h.fl;rw[hfl]at this;have:=Option.some.inj this;injection this with this;have this:p.1=false:=this;rw[h4]at this;cases this
  refine go ?_;exact aj ⟨.slice none 0 0,false⟩ (hv:=rfl) (hp:=⟨(λe=>by cases e),λh=>absurd h hno⟩)
 refine go ?_;refine cZ aV (k:=0) (xs:=[p]) (v:=v) (h1:=by simp) (next:=λb o q (y:Value) hq=>?_);cases hq;refine go ?_;exact aj ⟨y,true⟩ (hv:=rfl) (hp:=⟨λ_=>⟨by omega,by rw[hfl];exact congrArg (λx=>some [x]) h4⟩,λ_=>rfl⟩)
theorem Vh{vp:Value}{ws:List fu}(hW:qB ws)(hl:ws.length<9223372036854775808):aX Tryz.prog (.func 73) [vp] [] [] [ae fP vp ws] (λy:Int=>.int .i64 y) (λ_=>[]) (λ_=>[]) (λy=>(fI ws->y=0)/\(¬fI ws->y=520)):=by
 refine aT _ (bz 73) λB w0=>?_;refine go ?_;refine aB (afU hW hl) (next:=λy hy=>?_);obtain⟨v,ok⟩:=y;dsimp only at hy⊢;cases ok with
 |false=>
  refine go ?_;exact aj 520 (hv:=rfl) (hp:=⟨(λh=>by have:=hy.2 h;cases this),λ_=>rfl⟩)
 |true=>
  refine go ?_;exact aj 0 (hv:=rfl) (hp:=⟨λ_=>rfl,λh=>absurd (hy.1 rfl) h⟩)
theorem Vi{x:Int}:gy Tryz.prog 117 [.int .i64 x] [] (.int .i64 (hold x)):=by
 refine aT _ (bz 117) λB w0=>?_;refine go ?_;refine(bC rfl rfl (uC rfl rfl)).h ?_;refine(bC rfl rfl (qm rfl rfl)).h ?_;refine go ?_;exact aj () (hv:=rfl) (hp:=trivial)
theorem afV{a b:Int}(hb:b≠0)(h:max a (-a)<=(1099511627776:Int).tdiv (max b (-b))):0<=max a (-a)*max b (-b)/\max a (-a)*max b (-b)<=1099511627776:=by
 have hbp:(0:Int)<max b (-b):=by omega
 rw[OM (by decide)]at h;exact⟨Int.mul_nonneg (by omega) (by omega),(Int.le_ediv_iff_mul_le hbp).1 h⟩
theorem afW{a b:Int}(hb:b≠0)(h:¬max a (-a)<=(1099511627776:Int).tdiv (max b (-b))):mY a b=if decide (a<0)≠decide (b<0)then -1099511627776 else 1099511627776:=by
 unfold mY;rw[if_pos ⟨hb,by omega⟩]
theorem afX{a b:Int}(h:max a (-a)<=(1099511627776:Int).tdiv (max b (-b))):mY a b=if decide (a<0)≠decide (b<0)then -(max a (-a)*max b (-b))else max a (-a)*max b (-b):=by
 unfold mY;rw[if_neg (λk=>by omega)];by_cases ha:a<0<;>by_cases hb:b<0
 ·rw[if_neg (by simp[ha,hb]),show max a (-a)= -a by omega,show max b (-b)= -b by omega,Int.neg_mul_neg]
 ·rw[if_pos (by simp[ha,hb]),show max a (-a)= -a by omega,show max b (-b)=b by omega,Int.neg_mul,Int.neg_neg]
 ·rw[if_pos (by simp[ha,hb]),show max a (-a)=a by omega,show max b (-b)= -b by omega,Int.mul_neg,Int.neg_neg]
 ·rw[if_neg (by simp[ha,hb]),show max a (-a)=a by omega,show max b (-b)=b by omega]
theorem afY{a b:Int}(ha:eu a)(hb:eu b):gy Tryz.prog 118 [.int .i64 a,.int .i64 b] [] (.int .i64 (mY a b)):=by
 unfold eu at ha hb;have hz:a=0\/b=0->mY a b=0:=by
  intro h;unfold mY;rcases h with rfl|rfl
  ·by_cases hb0:b=0
   ·rw[if_neg (λk=>k.1 hb0)];simp
   ·have h2:=Int.tdiv_nonneg (a:=1099511627776) (b:=max b (-b)) (by decide) (by omega);rw[if_neg (λk=>by omega)];simp
  ·rw[if_neg (λk=>k.1 rfl)];simp
 refine aT _ (bz 118) λB w0=>?_;refine go ?_;refine gG (λh1=>?_) (λh1=>?_)
 rotate_left
 ·refine go ?_;exact aj () (hv:=by rw[hz (.inl h1)];rfl) (hp:=trivial)
 refine go ?_;refine aC rfl (λh2=>?_) (λh2=>?_)
 ·refine go ?_;exact aj () (hv:=by rw[hz (.inr h2)];rfl) (hp:=trivial)
 refine go ?_;refine(bC rfl rfl (Bn rfl (by omega) (by omega))).h ?_;refine(bC rfl rfl (qm rfl rfl)).h ?_;refine go ?_;refine(bC rfl rfl (Bn rfl (by omega) (by omega))).h ?_;refine(bC rfl rfl (qm rfl rfl)).h ?_;have hq:=Ip (a:=1099511627776) (b:=max b (-b)) (n:=1099511627776) (by decide);refine go ?_;refine(bC rfl rfl (Ap rfl rfl (by omega) (by omega) (by omega))).h ?_;refine go ?_;refine aC rfl (λh3=>?_) (λh3=>?_)
 ·have hm:=afV h2 h3;have ht:=afX h3;refine go ?_;refine iW rfl (λh4=>?_) (λh4=>?_)
  ·rw[if_pos (bne_iff_ne.1 h4)]at ht;refine go ?_;refine(bC rfl rfl (Bn rfl (by omega) (by omega))).h ?_;refine go ?_;exact aj () (hv:=by rw[ht];rfl) (hp:=trivial)
  ·rw[if_neg (λh=>by rw[bne_iff_ne.2 h]at h4;cases h4)]at ht;refine go ?_;exact aj () (hv:=by rw[ht];rfl) (hp:=trivial)
 ·have ht:=afW (a:=a) h2 h3;refine go ?_;refine iW rfl (λh4=>?_) (λh4=>?_)
  ·rw[if_pos (bne_iff_ne.1 h4)]at ht;refine go ?_;refine(bC rfl rfl (Bn rfl (by decide) (by decide))).h ?_;refine go ?_;exact aj () (hv:=by rw[ht];rfl) (hp:=trivial)
  ·rw[if_neg (λh=>by rw[bne_iff_ne.2 h]at h4;cases h4)]at ht;refine go ?_;exact aj () (hv:=by rw[ht];rfl) (hp:=trivial)
theorem afZ{a b:Int}(ha:eu a)(hb:eu b):gy Tryz.prog 119 [.int .i64 a,.int .i64 b] [] (.int .i64 (qx a b)):=by
 unfold eu at ha hb;refine aT _ (bz 119) λB w0=>?_;refine go ?_;refine aC rfl (λh1=>?_) (λh1=>?_)
 ·refine go ?_;refine aj () (hv:=?_) (hp:=trivial);show Value.int .i64 0=_;unfold qx;rw[if_pos h1]
 have hq:=Ip (a:=a) (b:=b) (n:=1099511627776) (by omega);have hmd:a.tdiv b*b=a - a.tmod b:=by rw[Int.tmod_def,Int.mul_comm];omega
 have hma:(a.tmod b).natAbs<=a.natAbs:=by rw[Int.natAbs_tmod];exact Nat.mod_le _ _
 refine go ?_;refine(bC rfl rfl (Ap rfl rfl h1 (by omega) (by omega))).h ?_;refine go ?_;refine gG (λh2=>?_) (λh2=>?_)
 ·have h2:a.tmod b=0:=by have:=qd.1 h2;omega
  refine go ?_;refine aj () (hv:=?_) (hp:=trivial);show Value.int .i64 (a.tdiv b)=_;unfold qx;rw[if_neg h1,if_neg (λh=>h.1 h2)]
 have h2:a.tmod b≠0:=λh=>h2 (by omega);refine go ?_;refine iW rfl (λh3=>?_) (λh3=>?_)
 ·refine go ?_;refine aj () (hv:=?_) (hp:=trivial);show Value.int .i64 (a.tdiv b - 1)=_;unfold qx;rw[if_neg h1,if_pos ⟨h2,bne_iff_ne.1 h3⟩]
 ·refine go ?_;refine aj () (hv:=?_) (hp:=trivial);show Value.int .i64 (a.tdiv b)=_;unfold qx;rw[if_neg h1,if_neg (λh=>by rw[bne_iff_ne.2 h.2]at h3;cases h3)]
theorem af0{op a b:Int}(ha:eu a)(hb:eu b):gy Tryz.prog 107 [.int .i64 op,.int .i64 a,.int .i64 b] [] (.int .i64 (lC op a b)):=by
 have ha':=ha;have hb':=hb;unfold eu at ha' hb';refine aT _ (bz 107) λB w0=>?_;refine go ?_;refine aC rfl (λh3=>?_) (λh3=>?_)
 ·refine go ?_;refine aB Vi (next:=λ_ _=>?_);refine go ?_;exact aj () (hv:=by unfold lC;rw[if_pos h3];rfl) (hp:=trivial)
 refine go ?_;refine aC rfl (λh4=>?_) (λh4=>?_)
 ·refine go ?_;refine aB Vi (next:=λ_ _=>?_);refine go ?_;exact aj () (hv:=by unfold lC;rw[if_neg h3,if_pos h4];rfl) (hp:=trivial)
 refine go ?_;refine aC rfl (λh5=>?_) (λh5=>?_)
 ·refine go ?_;refine aB (afY ha hb) (next:=λ_ _=>?_);refine go ?_;exact aj () (hv:=by unfold lC;rw[if_neg h3,if_neg h4,if_pos h5];rfl) (hp:=trivial)
 refine go ?_;refine aC rfl (λh6=>?_) (λh6=>?_)
 ·refine go ?_;refine aB (afZ ha hb) (next:=λ_ _=>?_);refine go ?_;exact aj () (hv:=by unfold lC;rw[if_neg h3,if_neg h4,if_neg h5,if_pos h6];rfl) (hp:=trivial)
 refine go ?_;refine aC rfl (λh7=>?_) (λh7=>?_)
 ·refine go ?_;refine(bC rfl rfl (uC rfl rfl)).h ?_;refine go ?_;exact aj () (hv:=by unfold lC;rw[if_neg h3,if_neg h4,if_neg h5,if_neg h6,if_pos h7];rfl) (hp:=trivial)
 refine go ?_;refine aC rfl (λh8=>?_) (λh8=>?_)
 ·refine go ?_;refine(bC rfl rfl (qm rfl rfl)).h ?_;refine go ?_;exact aj () (hv:=by unfold lC;rw[if_neg h3,if_neg h4,if_neg h5,if_neg h6,if_neg h7,if_pos h8];rfl) (hp:=trivial)
 refine go ?_;refine aC rfl (λh9=>?_) (λh9=>?_)
 ·refine go ?_;exact aj () (hv:=by unfold lC;rw[if_neg h3,if_neg h4,if_neg h5,if_neg h6,if_neg h7,if_neg h8,if_pos h9];rfl) (hp:=trivial)
 ·refine go ?_;exact aj () (hv:=by unfold lC;rw[if_neg h3,if_neg h4,if_neg h5,if_neg h6,if_neg h7,if_neg h8,if_neg h9];rfl) (hp:=trivial)
theorem af1{vp vi:Value}{ws:List fu}{inp:List Int}(hW:qB ws)(hp:fI ws)(hi:yV inp):aX Tryz.prog (.func 76) [vp,vi] [] [] [ae fP vp ws,ae ah vi inp] (λ_:Unit=>.tuple ⟨[.int .i64 (pts ws inp),.int .i64 0]⟩) (λ_=>[]) (λ_=>[]) (λ_=>True):=by
 have hwl:=hp.len;have hil:=hi.len;refine aT _ (bz 76) λB w0=>?_;refine go ?_;refine aB (Vh hW (by omega)) (next:=λy hy=>?_);obtain rfl:=hy.1 hp;refine go ?_;refine go ?_;refine aC rfl (λh1=>?_) (λh1=>?_)
 ·omega
 refine go ?_;refine bR (λy:Nat=>5 - y) (λy=>[(6,.int .i64 (y:Int))]) (λ_=>[]) (λ_=>[]) (λy=>y<=5) 0 (cu _) (body:=?_);rintro k hk;dsimp only at hk⊢;refine go ?_;refine aC rfl (λh2=>?_) (λh2=>?_)
 ·refine go ?_;intro _ _ x hx;have pV:=hi.Mk x (dA hx);refine go ?_;rw[fB (show¬x<0 by omega)];refine go ?_;intro _ _ x2 hx2;cases hx.symm.trans hx2;refine go ?_;refine aC rfl (λh3=>?_) (λh3=>?_)
  ·omega
  refine go ?_;exact aL (k+1) (by show 5 - (k+1)<5 - k;omega) (by show k+1<=5;omega)
 have hk5:k=inp.length:=by omega
 subst hk5;refine go ?_;refine L9 ah ?_;refine bR (λy:Nat×Value=>ws.length - y.1) (λy=>[(8,.int .i64 (y.1:Int)),(7,y.2)]) (λy=>[Iq y.2 (gZ inp (ws.take y.1))]) (λ_=>[]) (λy=>y.1<=ws.length) (0,.slice none 0 0) (cu _) (hk:=by repeat (first|exact aI.nil|(apply aI.cons;(focus (repeat (first|exact ai.here|apply ai.there)))))) (body:=?_);rintro⟨k,v⟩ hk;dsimp only at hk⊢;refine go ?_;refine aC rfl (λh0=>?_) (λh0=>?_)
 ·refine mV ah (v:=v) (aa:=pz (gZ inp (ws.take k))) λa c e=>?_;subst e;rw[xP];refine go ?_;refine cZ fP (k:=k) (next:=λbw ow w _ hw=>?_);obtain⟨fl,mX,hf1,hf2⟩:=hp.step hw;obtain⟨hsl,pR⟩:=Rk.xE hi k (by rw[cB];omega) hf1;have hfl:=Dw k (by rw[cB];omega) hf1;have hst:=SS (inp:=inp) hw;generalize gZ inp (ws.take k)=st at hsl pR hst⊢;have hpl:=xP st;obtain⟨op,n⟩:=w;refine go ?_;dsimp only;refine aC rfl (λh1=>?_) (λh1=>?_)
  ·refine go ?_;refine cZ fP (k:=k) (next:=λVj Vk w2 _ hw2=>?_);cases hw.symm.trans hw2;refine go ?_;dsimp only;intro UI;refine go ?_;refine kv ah (v:=.slice a st.length c) (aa:=pz st) n () ⟨by omega,by omega,by omega⟩ (λv'=>?_);refine mV ah (v:=v') λa c e=>?_;subst e;refine go ?_;rw[show pz st++[((n,()):Int×ah.Y)]=pz (gZ inp (ws.take (k+1)))by rw[hst,pQ,if_pos h1,<- uO];rfl];exact aL (k+1,.slice a _ c) (by show ws.length - (k+1)<ws.length - k;omega) (by show k+1<=_;omega)
  refine go ?_;refine aC rfl (λh2=>?_) (λh2=>?_)
  ·obtain⟨g1,g2⟩:=UG hf2 h2;dsimp only at g1 g2;refine go ?_;refine cZ fP (k:=k) (next:=λVj Vk w2 _ hw2=>?_);cases hw.symm.trans hw2;refine go ?_;dsimp only;refine go ?_;intro _ _ x hx;refine go ?_;intro b69;refine go ?_;refine kv ah (v:=.slice a st.length c) (aa:=pz st) x () ⟨by omega,by omega,by omega⟩ (λv'=>?_);refine mV ah (v:=v') λa c e=>?_;subst e;refine go ?_;rw[show pz st++[((x,()):Int×ah.Y)]=pz (gZ inp (ws.take (k+1)))by rw[hst,pQ,if_neg h1,if_pos h2,iA,hx,<- uO];rfl];exact aL (k+1,.slice a _ c) (by show ws.length - (k+1)<ws.length - k;omega) (by show k+1<=_;omega)
  refine go ?_;refine aC rfl (λh3=>?_) (λh3=>?_)
  ·obtain⟨_,g2⟩:=UF hf2 h3;obtain⟨m,hm⟩:∃m,st.length=m+3:=⟨st.length - 3,by omega⟩
   have hnx:gZ inp (ws.take (k+1))=st.take m++[if st.getD m 0≠0 then st.getD (m+1) 0 else st.getD (m+2) 0]:=by
    rw[hst,pQ,if_neg h1,if_neg h2,if_pos h3,hm];rfl
   have e3:=Bo (oD (st:=st) (k:=m) (by omega));have e2:=Bo (oD (st:=st) (k:=m+1) (by omega));have e1:=Bo (oD (st:=st) (k:=m+2) (by omega));generalize st.getD m 0=x3 at e3 hnx;generalize st.getD (m+1) 0=x2 at e2 hnx;generalize st.getD (m+2) 0=x1 at e1 hnx;have htl:(st.take m).length=m:=by rw[cB];omega
   have Nf:=xP (st.take m);refine uI ah (v:=.slice a st.length c) (aa:=pz st) (by omega) λb f c' r hf hr hc e=>?_;rw[hpl]at e;injection e with ea _ ec;subst ea ec;rw[hm];refine go ?_;rw[show((m+3:Nat):Int) - 1=((m+2:Nat):Int)by omega];refine go ?_;refine gp (o:=0+(m+2)*1) (.int .i64 x1) (mW (E:=ah) (j:=0) (p:=(x1,())) (k:=m+2) e1 rfl (by show _=(m+2)*1+0;omega)) ?_;refine go ?_;rw[show((m+3:Nat):Int) - 3=((m:Nat):Int)by omega];refine go ?_;refine gp (o:=0+m*1) (.int .i64 x3) (mW (E:=ah) (j:=0) (p:=(x3,())) (k:=m) e3 rfl (by show _=m*1+0;omega)) ?_;refine go ?_;refine aC rfl (λh4=>?_) (λh4=>?_)
   ·refine go ?_;rw[show((m+3:Nat):Int) - 2=((m+1:Nat):Int)by omega];refine go ?_;refine gp (o:=0+(m+1)*1) (.int .i64 x2) (mW (E:=ah) (j:=0) (p:=(x2,())) (k:=m+1) e2 rfl (by show _=(m+1)*1+0;omega)) ?_;refine go ?_;rw[show((m+3:Nat):Int) - 3=((m:Nat):Int)by omega];refine A7 ah (aa:=pz st) (b:=b) (f:=f) (c:=c) (m:=m+3) (r:=r) (by omega) hf hr hc ?_;refine Ma ah (v:=.slice (some ⟨b,0,some f⟩) (m+3) c) (aa:=pz st) m (by omega) (λv2=>?_);rw[Ir];refine go ?_;intro Bp;refine go ?_;refine kv ah (v:=v2) (aa:=pz (st.take m)) x2 () ⟨by omega,by omega,by omega⟩ (λv'=>?_);refine mV ah (v:=v') λa c e=>?_;subst e;refine go ?_;rw[show pz (st.take m)++[((x2,()):Int×ah.Y)]=pz (gZ inp (ws.take (k+1)))by rw[hnx,if_pos h4,<- uO];rfl];exact aL (k+1,.slice a _ c) (by show ws.length - (k+1)<ws.length - k;omega) (by show k+1<=_;omega)
   ·refine go ?_;rw[show((m+3:Nat):Int) - 3=((m:Nat):Int)by omega];refine A7 ah (aa:=pz st) (b:=b) (f:=f) (c:=c) (m:=m+3) (r:=r) (by omega) hf hr hc ?_;refine Ma ah (v:=.slice (some ⟨b,0,some f⟩) (m+3) c) (aa:=pz st) m (by omega) (λv2=>?_);rw[Ir];refine go ?_;intro Bp;refine go ?_;refine kv ah (v:=v2) (aa:=pz (st.take m)) x1 () ⟨by omega,by omega,by omega⟩ (λv'=>?_);refine mV ah (v:=v') λa c e=>?_;subst e;refine go ?_;rw[show pz (st.take m)++[((x1,()):Int×ah.Y)]=pz (gZ inp (ws.take (k+1)))by rw[hnx,if_neg h4,<- uO];rfl];exact aL (k+1,.slice a _ c) (by show ws.length - (k+1)<ws.length - k;omega) (by show k+1<=_;omega)
  obtain⟨g1,g2,g3⟩:=UH hf2 h1 h2 h3;dsimp only at g1 g2 g3;obtain⟨m,hm⟩:∃m,st.length=m+2:=⟨st.length - 2,by omega⟩
  have hnx:gZ inp (ws.take (k+1))=st.take m++[lC op (st.getD m 0) (st.getD (m+1) 0)]:=by
   rw[hst,pQ,if_neg h1,if_neg h2,if_neg h3,hm];rfl
  have r1:=pR _ (rP (st:=st) (k:=m) (by omega));have r2:=pR _ (rP (st:=st) (k:=m+1) (by omega));have e2:=Bo (oD (st:=st) (k:=m) (by omega));have e1:=Bo (oD (st:=st) (k:=m+1) (by omega));generalize st.getD m 0=x2 at e2 hnx r1;generalize st.getD (m+1) 0=x1 at e1 hnx r2;have htl:(st.take m).length=m:=by rw[cB];omega
  have Nf:=xP (st.take m);refine go ?_;refine cZ fP (k:=k) (next:=λVj Vk w2 _ hw2=>?_);cases hw.symm.trans hw2;refine go ?_;refine uI ah (v:=.slice a st.length c) (aa:=pz st) (by omega) λb f c' r hf hr hc e=>?_;rw[hpl]at e;injection e with ea _ ec;subst ea ec;rw[hm];refine go ?_;rw[show((m+2:Nat):Int) - 2=((m:Nat):Int)by omega];refine go ?_;refine gp (o:=0+m*1) (.int .i64 x2) (mW (E:=ah) (j:=0) (p:=(x2,())) (k:=m) e2 rfl (by show _=m*1+0;omega)) ?_;refine go ?_;rw[show((m+2:Nat):Int) - 1=((m+1:Nat):Int)by omega];refine go ?_;refine gp (o:=0+(m+1)*1) (.int .i64 x1) (mW (E:=ah) (j:=0) (p:=(x1,())) (k:=m+1) e1 rfl (by show _=(m+1)*1+0;omega)) ?_;refine go ?_;refine aB (af0 r1 r2) (next:=λ_ _=>?_);refine go ?_;rw[show((m+2:Nat):Int) - 2=((m:Nat):Int)by omega];refine A7 ah (aa:=pz st) (b:=b) (f:=f) (c:=c) (m:=m+2) (r:=r) (by omega) hf hr hc ?_;refine Ma ah (v:=.slice (some ⟨b,0,some f⟩) (m+2) c) (aa:=pz st) m (by omega) (λv2=>?_);rw[Ir];refine go ?_;intro Bp;refine go ?_;refine kv ah (v:=v2) (aa:=pz (st.take m)) (lC op x2 x1) () ⟨by omega,by omega,by omega⟩ (λv'=>?_);refine mV ah (v:=v') λa c e=>?_;subst e;refine go ?_;rw[show pz (st.take m)++[((lC op x2 x1,()):Int×ah.Y)]=pz (gZ inp (ws.take (k+1)))by rw[hnx,<- uO];rfl];exact aL (k+1,.slice a _ c) (by show ws.length - (k+1)<ws.length - k;omega) (by show k+1<=_;omega)
 have D5:k=ws.length:=by omega
 subst D5;rw[gV];obtain⟨hsl,pR⟩:=Rk.xE hi ws.length rfl hp.fl;have hpt:pts ws inp=max 0 (min 1048576 ((gZ inp ws).getD 0 0)):=rfl;obtain⟨x,hx⟩:∃x,gZ inp ws=[x]:=by
  generalize gZ inp ws=st at hsl;match st,hsl with
  |[x],_=>exact⟨x,rfl⟩
 rw[hx]at hpt⊢;refine uI ah (v:=v) (aa:=pz [x]) (by simp) λb f c r hf hr hc e=>?_;subst e;rw[show aP ah (pz [x])++r=.int .i64 x::r from rfl];refine go ?_;refine(bC rfl rfl (uC rfl rfl)).h ?_;refine(bC rfl rfl (qm rfl rfl)).h ?_;refine go ?_;exact aj () (hv:=by rw[hpt];rfl) (hp:=trivial)
