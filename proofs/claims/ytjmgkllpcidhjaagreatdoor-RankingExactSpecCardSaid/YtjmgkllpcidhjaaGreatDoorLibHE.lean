/-
  The reference's programs: Check, operate.
-/
import Derived.Test.YtjmgkllpcidhjaaGreatDoorLibGE
set_option linter.all false
set_option maxRecDepth 10000
set_option maxHeartbeats 4000000
namespace Go.Proofs.YtjmgkllpcidhjaaGreatDoor
open Go.Ideal Rk
def rU(ws:List cO):Prop:=∀w∈ws, -9223372036854775808<=w.n/\w.n<9223372036854775808
structure Wm where
 v:Value
 ok:Bool
theorem Wn{vp:Value}{ws:List cO}(hW:rU ws)(hl:ws.length<9223372036854775808):bJ Tryz.prog (.func 59) [vp] [] [] [ah fV vp ws] (λy:Wm=>.tuple ⟨[y.v,.bool y.ok]⟩) (λ_=>[]) (λ_=>[]) (λy=>(y.ok=true↔dD ws)):=by
 refine bq _ (bP 59) λB w0=>?_;refine go ?_;refine aJ rfl (λh1=>?_) (λh1=>?_)
 ·have hno:¬dD ws:=λh=>by have:=h.len;omega
  refine go ?_;exact av ⟨.slice none 0 0,false⟩ (hv:=rfl) (hp:=⟨(λe=>by cases e),λh=>absurd h hno⟩)
 refine go ?_;refine bM (ah aG (.slice none 0 0) ([]:List (Bool×List ByteArray))) (λw _=>.inl ⟨rfl,none,0,rfl,trivial⟩) ?_;refine dZ (λy:Nat×Value×List (Bool×List ByteArray)=>ws.length - y.1) (λy=>[(5,.int .i64 (y.1:Int)),(4,y.2.1)]) (λ_=>[]) (λy=>[ah aG y.2.1 y.2.2]) (λy=>y.1<=ws.length/\iG (ws.take y.1)=some (fM y.2.2)/\gQ y.2.2<=8*y.1) (0,.slice none 0 0,[]) ⟨dz _,rfl,dz _⟩ (body:=?_);rintro⟨k,v,L⟩ ⟨hk,hfl,htot⟩;dsimp only at hk hfl htot⊢;have Lc:L.length<=256:=by have:=yl k (by rw[cB];omega) hfl;rw[kV]at this;omega
 refine go ?_;refine aJ rfl (λh2=>?_) (λh2=>?_)
 ·refine go ?_;refine dh fV (k:=k) (next:=λbw ow w _ hw=>?_);have hwr:=hW w (dG hw);have hstep:=AP hw hfl;obtain⟨op,n⟩:=w;dsimp only at hwr;refine go ?_;refine aF (Wh (L:=L) (op:=op) (n:=n) hwr.1 hwr.2 Lc (by omega)) (next:=λy hy=>?_);obtain⟨v',ok,L'⟩:=y;obtain⟨hy1,hy2⟩:=hy;dsimp only at hy1 hy2⊢;cases ok with
  |false=>
   refine go ?_;have hno:¬dD ws:=λh=>by have:=h.fl;rw[E8 (k:=k+1) (by rw[hstep];exact hy2 rfl)]at this;cases this
   refine go ?_;exact av ⟨.slice none 0 0,false⟩ (hv:=rfl) (hp:=⟨(λe=>by cases e),λh=>absurd h hno⟩)
  |true=>
   obtain⟨c1,c2⟩:=hy1 rfl;refine bM (ah aG v' L') (λw hw=>hw _ (aT ..) rfl) ?_;refine go ?_;exact bC (k+1,v',L') (by show ws.length - (k+1)<ws.length - k;omega) ⟨by show k+1<=_;omega,hstep.trans c1,by show gQ L'<=8*(k+1);omega⟩
 have hkl:k=ws.length:=by omega
 subst hkl;rw[jc]at hfl;refine go ?_;refine gG (λh3=>?_) (λh3=>?_)
 rotate_left
 ·have hno:¬dD ws:=λh=>by have:=h.fl;rw[hfl]at this;have:=congrArg List.length (Option.some.inj this);rw[kV]at this;exact h3 (by show(L.length:Int)=1;rw[this];rfl)
  refine go ?_;exact av ⟨.slice none 0 0,false⟩ (hv:=rfl) (hp:=⟨(λe=>by cases e),λh=>absurd h hno⟩)
 have hL1:L.length=1:=by omega
 obtain⟨p,rfl⟩:∃p,L=[p]:=by
  match L,hL1 with
  |[p],_=>exact⟨p,rfl⟩
 refine go ?_;refine dh aG (k:=0) (xs:=[p]) (v:=v) (h1:=by simp) (next:=λb o q (y:Value) hq=>?_);cases hq;refine go ?_;refine jr rfl (λh4=>?_) (λh4=>?_)
 ·have hno:¬dD ws:=λh=>by have:=h.fl;rw[hfl]at this;have:=Option.some.inj this;injection this with this;have this:p.1=false:=this;rw[h4]at this;cases this
  refine go ?_;exact av ⟨.slice none 0 0,false⟩ (hv:=rfl) (hp:=⟨(λe=>by cases e),λh=>absurd h hno⟩)
 refine go ?_;refine dh aG (k:=0) (xs:=[p]) (v:=v) (h1:=by simp) (next:=λb o q (y:Value) hq=>?_);cases hq;refine go ?_;exact av ⟨y,true⟩ (hv:=rfl) (hp:=⟨λ_=>⟨by omega,by rw[hfl];exact congrArg (λx=>some [x]) h4⟩,λ_=>rfl⟩)
theorem LZ{vp:Value}{ws:List cO}(hW:rU ws)(hl:ws.length<9223372036854775808):bJ Tryz.prog (.func 39) [vp] [] [] [ah fV vp ws] (λy:Int=>.int .i64 y) (λ_=>[]) (λ_=>[]) (λy=>(dD ws->y=0)/\(¬dD ws->y=520)):=by
 refine bq _ (bP 39) λB w0=>?_;refine go ?_;refine aF (Wn hW hl) (next:=λy hy=>?_);obtain⟨v,ok⟩:=y;dsimp only at hy⊢;cases ok with
 |false=>
  refine go ?_;exact av 520 (hv:=rfl) (hp:=⟨(λh=>by have:=hy.2 h;cases this),λ_=>rfl⟩)
 |true=>
  refine go ?_;exact av 0 (hv:=rfl) (hp:=⟨λ_=>rfl,λh=>absurd (hy.1 rfl) h⟩)
theorem L6{x:Int}:fG Tryz.prog 97 [.int .i64 x] [] (.int .i64 (hold x)):=by
 refine bq _ (bP 97) λB w0=>?_;refine go ?_;refine(bY rfl rfl (vF rfl rfl)).h ?_;refine(bY rfl rfl (nX rfl rfl)).h ?_;refine go ?_;exact av () (hv:=rfl) (hp:=trivial)
theorem Wo{a b:Int}(hb:b≠0)(h:max a (-a)<=(1099511627776:Int).tdiv (max b (-b))):0<=max a (-a)*max b (-b)/\max a (-a)*max b (-b)<=1099511627776:=by
 have hbp:(0:Int)<max b (-b):=by omega
 rw[Int.tdiv_eq_ediv_of_nonneg (by decide)]at h;exact⟨Int.mul_nonneg (by omega) (by omega),(Int.le_ediv_iff_mul_le hbp).1 h⟩
theorem Wp{a b:Int}(hb:b≠0)(h:¬max a (-a)<=(1099511627776:Int).tdiv (max b (-b))):jA a b=if decide (a<0)≠decide (b<0)then -1099511627776 else 1099511627776:=by
 unfold jA;rw[if_pos ⟨hb,by omega⟩]
theorem Wq{a b:Int}(h:max a (-a)<=(1099511627776:Int).tdiv (max b (-b))):jA a b=if decide (a<0)≠decide (b<0)then -(max a (-a)*max b (-b))else max a (-a)*max b (-b):=by
 unfold jA;rw[if_neg (λk=>by omega)];by_cases ha:a<0<;>by_cases hb:b<0
 ·rw[if_neg (by simp[ha,hb]),show max a (-a)= -a by omega,show max b (-b)= -b by omega,Int.neg_mul_neg]
 ·rw[if_pos (by simp[ha,hb]),show max a (-a)= -a by omega,show max b (-b)=b by omega,Int.neg_mul,Int.neg_neg]
 ·rw[if_pos (by simp[ha,hb]),show max a (-a)=a by omega,show max b (-b)= -b by omega,Int.mul_neg,Int.neg_neg]
 ·rw[if_neg (by simp[ha,hb]),show max a (-a)=a by omega,show max b (-b)=b by omega]
theorem Ws{a b:Int}(ha:bW a)(hb:bW b):fG Tryz.prog 98 [.int .i64 a,.int .i64 b] [] (.int .i64 (jA a b)):=by
 unfold bW at ha hb;have hz:a=0\/b=0->jA a b=0:=by
  intro h;unfold jA;rcases h with rfl|rfl
  ·by_cases hb0:b=0
   ·rw[if_neg (λk=>k.1 hb0)];simp
   ·have h2:=Int.tdiv_nonneg (a:=1099511627776) (b:=max b (-b)) (by decide) (by omega);rw[if_neg (λk=>by omega)];simp
  ·rw[if_neg (λk=>k.1 rfl)];simp
 refine bq _ (bP 98) λB w0=>?_;refine go ?_;refine gG (λh1=>?_) (λh1=>?_)
 rotate_left
 ·refine go ?_;exact av () (hv:=by rw[hz (.inl h1)];rfl) (hp:=trivial)
 refine go ?_;refine aJ rfl (λh2=>?_) (λh2=>?_)
 ·refine go ?_;exact av () (hv:=by rw[hz (.inr h2)];rfl) (hp:=trivial)
 refine go ?_;refine(bY rfl rfl (vQ rfl (by omega) (by omega))).h ?_;refine(bY rfl rfl (nX rfl rfl)).h ?_;refine go ?_;refine(bY rfl rfl (vQ rfl (by omega) (by omega))).h ?_;refine(bY rfl rfl (nX rfl rfl)).h ?_;have hq:=Bc (a:=1099511627776) (b:=max b (-b)) (n:=1099511627776) (by decide);refine go ?_;refine(bY rfl rfl (xP rfl rfl (by omega) (by omega) (by omega))).h ?_;refine go ?_;refine aJ rfl (λh3=>?_) (λh3=>?_)
 ·have hm:=Wo h2 h3;have ht:=Wq h3;refine go ?_;refine jr rfl (λh4=>?_) (λh4=>?_)
  ·rw[if_pos (bne_iff_ne.1 h4)]at ht;refine go ?_;refine(bY rfl rfl (vQ rfl (by omega) (by omega))).h ?_;refine go ?_;exact av () (hv:=by rw[ht];rfl) (hp:=trivial)
  ·rw[if_neg (λh=>by rw[bne_iff_ne.2 h]at h4;cases h4)]at ht;refine go ?_;exact av () (hv:=by rw[ht];rfl) (hp:=trivial)
 ·have ht:=Wp (a:=a) h2 h3;refine go ?_;refine jr rfl (λh4=>?_) (λh4=>?_)
  ·rw[if_pos (bne_iff_ne.1 h4)]at ht;refine go ?_;refine(bY rfl rfl (vQ rfl (by decide) (by decide))).h ?_;refine go ?_;exact av () (hv:=by rw[ht];rfl) (hp:=trivial)
  ·rw[if_neg (λh=>by rw[bne_iff_ne.2 h]at h4;cases h4)]at ht;refine go ?_;exact av () (hv:=by rw[ht];rfl) (hp:=trivial)
theorem Wt{a b:Int}(ha:bW a)(hb:bW b):fG Tryz.prog 99 [.int .i64 a,.int .i64 b] [] (.int .i64 (lH a b)):=by
 unfold bW at ha hb;refine bq _ (bP 99) λB w0=>?_;refine go ?_;refine aJ rfl (λh1=>?_) (λh1=>?_)
 ·refine go ?_;refine av () (hv:=?_) (hp:=trivial);show Value.int .i64 0=_;unfold lH;rw[if_pos h1]
 have hq:=Bc (a:=a) (b:=b) (n:=1099511627776) (by omega);have hmd:a.tdiv b*b=a - a.tmod b:=by rw[Int.tmod_def,Int.mul_comm];omega
 have hma:(a.tmod b).natAbs<=a.natAbs:=by rw[Int.natAbs_tmod];exact Nat.mod_le _ _
 refine go ?_;refine(bY rfl rfl (xP rfl rfl h1 (by omega) (by omega))).h ?_;refine go ?_;refine gG (λh2=>?_) (λh2=>?_)
 ·have h2:a.tmod b=0:=by have:=zh.1 h2;omega
  refine go ?_;refine av () (hv:=?_) (hp:=trivial);show Value.int .i64 (a.tdiv b)=_;unfold lH;rw[if_neg h1,if_neg (λh=>h.1 h2)]
 have h2:a.tmod b≠0:=λh=>h2 (by omega);refine go ?_;refine jr rfl (λh3=>?_) (λh3=>?_)
 ·refine go ?_;refine av () (hv:=?_) (hp:=trivial);show Value.int .i64 (a.tdiv b - 1)=_;unfold lH;rw[if_neg h1,if_pos ⟨h2,bne_iff_ne.1 h3⟩]
 ·refine go ?_;refine av () (hv:=?_) (hp:=trivial);show Value.int .i64 (a.tdiv b)=_;unfold lH;rw[if_neg h1,if_neg (λh=>by rw[bne_iff_ne.2 h.2]at h3;cases h3)]
theorem Wu{op a b:Int}(ha:bW a)(hb:bW b):fG Tryz.prog 80 [.int .i64 op,.int .i64 a,.int .i64 b] [] (.int .i64 (iH op a b)):=by
 have ha':=ha;have hb':=hb;unfold bW at ha' hb';refine bq _ (bP 80) λB w0=>?_;refine go ?_;refine aJ rfl (λh3=>?_) (λh3=>?_)
 ·refine go ?_;refine aF L6 (next:=λ_ _=>?_);refine go ?_;exact av () (hv:=by unfold iH;rw[if_pos h3];rfl) (hp:=trivial)
 refine go ?_;refine aJ rfl (λh4=>?_) (λh4=>?_)
 ·refine go ?_;refine aF L6 (next:=λ_ _=>?_);refine go ?_;exact av () (hv:=by unfold iH;rw[if_neg h3,if_pos h4];rfl) (hp:=trivial)
 refine go ?_;refine aJ rfl (λh5=>?_) (λh5=>?_)
 ·refine go ?_;refine aF (Ws ha hb) (next:=λ_ _=>?_);refine go ?_;exact av () (hv:=by unfold iH;rw[if_neg h3,if_neg h4,if_pos h5];rfl) (hp:=trivial)
 refine go ?_;refine aJ rfl (λh6=>?_) (λh6=>?_)
 ·refine go ?_;refine aF (Wt ha hb) (next:=λ_ _=>?_);refine go ?_;exact av () (hv:=by unfold iH;rw[if_neg h3,if_neg h4,if_neg h5,if_pos h6];rfl) (hp:=trivial)
 refine go ?_;refine aJ rfl (λh7=>?_) (λh7=>?_)
 ·refine go ?_;refine(bY rfl rfl (vF rfl rfl)).h ?_;refine go ?_;exact av () (hv:=by unfold iH;rw[if_neg h3,if_neg h4,if_neg h5,if_neg h6,if_pos h7];rfl) (hp:=trivial)
 refine go ?_;refine aJ rfl (λh8=>?_) (λh8=>?_)
 ·refine go ?_;refine(bY rfl rfl (nX rfl rfl)).h ?_;refine go ?_;exact av () (hv:=by unfold iH;rw[if_neg h3,if_neg h4,if_neg h5,if_neg h6,if_neg h7,if_pos h8];rfl) (hp:=trivial)
 refine go ?_;refine aJ rfl (λh9=>?_) (λh9=>?_)
 ·refine go ?_;exact av () (hv:=by unfold iH;rw[if_neg h3,if_neg h4,if_neg h5,if_neg h6,if_neg h7,if_neg h8,if_pos h9];rfl) (hp:=trivial)
 ·refine go ?_;exact av () (hv:=by unfold iH;rw[if_neg h3,if_neg h4,if_neg h5,if_neg h6,if_neg h7,if_neg h8,if_neg h9];rfl) (hp:=trivial)
theorem Wv{vp vi:Value}{ws:List cO}{inp:List Int}(hW:rU ws)(hp:dD ws)(hi:tN inp):bJ Tryz.prog (.func 55) [vp,vi] [] [] [ah fV vp ws,ah au vi inp] (λ_:Unit=>.tuple ⟨[.int .i64 (pts ws inp),.int .i64 0]⟩) (λ_=>[]) (λ_=>[]) (λ_=>True):=by
 have hwl:=hp.len;have hil:=hi.len;refine bq _ (bP 55) λB w0=>?_;refine go ?_;refine aF (LZ hW (by omega)) (next:=λy hy=>?_);obtain rfl:=hy.1 hp;refine go ?_;refine go ?_;refine aJ rfl (λh1=>?_) (λh1=>?_)
 ·omega
 refine go ?_;refine dZ (λy:Nat=>5 - y) (λy=>[(6,.int .i64 (y:Int))]) (λ_=>[]) (λ_=>[]) (λy=>y<=5) 0 (dz _) (body:=?_);rintro k hk;dsimp only at hk⊢;refine go ?_;refine aJ rfl (λh2=>?_) (λh2=>?_)
 ·refine go ?_;intro _ _ x hx;have XW:=hi.E9 x (dG hx);refine go ?_;rw[jS (show¬x<0 by omega)];refine go ?_;intro _ _ x2 hx2;cases hx.symm.trans hx2;refine go ?_;refine aJ rfl (λh3=>?_) (λh3=>?_)
  ·omega
  refine go ?_;exact bC (k+1) (by show 5 - (k+1)<5 - k;omega) (by show k+1<=5;omega)
 have hk5:k=inp.length:=by omega
 subst hk5;refine go ?_;refine ER au ?_;refine dZ (λy:Nat×Value=>ws.length - y.1) (λy=>[(8,.int .i64 (y.1:Int)),(7,y.2)]) (λy=>[Bd y.2 (eF inp (ws.take y.1))]) (λ_=>[]) (λy=>y.1<=ws.length) (0,.slice none 0 0) (dz _) (hk:=by repeat (first|exact bI.nil|(apply bI.cons;(focus (repeat (first|exact ak.here|apply ak.there)))))) (body:=?_);rintro⟨k,v⟩ hk;dsimp only at hk⊢;refine go ?_;refine aJ rfl (λh0=>?_) (λh0=>?_)
 ·refine jv au (v:=v) (aa:=pz (eF inp (ws.take k))) λa c e=>?_;subst e;rw[rF];refine go ?_;refine dh fV (k:=k) (next:=λbw ow w _ hw=>?_);obtain⟨fl,jy,hf1,hf2⟩:=hp.step hw;obtain⟨hsl,qh⟩:=Rk.rz hi k (by rw[cB];omega) hf1;have hfl:=yl k (by rw[cB];omega) hf1;have hst:=J8 (inp:=inp) hw;generalize eF inp (ws.take k)=st at hsl qh hst⊢;have hpl:=rF st;obtain⟨op,n⟩:=w;refine go ?_;dsimp only;refine aJ rfl (λh1=>?_) (λh1=>?_)
  ·refine go ?_;refine dh fV (k:=k) (next:=λL8 L9 w2 _ hw2=>?_);cases hw.symm.trans hw2;refine go ?_;dsimp only;intro Vs;refine go ?_;refine gX au (v:=.slice a st.length c) (aa:=pz st) n () ⟨by omega,by omega,by omega⟩ (λv'=>?_);refine jv au (v:=v') λa c e=>?_;subst e;refine go ?_;rw[show pz st++[((n,()):Int×au.Y)]=pz (eF inp (ws.take (k+1)))by rw[hst,kU,if_pos h1,<- oq];rfl];exact bC (k+1,.slice a _ c) (by show ws.length - (k+1)<ws.length - k;omega) (by show k+1<=_;omega)
  refine go ?_;refine aJ rfl (λh2=>?_) (λh2=>?_)
  ·obtain⟨g1,g2⟩:=Ll hf2 h2;dsimp only at g1 g2;refine go ?_;refine dh fV (k:=k) (next:=λL8 L9 w2 _ hw2=>?_);cases hw.symm.trans hw2;refine go ?_;dsimp only;refine go ?_;intro _ _ x hx;refine go ?_;intro Vt;refine go ?_;refine gX au (v:=.slice a st.length c) (aa:=pz st) x () ⟨by omega,by omega,by omega⟩ (λv'=>?_);refine jv au (v:=v') λa c e=>?_;subst e;refine go ?_;rw[show pz st++[((x,()):Int×au.Y)]=pz (eF inp (ws.take (k+1)))by rw[hst,kU,if_neg h1,if_pos h2,si,hx,<- oq];rfl];exact bC (k+1,.slice a _ c) (by show ws.length - (k+1)<ws.length - k;omega) (by show k+1<=_;omega)
  refine go ?_;refine aJ rfl (λh3=>?_) (λh3=>?_)
  ·obtain⟨_,g2⟩:=Lj hf2 h3;obtain⟨m,hm⟩:∃m,st.length=m+3:=⟨st.length - 3,by omega⟩
   have hnx:eF inp (ws.take (k+1))=st.take m++[if st.getD m 0≠0 then st.getD (m+1) 0 else st.getD (m+2) 0]:=by
    rw[hst,kU,if_neg h1,if_neg h2,if_pos h3,hm];rfl
   have e3:=vR (j3 (st:=st) (k:=m) (by omega));have e2:=vR (j3 (st:=st) (k:=m+1) (by omega));have e1:=vR (j3 (st:=st) (k:=m+2) (by omega));generalize st.getD m 0=x3 at e3 hnx;generalize st.getD (m+1) 0=x2 at e2 hnx;generalize st.getD (m+2) 0=x1 at e1 hnx;have htl:(st.take m).length=m:=by rw[cB];omega
   have FN:=rF (st.take m);refine oh au (v:=.slice a st.length c) (aa:=pz st) (by omega) λb f c' r hf hr hc e=>?_;rw[hpl]at e;injection e with ea _ ec;subst ea ec;rw[hm];refine go ?_;rw[show((m+3:Nat):Int) - 1=((m+2:Nat):Int)by omega];refine go ?_;refine jW (o:=0+(m+2)*1) (.int .i64 x1) (jw (E:=au) (j:=0) (p:=(x1,())) (k:=m+2) e1 rfl (by show _=(m+2)*1+0;omega)) ?_;refine go ?_;rw[show((m+3:Nat):Int) - 3=((m:Nat):Int)by omega];refine go ?_;refine jW (o:=0+m*1) (.int .i64 x3) (jw (E:=au) (j:=0) (p:=(x3,())) (k:=m) e3 rfl (by show _=m*1+0;omega)) ?_;refine go ?_;refine aJ rfl (λh4=>?_) (λh4=>?_)
   ·refine go ?_;rw[show((m+3:Nat):Int) - 2=((m+1:Nat):Int)by omega];refine go ?_;refine jW (o:=0+(m+1)*1) (.int .i64 x2) (jw (E:=au) (j:=0) (p:=(x2,())) (k:=m+1) e2 rfl (by show _=(m+1)*1+0;omega)) ?_;refine go ?_;rw[show((m+3:Nat):Int) - 3=((m:Nat):Int)by omega];refine vL au (aa:=pz st) (b:=b) (f:=f) (c:=c) (m:=m+3) (r:=r) (by omega) hf hr hc ?_;refine ES au (v:=.slice (some ⟨b,0,some f⟩) (m+3) c) (aa:=pz st) m (by omega) (λv2=>?_);rw[Be];refine go ?_;intro vT;refine go ?_;refine gX au (v:=v2) (aa:=pz (st.take m)) x2 () ⟨by omega,by omega,by omega⟩ (λv'=>?_);refine jv au (v:=v') λa c e=>?_;subst e;refine go ?_;rw[show pz (st.take m)++[((x2,()):Int×au.Y)]=pz (eF inp (ws.take (k+1)))by rw[hnx,if_pos h4,<- oq];rfl];exact bC (k+1,.slice a _ c) (by show ws.length - (k+1)<ws.length - k;omega) (by show k+1<=_;omega)
   ·refine go ?_;rw[show((m+3:Nat):Int) - 3=((m:Nat):Int)by omega];refine vL au (aa:=pz st) (b:=b) (f:=f) (c:=c) (m:=m+3) (r:=r) (by omega) hf hr hc ?_;refine ES au (v:=.slice (some ⟨b,0,some f⟩) (m+3) c) (aa:=pz st) m (by omega) (λv2=>?_);rw[Be];refine go ?_;intro vT;refine go ?_;refine gX au (v:=v2) (aa:=pz (st.take m)) x1 () ⟨by omega,by omega,by omega⟩ (λv'=>?_);refine jv au (v:=v') λa c e=>?_;subst e;refine go ?_;rw[show pz (st.take m)++[((x1,()):Int×au.Y)]=pz (eF inp (ws.take (k+1)))by rw[hnx,if_neg h4,<- oq];rfl];exact bC (k+1,.slice a _ c) (by show ws.length - (k+1)<ws.length - k;omega) (by show k+1<=_;omega)
  obtain⟨g1,g2,g3⟩:=Lm hf2 h1 h2 h3;dsimp only at g1 g2 g3;obtain⟨m,hm⟩:∃m,st.length=m+2:=⟨st.length - 2,by omega⟩
  have hnx:eF inp (ws.take (k+1))=st.take m++[iH op (st.getD m 0) (st.getD (m+1) 0)]:=by
   rw[hst,kU,if_neg h1,if_neg h2,if_neg h3,hm];rfl
  have r1:=qh _ (l9 (st:=st) (k:=m) (by omega));have r2:=qh _ (l9 (st:=st) (k:=m+1) (by omega));have e2:=vR (j3 (st:=st) (k:=m) (by omega));have e1:=vR (j3 (st:=st) (k:=m+1) (by omega));generalize st.getD m 0=x2 at e2 hnx r1;generalize st.getD (m+1) 0=x1 at e1 hnx r2;have htl:(st.take m).length=m:=by rw[cB];omega
  have FN:=rF (st.take m);refine go ?_;refine dh fV (k:=k) (next:=λL8 L9 w2 _ hw2=>?_);cases hw.symm.trans hw2;refine go ?_;refine oh au (v:=.slice a st.length c) (aa:=pz st) (by omega) λb f c' r hf hr hc e=>?_;rw[hpl]at e;injection e with ea _ ec;subst ea ec;rw[hm];refine go ?_;rw[show((m+2:Nat):Int) - 2=((m:Nat):Int)by omega];refine go ?_;refine jW (o:=0+m*1) (.int .i64 x2) (jw (E:=au) (j:=0) (p:=(x2,())) (k:=m) e2 rfl (by show _=m*1+0;omega)) ?_;refine go ?_;rw[show((m+2:Nat):Int) - 1=((m+1:Nat):Int)by omega];refine go ?_;refine jW (o:=0+(m+1)*1) (.int .i64 x1) (jw (E:=au) (j:=0) (p:=(x1,())) (k:=m+1) e1 rfl (by show _=(m+1)*1+0;omega)) ?_;refine go ?_;refine aF (Wu r1 r2) (next:=λ_ _=>?_);refine go ?_;rw[show((m+2:Nat):Int) - 2=((m:Nat):Int)by omega];refine vL au (aa:=pz st) (b:=b) (f:=f) (c:=c) (m:=m+2) (r:=r) (by omega) hf hr hc ?_;refine ES au (v:=.slice (some ⟨b,0,some f⟩) (m+2) c) (aa:=pz st) m (by omega) (λv2=>?_);rw[Be];refine go ?_;intro vT;refine go ?_;refine gX au (v:=v2) (aa:=pz (st.take m)) (iH op x2 x1) () ⟨by omega,by omega,by omega⟩ (λv'=>?_);refine jv au (v:=v') λa c e=>?_;subst e;refine go ?_;rw[show pz (st.take m)++[((iH op x2 x1,()):Int×au.Y)]=pz (eF inp (ws.take (k+1)))by rw[hnx,<- oq];rfl];exact bC (k+1,.slice a _ c) (by show ws.length - (k+1)<ws.length - k;omega) (by show k+1<=_;omega)
 have yG:k=ws.length:=by omega
 subst yG;rw[jc];obtain⟨hsl,qh⟩:=Rk.rz hi ws.length rfl hp.fl;have hpt:pts ws inp=max 0 (min 1048576 ((eF inp ws).getD 0 0)):=rfl;obtain⟨x,hx⟩:∃x,eF inp ws=[x]:=by
  generalize eF inp ws=st at hsl;match st,hsl with
  |[x],_=>exact⟨x,rfl⟩
 rw[hx]at hpt⊢;refine oh au (v:=v) (aa:=pz [x]) (by simp) λb f c r hf hr hc e=>?_;subst e;rw[show aO au (pz [x])++r=.int .i64 x::r from rfl];refine go ?_;refine(bY rfl rfl (vF rfl rfl)).h ?_;refine(bY rfl rfl (nX rfl rfl)).h ?_;refine go ?_;exact av () (hv:=by rw[hpt];rfl) (hp:=trivial)
