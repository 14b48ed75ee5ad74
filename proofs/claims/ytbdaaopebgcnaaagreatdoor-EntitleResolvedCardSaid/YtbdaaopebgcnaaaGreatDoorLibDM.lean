/-
  points.Run: its closures.
-/
import Derived.Test.YtbdaaopebgcnaaaGreatDoorLibCM
set_option linter.all false
set_option maxRecDepth 10000
set_option maxHeartbeats 4000000
namespace Go.Proofs.YtbdaaopebgcnaaaGreatDoor
open Go.Ideal Rk
theorem acC{x:Int}:vP Tryz.prog (.func 84) [] [] (.int .i64 x) [] (decide (x<0\/1048576<x)):=by
 refine aV _ (bB 84) λB w0=>?_;refine go ?_;refine gG (λh1=>?_) (λh1=>?_)
 ·refine go ?_;refine aj () (hv:=?_) (hp:=trivial);rw[show decide (x<0\/1048576<x)=decide (1048576<x)from xW.2 ⟨λh=>h.elim (λh=>absurd h h1) id,.inr⟩];rfl
 refine go ?_;refine aj () (hv:=?_) (hp:=trivial);rw[fK (.inl h1)];rfl
theorem Ri{x:Int}:ik Tryz.prog 86 [.int .i64 x] [] (.int .i64 (hold x)):=by
 refine aV _ (bB 86) λB w0=>?_;refine go ?_;refine(bV rfl rfl (w9 rfl rfl)).h ?_;refine(bV rfl rfl (vC rfl rfl)).h ?_;refine go ?_;exact aj () (hv:=rfl) (hp:=trivial)
theorem acD{a b:Int}(ha:eH a)(hb:eH b):ik Tryz.prog 85 [.int .i64 a,.int .i64 b] [] (.int .i64 (hold (a+b))):=by
 unfold eH at ha hb;refine aV _ (bB 85) λB w0=>?_;refine go ?_;refine aG Ri (next:=λ_ _=>?_);refine go ?_;exact aj () (hv:=rfl) (hp:=trivial)
theorem acE{a b:Int}(ha:eH a)(hb:eH b):ik Tryz.prog 87 [.int .i64 a,.int .i64 b] [] (.int .i64 (hold (a - b))):=by
 unfold eH at ha hb;refine aV _ (bB 87) λB w0=>?_;refine go ?_;refine aG Ri (next:=λ_ _=>?_);refine go ?_;exact aj () (hv:=rfl) (hp:=trivial)
theorem acF{a b:Int}:ik Tryz.prog 90 [.int .i64 a,.int .i64 b] [] (.int .i64 (min a b)):=by
 refine aV _ (bB 90) λB w0=>?_;refine go ?_;refine(bV rfl rfl (w9 rfl rfl)).h ?_;refine go ?_;exact aj () (hv:=rfl) (hp:=trivial)
theorem acG{a b:Int}:ik Tryz.prog 91 [.int .i64 a,.int .i64 b] [] (.int .i64 (max a b)):=by
 refine aV _ (bB 91) λB w0=>?_;refine go ?_;refine(bV rfl rfl (vC rfl rfl)).h ?_;refine go ?_;exact aj () (hv:=rfl) (hp:=trivial)
theorem acH{a b:Int}:ik Tryz.prog 92 [.int .i64 a,.int .i64 b] [] (.int .i64 (if a<b then 1 else 0)):=by
 refine aV _ (bB 92) λB w0=>?_;refine go ?_;refine aM rfl (λh=>?_) (λh=>?_)
 ·refine go ?_;exact aj () (hv:=by rw[if_pos h];rfl) (hp:=trivial)
 ·refine go ?_;exact aj () (hv:=by rw[if_neg h];rfl) (hp:=trivial)
theorem acI{a b:Int}(ha:eH a)(hb:eH b):ik Tryz.prog 88 [.int .i64 a,.int .i64 b] [] (.int .i64 (sj a b)):=by
 have hr:eH (sj a b):=PW;have hm:=ha;unfold eH at ha hb;refine aV _ (bB 88) λB w0=>?_;refine go ?_;refine gG (λh1=>?_) (λh1=>?_)
 ·have hb0:b=0:=rJ.1 h1;subst hb0;refine go ?_;refine aj () (hv:=?_) (hp:=trivial);show Value.int .i64 (a*0)=_;unfold sj;rw[if_neg (λh=>h1 h.1)]
 refine go ?_;refine(bV rfl rfl (QV rfl (by omega) (by omega))).h ?_;refine(bV rfl rfl (vC rfl rfl)).h ?_;refine go ?_;refine(bV rfl rfl (QV rfl (by omega) (by omega))).h ?_;refine(bV rfl rfl (vC rfl rfl)).h ?_;have hq:=QW (a:=1099511627776) (b:=max b (-b)) (n:=1099511627776) (by decide);refine(bV rfl rfl (Ep rfl rfl (by omega) (by omega) (by omega))).h ?_;refine go ?_;refine aM rfl (λh2=>?_) (λh2=>?_)
 ·refine go ?_;refine jO rfl (λh3=>?_) (λh3=>?_)
  ·refine go ?_;refine aj () (hv:=?_) (hp:=trivial);show Value.int .i64 (-1099511627776)=_;unfold sj;rw[if_pos ⟨h1,h2⟩,if_pos (bne_iff_ne.1 h3)]
  ·refine go ?_;refine aj () (hv:=?_) (hp:=trivial);show Value.int .i64 1099511627776=_;unfold sj;rw[if_pos ⟨h1,h2⟩,if_neg (λh=>by rw[bne_iff_ne.2 h]at h3;cases h3)]
 have e:sj a b=a*b:=by unfold sj;rw[if_neg (λh=>h2 h.2)]
 rw[e]at hr⊢;unfold eH at hr;refine go ?_;exact aj () (hv:=rfl) (hp:=trivial)
theorem acJ{a b:Int}(ha:eH a)(hb:eH b):ik Tryz.prog 89 [.int .i64 a,.int .i64 b] [] (.int .i64 (vM a b)):=by
 have hr:=PX (a:=a) (b:=b) ha hb;have hm:=ha;unfold eH at ha hb;refine aV _ (bB 89) λB w0=>?_;refine go ?_;refine aM rfl (λh1=>?_) (λh1=>?_)
 ·refine go ?_;refine aj () (hv:=?_) (hp:=trivial);show Value.int .i64 0=_;unfold vM;rw[if_pos h1]
 have hq:=QW (a:=a) (b:=b) (n:=1099511627776) (by omega);refine go ?_;refine(bV rfl rfl (Ep rfl rfl h1 (by omega) (by omega))).h ?_;refine go ?_;refine(bV rfl rfl (I4 rfl rfl h1)).h ?_;refine go ?_;refine gG (λh2=>?_) (λh2=>?_)
 ·refine go ?_;refine aj () (hv:=?_) (hp:=trivial);show Value.int .i64 (a.tdiv b)=_;unfold vM;rw[if_neg h1,if_neg (λh=>h2 h.1)]
 refine go ?_;refine jO rfl (λh3=>?_) (λh3=>?_)
 ·refine go ?_;refine aj () (hv:=?_) (hp:=trivial);show Value.int .i64 (a.tdiv b - 1)=_;unfold vM;rw[if_neg h1,if_pos ⟨h2,bne_iff_ne.1 h3⟩]
 ·refine go ?_;refine aj () (hv:=?_) (hp:=trivial);show Value.int .i64 (a.tdiv b)=_;unfold vM;rw[if_neg h1,if_neg (λh=>by rw[bne_iff_ne.2 h.2]at h3;cases h3)]
def Kt(k:Nat):FuncId:=if k=3 then 85 else if k=4 then 87 else if k=5 then 88 else if k=6 then 89 else if k=7 then 90 else if k=8 then 91 else 92
def Ku:List Value:=[.nilFunc,.nilFunc,.nilFunc,.func (.func 85) ⟨[]⟩ ⟨[]⟩,.func (.func 87) ⟨[]⟩ ⟨[]⟩,.func (.func 88) ⟨[]⟩ ⟨[]⟩,.func (.func 89) ⟨[]⟩ ⟨[]⟩,.func (.func 90) ⟨[]⟩ ⟨[]⟩,.func (.func 91) ⟨[]⟩ ⟨[]⟩,.func (.func 92) ⟨[]⟩ ⟨[]⟩]
theorem acK{k:Nat}(h3:3<=k)(h9:k<=9):gH Ku k=some (.func (.func (Kt k)) ⟨[]⟩ ⟨[]⟩):=by
 have:k=3\/k=4\/k=5\/k=6\/k=7\/k=8\/k=9:=by omega
 rcases this with rfl|rfl|rfl|rfl|rfl|rfl|rfl<;>rfl
theorem acL{k:Nat}{a b:Int}(h3:3<=k)(h9:k<=9)(ha:eH a)(hb:eH b):ik Tryz.prog (Kt k) [.int .i64 a,.int .i64 b] [] (.int .i64 (xw k a b)):=by
 have:k=3\/k=4\/k=5\/k=6\/k=7\/k=8\/k=9:=by omega
 rcases this with rfl|rfl|rfl|rfl|rfl|rfl|rfl
 ·exact acD ha hb
 ·exact acE ha hb
 ·exact acI ha hb
 ·exact acJ ha hb
 ·exact acF
 ·exact acG
 ·exact acH
theorem BZ{bS:Nat}{v:Value}{st:List Int}{x:Int}(hl:st.length<=100000):aT Tryz.prog (.func 93) [] [ptr' bS] [pt bS (.cells [v]),Kh v (st++[x])] [] (λ_:Value=>.int .i64 x) (λv'=>[pt bS (.cells [v']),Kh v' st]) (λ_=>[]) (λ_=>True):=by
 have hll:(pz (st++[x])).length=st.length+1:=by rw[FH,dK];rfl
 refine aV _ (bB 93) λB w0=>?_;refine go ?_;refine xm az (v:=v) (aa:=pz (st++[x])) (by omega) λb f c r hf hr hc e=>?_;rw[hll]at e;subst e;refine go ?_;rw[show((st.length+1:Nat):Int) - 1=((st.length:Nat):Int)by omega];refine go ?_;refine mV (o:=0+st.length*1) (.int .i64 x) (pV (E:=az) (j:=0) (p:=(x,())) (k:=st.length) (abU (st:=st++[x]) (k:=st.length) (x:=x) (by simp)) rfl (by show _=st.length*1+0;omega)) ?_;refine go ?_;rw[show((st.length+1:Nat):Int) - 1=((st.length:Nat):Int)by omega];refine(bV rfl rfl (EX (lo:=0) (hi:=st.length) rfl hf (by decide) (.inl ⟨rfl,rfl⟩) (.inr ⟨_,rfl,rfl⟩) (dY _) (by omega))).h ?_;rw[show Value.slice (some ⟨b,0+0*az.n,some f⟩) (st.length - 0) (c - 0)=.slice (some ⟨b,0,some f⟩) st.length c by rw[og,qg,qg]];refine go ?_;refine Ju az (aa:=pz (st++[x])) (b:=b) (f:=f) (c:=c) (m:=st.length) (r:=r) (by omega) hf hr hc ?_;rw[show(pz (st++[x])).take st.length=pz st by rw[abT,List.take_left]];exact aj (.slice (some ⟨b,0,some f⟩) st.length c) (hv:=rfl) (hp:=trivial)
theorem acM{fl l5:List Bool}{w:eB}(h:bT fl w=some l5)(h10:w.op=10):w.n=0/\3<=fl.length:=by
 unfold bT at h;rw[if_neg (by omega),if_neg (by omega)]at h;split at h
 ·cases h
 ·split at h
  ·rename_i h1 h2;exact⟨by omega,h2.1⟩
  ·cases h
theorem acN{fl l5:List Bool}{w:eB}(h:bT fl w=some l5)(h2:w.op=2):0<=w.n/\w.n<5:=by
 unfold bT at h;rw[if_neg (by omega),if_pos h2]at h;split at h
 ·assumption
 ·cases h
theorem acO{fl l5:List Bool}{w:eB}(h:bT fl w=some l5)(h1:w.op≠1)(h2:w.op≠2)(h3:w.op≠10):3<=w.op/\w.op<10/\2<=fl.length:=by
 unfold bT at h;rw[if_neg h1,if_neg h2]at h;split at h
 ·cases h
 ·split at h
  ·rename_i h4;split at h
   ·rename_i h5;exact⟨h4.1,h4.2,h5.1⟩
   ·cases h
  ·cases h
theorem acP{inp:List Int}(hi:BJ inp):inp.any (λx=>decide (x<0\/1048576<x))=false:=by
 rw[List.any_eq_false];intro x hx;have:=hi.PZ x hx;simp;omega
theorem acQ{vp vi:Value}{ws:List eB}{inp:List Int}(hp:fw ws)(hi:BJ inp):aT Tryz.prog (.func 68) [vp,vi] [] [] [mX 0 nQ,ae iw vp ws,ae az vi inp] (λ_:Unit=>.tuple ⟨[.int .i64 (pts ws inp),.int .i64 0]⟩) (λ_=>[]) (λ_=>[]) (λ_=>True):=by
 have hwl:=hp.len;have hil:=hi.len;refine aV _ (bB 68) λB w0=>?_;refine go ?_;refine aG (Rh (ws:=ws)) (next:=λy hy=>?_);obtain rfl:=hy.1 hp;refine go ?_;refine aG Kj (next:=λbi _=>?_);refine go ?_;refine gG (λh1=>?_) (λh1=>?_)
 rotate_left
 ·omega
 refine go ?_;refine aG (Kg (xs:=inp) (p:=λx=>decide (x<0\/1048576<x)) (by omega) (λx _=>acC)) (next:=λ_ _=>?_);rw[acP hi];refine go ?_;intro bA;refine go ?_;intro bS;refine go ?_;refine cu (fT (b:=bA) (cs:=Ku)) (hk:=.there .here) (h:=?_);refine Pv az ?_;refine dQ (λy:Nat×Value=>ws.length - y.1) (λy=>[(34,.int .i64 (y.1:Int))]) (λy=>[pt bS (.cells [y.2]),Kh y.2 (jT inp (ws.take y.1))]) (λ_=>[]) (λy=>y.1<=ws.length) (0,.slice none 0 0) (dY _) (hk:=by repeat (first|exact aL.nil|(apply aL.cons;(focus (repeat (first|exact ah.here|apply ah.there)))))) (body:=?_);rintro⟨k,v⟩ hk;dsimp only at hk⊢;refine go ?_;refine aM rfl (λh0=>?_) (λh0=>?_)
 ·refine go ?_;refine eX iw (k:=k) (next:=λbw ow w _ hw=>?_);obtain⟨fl,l5,hf1,hf2⟩:=hp.step hw;obtain⟨hsl,uu⟩:=Rk.zw hi k (by rw[fB];omega) hf1;have hfl:=Fb k (by rw[fB];omega) hf1;have hst:=aaP (inp:=inp) hw;generalize jT inp (ws.take k)=st at hsl uu hst⊢;have hpl:=FH st;refine go ?_;intro b10;obtain⟨op,n⟩:=w;dsimp only;refine go ?_;refine aM rfl (λh1=>?_) (λh1=>?_)
  ·refine go ?_;intro b59;refine go ?_;refine lX az (v:=v) (aa:=pz st) n () ⟨by omega,by omega,by omega⟩ (λv'=>?_);refine qV az (v:=v') λa c e=>?_;subst e;refine go ?_;rw[show pz st++[((n,()):Int×az.Y)]=pz (jT inp (ws.take (k+1)))by rw[hst,su,if_pos h1,<- BP];rfl];exact aY (k+1,.slice a _ c) (by show ws.length - (k+1)<ws.length - k;omega) (by show k+1<=_;omega)
  refine go ?_;refine aM rfl (λh2=>?_) (λh2=>?_)
  ·obtain⟨g1,g2⟩:=acN hf2 h2;dsimp only at g1 g2;refine go ?_;intro _ _ x hx;refine go ?_;intro b69;refine go ?_;refine lX az (v:=v) (aa:=pz st) x () ⟨by omega,by omega,by omega⟩ (λv'=>?_);refine qV az (v:=v') λa c e=>?_;subst e;refine go ?_;rw[show pz st++[((x,()):Int×az.Y)]=pz (jT inp (ws.take (k+1)))by rw[hst,su,if_neg h1,if_pos h2,oh,hx,<- BP];rfl];exact aY (k+1,.slice a _ c) (by show ws.length - (k+1)<ws.length - k;omega) (by show k+1<=_;omega)
  refine go ?_;refine aM rfl (λh3=>?_) (λh3=>?_)
  ·obtain⟨_,g2⟩:=acM hf2 h3;obtain⟨m,hm⟩:∃m,st.length=m+3:=⟨st.length - 3,by omega⟩
   have hs:=abW hm;have hnx:jT inp (ws.take (k+1))=st.take m++[if st.getD m 0≠0 then st.getD (m+1) 0 else st.getD (m+2) 0]:=by
    rw[hst,su,if_neg h1,if_neg h2,if_pos h3,hm];rfl
   generalize st.getD m 0=x3 at hs hnx;generalize st.getD (m+1) 0=x2 at hs hnx;generalize st.getD (m+2) 0=x1 at hs hnx;have htl:(st.take m).length=m:=by rw[fB];omega
   generalize st.take m=s0 at hs hnx htl;subst hs;have acS:=FH s0;refine go ?_;refine aG (BZ (bS:=bS) (v:=v) (st:=s0++[x3]++[x2]) (x:=x1) (by simp;omega)) (next:=λv1 _=>?_);refine go ?_;refine aG (BZ (bS:=bS) (v:=v1) (st:=s0++[x3]) (x:=x2) (by simp;omega)) (next:=λv2 _=>?_);refine go ?_;refine aG (BZ (bS:=bS) (v:=v2) (st:=s0) (x:=x3) (by omega)) (next:=λv3 _=>?_);refine go ?_;refine aM rfl (λh4=>?_) (λh4=>?_)
   ·refine go ?_;intro b84;refine go ?_;refine lX az (v:=v3) (aa:=pz s0) x2 () ⟨by omega,by omega,by omega⟩ (λv'=>?_);refine qV az (v:=v') λa c e=>?_;subst e;refine go ?_;rw[show pz s0++[((x2,()):Int×az.Y)]=pz (jT inp (ws.take (k+1)))by rw[hnx,if_pos h4,<- BP];rfl];exact aY (k+1,.slice a _ c) (by show ws.length - (k+1)<ws.length - k;omega) (by show k+1<=_;omega)
   ·refine go ?_;intro b84;refine go ?_;refine lX az (v:=v3) (aa:=pz s0) x1 () ⟨by omega,by omega,by omega⟩ (λv'=>?_);refine qV az (v:=v') λa c e=>?_;subst e;refine go ?_;rw[show pz s0++[((x1,()):Int×az.Y)]=pz (jT inp (ws.take (k+1)))by rw[hnx,if_neg h4,<- BP];rfl];exact aY (k+1,.slice a _ c) (by show ws.length - (k+1)<ws.length - k;omega) (by show k+1<=_;omega)
  obtain⟨g1,g2,g3⟩:=acO hf2 h1 h2 h3;dsimp only at g1 g2 g3;obtain⟨m,hm⟩:∃m,st.length=m+2:=⟨st.length - 2,by omega⟩
  have hs:=abV hm;have hnx:jT inp (ws.take (k+1))=st.take m++[xw op (st.getD m 0) (st.getD (m+1) 0)]:=by
   rw[hst,su,if_neg h1,if_neg h2,if_neg h3,hm];rfl
  have r1:=uu _ (tX (st:=st) (k:=m) (by omega));have r2:=uu _ (tX (st:=st) (k:=m+1) (by omega));generalize st.getD m 0=x2 at hs hnx r1;generalize st.getD (m+1) 0=x1 at hs hnx r2;have htl:(st.take m).length=m:=by rw[fB];omega
  generalize st.take m=s0 at hs hnx htl;subst hs;have acS:=FH s0;obtain⟨q,rfl⟩:=wB (show 0<=op by omega);refine go ?_;refine aG (BZ (bS:=bS) (v:=v) (st:=s0++[x2]) (x:=x1) (by simp;omega)) (next:=λv1 _=>?_);refine go ?_;refine aG (BZ (bS:=bS) (v:=v1) (st:=s0) (x:=x2) (by omega)) (next:=λv2 _=>?_);refine go ?_;refine(pM (b:=bA) (o:=0) (j:=(q:Int).toNat*1) (cs:=Ku) (v:=.func (.func (Kt q)) ⟨[]⟩ ⟨[]⟩) rfl rfl rfl (by repeat (first|with_reducible exact aS .. |with_reducible apply bW)) (by rw[Int.toNat_natCast,jB];exact acK (by omega) (by omega))).h ?_;refine go ?_;refine aG (acL (k:=q) (by omega) (by omega) r1 r2) (next:=λ_ _=>?_);refine go ?_;intro b52;refine go ?_;refine lX az (v:=v2) (aa:=pz s0) (xw q x2 x1) () ⟨by omega,by omega,by omega⟩ (λv'=>?_);refine qV az (v:=v') λa c e=>?_;subst e;refine go ?_;rw[show pz s0++[((xw q x2 x1,()):Int×az.Y)]=pz (jT inp (ws.take (k+1)))by rw[hnx,<- BP];rfl];exact aY (k+1,.slice a _ c) (by show ws.length - (k+1)<ws.length - k;omega) (by show k+1<=_;omega)
 have Kq:k=ws.length:=by omega
 subst Kq;rw[iB];obtain⟨hsl,uu⟩:=Rk.zw hi ws.length rfl hp.fl;have hpt:pts ws inp=max 0 (min 1048576 ((jT inp ws).getD 0 0)):=rfl;obtain⟨x,hx⟩:∃x,jT inp ws=[x]:=by
  generalize jT inp ws=st at hsl;match st,hsl with
  |[x],_=>exact⟨x,rfl⟩
 rw[hx]at hpt⊢;refine xm az (v:=v) (aa:=pz [x]) (by simp) λb f c r hf hr hc e=>?_;subst e;rw[show aK az (pz [x])++r=.int .i64 x::r from rfl];refine go ?_;refine(bV rfl rfl (w9 rfl rfl)).h ?_;refine(bV rfl rfl (vC rfl rfl)).h ?_;refine go ?_;exact aj () (hv:=by rw[hpt];rfl) (hp:=trivial)
