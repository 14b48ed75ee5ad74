/-
  points.Run: its closures.
-/
import Derived.Test.YtjmgkllpcidhjaaGreatDoorLibCE
set_option linter.all false
set_option maxRecDepth 10000
set_option maxHeartbeats 4000000
namespace Go.Proofs.YtjmgkllpcidhjaaGreatDoor
open Go.Ideal Rk
theorem Vg{x:Int}:Bb Tryz.prog (.func 70) [] [] (.int .i64 x) [] (decide (x<0\/1048576<x)):=by
 refine bq _ (bP 70) λB w0=>?_;refine go ?_;refine gG (λh1=>?_) (λh1=>?_)
 ·refine go ?_;refine av () (hv:=?_) (hp:=trivial);rw[show decide (x<0\/1048576<x)=decide (1048576<x)from decide_eq_decide.2 ⟨λh=>h.elim (λh=>absurd h h1) id,.inr⟩];rfl
 refine go ?_;refine av () (hv:=?_) (hp:=trivial);rw[gL (.inl h1)];rfl
theorem Li{x:Int}:fG Tryz.prog 72 [.int .i64 x] [] (.int .i64 (hold x)):=by
 refine bq _ (bP 72) λB w0=>?_;refine go ?_;refine(bY rfl rfl (vF rfl rfl)).h ?_;refine(bY rfl rfl (nX rfl rfl)).h ?_;refine go ?_;exact av () (hv:=rfl) (hp:=trivial)
theorem Vh{a b:Int}(ha:bW a)(hb:bW b):fG Tryz.prog 71 [.int .i64 a,.int .i64 b] [] (.int .i64 (hold (a+b))):=by
 unfold bW at ha hb;refine bq _ (bP 71) λB w0=>?_;refine go ?_;refine aF Li (next:=λ_ _=>?_);refine go ?_;exact av () (hv:=rfl) (hp:=trivial)
theorem Vi{a b:Int}(ha:bW a)(hb:bW b):fG Tryz.prog 73 [.int .i64 a,.int .i64 b] [] (.int .i64 (hold (a - b))):=by
 unfold bW at ha hb;refine bq _ (bP 73) λB w0=>?_;refine go ?_;refine aF Li (next:=λ_ _=>?_);refine go ?_;exact av () (hv:=rfl) (hp:=trivial)
theorem Vj{a b:Int}:fG Tryz.prog 76 [.int .i64 a,.int .i64 b] [] (.int .i64 (min a b)):=by
 refine bq _ (bP 76) λB w0=>?_;refine go ?_;refine(bY rfl rfl (vF rfl rfl)).h ?_;refine go ?_;exact av () (hv:=rfl) (hp:=trivial)
theorem Vk{a b:Int}:fG Tryz.prog 77 [.int .i64 a,.int .i64 b] [] (.int .i64 (max a b)):=by
 refine bq _ (bP 77) λB w0=>?_;refine go ?_;refine(bY rfl rfl (nX rfl rfl)).h ?_;refine go ?_;exact av () (hv:=rfl) (hp:=trivial)
theorem Vl{a b:Int}:fG Tryz.prog 78 [.int .i64 a,.int .i64 b] [] (.int .i64 (if a<b then 1 else 0)):=by
 refine bq _ (bP 78) λB w0=>?_;refine go ?_;refine aJ rfl (λh=>?_) (λh=>?_)
 ·refine go ?_;exact av () (hv:=by rw[if_pos h];rfl) (hp:=trivial)
 ·refine go ?_;exact av () (hv:=by rw[if_neg h];rfl) (hp:=trivial)
theorem Vm{a b:Int}(ha:bW a)(hb:bW b):fG Tryz.prog 74 [.int .i64 a,.int .i64 b] [] (.int .i64 (jA a b)):=by
 have hr:bW (jA a b):=J5;have hm:=ha;unfold bW at ha hb;refine bq _ (bP 74) λB w0=>?_;refine go ?_;refine gG (λh1=>?_) (λh1=>?_)
 ·have hb0:b=0:=zh.1 h1;subst hb0;refine go ?_;refine av () (hv:=?_) (hp:=trivial);show Value.int .i64 (a*0)=_;unfold jA;rw[if_neg (λh=>h1 h.1)]
 refine go ?_;refine(bY rfl rfl (vQ rfl (by omega) (by omega))).h ?_;refine(bY rfl rfl (nX rfl rfl)).h ?_;refine go ?_;refine(bY rfl rfl (vQ rfl (by omega) (by omega))).h ?_;refine(bY rfl rfl (nX rfl rfl)).h ?_;have hq:=Bc (a:=1099511627776) (b:=max b (-b)) (n:=1099511627776) (by decide);refine(bY rfl rfl (xP rfl rfl (by omega) (by omega) (by omega))).h ?_;refine go ?_;refine aJ rfl (λh2=>?_) (λh2=>?_)
 ·refine go ?_;refine jr rfl (λh3=>?_) (λh3=>?_)
  ·refine go ?_;refine av () (hv:=?_) (hp:=trivial);show Value.int .i64 (-1099511627776)=_;unfold jA;rw[if_pos ⟨h1,h2⟩,if_pos (bne_iff_ne.1 h3)]
  ·refine go ?_;refine av () (hv:=?_) (hp:=trivial);show Value.int .i64 1099511627776=_;unfold jA;rw[if_pos ⟨h1,h2⟩,if_neg (λh=>by rw[bne_iff_ne.2 h]at h3;cases h3)]
 have e:jA a b=a*b:=by unfold jA;rw[if_neg (λh=>h2 h.2)]
 rw[e]at hr⊢;unfold bW at hr;refine go ?_;exact av () (hv:=rfl) (hp:=trivial)
theorem Vn{a b:Int}(ha:bW a)(hb:bW b):fG Tryz.prog 75 [.int .i64 a,.int .i64 b] [] (.int .i64 (lH a b)):=by
 have hr:=J6 (a:=a) (b:=b) ha hb;have hm:=ha;unfold bW at ha hb;refine bq _ (bP 75) λB w0=>?_;refine go ?_;refine aJ rfl (λh1=>?_) (λh1=>?_)
 ·refine go ?_;refine av () (hv:=?_) (hp:=trivial);show Value.int .i64 0=_;unfold lH;rw[if_pos h1]
 have hq:=Bc (a:=a) (b:=b) (n:=1099511627776) (by omega);refine go ?_;refine(bY rfl rfl (xP rfl rfl h1 (by omega) (by omega))).h ?_;refine go ?_;refine(bY rfl rfl (Ez rfl rfl h1)).h ?_;refine go ?_;refine gG (λh2=>?_) (λh2=>?_)
 ·refine go ?_;refine av () (hv:=?_) (hp:=trivial);show Value.int .i64 (a.tdiv b)=_;unfold lH;rw[if_neg h1,if_neg (λh=>h2 h.1)]
 refine go ?_;refine jr rfl (λh3=>?_) (λh3=>?_)
 ·refine go ?_;refine av () (hv:=?_) (hp:=trivial);show Value.int .i64 (a.tdiv b - 1)=_;unfold lH;rw[if_neg h1,if_pos ⟨h2,bne_iff_ne.1 h3⟩]
 ·refine go ?_;refine av () (hv:=?_) (hp:=trivial);show Value.int .i64 (a.tdiv b)=_;unfold lH;rw[if_neg h1,if_neg (λh=>by rw[bne_iff_ne.2 h.2]at h3;cases h3)]
def FL(k:Nat):FuncId:=if k=3 then 71 else if k=4 then 73 else if k=5 then 74 else if k=6 then 75 else if k=7 then 76 else if k=8 then 77 else 78
def FM:List Value:=[.nilFunc,.nilFunc,.nilFunc,.func (.func 71) ⟨[]⟩ ⟨[]⟩,.func (.func 73) ⟨[]⟩ ⟨[]⟩,.func (.func 74) ⟨[]⟩ ⟨[]⟩,.func (.func 75) ⟨[]⟩ ⟨[]⟩,.func (.func 76) ⟨[]⟩ ⟨[]⟩,.func (.func 77) ⟨[]⟩ ⟨[]⟩,.func (.func 78) ⟨[]⟩ ⟨[]⟩]
theorem Vo{k:Nat}(h3:3<=k)(h9:k<=9):eX FM k=some (.func (.func (FL k)) ⟨[]⟩ ⟨[]⟩):=by
 have:k=3\/k=4\/k=5\/k=6\/k=7\/k=8\/k=9:=by omega
 rcases this with rfl|rfl|rfl|rfl|rfl|rfl|rfl<;>rfl
theorem Vp{k:Nat}{a b:Int}(h3:3<=k)(h9:k<=9)(ha:bW a)(hb:bW b):fG Tryz.prog (FL k) [.int .i64 a,.int .i64 b] [] (.int .i64 (iH k a b)):=by
 have:k=3\/k=4\/k=5\/k=6\/k=7\/k=8\/k=9:=by omega
 rcases this with rfl|rfl|rfl|rfl|rfl|rfl|rfl
 ·exact Vh ha hb
 ·exact Vi ha hb
 ·exact Vm ha hb
 ·exact Vn ha hb
 ·exact Vj
 ·exact Vk
 ·exact Vl
theorem yH{bS:Nat}{v:Value}{st:List Int}{x:Int}(hl:st.length<=100000):bJ Tryz.prog (.func 79) [] [ptr' bS] [pt bS (.cells [v]),Bd v (st++[x])] [] (λ_:Value=>.int .i64 x) (λv'=>[pt bS (.cells [v']),Bd v' st]) (λ_=>[]) (λ_=>True):=by
 have hll:(pz (st++[x])).length=st.length+1:=by rw[rF,fE];rfl
 refine bq _ (bP 79) λB w0=>?_;refine go ?_;refine oh au (v:=v) (aa:=pz (st++[x])) (by omega) λb f c r hf hr hc e=>?_;rw[hll]at e;subst e;refine go ?_;rw[show((st.length+1:Nat):Int) - 1=((st.length:Nat):Int)by omega];refine go ?_;refine jW (o:=0+st.length*1) (.int .i64 x) (jw (E:=au) (j:=0) (p:=(x,())) (k:=st.length) (vR (st:=st++[x]) (k:=st.length) (x:=x) (by simp)) rfl (by show _=st.length*1+0;omega)) ?_;refine go ?_;rw[show((st.length+1:Nat):Int) - 1=((st.length:Nat):Int)by omega];refine(bY rfl rfl (x9 (lo:=0) (hi:=st.length) rfl hf (by decide) (.inl ⟨rfl,rfl⟩) (.inr ⟨_,rfl,rfl⟩) (dz _) (by omega))).h ?_;rw[show Value.slice (some ⟨b,0+0*au.n,some f⟩) (st.length - 0) (c - 0)=.slice (some ⟨b,0,some f⟩) st.length c by rw[nG,lS,lS]];refine go ?_;refine ET au (aa:=pz (st++[x])) (b:=b) (f:=f) (c:=c) (m:=st.length) (r:=r) (by omega) hf hr hc ?_;rw[show(pz (st++[x])).take st.length=pz st by rw[Be,List.take_left]];exact av (.slice (some ⟨b,0,some f⟩) st.length c) (hv:=rfl) (hp:=trivial)
theorem Lj{fl jy:List Bool}{w:cO}(h:aX fl w=some jy)(h10:w.op=10):w.n=0/\3<=fl.length:=by
 unfold aX at h;rw[if_neg (by omega),if_neg (by omega)]at h;split at h
 ·cases h
 ·split at h
  ·rename_i h1 h2;exact⟨by omega,h2.1⟩
  ·cases h
theorem Ll{fl jy:List Bool}{w:cO}(h:aX fl w=some jy)(h2:w.op=2):0<=w.n/\w.n<5:=by
 unfold aX at h;rw[if_neg (by omega),if_pos h2]at h;split at h
 ·assumption
 ·cases h
theorem Lm{fl jy:List Bool}{w:cO}(h:aX fl w=some jy)(h1:w.op≠1)(h2:w.op≠2)(h3:w.op≠10):3<=w.op/\w.op<10/\2<=fl.length:=by
 unfold aX at h;rw[if_neg h1,if_neg h2]at h;split at h
 ·cases h
 ·split at h
  ·rename_i h4;split at h
   ·rename_i h5;exact⟨h4.1,h4.2,h5.1⟩
   ·cases h
  ·cases h
theorem Vq{inp:List Int}(hi:tN inp):inp.any (λx=>decide (x<0\/1048576<x))=false:=by
 rw[List.any_eq_false];intro x hx;have:=hi.E9 x hx;simp;omega
theorem Vr{vp vi:Value}{ws:List cO}{inp:List Int}(hp:dD ws)(hi:tN inp):bJ Tryz.prog (.func 54) [vp,vi] [] [] [mX 0 og,ah fV vp ws,ah au vi inp] (λ_:Unit=>.tuple ⟨[.int .i64 (pts ws inp),.int .i64 0]⟩) (λ_=>[]) (λ_=>[]) (λ_=>True):=by
 have hwl:=hp.len;have hil:=hi.len;refine bq _ (bP 54) λB w0=>?_;refine go ?_;refine aF (Lh (ws:=ws)) (next:=λy hy=>?_);obtain rfl:=hy.1 hp;refine go ?_;refine aF FC (next:=λbi _=>?_);refine go ?_;refine gG (λh1=>?_) (λh1=>?_)
 rotate_left
 ·omega
 refine go ?_;refine aF (KV (xs:=inp) (p:=λx=>decide (x<0\/1048576<x)) (by omega) (λx _=>Vg)) (next:=λ_ _=>?_);rw[Vq hi];refine go ?_;intro bA;refine go ?_;intro bS;refine go ?_;refine dB (kL (b:=bA) (cs:=FM)) (hk:=.there .here) (h:=?_);refine ER au ?_;refine dZ (λy:Nat×Value=>ws.length - y.1) (λy=>[(34,.int .i64 (y.1:Int))]) (λy=>[pt bS (.cells [y.2]),Bd y.2 (eF inp (ws.take y.1))]) (λ_=>[]) (λy=>y.1<=ws.length) (0,.slice none 0 0) (dz _) (hk:=by repeat (first|exact bI.nil|(apply bI.cons;(focus (repeat (first|exact ak.here|apply ak.there)))))) (body:=?_);rintro⟨k,v⟩ hk;dsimp only at hk⊢;refine go ?_;refine aJ rfl (λh0=>?_) (λh0=>?_)
 ·refine go ?_;refine dh fV (k:=k) (next:=λbw ow w _ hw=>?_);obtain⟨fl,jy,hf1,hf2⟩:=hp.step hw;obtain⟨hsl,qh⟩:=Rk.rz hi k (by rw[cB];omega) hf1;have hfl:=yl k (by rw[cB];omega) hf1;have hst:=J8 (inp:=inp) hw;generalize eF inp (ws.take k)=st at hsl qh hst⊢;have hpl:=rF st;refine go ?_;intro b10;obtain⟨op,n⟩:=w;dsimp only;refine go ?_;refine aJ rfl (λh1=>?_) (λh1=>?_)
  ·refine go ?_;intro Vs;refine go ?_;refine gX au (v:=v) (aa:=pz st) n () ⟨by omega,by omega,by omega⟩ (λv'=>?_);refine jv au (v:=v') λa c e=>?_;subst e;refine go ?_;rw[show pz st++[((n,()):Int×au.Y)]=pz (eF inp (ws.take (k+1)))by rw[hst,kU,if_pos h1,<- oq];rfl];exact bC (k+1,.slice a _ c) (by show ws.length - (k+1)<ws.length - k;omega) (by show k+1<=_;omega)
  refine go ?_;refine aJ rfl (λh2=>?_) (λh2=>?_)
  ·obtain⟨g1,g2⟩:=Ll hf2 h2;dsimp only at g1 g2;refine go ?_;intro _ _ x hx;refine go ?_;intro Vt;refine go ?_;refine gX au (v:=v) (aa:=pz st) x () ⟨by omega,by omega,by omega⟩ (λv'=>?_);refine jv au (v:=v') λa c e=>?_;subst e;refine go ?_;rw[show pz st++[((x,()):Int×au.Y)]=pz (eF inp (ws.take (k+1)))by rw[hst,kU,if_neg h1,if_pos h2,si,hx,<- oq];rfl];exact bC (k+1,.slice a _ c) (by show ws.length - (k+1)<ws.length - k;omega) (by show k+1<=_;omega)
  refine go ?_;refine aJ rfl (λh3=>?_) (λh3=>?_)
  ·obtain⟨_,g2⟩:=Lj hf2 h3;obtain⟨m,hm⟩:∃m,st.length=m+3:=⟨st.length - 3,by omega⟩
   have hs:=UB hm;have hnx:eF inp (ws.take (k+1))=st.take m++[if st.getD m 0≠0 then st.getD (m+1) 0 else st.getD (m+2) 0]:=by
    rw[hst,kU,if_neg h1,if_neg h2,if_pos h3,hm];rfl
   generalize st.getD m 0=x3 at hs hnx;generalize st.getD (m+1) 0=x2 at hs hnx;generalize st.getD (m+2) 0=x1 at hs hnx;have htl:(st.take m).length=m:=by rw[cB];omega
   generalize st.take m=s0 at hs hnx htl;subst hs;have FN:=rF s0;refine go ?_;refine aF (yH (bS:=bS) (v:=v) (st:=s0++[x3]++[x2]) (x:=x1) (by simp;omega)) (next:=λv1 _=>?_);refine go ?_;refine aF (yH (bS:=bS) (v:=v1) (st:=s0++[x3]) (x:=x2) (by simp;omega)) (next:=λv2 _=>?_);refine go ?_;refine aF (yH (bS:=bS) (v:=v2) (st:=s0) (x:=x3) (by omega)) (next:=λv3 _=>?_);refine go ?_;refine aJ rfl (λh4=>?_) (λh4=>?_)
   ·refine go ?_;intro Vu;refine go ?_;refine gX au (v:=v3) (aa:=pz s0) x2 () ⟨by omega,by omega,by omega⟩ (λv'=>?_);refine jv au (v:=v') λa c e=>?_;subst e;refine go ?_;rw[show pz s0++[((x2,()):Int×au.Y)]=pz (eF inp (ws.take (k+1)))by rw[hnx,if_pos h4,<- oq];rfl];exact bC (k+1,.slice a _ c) (by show ws.length - (k+1)<ws.length - k;omega) (by show k+1<=_;omega)
   ·refine go ?_;intro Vu;refine go ?_;refine gX au (v:=v3) (aa:=pz s0) x1 () ⟨by omega,by omega,by omega⟩ (λv'=>?_);refine jv au (v:=v') λa c e=>?_;subst e;refine go ?_;rw[show pz s0++[((x1,()):Int×au.Y)]=pz (eF inp (ws.take (k+1)))by rw[hnx,if_neg h4,<- oq];rfl];exact bC (k+1,.slice a _ c) (by show ws.length - (k+1)<ws.length - k;omega) (by show k+1<=_;omega)
  obtain⟨g1,g2,g3⟩:=Lm hf2 h1 h2 h3;dsimp only at g1 g2 g3;obtain⟨m,hm⟩:∃m,st.length=m+2:=⟨st.length - 2,by omega⟩
  have hs:=UA hm;have hnx:eF inp (ws.take (k+1))=st.take m++[iH op (st.getD m 0) (st.getD (m+1) 0)]:=by
   rw[hst,kU,if_neg h1,if_neg h2,if_neg h3,hm];rfl
  have r1:=qh _ (l9 (st:=st) (k:=m) (by omega));have r2:=qh _ (l9 (st:=st) (k:=m+1) (by omega));generalize st.getD m 0=x2 at hs hnx r1;generalize st.getD (m+1) 0=x1 at hs hnx r2;have htl:(st.take m).length=m:=by rw[cB];omega
  generalize st.take m=s0 at hs hnx htl;subst hs;have FN:=rF s0;obtain⟨q,rfl⟩:=uk (show 0<=op by omega);refine go ?_;refine aF (yH (bS:=bS) (v:=v) (st:=s0++[x2]) (x:=x1) (by simp;omega)) (next:=λv1 _=>?_);refine go ?_;refine aF (yH (bS:=bS) (v:=v1) (st:=s0) (x:=x2) (by omega)) (next:=λv2 _=>?_);refine go ?_;refine(pO (b:=bA) (o:=0) (j:=(q:Int).toNat*1) (cs:=FM) (v:=.func (.func (FL q)) ⟨[]⟩ ⟨[]⟩) rfl rfl rfl (by repeat (first|with_reducible exact aT .. |with_reducible apply bB)) (by rw[Int.toNat_natCast,ko];exact Vo (by omega) (by omega))).h ?_;refine go ?_;refine aF (Vp (k:=q) (by omega) (by omega) r1 r2) (next:=λ_ _=>?_);refine go ?_;intro XO;refine go ?_;refine gX au (v:=v2) (aa:=pz s0) (iH q x2 x1) () ⟨by omega,by omega,by omega⟩ (λv'=>?_);refine jv au (v:=v') λa c e=>?_;subst e;refine go ?_;rw[show pz s0++[((iH q x2 x1,()):Int×au.Y)]=pz (eF inp (ws.take (k+1)))by rw[hnx,<- oq];rfl];exact bC (k+1,.slice a _ c) (by show ws.length - (k+1)<ws.length - k;omega) (by show k+1<=_;omega)
 have yG:k=ws.length:=by omega
 subst yG;rw[jc];obtain⟨hsl,qh⟩:=Rk.rz hi ws.length rfl hp.fl;have hpt:pts ws inp=max 0 (min 1048576 ((eF inp ws).getD 0 0)):=rfl;obtain⟨x,hx⟩:∃x,eF inp ws=[x]:=by
  generalize eF inp ws=st at hsl;match st,hsl with
  |[x],_=>exact⟨x,rfl⟩
 rw[hx]at hpt⊢;refine oh au (v:=v) (aa:=pz [x]) (by simp) λb f c r hf hr hc e=>?_;subst e;rw[show aO au (pz [x])++r=.int .i64 x::r from rfl];refine go ?_;refine(bY rfl rfl (vF rfl rfl)).h ?_;refine(bY rfl rfl (nX rfl rfl)).h ?_;refine go ?_;exact av () (hv:=by rw[hpt];rfl) (hp:=trivial)
