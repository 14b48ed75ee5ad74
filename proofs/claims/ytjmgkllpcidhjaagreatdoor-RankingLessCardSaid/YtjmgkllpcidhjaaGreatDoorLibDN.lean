/-
  points.Run: its closures.
-/
import Derived.Test.YtjmgkllpcidhjaaGreatDoorLibCN
set_option linter.all false
set_option maxRecDepth 10000
set_option maxHeartbeats 4000000
namespace Go.Proofs.YtjmgkllpcidhjaaGreatDoor
open Go.Ideal Rk
theorem ae2{x:Int}:GX Tryz.prog (.func 70) [] [] (.int .i64 x) [] (decide (x<0\/1048576<x)):=by
 refine aX _ (bN 70) λB w0=>?_;refine go ?_;refine gG (λh1=>?_) (λh1=>?_)
 ·refine go ?_;refine aj () (hv:=?_) (hp:=trivial);rw[show decide (x<0\/1048576<x)=decide (1048576<x)from EB.2 ⟨λh=>h.elim (λh=>absurd h h1) id,.inr⟩];rfl
 refine go ?_;refine aj () (hv:=?_) (hp:=trivial);rw[eH (.inl h1)];rfl
theorem Ud{x:Int}:eY Tryz.prog 72 [.int .i64 x] [] (.int .i64 (hold x)):=by
 refine aX _ (bN 72) λB w0=>?_;refine go ?_;refine(bO rfl rfl (rR rfl rfl)).h ?_;refine(bO rfl rfl (nG rfl rfl)).h ?_;refine go ?_;exact aj () (hv:=rfl) (hp:=trivial)
theorem ae3{a b:Int}(ha:dN a)(hb:dN b):eY Tryz.prog 71 [.int .i64 a,.int .i64 b] [] (.int .i64 (hold (a+b))):=by
 unfold dN at ha hb;refine aX _ (bN 71) λB w0=>?_;refine go ?_;refine aD Ud (next:=λ_ _=>?_);refine go ?_;exact aj () (hv:=rfl) (hp:=trivial)
theorem ae4{a b:Int}(ha:dN a)(hb:dN b):eY Tryz.prog 73 [.int .i64 a,.int .i64 b] [] (.int .i64 (hold (a - b))):=by
 unfold dN at ha hb;refine aX _ (bN 73) λB w0=>?_;refine go ?_;refine aD Ud (next:=λ_ _=>?_);refine go ?_;exact aj () (hv:=rfl) (hp:=trivial)
theorem ae5{a b:Int}:eY Tryz.prog 76 [.int .i64 a,.int .i64 b] [] (.int .i64 (min a b)):=by
 refine aX _ (bN 76) λB w0=>?_;refine go ?_;refine(bO rfl rfl (rR rfl rfl)).h ?_;refine go ?_;exact aj () (hv:=rfl) (hp:=trivial)
theorem ae6{a b:Int}:eY Tryz.prog 77 [.int .i64 a,.int .i64 b] [] (.int .i64 (max a b)):=by
 refine aX _ (bN 77) λB w0=>?_;refine go ?_;refine(bO rfl rfl (nG rfl rfl)).h ?_;refine go ?_;exact aj () (hv:=rfl) (hp:=trivial)
theorem ae7{a b:Int}:eY Tryz.prog 78 [.int .i64 a,.int .i64 b] [] (.int .i64 (if a<b then 1 else 0)):=by
 refine aX _ (bN 78) λB w0=>?_;refine go ?_;refine aC rfl (λh=>?_) (λh=>?_)
 ·refine go ?_;exact aj () (hv:=by rw[if_pos h];rfl) (hp:=trivial)
 ·refine go ?_;exact aj () (hv:=by rw[if_neg h];rfl) (hp:=trivial)
theorem ae8{a b:Int}(ha:dN a)(hb:dN b):eY Tryz.prog 74 [.int .i64 a,.int .i64 b] [] (.int .i64 (mE a b)):=by
 have hr:dN (mE a b):=RZ;have hm:=ha;unfold dN at ha hb;refine aX _ (bN 74) λB w0=>?_;refine go ?_;refine gG (λh1=>?_) (λh1=>?_)
 ·have hb0:b=0:=sG.1 h1;subst hb0;refine go ?_;refine aj () (hv:=?_) (hp:=trivial);show Value.int .i64 (a*0)=_;unfold mE;rw[if_neg (λh=>h1 h.1)]
 refine go ?_;refine(bO rfl rfl (AP rfl (by omega) (by omega))).h ?_;refine(bO rfl rfl (nG rfl rfl)).h ?_;refine go ?_;refine(bO rfl rfl (AP rfl (by omega) (by omega))).h ?_;refine(bO rfl rfl (nG rfl rfl)).h ?_;have hq:=GY (a:=1099511627776) (b:=max b (-b)) (n:=1099511627776) (by decide);refine(bO rfl rfl (CO rfl rfl (by omega) (by omega) (by omega))).h ?_;refine go ?_;refine aC rfl (λh2=>?_) (λh2=>?_)
 ·refine go ?_;refine iy rfl (λh3=>?_) (λh3=>?_)
  ·refine go ?_;refine aj () (hv:=?_) (hp:=trivial);show Value.int .i64 (-1099511627776)=_;unfold mE;rw[if_pos ⟨h1,h2⟩,if_pos (bne_iff_ne.1 h3)]
  ·refine go ?_;refine aj () (hv:=?_) (hp:=trivial);show Value.int .i64 1099511627776=_;unfold mE;rw[if_pos ⟨h1,h2⟩,if_neg (λh=>by rw[bne_iff_ne.2 h]at h3;cases h3)]
 have e:mE a b=a*b:=by unfold mE;rw[if_neg (λh=>h2 h.2)]
 rw[e]at hr⊢;unfold dN at hr;refine go ?_;exact aj () (hv:=rfl) (hp:=trivial)
theorem ae9{a b:Int}(ha:dN a)(hb:dN b):eY Tryz.prog 75 [.int .i64 a,.int .i64 b] [] (.int .i64 (qc a b)):=by
 have hr:=R3 (a:=a) (b:=b) ha hb;have hm:=ha;unfold dN at ha hb;refine aX _ (bN 75) λB w0=>?_;refine go ?_;refine aC rfl (λh1=>?_) (λh1=>?_)
 ·refine go ?_;refine aj () (hv:=?_) (hp:=trivial);show Value.int .i64 0=_;unfold qc;rw[if_pos h1]
 have hq:=GY (a:=a) (b:=b) (n:=1099511627776) (by omega);refine go ?_;refine(bO rfl rfl (CO rfl rfl h1 (by omega) (by omega))).h ?_;refine go ?_;refine(bO rfl rfl (CP rfl rfl h1)).h ?_;refine go ?_;refine gG (λh2=>?_) (λh2=>?_)
 ·refine go ?_;refine aj () (hv:=?_) (hp:=trivial);show Value.int .i64 (a.tdiv b)=_;unfold qc;rw[if_neg h1,if_neg (λh=>h2 h.1)]
 refine go ?_;refine iy rfl (λh3=>?_) (λh3=>?_)
 ·refine go ?_;refine aj () (hv:=?_) (hp:=trivial);show Value.int .i64 (a.tdiv b - 1)=_;unfold qc;rw[if_neg h1,if_pos ⟨h2,bne_iff_ne.1 h3⟩]
 ·refine go ?_;refine aj () (hv:=?_) (hp:=trivial);show Value.int .i64 (a.tdiv b)=_;unfold qc;rw[if_neg h1,if_neg (λh=>by rw[bne_iff_ne.2 h.2]at h3;cases h3)]
def MM(k:Nat):FuncId:=if k=3 then 71 else if k=4 then 73 else if k=5 then 74 else if k=6 then 75 else if k=7 then 76 else if k=8 then 77 else 78
def MN:List Value:=[.nilFunc,.nilFunc,.nilFunc,.func (.func 71) ⟨[]⟩ ⟨[]⟩,.func (.func 73) ⟨[]⟩ ⟨[]⟩,.func (.func 74) ⟨[]⟩ ⟨[]⟩,.func (.func 75) ⟨[]⟩ ⟨[]⟩,.func (.func 76) ⟨[]⟩ ⟨[]⟩,.func (.func 77) ⟨[]⟩ ⟨[]⟩,.func (.func 78) ⟨[]⟩ ⟨[]⟩]
theorem afa{k:Nat}(h3:3<=k)(h9:k<=9):iq MN k=some (.func (.func (MM k)) ⟨[]⟩ ⟨[]⟩):=by
 have:k=3\/k=4\/k=5\/k=6\/k=7\/k=8\/k=9:=by omega
 rcases this with rfl|rfl|rfl|rfl|rfl|rfl|rfl<;>rfl
theorem afb{k:Nat}{a b:Int}(h3:3<=k)(h9:k<=9)(ha:dN a)(hb:dN b):eY Tryz.prog (MM k) [.int .i64 a,.int .i64 b] [] (.int .i64 (kU k a b)):=by
 have:k=3\/k=4\/k=5\/k=6\/k=7\/k=8\/k=9:=by omega
 rcases this with rfl|rfl|rfl|rfl|rfl|rfl|rfl
 ·exact ae3 ha hb
 ·exact ae4 ha hb
 ·exact ae8 ha hb
 ·exact ae9 ha hb
 ·exact ae5
 ·exact ae6
 ·exact ae7
theorem DX{bS:Nat}{v:Value}{st:List Int}{x:Int}(hl:st.length<=100000):bD Tryz.prog (.func 79) [] [ptr' bS] [pt bS (.cells [v]),GZ v (st++[x])] [] (λ_:Value=>.int .i64 x) (λv'=>[pt bS (.cells [v']),GZ v' st]) (λ_=>[]) (λ_=>True):=by
 have hll:(pz (st++[x])).length=st.length+1:=by rw[wW,dW];rfl
 refine aX _ (bN 79) λB w0=>?_;refine go ?_;refine tJ ae (v:=v) (aa:=pz (st++[x])) (by omega) λb f c r hf hr hc e=>?_;rw[hll]at e;subst e;refine go ?_;rw[show((st.length+1:Nat):Int) - 1=((st.length:Nat):Int)by omega];refine go ?_;refine jU (o:=0+st.length*1) (.int .i64 x) (mo (E:=ae) (j:=0) (p:=(x,())) (k:=st.length) (AQ (st:=st++[x]) (k:=st.length) (x:=x) (by simp)) rfl (by show _=st.length*1+0;omega)) ?_;refine go ?_;rw[show((st.length+1:Nat):Int) - 1=((st.length:Nat):Int)by omega];refine(bO rfl rfl (Dh (lo:=0) (hi:=st.length) rfl hf (by decide) (.inl ⟨rfl,rfl⟩) (.inr ⟨_,rfl,rfl⟩) (bF _) (by omega))).h ?_;rw[show Value.slice (some ⟨b,0+0*ae.n,some f⟩) (st.length - 0) (c - 0)=.slice (some ⟨b,0,some f⟩) st.length c by rw[pF,pE,pE]];refine go ?_;refine Lv ae (aa:=pz (st++[x])) (b:=b) (f:=f) (c:=c) (m:=st.length) (r:=r) (by omega) hf hr hc ?_;rw[show(pz (st++[x])).take st.length=pz st by rw[G5,List.take_left]];exact aj (.slice (some ⟨b,0,some f⟩) st.length c) (hv:=rfl) (hp:=trivial)
theorem Ue{fl mD:List Bool}{w:eD}(h:dm fl w=some mD)(h10:w.op=10):w.n=0/\3<=fl.length:=by
 unfold dm at h;rw[if_neg (by omega),if_neg (by omega)]at h;split at h
 ·cases h
 ·split at h
  ·rename_i h1 h2;exact⟨by omega,h2.1⟩
  ·cases h
theorem Uf{fl mD:List Bool}{w:eD}(h:dm fl w=some mD)(h2:w.op=2):0<=w.n/\w.n<5:=by
 unfold dm at h;rw[if_neg (by omega),if_pos h2]at h;split at h
 ·assumption
 ·cases h
theorem Ug{fl mD:List Bool}{w:eD}(h:dm fl w=some mD)(h1:w.op≠1)(h2:w.op≠2)(h3:w.op≠10):3<=w.op/\w.op<10/\2<=fl.length:=by
 unfold dm at h;rw[if_neg h1,if_neg h2]at h;split at h
 ·cases h
 ·split at h
  ·rename_i h4;split at h
   ·rename_i h5;exact⟨h4.1,h4.2,h5.1⟩
   ·cases h
  ·cases h
theorem afc{inp:List Int}(hi:yF inp):inp.any (λx=>decide (x<0\/1048576<x))=false:=by
 rw[List.any_eq_false];intro x hx;have:=hi.LQ x hx;simp;omega
theorem afd{vp vi:Value}{ws:List eD}{inp:List Int}(hp:fo ws)(hi:yF inp):bD Tryz.prog (.func 54) [vp,vi] [] [] [lG 0 mh,ah fw vp ws,ah ae vi inp] (λ_:Unit=>.tuple ⟨[.int .i64 (pts ws inp),.int .i64 0]⟩) (λ_=>[]) (λ_=>[]) (λ_=>True):=by
 have hwl:=hp.len;have hil:=hi.len;refine aX _ (bN 54) λB w0=>?_;refine go ?_;refine aD (Uc (ws:=ws)) (next:=λy hy=>?_);obtain rfl:=hy.1 hp;refine go ?_;refine aD MG (next:=λbi _=>?_);refine go ?_;refine gG (λh1=>?_) (λh1=>?_)
 rotate_left
 ·omega
 refine go ?_;refine aD (TK (xs:=inp) (p:=λx=>decide (x<0\/1048576<x)) (by omega) (λx _=>ae2)) (next:=λ_ _=>?_);rw[afc hi];refine go ?_;intro bA;refine go ?_;intro bS;refine go ?_;refine bG (eP (b:=bA) (cs:=MN)) (hk:=.there .here) (h:=?_);refine Lt ae ?_;refine bE (λy:Nat×Value=>ws.length - y.1) (λy=>[(34,.int .i64 (y.1:Int))]) (λy=>[pt bS (.cells [y.2]),GZ y.2 (gu inp (ws.take y.1))]) (λ_=>[]) (λy=>y.1<=ws.length) (0,.slice none 0 0) (bF _) (hk:=by repeat (first|exact aM.nil|(apply aM.cons;(focus (repeat (first|exact ai.here|apply ai.there)))))) (body:=?_);rintro⟨k,v⟩ hk;dsimp only at hk⊢;refine go ?_;refine aC rfl (λh0=>?_) (λh0=>?_)
 ·refine go ?_;refine bJ fw (k:=k) (next:=λbw ow w _ hw=>?_);obtain⟨fl,mD,hf1,hf2⟩:=hp.step hw;obtain⟨hsl,vB⟩:=Rk.wO hi k (by rw[dw];omega) hf1;have hfl:=Dm k (by rw[dw];omega) hf1;have hst:=R5 (inp:=inp) hw;generalize gu inp (ws.take k)=st at hsl vB hst⊢;have hpl:=wW st;refine go ?_;intro b10;obtain⟨op,n⟩:=w;dsimp only;refine go ?_;refine aC rfl (λh1=>?_) (λh1=>?_)
  ·refine go ?_;intro b59;refine go ?_;refine jW ae (v:=v) (aa:=pz st) n () ⟨by omega,by omega,by omega⟩ (λv'=>?_);refine mi ae (v:=v') λa c e=>?_;subst e;refine go ?_;rw[show pz st++[((n,()):Int×ae.Y)]=pz (gu inp (ws.take (k+1)))by rw[hst,oP,if_pos h1,<- tX];rfl];exact aO (k+1,.slice a _ c) (by show ws.length - (k+1)<ws.length - k;omega) (by show k+1<=_;omega)
  refine go ?_;refine aC rfl (λh2=>?_) (λh2=>?_)
  ·obtain⟨g1,g2⟩:=Uf hf2 h2;dsimp only at g1 g2;refine go ?_;intro _ _ x hx;refine go ?_;intro b69;refine go ?_;refine jW ae (v:=v) (aa:=pz st) x () ⟨by omega,by omega,by omega⟩ (λv'=>?_);refine mi ae (v:=v') λa c e=>?_;subst e;refine go ?_;rw[show pz st++[((x,()):Int×ae.Y)]=pz (gu inp (ws.take (k+1)))by rw[hst,oP,if_neg h1,if_pos h2,nY,hx,<- tX];rfl];exact aO (k+1,.slice a _ c) (by show ws.length - (k+1)<ws.length - k;omega) (by show k+1<=_;omega)
  refine go ?_;refine aC rfl (λh3=>?_) (λh3=>?_)
  ·obtain⟨_,g2⟩:=Ue hf2 h3;obtain⟨m,hm⟩:∃m,st.length=m+3:=⟨st.length - 3,by omega⟩
   have hs:=aet hm;have hnx:gu inp (ws.take (k+1))=st.take m++[if st.getD m 0≠0 then st.getD (m+1) 0 else st.getD (m+2) 0]:=by
    rw[hst,oP,if_neg h1,if_neg h2,if_pos h3,hm];rfl
   generalize st.getD m 0=x3 at hs hnx;generalize st.getD (m+1) 0=x2 at hs hnx;generalize st.getD (m+2) 0=x1 at hs hnx;have htl:(st.take m).length=m:=by rw[dw];omega
   generalize st.take m=s0 at hs hnx htl;subst hs;have MO:=wW s0;refine go ?_;refine aD (DX (bS:=bS) (v:=v) (st:=s0++[x3]++[x2]) (x:=x1) (by simp;omega)) (next:=λv1 _=>?_);refine go ?_;refine aD (DX (bS:=bS) (v:=v1) (st:=s0++[x3]) (x:=x2) (by simp;omega)) (next:=λv2 _=>?_);refine go ?_;refine aD (DX (bS:=bS) (v:=v2) (st:=s0) (x:=x3) (by omega)) (next:=λv3 _=>?_);refine go ?_;refine aC rfl (λh4=>?_) (λh4=>?_)
   ·refine go ?_;intro b84;refine go ?_;refine jW ae (v:=v3) (aa:=pz s0) x2 () ⟨by omega,by omega,by omega⟩ (λv'=>?_);refine mi ae (v:=v') λa c e=>?_;subst e;refine go ?_;rw[show pz s0++[((x2,()):Int×ae.Y)]=pz (gu inp (ws.take (k+1)))by rw[hnx,if_pos h4,<- tX];rfl];exact aO (k+1,.slice a _ c) (by show ws.length - (k+1)<ws.length - k;omega) (by show k+1<=_;omega)
   ·refine go ?_;intro b84;refine go ?_;refine jW ae (v:=v3) (aa:=pz s0) x1 () ⟨by omega,by omega,by omega⟩ (λv'=>?_);refine mi ae (v:=v') λa c e=>?_;subst e;refine go ?_;rw[show pz s0++[((x1,()):Int×ae.Y)]=pz (gu inp (ws.take (k+1)))by rw[hnx,if_neg h4,<- tX];rfl];exact aO (k+1,.slice a _ c) (by show ws.length - (k+1)<ws.length - k;omega) (by show k+1<=_;omega)
  obtain⟨g1,g2,g3⟩:=Ug hf2 h1 h2 h3;dsimp only at g1 g2 g3;obtain⟨m,hm⟩:∃m,st.length=m+2:=⟨st.length - 2,by omega⟩
  have hs:=aes hm;have hnx:gu inp (ws.take (k+1))=st.take m++[kU op (st.getD m 0) (st.getD (m+1) 0)]:=by
   rw[hst,oP,if_neg h1,if_neg h2,if_neg h3,hm];rfl
  have r1:=vB _ (qO (st:=st) (k:=m) (by omega));have r2:=vB _ (qO (st:=st) (k:=m+1) (by omega));generalize st.getD m 0=x2 at hs hnx r1;generalize st.getD (m+1) 0=x1 at hs hnx r2;have htl:(st.take m).length=m:=by rw[dw];omega
  generalize st.take m=s0 at hs hnx htl;subst hs;have MO:=wW s0;obtain⟨q,rfl⟩:=Bo (show 0<=op by omega);refine go ?_;refine aD (DX (bS:=bS) (v:=v) (st:=s0++[x2]) (x:=x1) (by simp;omega)) (next:=λv1 _=>?_);refine go ?_;refine aD (DX (bS:=bS) (v:=v1) (st:=s0) (x:=x2) (by omega)) (next:=λv2 _=>?_);refine go ?_;refine(rO (b:=bA) (o:=0) (j:=(q:Int).toNat*1) (cs:=MN) (v:=.func (.func (MM q)) ⟨[]⟩ ⟨[]⟩) rfl rfl rfl (by repeat (first|with_reducible exact bz .. |with_reducible apply dh)) (by rw[Int.toNat_natCast,gT];exact afa (by omega) (by omega))).h ?_;refine go ?_;refine aD (afb (k:=q) (by omega) (by omega) r1 r2) (next:=λ_ _=>?_);refine go ?_;intro b52;refine go ?_;refine jW ae (v:=v2) (aa:=pz s0) (kU q x2 x1) () ⟨by omega,by omega,by omega⟩ (λv'=>?_);refine mi ae (v:=v') λa c e=>?_;subst e;refine go ?_;rw[show pz s0++[((kU q x2 x1,()):Int×ae.Y)]=pz (gu inp (ws.take (k+1)))by rw[hnx,<- tX];rfl];exact aO (k+1,.slice a _ c) (by show ws.length - (k+1)<ws.length - k;omega) (by show k+1<=_;omega)
 have DW:k=ws.length:=by omega
 subst DW;rw[fK];obtain⟨hsl,vB⟩:=Rk.wO hi ws.length rfl hp.fl;have hpt:pts ws inp=max 0 (min 1048576 ((gu inp ws).getD 0 0)):=rfl;obtain⟨x,hx⟩:∃x,gu inp ws=[x]:=by
  generalize gu inp ws=st at hsl;match st,hsl with
  |[x],_=>exact⟨x,rfl⟩
 rw[hx]at hpt⊢;refine tJ ae (v:=v) (aa:=pz [x]) (by simp) λb f c r hf hr hc e=>?_;subst e;rw[show aW ae (pz [x])++r=.int .i64 x::r from rfl];refine go ?_;refine(bO rfl rfl (rR rfl rfl)).h ?_;refine(bO rfl rfl (nG rfl rfl)).h ?_;refine go ?_;exact aj () (hv:=by rw[hpt];rfl) (hp:=trivial)
