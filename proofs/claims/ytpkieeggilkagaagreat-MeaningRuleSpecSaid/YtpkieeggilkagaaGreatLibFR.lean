/-
  Part LibFR.
-/
import Derived.Test.YtpkieeggilkagaaGreatLibER
set_option linter.all false
set_option maxRecDepth 10000
set_option maxHeartbeats 4000000
namespace Go.Proofs.YtpkieeggilkagaaGreat
open Go.Ideal Kd
abbrev jK(n:Int):Value:=.int .i64 n
theorem zn:rP Tryz.prog 3 jK:=acu (by kernel_rfl)
theorem afJ{bm:Nat}{az:List (Int×Value)}:aV Tryz.prog (.func 272) [.map (some bm)] [] [] [xm jK bm az] (λb:Nat=>.func (.func 290) #[] #[ptr' b]) (λ_=>[]) (λb=>[bZ b 0 [.map (some bm)],xm jK bm az]) (λ_=>True):=by
 refine aC _ (aF 272) λB w0=>?_;refine go ?_;intro b1;refine go ?_;refine aW (eB (b:=b1)) (h:=?_);exact ae b1 (hv:=rfl) (hp:=trivial)
theorem afK{b bm:Nat}{az:List (Int×Value)}:y8 Tryz.prog (λx:Int=>[jK x]) (.func 290) [] [ptr' b] [bZ b 0 [.map (some bm)],xm jK bm az] (λxs=>xs.Perm (az.map (·.1))):=by
 intro S inv ok step s0 qF y1 y2 F' h0 hok hy;rw[dW,dW,bY];refine aC _ (aF 290) λB w0=>?_;refine go ?_;refine acy (b:=bm) (az:=az) (bz:=jK) (next:=λr=>?_);refine go ?_;refine aR (λy:List (Int×Value)×S=>az.length - y.1.length) (λy=>[]) (λy=>CF jK r bm az y.1::inv y.2) (λ_=>[]) (λy=>ok (y.1.map (·.1)) y.2/\(∃rest,(y.1++rest).Perm az)/\∀rest,gq step s0 (y.1.map (·.1)++rest)=gq step y.2 rest) ([],s0) ⟨h0,⟨az,.refl _⟩,λ_=>rfl⟩ (body:=?_);rintro⟨gZ,s⟩ ⟨hos,_,hrun⟩;dsimp only at hos hrun⊢;refine go ?_;refine acA (b:=bm) (az:=az) (gZ:=gZ) (bz:=jK) (more:=λp rem hp=>?_) (done:=λhp=>?_) adt
 ·have hX:(gZ.map (·.1)++p.1::rem.map (·.1)).Perm (az.map (·.1)):=by
   have:=hp.map (·.1);rw[ed,ik]at this;exact this
  have hlen:=hp.length_eq;rw[gU,oV]at hlen;have nQ:=hy _ s _ _ hos hX;refine go ?_;refine acF (bz:=jK) (az:=az) (gZ:=gZ) (p:=p) ?_;refine go ?_;refine aj nQ (next:=λ_ _=>?_);cases hst:(step s p.1).2 with
  |true=>
   have hs1:step s p.1=((step s p.1).1,true):=Prod.ext rfl hst;refine go ?_;refine aD (gZ++[p],(step s p.1).1) (by show az.length - (gZ++[p]).length<_;rw[gU,uh];omega) ⟨?_,⟨rem,by show((gZ++[p])++rem).Perm az;rw[fI];exact hp⟩,λrest=>?_⟩
   ·show ok ((gZ++[p]).map (·.1)) _;rw[ed];exact hok _ s _ _ hos hX hst
   ·show gq step s0 ((gZ++[p]).map (·.1)++rest)=_;rw[ed,fI,hrun];show gq step s (p.1::rest)=_;rw[gq,hs1]
  |false=>
   have hs1:step s p.1=((step s p.1).1,false):=Prod.ext rfl hst;have hr:=hrun (p.1::rem.map (·.1));rw[gq,hs1]at hr;dsimp only at hr;refine go ?_;exact ae (gZ.map (·.1)++p.1::rem.map (·.1)) (hv:=rfl) (hp:=hX) (hk:=by rw[hr];exact aJ.self _ _)
 ·refine go ?_;have hr:=hrun [];rw[gV]at hr;exact ae (gZ.map (·.1)) (hv:=rfl) (hp:=hp.map (·.1)) (hk:=by rw[hr];apply aJ.there;exact aJ.all _)
structure Ov where
 v:Value
 xs:List Int
theorem afL{fn:Fn}{first captured:List Value}{F1:List aL}{X:List Int->Prop}(hit:y8 Tryz.prog (λx:Int=>[jK x]) fn first captured F1 X)(hl:∀xs,X xs->xs.length<=1000000):
 aV Tryz.prog (.func 130) [.slice none 0 0,.func fn ⟨first⟩ ⟨captured⟩] [] [] F1 (λy:Ov=>y.v) (λy=>[ap aa y.v y.xs]) (λ_=>[]) (λy=>X y.xs):=by
 refine Cx NP UM λB w0=>?_;refine go ?_;intro b2;refine fJ aa ?_;refine IQ (λv:Value=>[pt b2 (.cells [v]),ap aa v ([]:List Int)]) (.slice none 0 0) (h:=?_);refine IZ (Z:=Nat) (λ(ys:List Int) (x:Int)=>(ys++[x],Out.normal)) (λys=>[UQ aa b2 ys]) (λvs ys=>ys=vs) [] _ (λ_ _=>[]) rfl (λvs s x rest hs hX _=>by rw[hs]) hit (by intro s x lo o B w0;refine go ?_;have z0:Nat:=0;exact Fb z0 rfl) ?_ ?_ (λ_ _=>trivial)
 ·intro vs s x rest z lo L B w0 hs hx;subst hs;dsimp only[List.cons_append,List.nil_append];have hlen:s.length<=1000000:=by have:=hl _ hx;rw[gU,oV]at this;omega
  refine IP (h:=λv=>?_);refine go ?_;intro b10;refine eG (xs:=s) aa x () (by omega) (next:=λad=>?_);refine go ?_;refine IQ (λv:Value=>[pt b2 (.cells [v]),ap aa v (s++[x])]) _ (h:=?_);exact w9 () rfl trivial trivial
 ·intro r xs hX;have hrun:∀(ys zs:List Int),iO (λ(ys:List Int) (x:Int)=>(ys++[x],Out.normal)) ys zs=(ys++zs,.normal):=by
   intro ys zs;induction zs generalizing ys with
   |nil=>simp[iO]
   |cons z zs ih=>rw[iO];simp only[ih];simp
  rw[hrun,bY];dsimp only[List.cons_append,List.nil_append];refine IP (h:=λv=>?_);refine go ?_;exact Al ⟨v,xs⟩ (hv:=rfl) (hp:=hX)
theorem afM{fn:Fn}{first captured:List Value}{F1:List aL}{X:List Int->Prop}(hit:y8 Tryz.prog (λx:Int=>[jK x]) fn first captured F1 X)(hl:∀xs,X xs->xs.length<=1000000):
 aV Tryz.prog (.func 74) [.func fn ⟨first⟩ ⟨captured⟩] [] [] F1 (λy:Ov=>y.v) (λy=>[ap aa y.v y.xs]) (λ_=>[]) (λy=>X y.xs):=by
 refine aC NQ UN λB w0=>?_;refine go ?_;refine aj (afL hit hl) (next:=λy hy=>?_);dsimp only[List.cons_append,List.nil_append];refine go ?_;exact ae y (hv:=rfl) (hp:=hy)
theorem VH{fn:Fn}{first captured:List Value}{F1:List aL}{X:List Int->Prop}(hit:y8 Tryz.prog (λx:Int=>[jK x]) fn first captured F1 X)(hl:∀xs,X xs->xs.length<=1000000):
 aV Tryz.prog (.func 260) [.func fn ⟨first⟩ ⟨captured⟩] [] [] F1 (λy:Ov=>y.v) (λy=>[ap aa y.v (dD y.xs)]) (λ_=>[]) (λy=>X y.xs):=by
 refine aC _ (aF 260) λB w0=>?_;refine go ?_;refine aj (afM hit hl) (next:=λy hy=>?_);obtain⟨v,xs⟩:=y;dsimp only[List.cons_append,List.nil_append]at hy⊢;have hlen:=hl _ hy;refine qi (E:=aa) (v:=v) (xs:=xs) λa hv=>?_;subst hv;refine go ?_;refine aj (Oq (a:=a) (zs:=xs) rfl (by omega)) (next:=λ_ _=>?_);refine go ?_;exact ae ⟨.slice a xs.length xs.length,xs⟩ (hv:=rfl) (hp:=hy)
theorem FT{g:bD}{vh vc:Value}{fn:Fn}{first captured:List Value}{F1:List aL}{kf:Int×Int->Int×Bool}(hg:fH g)
 (hk:∀p∈bE g,aV Tryz.prog fn (first++[Ay p.2]) captured [] F1 (λ_:Unit=>.tuple ⟨[.int .i64 (kf p.2).1,.bool (kf p.2).2]⟩) (λ_=>[]) (λ_=>[]) (λ_=>True)):
 aV Tryz.prog (.func 250) [.agg ⟨iW g vh vc⟩,.func fn ⟨first⟩ ⟨captured⟩] [] [] (ah aa vh g.holes::ah aa vc g.cells::F1) (λv:Value=>v) (λv=>[ap (ax aa) v (jg g kf)]) (λ_=>[]) (λ_=>True):=by
 have hgl:=hg.len;have hsl:=qa g;refine Cx _ (aF 250) λB w0=>?_;refine go ?_;intro b2 b3;refine go ?_;refine y7 jK (λbm=>?_);refine go ?_;intro b5;refine acY aa (b:=bm) (bz:=jK) ?_;refine go ?_;refine aj (Ot (g:=g) (vh:=vh) (vc:=vc)) (next:=λbs _=>?_);refine go ?_;refine IZ (Z:=Nat) (λ(m:List (Int×List Int)) (x:Int×(Int×Int))=>(vQ kf m x,.normal)) (λm=>[Fg jK aa bm m,pt b5 (.cells [.map (some bm)]),pt b3 (.cells [.func fn ⟨first⟩ ⟨captured⟩])]) (λvs m=>m=jC kf vs) [] _ (λx b8=>[pt b8 (.cells [.int .i64 x.2.1,.int .i64 x.2.2])]) rfl (λvs s x rest hs _ _=>by rw[hs,Fu]) (Oo (b1:=bs) (vh:=vh) (vc:=vc) hg) (by intro s x lo o B w0;refine go ?_;intro b8;refine go ?_;exact Fb b8 rfl) ?_ ?_ (λ_ _=>trivial)
 ·intro vs s x rest b8 lo L B w0 hs hX;dsimp only[List.cons_append,List.nil_append];obtain⟨hc,hvl,hxm⟩:=Ji hX;have hkx:=hk x hxm;have hin:=Nv kf vs.length vs rfl;rw[<- hs]at hin;have hst:vQ kf s x=cond (kf x.2).2 (upd (kf x.2).1 ((dL (kf x.2).1 s).getD []++[x.1]) s) s:=rfl;rw[hst];obtain⟨c,s1,s2⟩:=x;dsimp only at hc hkx hst⊢;subst hc;rcases hq:kf (s1,s2)with⟨kn,kb⟩
  rw[hq]at hkx;dsimp only at hkx⊢;refine go ?_;refine aj hkx (next:=λ_ _=>?_);cases kb with
  |false=>
   dsimp only[cond];refine go ?_;exact w9 () rfl trivial trivial
  |true=>
   dsimp only[cond];have hln:=hin.2 kn;refine go ?_;refine acZ (bz:=jK) (E:=aa) (b:=bm) (m:=s) kn (h:=λaz v hkeys hv=>?_);refine E9 (b:=bm) (az:=az) zn kn ?_;rw[hv];refine go ?_;intro b30;refine go ?_;refine Tn (xs:=(dL kn s).getD []) aa (vs.length:Int) () (by omega) (next:=λad=>?_);refine go ?_;refine xq (b:=bm) (v:=.slice ad (((dL kn s).getD []).length+1) (((dL kn s).getD []).length+1)) (az:=az) zn kn ?_;refine ac0 (E:=aa) (v:=.slice ad (((dL kn s).getD []).length+1) (((dL kn s).getD []).length+1)) (xs:=(dL kn s).getD []++[(vs.length:Int)]) kn hkeys ?_;refine go ?_;exact w9 () rfl trivial trivial
 ·intro r xs hX;subst hX;rw[JI (vQ kf)];dsimp only[List.cons_append,List.nil_append];rw[show(bE g).foldl (vQ kf) []=jC kf (bE g)from rfl];have hin:=Nv kf _ (bE g) rfl;rw[hsl]at hin;have hL:jg g kf=(dD ((jC kf (bE g)).map (·.1))).map λn=>(dL n (jC kf (bE g))).getD []:=rfl;generalize hm:jC kf (bE g)=m at hin hL⊢;refine ac3 (bz:=jK) (E:=aa) (b:=bm) (m:=m) (λaz hkeys=>?_);have hkl:az.length=m.length:=by have:=congrArg List.length hkeys;simpa using this
  refine aW (CE (bz:=jK) (b:=bm) (az:=az)) (h:=?_);refine aW (ac4 (E:=aa) (az:=az) (m:=m) hkeys) (h:=?_);refine aW (eB (b:=b5)) (h:=?_);refine go ?_;refine aj (afJ (bm:=bm) (az:=az)) (next:=λbk _=>?_);refine go ?_;refine aj (VH (afK (b:=bk) (bm:=bm) (az:=az)) (λxs h=>by have:=h.length_eq;rw[dV]at this;omega)) (next:=λy hy=>?_);obtain⟨vk,ks⟩:=y;dsimp only[List.cons_append,List.nil_append]at hy⊢;have hks:dD ks=dD (m.map (·.1)):=TT (by rw[<- hkeys];exact hy);rw[hks];have hkn:(dD (m.map (·.1))).length=m.length:=by rw[Av,dV]
  have hmem:∀n∈dD (m.map (·.1)),n∈m.map (·.1):=λn h=>vR.1 h;generalize hK:dD (m.map (·.1))=ns at hkn hL hmem⊢;refine aW (fG (E:=aa) (v:=vk) (xs:=ns)) (h:=?_);refine aT (E:=aa) (v:=vk) (xs:=ns) (by simp) λa c e=>?_;subst e;refine go ?_;refine fJ (ax aa) ?_;refine aR (λy:Nat×Value=>ns.length - y.1) (λy=>[(36,.int .i64 (y.1:Int)),(4,y.2)]) (λy=>[ap (ax aa) y.2 ((ns.take y.1).map λn=>(dL n m).getD [])]) (λ_=>[]) (λy=>y.1<=ns.length) (0,.slice none 0 0) (bJ _) (hk:=by repeat (first|exact aJ.nil|(apply aJ.cons;(focus (repeat (first|exact aA.here|apply aA.there)))))) (body:=?_);rintro⟨k,v4⟩ hk2;dsimp only at hk2⊢;refine go ?_;refine ay rfl (λh1=>?_) (λh1=>?_)
  ·refine go ?_;intro _ _ n hn;obtain⟨v,hv⟩:=Fs (a:=n) (l:=az) (by rw[hkeys];exact hmem n (aP hn));obtain⟨xs,hxs⟩:=Fs (a:=n) (l:=m) (hmem n (aP hn));have hlv:kW false (.slice none 0 0) n az=v:=by unfold kW;rw[hv];rfl
   have htk:(ns.take (k+1)).map (λn=>(dL n m).getD [])=(ns.take k).map (λn=>(dL n m).getD [])++[xs]:=by
    rw[bS hn,ed,oW,hxs];rfl
   have hxl:((ns.take k).map (λn=>(dL n m).getD [])).length=k:=by rw[dV,gL];omega
   refine fD (ah aa v xs) (λw hw=>hw (Tt aa az m) (by simp) n v xs hv hxs) ?_;refine aT (E:=aa) (v:=v) (xs:=xs) (by simp) λa2 c2 e2=>?_;subst e2;refine go ?_;refine SN (bz:=jK) (b:=bm) (az:=az) zn n ?_;rw[hlv];refine go ?_;intro b44;refine go ?_;refine eG (xs:=(ns.take k).map λn=>(dL n m).getD []) (ax aa) xs (.slice a2 xs.length c2) (by rw[hxl];omega) (next:=λad=>?_);rw[<- htk];refine go ?_;exact aD (k+1,.slice ad (((ns.take k).map λn=>(dL n m).getD []).length+1) (((ns.take k).map λn=>(dL n m).getD []).length+1)) (by show ns.length - (k+1)<ns.length - k;omega) (by show k+1<=_;omega)
  have hke:k=ns.length:=by omega
  subst hke;rw[bC,<- hL];refine go ?_;exact Al v4 (hv:=rfl) (hp:=trivial)
abbrev FU(fn:Fn)(first captured:List Value)(F1:List aL)(g:bD)(kf:Int×Int->Int×Bool):Prop:=
 ∀p∈bE g,aV Tryz.prog fn (first++[Ay p.2]) captured [] F1 (λ_:Unit=>.tuple ⟨[.int .i64 (kf p.2).1,.bool (kf p.2).2]⟩) (λ_=>[]) (λ_=>[]) (λ_=>True)
theorem afN{g:bD}:FU (.func 251) [] [] [] g (λs=>(s.2,true)):=λp hp=>by
 refine aC _ (aF 251) λB w0=>?_;refine go ?_;intro b1;refine go ?_;exact ae () (hv:=rfl) (hp:=trivial)
theorem afO{g:bD}:FU (.func 252) [] [] [] g (λs=>(s.1,true)):=λp hp=>by
 refine aC _ (aF 252) λB w0=>?_;refine go ?_;intro b1;refine go ?_;exact ae () (hv:=rfl) (hp:=trivial)
theorem afP{g:bD}(hg:fH g):FU (.func 273) [] [] [] g (λs=>(s.1+s.2,true)):=λp hp=>by
 have hb:=Jh hg p hp;obtain⟨c,s1,s2⟩:=p;dsimp only at hb⊢;refine aC _ (aF 273) λB w0=>?_;refine go ?_;intro b1;refine go ?_;exact ae () (hv:=rfl) (hp:=trivial)
theorem afQ{g:bD}(hg:fH g):FU (.func 274) [] [] [] g (λs=>(0,decide (s.1=s.2))):=λp hp=>by
 have hb:=Jh hg p hp;refine aC _ (aF 274) λB w0=>?_;refine go ?_;intro b1;refine go ?_;exact ae () (hv:=rfl) (hp:=trivial)
theorem afR{g:bD}{vh vc:Value}{b:Nat}(hg:fH g):FU (.func 275) [] [ptr' b] [bZ b 0 (iW g vh vc)] g (λs=>(0,decide (s.1+s.2=g.w - 1))):=λp hp=>by
 have hb:=Jh hg p hp;obtain⟨c,s1,s2⟩:=p;dsimp only at hb⊢;have hw:=hg.make.wi;refine aC _ (aF 275) λB w0=>?_;refine go ?_;intro b1;refine go ?_;exact ae () (hv:=rfl) (hp:=trivial)
theorem afS{g:bD}{vh vc:Value}(hg:fH g):
 aV Tryz.prog (.func 253) [.agg ⟨iW g vh vc⟩] [] [] (jD g vh vc) (λv:Value=>v) (λv=>[ap (ax aa) v (lZ g)]) (λ_=>[]) (λ_=>True):=by
 refine aC _ (aF 253) λB w0=>?_;refine go ?_;intro b1;refine aW (eB (b:=b1)) (h:=?_);refine go ?_;refine ay rfl (λh1=>?_) (λh1=>?_)
 ·refine go ?_;refine aj (FT (kf:=λs=>(s.1+s.2,true)) (vh:=vh) (vc:=vc) hg (afP hg)) (next:=λv _=>?_);refine go ?_;exact ae v (hv:=rfl) (hp:=trivial) (hk:=by unfold lZ;rw[if_pos h1];exact aJ.all _)
 refine go ?_;refine ay rfl (λh2=>?_) (λh2=>?_)
 ·refine go ?_;refine fJ (ax aa) ?_;exact ae (.slice none 0 0) (hv:=rfl) (hp:=trivial) (hk:=by unfold lZ;rw[if_neg h1,if_neg h2];exact aJ.all _)
 have h2:g.w=g.h:=gM.1 h2;refine go ?_;refine aj (FT (kf:=λs=>(0,decide (s.1=s.2))) (vh:=vh) (vc:=vc) hg (afQ hg)) (next:=λva _=>?_);refine go ?_;refine aj (FT (kf:=λs=>(0,decide (s.1+s.2=g.w - 1))) (vh:=vh) (vc:=vc) hg (afR (vh:=vh) (vc:=vc) (b:=b1) hg)) (next:=λvb _=>?_);have hA:=Jj hg (λs=>(0,decide (s.1=s.2)));have hB:=Jj hg (λs=>(0,decide (s.1+s.2=g.w - 1)));have hD:lZ g=mo (jg g (λs=>(0,decide (s.1=s.2)))) (jg g (λs=>(0,decide (s.1+s.2=g.w - 1)))):=by unfold lZ;rw[if_neg h1,if_pos h2]
 generalize jg g (λs=>(0,decide (s.1=s.2)))=la at hA hD⊢;generalize jg g (λs=>(0,decide (s.1+s.2=g.w - 1)))=lb at hB hD⊢;have hF:=Nw hA.2 hB.2;refine aW (fG (E:=ax aa) (v:=vb) (xs:=lb)) (h:=?_);refine aT (E:=ax aa) (v:=vb) (xs:=lb) (by simp) λa c e=>?_;subst e;refine go ?_;refine aR (λy:Nat×Value=>lb.length - y.1) (λy=>[(22,.int .i64 (y.1:Int)),(3,y.2)]) (λy=>[ap (ax aa) y.2 (mo la (lb.take y.1))]) (λ_=>[]) (λy=>y.1<=lb.length) (0,va) (bJ _) (hk:=by repeat (first|exact aJ.nil|(apply aJ.cons;(focus (repeat (first|exact aA.here|apply aA.there)))))) (body:=?_);rintro⟨k,v3⟩ hk2;dsimp only at hk2⊢;have Ow:=hF k;refine go ?_;refine ay rfl (λh3=>?_) (λh3=>?_)
 ·refine go ?_;refine aU (ax aa) (xs:=lb) (next:=λ_ _ ln (vl:Value) hl=>?_);have hs:=TY (a:=la) hl;have hll:=hB.2 ln (aP hl);generalize mo la (lb.take k)=acc at Ow hs⊢;refine qi (E:=ax aa) (v:=v3) (xs:=acc) λa3 e3=>?_;subst e3;refine aT (E:=aa) (v:=vl) (xs:=ln) (by simp) λa4 c4 e4=>?_;subst e4;cases acc with
  |nil=>
   have hs2:mo la (lb.take (k+1))=[]++[ln]:=hs;refine go ?_;intro b39;refine go ?_;refine eG (xs:=([]:List (List Int))) (ax aa) ln (.slice a4 ln.length c4) (by simp) (next:=λad=>?_);rw[<- hs2];refine go ?_;exact aD (k+1,.slice ad (([]:List (List Int)).length+1) (([]:List (List Int)).length+1)) (by show lb.length - (k+1)<lb.length - k;omega) (by show k+1<=_;omega)
  |cons a0 acc=>
   have ha0:=Ow.2 a0 (dJ ..);refine go ?_;refine I8 aa 0 a0 rfl (next:=λ_ _ u=>?_);refine go ?_;refine aj (zk (xs:=a0) (ys:=ln) (by omega)) (next:=λ_ _=>?_);by_cases h4:a0=ln
   rotate_left
   ·rw[aS h4];have hs2:mo la (lb.take (k+1))=(a0::acc)++[ln]:=by rw[hs];unfold xJ;rw[if_neg (show¬((a0::acc).head? =some ln)from λe=>h4 (Option.some.inj e))]
    refine go ?_;intro b39;refine go ?_;refine eG (xs:=a0::acc) (ax aa) ln (.slice a4 ln.length c4) (by have:=Ow.1;omega) (next:=λad=>?_);rw[<- hs2];refine go ?_;exact aD (k+1,.slice ad ((a0::acc).length+1) ((a0::acc).length+1)) (by show lb.length - (k+1)<lb.length - k;omega) (by show k+1<=_;omega)
   ·rw[dQ h4];have hs2:mo la (lb.take (k+1))=a0::acc:=by rw[hs];unfold xJ;rw[if_pos (by rw[h4];rfl)]
    rw[show ap (ax aa) (Value.slice a3 (a0::acc).length (a0::acc).length) (a0::acc)=ap (ax aa) (Value.slice a3 (a0::acc).length (a0::acc).length) (mo la (lb.take (k+1)))from congrArg _ hs2.symm];refine go ?_;exact aD (k+1,.slice a3 (a0::acc).length (a0::acc).length) (by show lb.length - (k+1)<lb.length - k;omega) (by show k+1<=_;omega)
 have hke:k=lb.length:=by omega
 subst hke;rw[bC,<- hD];refine go ?_;exact ae v3 (hv:=rfl) (hp:=trivial)
theorem afU{c:Nat}:aV Tryz.prog (.func 245) [.slice none 0 c] [] [] [] (λ_:Unit=>.slice none 0 0) (λ_=>[]) (λ_=>[]) (λ_=>True):=by
 refine aC Oh Vy λB w0=>?_;refine go ?_;refine(gH rfl rfl (I4 (e:=3) (by kernel_rfl) rfl)).h ?_;refine go ?_;exact ae () (hv:=rfl) (hp:=trivial)
theorem afV{v:Value}{xs:List Int}(hl:xs.length<=4096):aV Tryz.prog (.func 245) [v] [] [] [ah aa v xs,I9 v xs] (λv':Value=>v') (λv'=>[ap aa v' xs]) (λ_=>[]) (λ_=>True):=by
 intro B w s;by_cases hx:xs=[]
 ·have hv:v=.slice none 0 0:=s.facts (I9 v xs) (dN _ (dJ ..)) hx;subst hx hv;refine .vH _ (afU (c:=0) B w ⟨s.agree,s.le,s.gp,s.own,λf hf=>(by cases hf)⟩) ?_;rintro r pm h' ⟨hp,w',y,e1,st,e2,_⟩;obtain⟨S,q1,q2,q3⟩:=st.own;exact⟨hp,w',.slice none 0 0,e1,⟨st.agree,st.le,st.gp,⟨S,⟨[],S,.inl ⟨rfl,rfl,rfl⟩,q1,rfl⟩,q2,q3⟩,st.facts⟩,e2,trivial⟩
 ·obtain⟨aO,h1,h2⟩:=S9 (s.facts (ah aa v xs) (dJ ..));have hlen:aO.length=xs.length:=by rw[<- h1,dV]
  refine .vH _ (VA (v:=v) (aO:=aO) (by omega) B w ⟨s.agree,s.le,s.gp,s.own,λf hf=>by rw[bM.1 hf];exact h2⟩) ?_;rintro r pm h' ⟨hp,w',y,e1,st,e2,_⟩;subst h1;exact⟨hp,w',y,e1,st.TD (by rw[hlen];exact Dx.2 hx) (λp hp f hf=>by cases hf),e2,trivial⟩
abbrev JJ(g:bD)(k:Int)(y:Ou):List aL:=[kX (y.e=0) (ah (ax aa) y.v (dx g k))]
theorem afW{g:bD}{vh vc:Value}{k:Int}(hS:qM g):
 aV Tryz.prog (.func 186) [.agg ⟨iW g vh vc⟩,.int .i64 k] [] [] (jD g vh vc) tT (λ_=>[]) (λy=>JJ g k y) (λy=>y.e=0↔fH g/\0<=k/\k<=7):=by
 refine aC _ (aF 186) λB w0=>?_;refine go ?_;intro b2;refine aW (eB (b:=b2)) (h:=?_);refine go ?_;refine aj (VG (g:=g) (vh:=vh) (vc:=vc) hS) (next:=λy hy=>?_);obtain⟨vn,e⟩:=y;dsimp only at hy⊢;refine go ?_;refine ay rfl (λh1=>?_) (λh1=>?_)
 ·refine go ?_;refine kY (c:=e=0) (f:=ah (ax aa) (.slice none 0 0) (dx g k)) h1 ?_;exact ae ⟨.slice none 0 0,e⟩ (hv:=rfl) (hp:=⟨(λh=>absurd h h1),λh=>absurd (hy.2 h.1) h1⟩)
 have he:e=0:=gM.1 h1;subst he;have hg:=hy.1 rfl;have hgl:=hg.len;have hnl:=vP g;have hnm:=Jl (g:=g);refine fD (ah (tH aa) vn (bO g)) (λw hw=>hw (kX ((0:Int)=0) (ah (tH aa) vn (bO g))) (by simp) rfl) ?_;refine fD (ah (ax aa) vn (bO g)) (λw hw=>TC (hw (ah (tH aa) vn (bO g)) (by simp))) ?_;refine aT (E:=ax aa) (v:=vn) (xs:=bO g) (by simp) λan cn en=>?_;subst en;refine go ?_;refine ay rfl (λhk=>?_) (λhk0=>?_)
 ·subst hk;have hf:dx g 0=kF g.cells.length:=by simp[dx]
  refine go ?_;refine fJ (ax aa) ?_;refine aR (λy:Nat×Value=>g.cells.length - y.1) (λy=>[(31,.int .i64 (y.1:Int)),(4,y.2)]) (λy=>[ap (ax aa) y.2 (kF y.1)]) (λ_=>[]) (λy=>y.1<=g.cells.length) (0,.slice none 0 0) (bJ _) (hk:=by repeat (first|exact aJ.nil|(apply aJ.cons;(focus (repeat (first|exact aA.here|apply aA.there)))))) (body:=?_);rintro⟨i,v4⟩ hi;dsimp only at hi⊢;have hil:=T9 i;refine go ?_;refine ay rfl (λh2=>?_) (λh2=>?_)
  ·refine go ?_;intro vW xV;refine aW (A:=pt vW (.cells [.int .i64 (i:Int)])) (fs:=[ah aa (.slice (some ⟨vW,0,some 0⟩) 1 1) [(i:Int)]]) (yU (b:=vW) (f:=0) (c:=1) (xs:=[(i:Int)])) (h:=?_);refine go ?_;refine eG (xs:=kF i) (ax aa) [(i:Int)] (.slice (some ⟨vW,0,some 0⟩) 1 1) (by omega) (next:=λad=>?_);rw[<- TZ];refine go ?_;exact aD (i+1,.slice ad ((kF i).length+1) ((kF i).length+1)) (by show g.cells.length - (i+1)<g.cells.length - i;omega) (by show i+1<=_;omega)
  have hie:i=g.cells.length:=by omega
  subst hie;refine aW (fG (E:=ax aa) (v:=v4) (xs:=kF g.cells.length)) (h:=?_);refine go ?_;refine kJ (c:=(0:Int)=0) (f:=ah (ax aa) v4 (dx g 0)) (by rw[hf];simp) ?_;exact ae ⟨v4,0⟩ (hv:=rfl) (hp:=⟨λ_=>⟨hg,by omega,by omega⟩,λ_=>rfl⟩)
 refine go ?_;refine ay rfl (λhk=>?_) (λhk1=>?_)
 ·subst hk;have hf:dx g 1=jg g (λs=>(s.2,true)):=by simp[dx]
  refine go ?_;refine aj (FT (kf:=λs=>(s.2,true)) (vh:=vh) (vc:=vc) hg afN) (next:=λv4 _=>?_);refine aW (fG (E:=ax aa) (v:=v4) (xs:=jg g (λs=>(s.2,true)))) (h:=?_);refine go ?_;refine kJ (c:=(0:Int)=0) (f:=ah (ax aa) v4 (dx g 1)) (by rw[hf];simp) ?_;exact ae ⟨v4,0⟩ (hv:=rfl) (hp:=⟨λ_=>⟨hg,by omega,by omega⟩,λ_=>rfl⟩)
 refine go ?_;refine ay rfl (λhk=>?_) (λhk2=>?_)
 ·subst hk;have hf:dx g 2=jg g (λs=>(s.1,true)):=by simp[dx]
  refine go ?_;refine aj (FT (kf:=λs=>(s.1,true)) (vh:=vh) (vc:=vc) hg afO) (next:=λv4 _=>?_);refine aW (fG (E:=ax aa) (v:=v4) (xs:=jg g (λs=>(s.1,true)))) (h:=?_);refine go ?_;refine kJ (c:=(0:Int)=0) (f:=ah (ax aa) v4 (dx g 2)) (by rw[hf];simp) ?_;exact ae ⟨v4,0⟩ (hv:=rfl) (hp:=⟨λ_=>⟨hg,by omega,by omega⟩,λ_=>rfl⟩)
 refine go ?_;refine ay rfl (λhk=>?_) (λhk3=>?_)
 ·subst hk;have hf:dx g 3=lZ g:=by simp[dx]
  refine go ?_;refine aj (afS (vh:=vh) (vc:=vc) hg) (next:=λv4 _=>?_);refine aW (fG (E:=ax aa) (v:=v4) (xs:=lZ g)) (h:=?_);refine go ?_;refine kJ (c:=(0:Int)=0) (f:=ah (ax aa) v4 (dx g 3)) (by rw[hf];simp) ?_;exact ae ⟨v4,0⟩ (hv:=rfl) (hp:=⟨λ_=>⟨hg,by omega,by omega⟩,λ_=>rfl⟩)
 refine go ?_;refine ay rfl (λhk=>?_) (λhk4=>?_)
 ·subst hk;have hf:dx g 4=bO g:=by simp[dx]
  refine go ?_;refine kJ (c:=(0:Int)=0) (f:=ah (ax aa) (.slice an (bO g).length cn) (dx g 4)) (by rw[hf];simp) ?_;exact ae ⟨.slice an (bO g).length cn,0⟩ (hv:=rfl) (hp:=⟨λ_=>⟨hg,by omega,by omega⟩,λ_=>rfl⟩)
 refine go ?_;refine ay rfl (λhk=>?_) (λhk5=>?_)
 ·subst hk;have hf:dx g 5=lH (bO g):=by simp[dx]
  generalize bO g=aN at hnl hnm hf⊢;refine go ?_;refine fJ (ax aa) ?_;refine aR (λy:Nat×Value=>aN.length - y.1) (λy=>[(59,.int .i64 (y.1:Int)),(4,y.2)]) (λy=>[ap (ax aa) y.2 (lH (aN.take y.1))]) (λ_=>[]) (λy=>y.1<=aN.length) (0,.slice none 0 0) (bJ _) (hk:=by repeat (first|exact aJ.nil|(apply aJ.cons;(focus (repeat (first|exact aA.here|apply aA.there)))))) (body:=?_);rintro⟨i,v4⟩ hi;dsimp only at hi⊢;have hil:(lH (aN.take i)).length=i:=by rw[Ub,gL];omega
  refine go ?_;refine ay rfl (λh2=>?_) (λh2=>?_)
  ·refine go ?_;refine aU (tH aa) (xs:=aN) (next:=λ_ _ ln (vl:Value) hl=>?_);have hll:=hnm ln (aP hl);refine go ?_;refine aj (afV (v:=vl) (xs:=ln) (by omega)) (next:=λvc2 _=>?_);refine go ?_;intro b67;refine go ?_;refine eG (xs:=ln) aa (i:Int) () (by omega) (next:=λad=>?_);refine go ?_;have hl1:ln.length+1=(ln++[(i:Int)]).length:=by simp
   rw[hl1];refine aj (Oq (a:=ad) (zs:=ln++[(i:Int)]) rfl (by simp;omega)) (next:=λ_ _=>?_);have hz0:dD (ln++[(i:Int)])≠[]:=λe=>by have:=Av (ln++[(i:Int)]);rw[e]at this;simp at this
   have hfs:=Ua hl;generalize hzz:dD (ln++[(i:Int)])=zs at hfs⊢;refine aW (fG (E:=aa) (v:=.slice ad (ln++[(i:Int)]).length (ln++[(i:Int)]).length) (xs:=zs)) (h:=?_);refine go ?_;intro b73;refine go ?_;refine eG (xs:=lH (aN.take i)) (ax aa) zs (.slice ad (ln++[(i:Int)]).length (ln++[(i:Int)]).length) (by omega) (next:=λrV=>?_);rw[<- hfs];refine go ?_;exact aD (i+1,.slice rV ((lH (aN.take i)).length+1) ((lH (aN.take i)).length+1)) (by show aN.length - (i+1)<aN.length - i;omega) (by show i+1<=_;omega)
  have hie:i=aN.length:=by omega
  subst hie;rw[bC];refine aW (fG (E:=ax aa) (v:=v4) (xs:=lH aN)) (h:=?_);refine go ?_;refine kJ (c:=(0:Int)=0) (f:=ah (ax aa) v4 (dx g 5)) (by rw[hf];simp) ?_;exact ae ⟨v4,0⟩ (hv:=rfl) (hp:=⟨λ_=>⟨hg,by omega,by omega⟩,λ_=>rfl⟩)
 refine go ?_;refine ay rfl (λhk=>?_) (λhk6=>?_)
 ·subst hk;have hf:dx g 6=iA (bO g):=by simp[dx]
  generalize bO g=aN at hnl hnm hf⊢;have h6:=Jk hnm;refine go ?_;refine fJ (ax aa) ?_;refine aR (λy:Nat×Value=>aN.length - y.1) (λy=>[(80,.int .i64 (y.1:Int)),(4,y.2)]) (λy=>[ap (ax aa) y.2 (iA (aN.take y.1))]) (λ_=>[]) (λy=>y.1<=aN.length) (0,.slice none 0 0) (bJ _) (hk:=by repeat (first|exact aJ.nil|(apply aJ.cons;(focus (repeat (first|exact aA.here|apply aA.there)))))) (body:=?_);rintro⟨i,v4⟩ hi;dsimp only at hi⊢;have hil:=h6 i hi;refine go ?_;refine ay rfl (λh2=>?_) (λh2=>?_)
  ·refine go ?_;refine aU (ax aa) (xs:=aN) (next:=λ_ _ ln (vl:Value) hl=>?_);have hll:=hnm ln (aP hl);have hfs:=Nz hl;refine aT (E:=aa) (v:=vl) (xs:=ln) (by simp) λa4 c4 e4=>?_;subst e4;refine go ?_;refine aR (λy:Nat×Value=>ln.length - y.1) (λy=>[(87,.int .i64 (y.1:Int)),(4,y.2)]) (λy=>[ap (ax aa) y.2 (iA (aN.take i)++jJ i (ln.take y.1))]) (λ_=>[]) (λy=>y.1<=ln.length) (0,v4) (bJ _) (hk:=by rw[show iA (aN.take i)++jJ i (ln.take 0)=iA (aN.take i)from gV _];repeat (first|exact aJ.nil|(apply aJ.cons;(focus (repeat (first|exact aA.here|apply aA.there)))))) (body:=?_);rintro⟨j,v5⟩ hj;dsimp only at hj⊢;have hpl:=Ny i (ln.take j);rw[gL]at hpl;have hal:(iA (aN.take i)++jJ i (ln.take j)).length<=2000:=by rw[gU];omega
   refine go ?_;refine ay rfl (λh3=>?_) (λh3=>?_)
   ·refine go ?_;intro _ _ x hx;have hps:=Uc (i:=i) hx;refine go ?_;refine ay rfl (λh4=>?_) (λh4=>?_)
    ·have A8:iA (aN.take i)++jJ i (ln.take (j+1))=(iA (aN.take i)++jJ i (ln.take j))++[[(i:Int),x]]:=by rw[hps,if_pos (by omega),fI]
     refine go ?_;intro xW b98;refine aW (A:=pt xW (.cells [.int .i64 (i:Int),.int .i64 x])) (fs:=[ah aa (.slice (some ⟨xW,0,some 0⟩) 2 2) [(i:Int),x]]) (yU (b:=xW) (f:=0) (c:=2) (xs:=[(i:Int),x])) (h:=?_);refine go ?_;refine eG (xs:=iA (aN.take i)++jJ i (ln.take j)) (ax aa) [(i:Int),x] (.slice (some ⟨xW,0,some 0⟩) 2 2) (by omega) (next:=λrV=>?_);rw[<- A8];refine go ?_;exact aD (j+1,.slice rV ((iA (aN.take i)++jJ i (ln.take j)).length+1) ((iA (aN.take i)++jJ i (ln.take j)).length+1)) (by show ln.length - (j+1)<ln.length - j;omega) (by show j+1<=_;omega)
    ·have A8:iA (aN.take i)++jJ i (ln.take (j+1))=iA (aN.take i)++jJ i (ln.take j):=by rw[hps,if_neg (by omega),gV]
     rw[<- A8];refine go ?_;exact aD (j+1,v5) (by show ln.length - (j+1)<ln.length - j;omega) (by show j+1<=_;omega)
   have fK:j=ln.length:=by omega
   subst fK;rw[bC,<- hfs];refine go ?_;exact aD (i+1,v5) (by show aN.length - (i+1)<aN.length - i;omega) (by show i+1<=_;omega)
  have hie:i=aN.length:=by omega
  subst hie;rw[bC];refine aW (fG (E:=ax aa) (v:=v4) (xs:=iA aN)) (h:=?_);refine go ?_;refine kJ (c:=(0:Int)=0) (f:=ah (ax aa) v4 (dx g 6)) (by rw[hf];simp) ?_;exact ae ⟨v4,0⟩ (hv:=rfl) (hp:=⟨λ_=>⟨hg,by omega,by omega⟩,λ_=>rfl⟩)
 refine go ?_;refine ay rfl (λhk=>?_) (λhk7=>?_)
 ·subst hk;have hf:dx g 7=[upTo' g.cells.length]:=by simp[dx]
  refine go ?_;refine fJ aa ?_;refine aR (λy:Nat×Value=>g.cells.length - y.1) (λy=>[(107,.int .i64 (y.1:Int)),(15,y.2)]) (λy=>[ap aa y.2 (upTo' y.1)]) (λ_=>[]) (λy=>y.1<=g.cells.length) (0,.slice none 0 0) (bJ _) (hk:=by repeat (first|exact aJ.nil|(apply aJ.cons;(focus (repeat (first|exact aA.here|apply aA.there)))))) (body:=?_);rintro⟨i,v15⟩ hi;dsimp only at hi⊢;have hil:=oh i;refine go ?_;refine ay rfl (λh2=>?_) (λh2=>?_)
  ·refine go ?_;intro akc;refine go ?_;refine eG (xs:=upTo' i) aa (i:Int) () (by omega) (next:=λad=>?_);rw[<- tN];refine go ?_;exact aD (i+1,.slice ad ((upTo' i).length+1) ((upTo' i).length+1)) (by show g.cells.length - (i+1)<g.cells.length - i;omega) (by show i+1<=_;omega)
  have hie:i=g.cells.length:=by omega
  subst hie;refine aW (fG (E:=aa) (v:=v15) (xs:=upTo' g.cells.length)) (h:=?_);refine aT (E:=aa) (v:=v15) (xs:=upTo' g.cells.length) (by simp) λa4 c4 e4=>?_;subst e4;refine go ?_;intro JK;refine aW (eB (b:=JK)) (h:=?_);refine fD (ah (ax aa) (A7 JK 1) [upTo' g.cells.length]) (λw hw=>IR (v:=.slice a4 (upTo' g.cells.length).length c4) (hw _ (by simp)) (hw _ (by simp))) ?_;refine go ?_;refine kJ (c:=(0:Int)=0) (f:=ah (ax aa) (A7 JK 1) (dx g 7)) (by rw[hf];simp) ?_;exact ae ⟨A7 JK 1,0⟩ (hv:=rfl) (hp:=⟨λ_=>⟨hg,by omega,by omega⟩,λ_=>rfl⟩)
 refine go ?_;refine kY (c:=(1:Int)=0) (f:=ah (ax aa) (.slice none 0 0) (dx g k)) (by omega) ?_;exact ae ⟨.slice none 0 0,1⟩ (hv:=rfl) (hp:=⟨(λh=>by cases h),(λh=>by exfalso;obtain⟨_,q1,q2⟩:=h;omega)⟩)
abbrev JL(g:bD)(rs:List (List Int))(y:Ou):List aL:=[kX (y.e=0) (ah (ax aa) y.v (eD g rs))]
theorem VI{g:bD}{vh vc vr:Value}{rs:List (List Int)}(hS:qM g)(hrl:rs.length<9223372036854775808)(hrs:∀ps∈rs,ps.length<9223372036854775808):
 aV Tryz.prog (.func 187) [.agg ⟨iW g vh vc⟩,vr] [] [] (ah (ax aa) vr rs::jD g vh vc) tT (λ_=>[]) (λy=>JL g rs y) (λy=>y.e=0↔fH g/\ze g rs):=by
 refine aC _ (aF 187) λB w0=>?_;refine aT (E:=ax aa) (v:=vr) (xs:=rs) (by simp) λar cr er=>?_;subst er;refine go ?_;intro b2;refine aW (eB (b:=b2)) (h:=?_);refine go ?_;refine aj (VD (g:=g) hS) (next:=λe he=>?_);refine go ?_;refine gG (λh1=>?_) (λh1=>?_)
 rotate_left
 ·refine go ?_;refine kY (c:=(130:Int)=0) (f:=ah (ax aa) (.slice none 0 0) (eD g rs)) (by omega) ?_;exact ae ⟨.slice none 0 0,130⟩ (hv:=rfl) (hp:=⟨(λh=>by cases h),λh=>absurd (he.2 h.1) h1⟩)
 have hg:=he.1 (by omega);have hgl:=hg.len;have mX:g.cells.Pairwise (·<·):=by rw[hg.cells];exact Ns _ _
 refine go ?_;refine ay rfl (λh2=>?_) (λh2=>?_)
 ·refine go ?_;refine kY (c:=(130:Int)=0) (f:=ah (ax aa) (.slice none 0 0) (eD g rs)) (by omega) ?_;exact ae ⟨.slice none 0 0,130⟩ (hv:=rfl) (hp:=⟨(λh=>by cases h),λh=>by exfalso;have:=h.2.len;omega⟩)
 refine go ?_;refine fJ (ax aa) ?_;refine aR (λy:Nat×Value=>rs.length - y.1) (λy=>[(24,.int .i64 (y.1:Int)),(4,y.2)]) (λy=>[ap (ax aa) y.2 (eD g (rs.take y.1))]) (λ_=>[]) (λy=>y.1<=rs.length/\∀ps∈rs.take y.1,zb g ps) (0,.slice none 0 0) ⟨bJ _,λps h=>by cases h⟩ (hk:=by repeat (first|exact aJ.nil|(apply aJ.cons;(focus (repeat (first|exact aA.here|apply aA.there)))))) (body:=?_);rintro⟨k,v4⟩ ⟨hk,hall⟩;dsimp only at hk hall⊢;have hkl:(eD g (rs.take k)).length=k:=by unfold eD;rw[dV,gL];omega
 refine go ?_;refine ay rfl (λh3=>?_) (λh3=>?_)
 ·refine go ?_;refine aU (ax aa) (xs:=rs) (next:=λ_ _ ps (vp:Value) hps=>?_);have hpm:=aP hps;have hpl:=hrs ps hpm;have htk:=bS hps;refine aT (E:=aa) (v:=vp) (xs:=ps) (by simp) λa4 c4 e4=>?_;subst e4;refine go ?_;refine y7 jK (λbm=>?_);refine go ?_;refine fJ aa ?_;refine aR (λy:Nat×Value=>ps.length - y.1) (λy=>[(31,.int .i64 (y.1:Int)),(8,y.2)]) (λy=>[ap aa y.2 (fu g (ps.take y.1)),gQ jK bm (za (fu g (ps.take y.1)))]) (λ_=>[]) (λy=>y.1<=ps.length/\(∀p∈ps.take y.1,p∈g.cells)/\(fu g (ps.take y.1)).Nodup) (0,.slice none 0 0) ⟨bJ _,(λp h=>by cases h),wz⟩ (hk:=by repeat (first|exact aJ.nil|(apply aJ.cons;(focus (repeat (first|exact aA.here|apply aA.there)))))) (body:=?_);rintro⟨j,v8⟩ ⟨hj,hmem,hnd⟩;dsimp only at hj hmem hnd⊢;have hjl:(fu g (ps.take j)).length=j:=by unfold fu;rw[dV,gL];omega
  have hj2:j<=256:=by have:=Jm hmem hnd;rw[gL]at this;omega
  refine go ?_;refine ay rfl (λh4=>?_) (λh4=>?_)
  ·refine go ?_;intro _ _ x hx;have htx:=bS hx;refine go ?_;refine aj (Vz (xs:=g.cells) (z:=x) (by omega) (mX.imp λh=>Int.le_of_lt h)) (next:=λy hy=>?_);have hym:=hy.mem mX;obtain⟨c,ok⟩:=y;dsimp only at hym⊢;cases ok with
   |false=>
    refine go ?_;refine kY (c:=(130:Int)=0) (f:=ah (ax aa) (.slice none 0 0) (eD g rs)) (by omega) ?_;exact ae ⟨.slice none 0 0,130⟩ (hv:=rfl) (hp:=⟨(λh=>by cases h),λh=>by
     have:=hym.2 ((h.2.all ps hpm).mem x (aP hx));cases this⟩)
   |true=>
    have hxm:=hym.1 rfl;have Dc:g.cells[c]? =some x:=hy.2.2.2.1 rfl;have hpos:=NA mX Dc;have hr1:fu g (ps.take (j+1))=fu g (ps.take j)++[(c:Int)]:=by unfold fu;rw[htx,ed,oW,hpos]
    refine go ?_;refine E9 (bz:=jK) (b:=bm) (az:=za (fu g (ps.take j))) zn (c:Int) ?_;rw[adv];refine go ?_;refine ay rfl (λh5=>?_) (λh5=>?_)
    ·refine go ?_;refine kY (c:=(130:Int)=0) (f:=ah (ax aa) (.slice none 0 0) (eD g rs)) (by omega) ?_;exact ae ⟨.slice none 0 0,130⟩ (hv:=rfl) (hp:=⟨(λh=>by cases h),λh=>by
      exfalso
      have h6:(fu g ps).Nodup:=(h.2.all ps hpm).nd;have h7:(fu g (ps.take (j+1))).Nodup:=by
       refine h6.sublist ?_;unfold fu;exact(DR _ _).map _
      rw[hr1,iq]at h7;exact h7.2.2 _ h5 _ (bM.2 rfl) rfl⟩)
    ·refine go ?_;refine xq (bz:=jK) (b:=bm) (v:=.bool true) (az:=za (fu g (ps.take j))) zn (c:Int) ?_;rw[<- Ud,<- hr1];refine go ?_;intro b53;refine go ?_;refine eG (xs:=fu g (ps.take j)) aa (c:Int) () (by omega) (next:=λad=>?_);rw[<- hr1];refine go ?_;refine aD (j+1,.slice ad ((fu g (ps.take j)).length+1) ((fu g (ps.take j)).length+1)) (by show ps.length - (j+1)<ps.length - j;omega) ⟨by show j+1<=_;omega,?_,?_⟩
     ·show∀p∈ps.take (j+1),p∈g.cells;rw[htx];intro p hp;rcases dB.1 hp with hp|hp
      ·exact hmem p hp
      ·rw[bM.1 hp];exact hxm
     ·show(fu g (ps.take (j+1))).Nodup;rw[hr1,iq];exact⟨hnd,by simp,λa ha b hb e=>h5 (by rw[bM.1 hb]at e;rw[<- e];exact ha)⟩
  have fK:j=ps.length:=by omega
  subst fK;rw[bC]at hmem hnd⊢;have hrl2:(fu g ps).length=ps.length:=by unfold fu;rw[dV]
  refine qi (E:=aa) (v:=v8) (xs:=fu g ps) λa8 e8=>?_;subst e8;refine go ?_;refine ay rfl (λh5=>?_) (λh5=>?_)
  ·refine go ?_;refine kY (c:=(130:Int)=0) (f:=ah (ax aa) (.slice none 0 0) (eD g rs)) (by omega) ?_;exact ae ⟨.slice none 0 0,130⟩ (hv:=rfl) (hp:=⟨(λh=>by cases h),λh=>by
    exfalso
    exact(h.2.all ps hpm).ne (jQ.1 (by omega))⟩)
  have hR:zb g ps:=⟨λe=>h5 (by rw[hrl2,e];rfl),hmem,hnd⟩
  have hrr:eD g (rs.take (k+1))=eD g (rs.take k)++[fu g ps]:=by unfold eD;rw[htk,ed,oW]
  refine aW (fG (E:=aa) (v:=.slice a8 (fu g ps).length (fu g ps).length) (xs:=fu g ps)) (h:=?_);refine go ?_;intro b61;refine go ?_;refine eG (xs:=eD g (rs.take k)) (ax aa) (fu g ps) (.slice a8 (fu g ps).length (fu g ps).length) (by omega) (next:=λad=>?_);rw[<- hrr];refine go ?_;refine aD (k+1,.slice ad ((eD g (rs.take k)).length+1) ((eD g (rs.take k)).length+1)) (by show rs.length - (k+1)<rs.length - k;omega) ⟨by show k+1<=_;omega,?_⟩;show∀qs∈rs.take (k+1),zb g qs;rw[htk];intro qs hq;rcases dB.1 hq with hq|hq
  ·exact hall qs hq
  ·rw[bM.1 hq];exact hR
 have hke:k=rs.length:=by omega
 subst hke;rw[bC]at hall⊢;refine aW (fG (E:=ax aa) (v:=v4) (xs:=eD g rs)) (h:=?_);refine go ?_;refine kJ (c:=(0:Int)=0) (f:=ah (ax aa) v4 (eD g rs)) (by simp) ?_;exact ae ⟨v4,0⟩ (hv:=rfl) (hp:=⟨λ_=>⟨hg,by omega,hall⟩,λ_=>rfl⟩)
