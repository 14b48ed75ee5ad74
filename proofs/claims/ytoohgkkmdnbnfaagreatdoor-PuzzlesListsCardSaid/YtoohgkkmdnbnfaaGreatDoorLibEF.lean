/-
  Lines of a grid: cells gathered by a number.
-/
import Derived.Test.YtoohgkkmdnbnfaaGreatDoorLibCF
set_option linter.all false
set_option maxRecDepth 10000
set_option maxHeartbeats 4000000
namespace Go.Proofs.YtoohgkkmdnbnfaaGreatDoor
open Go.Ideal Kd
abbrev jq(n:Int):Value:=.int .i64 n
theorem x8:qo Tryz.prog 3 jq:=aaG (by kernel_rfl)
theorem aeg{bm:Nat}{ai:List (Int×Value)}:bz Tryz.prog (.func 265) [.map (some bm)] [] [] [ru jq bm ai] (λb:Nat=>.func (.func 301) #[] #[ptr' b]) (λ_=>[]) (λb=>[eB b 0 [.map (some bm)],ru jq bm ai]) (λ_=>True):=by
 refine aK _ (aP 265) λB w0=>?_;refine go ?_;intro b1;refine go ?_;refine bC (eH (b:=b1)) (h:=?_);exact ae b1 (hv:=rfl) (hp:=trivial)
theorem aeh{b bm:Nat}{ai:List (Int×Value)}:ry Tryz.prog (λx:Int=>[jq x]) (.func 301) [] [ptr' b] [eB b 0 [.map (some bm)],ru jq bm ai] (λxs=>xs.Perm (ai.map (·.1))):=by
 intro S inv ok step s0 uq y1 y2 F' h0 hok hy;rw[dF,dF,bY];refine aK _ (aP 301) λB w0=>?_;refine go ?_;refine Q9 (b:=bm) (ai:=ai) (aX:=jq) (next:=λr=>?_);refine go ?_;refine bi (λy:List (Int×Value)×S=>ai.length - y.1.length) (λy=>[]) (λy=>zq jq r bm ai y.1::inv y.2) (λ_=>[]) (λy=>ok (y.1.map (·.1)) y.2/\(∃rest,(y.1++rest).Perm ai)/\∀rest,gM step s0 (y.1.map (·.1)++rest)=gM step y.2 rest) ([],s0) ⟨h0,⟨ai,.refl _⟩,λ_=>rfl⟩ (body:=?_);rintro⟨fC,s⟩ ⟨hos,_,hrun⟩;dsimp only at hos hrun⊢;refine go ?_;refine Ra (b:=bm) (ai:=ai) (fC:=fC) (aX:=jq) (more:=λp rem hp=>?_) (done:=λhp=>?_) abN
 ·have hX:(fC.map (·.1)++p.1::rem.map (·.1)).Perm (ai.map (·.1)):=by
   have:=hp.map (·.1);rw[dY,gN]at this;exact this
  have hlen:=hp.length_eq;rw[gD,oO]at hlen;have nK:=hy _ s _ _ hos hX;refine go ?_;refine Rb (aX:=jq) (ai:=ai) (fC:=fC) (p:=p) ?_;refine go ?_;refine ax nK (next:=λ_ _=>?_);cases hst:(step s p.1).2 with
  |true=>
   have hs1:step s p.1=((step s p.1).1,true):=Prod.ext rfl hst;refine go ?_;refine aQ (fC++[p],(step s p.1).1) (by show ai.length - (fC++[p]).length<_;rw[gD,uL];omega) ⟨?_,⟨rem,by show((fC++[p])++rem).Perm ai;rw[fq];exact hp⟩,λrest=>?_⟩
   ·show ok ((fC++[p]).map (·.1)) _;rw[dY];exact hok _ s _ _ hos hX hst
   ·show gM step s0 ((fC++[p]).map (·.1)++rest)=_;rw[dY,fq,hrun];show gM step s (p.1::rest)=_;rw[gM,hs1]
  |false=>
   have hs1:step s p.1=((step s p.1).1,false):=Prod.ext rfl hst;have hr:=hrun (p.1::rem.map (·.1));rw[gM,hs1]at hr;dsimp only at hr;refine go ?_;exact ae (fC.map (·.1)++p.1::rem.map (·.1)) (hv:=rfl) (hp:=hX) (hk:=by rw[hr];exact aH.self _ _)
 ·refine go ?_;have hr:=hrun [];rw[gK]at hr;exact ae (fC.map (·.1)) (hv:=rfl) (hp:=hp.map (·.1)) (hk:=by rw[hr];apply aH.there;exact aH.all _)
structure MO where
 v:Value
 xs:List Int
theorem aei{fn:Fn}{first captured:List Value}{F1:List aF}{X:List Int->Prop}(hit:ry Tryz.prog (λx:Int=>[jq x]) fn first captured F1 X)(hl:∀xs,X xs->xs.length<=1000000):
 bz Tryz.prog (.func 312) [.slice none 0 0,.func fn ⟨first⟩ ⟨captured⟩] [] [] F1 (λy:MO=>y.v) (λy=>[ap aa y.v y.xs]) (λ_=>[]) (λy=>X y.xs):=by
 refine DK Tc acM λB w0=>?_;refine go ?_;intro b2;refine gz aa ?_;refine um (λv:Value=>[pt b2 (.cells [v]),ap aa v ([]:List Int)]) (.slice none 0 0) (h:=?_);refine DV (Z:=Nat) (λ(ys:List Int) (x:Int)=>(ys++[x],Out.normal)) (λys=>[acP aa b2 ys]) (λvs ys=>ys=vs) [] _ (λ_ _=>[]) rfl (λvs s x rest hs hX _=>by rw[hs]) hit (by intro s x lo o B w0;refine go ?_;have z0:Nat:=0;exact zw z0 rfl) ?_ ?_ (λ_ _=>trivial)
 ·intro vs s x rest z lo L B w0 hs hx;subst hs;dsimp only[List.cons_append,List.nil_append];have hlen:s.length<=1000000:=by have:=hl _ hx;rw[gD,oO]at this;omega
  refine xK (h:=λv=>?_);refine go ?_;intro b10;refine eY (xs:=s) aa x () (by omega) (next:=λad=>?_);refine go ?_;refine um (λv:Value=>[pt b2 (.cells [v]),ap aa v (s++[x])]) _ (h:=?_);exact uo () rfl trivial trivial
 ·intro r xs hX;have hrun:∀(ys zs:List Int),jc (λ(ys:List Int) (x:Int)=>(ys++[x],Out.normal)) ys zs=(ys++zs,.normal):=by
   intro ys zs;induction zs generalizing ys with
   |nil=>simp[jc]
   |cons z zs ih=>rw[jc];simp only[ih];simp
  rw[hrun,bY];dsimp only[List.cons_append,List.nil_append];refine xK (h:=λv=>?_);refine go ?_;exact Bh ⟨v,xs⟩ (hv:=rfl) (hp:=hX)
theorem aej{fn:Fn}{first captured:List Value}{F1:List aF}{X:List Int->Prop}(hit:ry Tryz.prog (λx:Int=>[jq x]) fn first captured F1 X)(hl:∀xs,X xs->xs.length<=1000000):
 bz Tryz.prog (.func 289) [.func fn ⟨first⟩ ⟨captured⟩] [] [] F1 (λy:MO=>y.v) (λy=>[ap aa y.v y.xs]) (λ_=>[]) (λy=>X y.xs):=by
 refine aK Td acN λB w0=>?_;refine go ?_;refine ax (aei hit hl) (next:=λy hy=>?_);dsimp only[List.cons_append,List.nil_append];refine go ?_;exact ae y (hv:=rfl) (hp:=hy)
theorem TY{fn:Fn}{first captured:List Value}{F1:List aF}{X:List Int->Prop}(hit:ry Tryz.prog (λx:Int=>[jq x]) fn first captured F1 X)(hl:∀xs,X xs->xs.length<=1000000):
 bz Tryz.prog (.func 254) [.func fn ⟨first⟩ ⟨captured⟩] [] [] F1 (λy:MO=>y.v) (λy=>[ap aa y.v (cK y.xs)]) (λ_=>[]) (λy=>X y.xs):=by
 refine aK _ (aP 254) λB w0=>?_;refine go ?_;refine ax (aej hit hl) (next:=λy hy=>?_);obtain⟨v,xs⟩:=y;dsimp only[List.cons_append,List.nil_append]at hy⊢;have hlen:=hl _ hy;refine oL (E:=aa) (v:=v) (xs:=xs) λa hv=>?_;subst hv;refine go ?_;refine ax (MB (a:=a) (zs:=xs) rfl (by omega)) (next:=λ_ _=>?_);refine go ?_;exact ae ⟨.slice a xs.length xs.length,xs⟩ (hv:=rfl) (hp:=hy)
theorem Ew{g:bq}{vh vc:Value}{fn:Fn}{first captured:List Value}{F1:List aF}{kf:Int×Int->Int×Bool}(hg:eP g)
 (hk:∀p∈bA g,bz Tryz.prog fn (first++[zy p.2]) captured [] F1 (λ_:Unit=>.tuple ⟨[.int .i64 (kf p.2).1,.bool (kf p.2).2]⟩) (λ_=>[]) (λ_=>[]) (λ_=>True)):
 bz Tryz.prog (.func 233) [.agg ⟨iI g vh vc⟩,.func fn ⟨first⟩ ⟨captured⟩] [] [] (ah aa vh g.holes::ah aa vc g.cells::F1) (λv:Value=>v) (λv=>[ap (aj aa) v (iG g kf)]) (λ_=>[]) (λ_=>True):=by
 have hgl:=hg.len;have hsl:=nV g;refine DK _ (aP 233) λB w0=>?_;refine go ?_;intro b2 b3;refine go ?_;refine xO jq (λbm=>?_);refine go ?_;intro b5;refine aa6 aa (b:=bm) (aX:=jq) ?_;refine go ?_;refine ax (MC (g:=g) (vh:=vh) (vc:=vc)) (next:=λbs _=>?_);refine go ?_;refine DV (Z:=Nat) (λ(m:List (Int×List Int)) (x:Int×(Int×Int))=>(uy kf m x,.normal)) (λm=>[D5 jq aa bm m,pt b5 (.cells [.map (some bm)]),pt b3 (.cells [.func fn ⟨first⟩ ⟨captured⟩])]) (λvs m=>m=iQ kf vs) [] _ (λx b8=>[pt b8 (.cells [.int .i64 x.2.1,.int .i64 x.2.2])]) rfl (λvs s x rest hs _ _=>by rw[hs,D9]) (Mw (b1:=bs) (vh:=vh) (vc:=vc) hg) (by intro s x lo o B w0;refine go ?_;intro b8;refine go ?_;exact zw b8 rfl) ?_ ?_ (λ_ _=>trivial)
 ·intro vs s x rest b8 lo L B w0 hs hX;dsimp only[List.cons_append,List.nil_append];obtain⟨hc,hvl,hxm⟩:=Hy hX;have hkx:=hk x hxm;have hin:=Hz kf vs.length vs rfl;rw[<- hs]at hin;have hst:uy kf s x=cond (kf x.2).2 (upd (kf x.2).1 ((dB (kf x.2).1 s).getD []++[x.1]) s) s:=rfl;rw[hst];obtain⟨c,s1,s2⟩:=x;dsimp only at hc hkx hst⊢;subst hc;rcases hq:kf (s1,s2)with⟨kn,kb⟩
  rw[hq]at hkx;dsimp only at hkx⊢;refine go ?_;refine ax hkx (next:=λ_ _=>?_);cases kb with
  |false=>
   dsimp only[cond];refine go ?_;exact uo () rfl trivial trivial
  |true=>
   dsimp only[cond];have hln:=hin.2 kn;refine go ?_;refine aa7 (aX:=jq) (E:=aa) (b:=bm) (m:=s) kn (h:=λai v hkeys hv=>?_);refine DT (b:=bm) (ai:=ai) x8 kn ?_;rw[hv];refine go ?_;intro b30;refine go ?_;refine Rw (xs:=(dB kn s).getD []) aa (vs.length:Int) () (by omega) (next:=λad=>?_);refine go ?_;refine vO (b:=bm) (v:=.slice ad (((dB kn s).getD []).length+1) (((dB kn s).getD []).length+1)) (ai:=ai) x8 kn ?_;refine aa8 (E:=aa) (v:=.slice ad (((dB kn s).getD []).length+1) (((dB kn s).getD []).length+1)) (xs:=(dB kn s).getD []++[(vs.length:Int)]) kn hkeys ?_;refine go ?_;exact uo () rfl trivial trivial
 ·intro r xs hX;subst hX;rw[Iq (uy kf)];dsimp only[List.cons_append,List.nil_append];rw[show(bA g).foldl (uy kf) []=iQ kf (bA g)from rfl];have hin:=Hz kf _ (bA g) rfl;rw[hsl]at hin;have hL:iG g kf=(cK ((iQ kf (bA g)).map (·.1))).map λn=>(dB n (iQ kf (bA g))).getD []:=rfl;generalize hm:iQ kf (bA g)=m at hin hL⊢;refine aa9 (aX:=jq) (E:=aa) (b:=bm) (m:=m) (λai hkeys=>?_);have hkl:ai.length=m.length:=by have:=congrArg List.length hkeys;simpa using this
  refine bC (Bn (aX:=jq) (b:=bm) (ai:=ai)) (h:=?_);refine bC (aba (E:=aa) (ai:=ai) (m:=m) hkeys) (h:=?_);refine bC (eH (b:=b5)) (h:=?_);refine go ?_;refine ax (aeg (bm:=bm) (ai:=ai)) (next:=λbk _=>?_);refine go ?_;refine ax (TY (aeh (b:=bk) (bm:=bm) (ai:=ai)) (λxs h=>by have:=h.length_eq;rw[bU]at this;omega)) (next:=λy hy=>?_);obtain⟨vk,ks⟩:=y;dsimp only[List.cons_append,List.nil_append]at hy⊢;have hks:cK ks=cK (m.map (·.1)):=Sa (by rw[<- hkeys];exact hy);rw[hks];have hkn:(cK (m.map (·.1))).length=m.length:=by rw[zu,bU]
  have hmem:∀n∈cK (m.map (·.1)),n∈m.map (·.1):=λn h=>uz.1 h;generalize hK:cK (m.map (·.1))=ns at hkn hL hmem⊢;refine bC (gy (E:=aa) (v:=vk) (xs:=ns)) (h:=?_);refine aV (E:=aa) (v:=vk) (xs:=ns) (by simp) λa c e=>?_;subst e;refine go ?_;refine gz (aj aa) ?_;refine bi (λy:Nat×Value=>ns.length - y.1) (λy=>[(36,.int .i64 (y.1:Int)),(4,y.2)]) (λy=>[ap (aj aa) y.2 ((ns.take y.1).map λn=>(dB n m).getD [])]) (λ_=>[]) (λy=>y.1<=ns.length) (0,.slice none 0 0) (cB _) (hk:=by repeat (first|exact aH.nil|(apply aH.cons;(focus (repeat (first|exact ay.here|apply ay.there)))))) (body:=?_);rintro⟨k,v4⟩ hk2;dsimp only at hk2⊢;refine go ?_;refine az rfl (λh1=>?_) (λh1=>?_)
  ·refine go ?_;intro _ _ n hn;obtain⟨v,hv⟩:=D8 (a:=n) (l:=ai) (by rw[hkeys];exact hmem n (bI hn));obtain⟨xs,hxs⟩:=D8 (a:=n) (l:=m) (hmem n (bI hn));have hlv:j3 false (.slice none 0 0) n ai=v:=by unfold j3;rw[hv];rfl
   have htk:(ns.take (k+1)).map (λn=>(dB n m).getD [])=(ns.take k).map (λn=>(dB n m).getD [])++[xs]:=by
    rw[bX hn,dY,oh,hxs];rfl
   have hxl:((ns.take k).map (λn=>(dB n m).getD [])).length=k:=by rw[bU,iy];omega
   refine fu (ah aa v xs) (λw hw=>hw (Rz aa ai m) (by simp) n v xs hv hxs) ?_;refine aV (E:=aa) (v:=v) (xs:=xs) (by simp) λa2 c2 e2=>?_;subst e2;refine go ?_;refine Q7 (aX:=jq) (b:=bm) (ai:=ai) x8 n ?_;rw[hlv];refine go ?_;intro b44;refine go ?_;refine eY (xs:=(ns.take k).map λn=>(dB n m).getD []) (aj aa) xs (.slice a2 xs.length c2) (by rw[hxl];omega) (next:=λad=>?_);rw[<- htk];refine go ?_;exact aQ (k+1,.slice ad (((ns.take k).map λn=>(dB n m).getD []).length+1) (((ns.take k).map λn=>(dB n m).getD []).length+1)) (by show ns.length - (k+1)<ns.length - k;omega) (by show k+1<=_;omega)
  have hke:k=ns.length:=by omega
  subst hke;rw[bK,<- hL];refine go ?_;exact Bh v4 (hv:=rfl) (hp:=trivial)
abbrev Ex(fn:Fn)(first captured:List Value)(F1:List aF)(g:bq)(kf:Int×Int->Int×Bool):Prop:=
 ∀p∈bA g,bz Tryz.prog fn (first++[zy p.2]) captured [] F1 (λ_:Unit=>.tuple ⟨[.int .i64 (kf p.2).1,.bool (kf p.2).2]⟩) (λ_=>[]) (λ_=>[]) (λ_=>True)
theorem aek{g:bq}:Ex (.func 234) [] [] [] g (λs=>(s.2,true)):=λp hp=>by
 refine aK _ (aP 234) λB w0=>?_;refine go ?_;intro b1;refine go ?_;exact ae () (hv:=rfl) (hp:=trivial)
theorem ael{g:bq}:Ex (.func 235) [] [] [] g (λs=>(s.1,true)):=λp hp=>by
 refine aK _ (aP 235) λB w0=>?_;refine go ?_;intro b1;refine go ?_;exact ae () (hv:=rfl) (hp:=trivial)
theorem aem{g:bq}(hg:eP g):Ex (.func 266) [] [] [] g (λs=>(s.1+s.2,true)):=λp hp=>by
 have hb:=Hw hg p hp;obtain⟨c,s1,s2⟩:=p;dsimp only at hb⊢;refine aK _ (aP 266) λB w0=>?_;refine go ?_;intro b1;refine go ?_;exact ae () (hv:=rfl) (hp:=trivial)
theorem aen{g:bq}(hg:eP g):Ex (.func 267) [] [] [] g (λs=>(0,decide (s.1=s.2))):=λp hp=>by
 have hb:=Hw hg p hp;refine aK _ (aP 267) λB w0=>?_;refine go ?_;intro b1;refine go ?_;exact ae () (hv:=rfl) (hp:=trivial)
theorem aeo{g:bq}{vh vc:Value}{b:Nat}(hg:eP g):Ex (.func 268) [] [ptr' b] [eB b 0 (iI g vh vc)] g (λs=>(0,decide (s.1+s.2=g.w - 1))):=λp hp=>by
 have hb:=Hw hg p hp;obtain⟨c,s1,s2⟩:=p;dsimp only at hb⊢;have hw:=hg.make.wi;refine aK _ (aP 268) λB w0=>?_;refine go ?_;intro b1;refine go ?_;exact ae () (hv:=rfl) (hp:=trivial)
theorem aep{g:bq}{vh vc:Value}(hg:eP g):
 bz Tryz.prog (.func 236) [.agg ⟨iI g vh vc⟩] [] [] (je g vh vc) (λv:Value=>v) (λv=>[ap (aj aa) v (kH g)]) (λ_=>[]) (λ_=>True):=by
 refine aK _ (aP 236) λB w0=>?_;refine go ?_;intro b1;refine bC (eH (b:=b1)) (h:=?_);refine go ?_;refine az rfl (λh1=>?_) (λh1=>?_)
 ·refine go ?_;refine ax (Ew (kf:=λs=>(s.1+s.2,true)) (vh:=vh) (vc:=vc) hg (aem hg)) (next:=λv _=>?_);refine go ?_;exact ae v (hv:=rfl) (hp:=trivial) (hk:=by unfold kH;rw[if_pos h1];exact aH.all _)
 refine go ?_;refine az rfl (λh2=>?_) (λh2=>?_)
 ·refine go ?_;refine gz (aj aa) ?_;exact ae (.slice none 0 0) (hv:=rfl) (hp:=trivial) (hk:=by unfold kH;rw[if_neg h1,if_neg h2];exact aH.all _)
 have h2:g.w=g.h:=iK.1 h2;refine go ?_;refine ax (Ew (kf:=λs=>(0,decide (s.1=s.2))) (vh:=vh) (vc:=vc) hg (aen hg)) (next:=λva _=>?_);refine go ?_;refine ax (Ew (kf:=λs=>(0,decide (s.1+s.2=g.w - 1))) (vh:=vh) (vc:=vc) hg (aeo (vh:=vh) (vc:=vc) (b:=b1) hg)) (next:=λvb _=>?_);have hA:=Ea hg (λs=>(0,decide (s.1=s.2)));have hB:=Ea hg (λs=>(0,decide (s.1+s.2=g.w - 1)));have hD:kH g=lm (iG g (λs=>(0,decide (s.1=s.2)))) (iG g (λs=>(0,decide (s.1+s.2=g.w - 1)))):=by unfold kH;rw[if_neg h1,if_pos h2]
 generalize iG g (λs=>(0,decide (s.1=s.2)))=la at hA hD⊢;generalize iG g (λs=>(0,decide (s.1+s.2=g.w - 1)))=lb at hB hD⊢;have hF:=HV hA.2 hB.2;refine bC (gy (E:=aj aa) (v:=vb) (xs:=lb)) (h:=?_);refine aV (E:=aj aa) (v:=vb) (xs:=lb) (by simp) λa c e=>?_;subst e;refine go ?_;refine bi (λy:Nat×Value=>lb.length - y.1) (λy=>[(22,.int .i64 (y.1:Int)),(3,y.2)]) (λy=>[ap (aj aa) y.2 (lm la (lb.take y.1))]) (λ_=>[]) (λy=>y.1<=lb.length) (0,va) (cB _) (hk:=by repeat (first|exact aH.nil|(apply aH.cons;(focus (repeat (first|exact ay.here|apply ay.there)))))) (body:=?_);rintro⟨k,v3⟩ hk2;dsimp only at hk2⊢;have MP:=hF k;refine go ?_;refine az rfl (λh3=>?_) (λh3=>?_)
 ·refine go ?_;refine aZ (aj aa) (xs:=lb) (next:=λ_ _ ln (vl:Value) hl=>?_);have hs:=Sg (a:=la) hl;have hll:=hB.2 ln (bI hl);generalize lm la (lb.take k)=acc at MP hs⊢;refine oL (E:=aj aa) (v:=v3) (xs:=acc) λa3 e3=>?_;subst e3;refine aV (E:=aa) (v:=vl) (xs:=ln) (by simp) λa4 c4 e4=>?_;subst e4;cases acc with
  |nil=>
   have hs2:lm la (lb.take (k+1))=[]++[ln]:=hs;refine go ?_;intro b39;refine go ?_;refine eY (xs:=([]:List (List Int))) (aj aa) ln (.slice a4 ln.length c4) (by simp) (next:=λad=>?_);rw[<- hs2];refine go ?_;exact aQ (k+1,.slice ad (([]:List (List Int)).length+1) (([]:List (List Int)).length+1)) (by show lb.length - (k+1)<lb.length - k;omega) (by show k+1<=_;omega)
  |cons a0 acc=>
   have ha0:=MP.2 a0 (dL ..);refine go ?_;refine G9 aa 0 a0 rfl (next:=λ_ _ u=>?_);refine go ?_;refine ax (zH (xs:=a0) (ys:=ln) (by omega)) (next:=λ_ _=>?_);by_cases h4:a0=ln
   rotate_left
   ·rw[aT h4];have hs2:lm la (lb.take (k+1))=(a0::acc)++[ln]:=by rw[hs];unfold vX;rw[if_neg (show¬((a0::acc).head? =some ln)from λe=>h4 (Option.some.inj e))]
    refine go ?_;intro b39;refine go ?_;refine eY (xs:=a0::acc) (aj aa) ln (.slice a4 ln.length c4) (by have:=MP.1;omega) (next:=λad=>?_);rw[<- hs2];refine go ?_;exact aQ (k+1,.slice ad ((a0::acc).length+1) ((a0::acc).length+1)) (by show lb.length - (k+1)<lb.length - k;omega) (by show k+1<=_;omega)
   ·rw[dZ h4];have hs2:lm la (lb.take (k+1))=a0::acc:=by rw[hs];unfold vX;rw[if_pos (by rw[h4];rfl)]
    rw[show ap (aj aa) (Value.slice a3 (a0::acc).length (a0::acc).length) (a0::acc)=ap (aj aa) (Value.slice a3 (a0::acc).length (a0::acc).length) (lm la (lb.take (k+1)))from congrArg _ hs2.symm];refine go ?_;exact aQ (k+1,.slice a3 (a0::acc).length (a0::acc).length) (by show lb.length - (k+1)<lb.length - k;omega) (by show k+1<=_;omega)
 have hke:k=lb.length:=by omega
 subst hke;rw[bK,<- hD];refine go ?_;exact ae v3 (hv:=rfl) (hp:=trivial)
theorem aer{c:Nat}:bz Tryz.prog (.func 228) [.slice none 0 c] [] [] [] (λ_:Unit=>.slice none 0 0) (λ_=>[]) (λ_=>[]) (λ_=>True):=by
 refine aK Mq TE λB w0=>?_;refine go ?_;refine(fJ rfl rfl (G5 (e:=3) (by kernel_rfl) rfl)).h ?_;refine go ?_;exact ae () (hv:=rfl) (hp:=trivial)
theorem aes{v:Value}{xs:List Int}(hl:xs.length<=4096):bz Tryz.prog (.func 228) [v] [] [] [ah aa v xs,He v xs] (λv':Value=>v') (λv'=>[ap aa v' xs]) (λ_=>[]) (λ_=>True):=by
 intro B w s;by_cases hx:xs=[]
 ·have hv:v=.slice none 0 0:=s.facts (He v xs) (dI _ (dL ..)) hx;subst hx hv;refine .qj _ (aer (c:=0) B w ⟨s.agree,s.le,s.fF,s.own,λf hf=>(by cases hf)⟩) ?_;rintro r pm h' ⟨hp,w',y,e1,st,e2,_⟩;obtain⟨S,q1,q2,q3⟩:=st.own;exact⟨hp,w',.slice none 0 0,e1,⟨st.agree,st.le,st.fF,⟨S,⟨[],S,.inl ⟨rfl,rfl,rfl⟩,q1,rfl⟩,q2,q3⟩,st.facts⟩,e2,trivial⟩
 ·obtain⟨aJ,h1,h2⟩:=Ri (s.facts (ah aa v xs) (dL ..));have hlen:aJ.length=xs.length:=by rw[<- h1,bU]
  refine .qj _ (TG (v:=v) (aJ:=aJ) (by omega) B w ⟨s.agree,s.le,s.fF,s.own,λf hf=>by rw[bH.1 hf];exact h2⟩) ?_;rintro r pm h' ⟨hp,w',y,e1,st,e2,_⟩;subst h1;exact⟨hp,w',y,e1,st.RP (by rw[hlen];exact Ci.2 hx) (λp hp f hf=>by cases hf),e2,trivial⟩
abbrev Iy(g:bq)(k:Int)(y:ME):List aF:=[l5 (y.e=0) (ah (aj aa) y.v (dm g k))]
theorem aet{g:bq}{vh vc:Value}{k:Int}(hS:pK g):
 bz Tryz.prog (.func 154) [.agg ⟨iI g vh vc⟩,.int .i64 k] [] [] (je g vh vc) uH (λ_=>[]) (λy=>Iy g k y) (λy=>y.e=0↔eP g/\0<=k/\k<=7):=by
 refine aK _ (aP 154) λB w0=>?_;refine go ?_;intro b2;refine bC (eH (b:=b2)) (h:=?_);refine go ?_;refine ax (TL (g:=g) (vh:=vh) (vc:=vc) hS) (next:=λy hy=>?_);obtain⟨vn,e⟩:=y;dsimp only at hy⊢;refine go ?_;refine az rfl (λh1=>?_) (λh1=>?_)
 ·refine go ?_;refine lD (c:=e=0) (f:=ah (aj aa) (.slice none 0 0) (dm g k)) h1 ?_;exact ae ⟨.slice none 0 0,e⟩ (hv:=rfl) (hp:=⟨(λh=>absurd h h1),λh=>absurd (hy.2 h.1) h1⟩)
 have he:e=0:=iK.1 h1;subst he;have hg:=hy.1 rfl;have hgl:=hg.len;have hnl:=vV g;have hnm:=Ec (g:=g);refine fu (ah (rD aa) vn (bG g)) (λw hw=>hw (l5 ((0:Int)=0) (ah (rD aa) vn (bG g))) (by simp) rfl) ?_;refine fu (ah (aj aa) vn (bG g)) (λw hw=>RO (hw (ah (rD aa) vn (bG g)) (by simp))) ?_;refine aV (E:=aj aa) (v:=vn) (xs:=bG g) (by simp) λan cn en=>?_;subst en;refine go ?_;refine az rfl (λhk=>?_) (λhk0=>?_)
 ·subst hk;have hf:dm g 0=j4 g.cells.length:=by simp[dm]
  refine go ?_;refine gz (aj aa) ?_;refine bi (λy:Nat×Value=>g.cells.length - y.1) (λy=>[(31,.int .i64 (y.1:Int)),(4,y.2)]) (λy=>[ap (aj aa) y.2 (j4 y.1)]) (λ_=>[]) (λy=>y.1<=g.cells.length) (0,.slice none 0 0) (cB _) (hk:=by repeat (first|exact aH.nil|(apply aH.cons;(focus (repeat (first|exact ay.here|apply ay.there)))))) (body:=?_);rintro⟨i,v4⟩ hi;dsimp only at hi⊢;have hil:=Sj i;refine go ?_;refine az rfl (λh2=>?_) (λh2=>?_)
  ·refine go ?_;intro wz x9;refine bC (A:=pt wz (.cells [.int .i64 (i:Int)])) (fs:=[ah aa (.slice (some ⟨wz,0,some 0⟩) 1 1) [(i:Int)]]) (A8 (b:=wz) (f:=0) (c:=1) (xs:=[(i:Int)])) (h:=?_);refine go ?_;refine eY (xs:=j4 i) (aj aa) [(i:Int)] (.slice (some ⟨wz,0,some 0⟩) 1 1) (by omega) (next:=λad=>?_);rw[<- Si];refine go ?_;exact aQ (i+1,.slice ad ((j4 i).length+1) ((j4 i).length+1)) (by show g.cells.length - (i+1)<g.cells.length - i;omega) (by show i+1<=_;omega)
  have hie:i=g.cells.length:=by omega
  subst hie;refine bC (gy (E:=aj aa) (v:=v4) (xs:=j4 g.cells.length)) (h:=?_);refine go ?_;refine kJ (c:=(0:Int)=0) (f:=ah (aj aa) v4 (dm g 0)) (by rw[hf];simp) ?_;exact ae ⟨v4,0⟩ (hv:=rfl) (hp:=⟨λ_=>⟨hg,by omega,by omega⟩,λ_=>rfl⟩)
 refine go ?_;refine az rfl (λhk=>?_) (λhk1=>?_)
 ·subst hk;have hf:dm g 1=iG g (λs=>(s.2,true)):=by simp[dm]
  refine go ?_;refine ax (Ew (kf:=λs=>(s.2,true)) (vh:=vh) (vc:=vc) hg aek) (next:=λv4 _=>?_);refine bC (gy (E:=aj aa) (v:=v4) (xs:=iG g (λs=>(s.2,true)))) (h:=?_);refine go ?_;refine kJ (c:=(0:Int)=0) (f:=ah (aj aa) v4 (dm g 1)) (by rw[hf];simp) ?_;exact ae ⟨v4,0⟩ (hv:=rfl) (hp:=⟨λ_=>⟨hg,by omega,by omega⟩,λ_=>rfl⟩)
 refine go ?_;refine az rfl (λhk=>?_) (λhk2=>?_)
 ·subst hk;have hf:dm g 2=iG g (λs=>(s.1,true)):=by simp[dm]
  refine go ?_;refine ax (Ew (kf:=λs=>(s.1,true)) (vh:=vh) (vc:=vc) hg ael) (next:=λv4 _=>?_);refine bC (gy (E:=aj aa) (v:=v4) (xs:=iG g (λs=>(s.1,true)))) (h:=?_);refine go ?_;refine kJ (c:=(0:Int)=0) (f:=ah (aj aa) v4 (dm g 2)) (by rw[hf];simp) ?_;exact ae ⟨v4,0⟩ (hv:=rfl) (hp:=⟨λ_=>⟨hg,by omega,by omega⟩,λ_=>rfl⟩)
 refine go ?_;refine az rfl (λhk=>?_) (λhk3=>?_)
 ·subst hk;have hf:dm g 3=kH g:=by simp[dm]
  refine go ?_;refine ax (aep (vh:=vh) (vc:=vc) hg) (next:=λv4 _=>?_);refine bC (gy (E:=aj aa) (v:=v4) (xs:=kH g)) (h:=?_);refine go ?_;refine kJ (c:=(0:Int)=0) (f:=ah (aj aa) v4 (dm g 3)) (by rw[hf];simp) ?_;exact ae ⟨v4,0⟩ (hv:=rfl) (hp:=⟨λ_=>⟨hg,by omega,by omega⟩,λ_=>rfl⟩)
 refine go ?_;refine az rfl (λhk=>?_) (λhk4=>?_)
 ·subst hk;have hf:dm g 4=bG g:=by simp[dm]
  refine go ?_;refine kJ (c:=(0:Int)=0) (f:=ah (aj aa) (.slice an (bG g).length cn) (dm g 4)) (by rw[hf];simp) ?_;exact ae ⟨.slice an (bG g).length cn,0⟩ (hv:=rfl) (hp:=⟨λ_=>⟨hg,by omega,by omega⟩,λ_=>rfl⟩)
 refine go ?_;refine az rfl (λhk=>?_) (λhk5=>?_)
 ·subst hk;have hf:dm g 5=j5 (bG g):=by simp[dm]
  generalize bG g=bE at hnl hnm hf⊢;refine go ?_;refine gz (aj aa) ?_;refine bi (λy:Nat×Value=>bE.length - y.1) (λy=>[(59,.int .i64 (y.1:Int)),(4,y.2)]) (λy=>[ap (aj aa) y.2 (j5 (bE.take y.1))]) (λ_=>[]) (λy=>y.1<=bE.length) (0,.slice none 0 0) (cB _) (hk:=by repeat (first|exact aH.nil|(apply aH.cons;(focus (repeat (first|exact ay.here|apply ay.there)))))) (body:=?_);rintro⟨i,v4⟩ hi;dsimp only at hi⊢;have hil:(j5 (bE.take i)).length=i:=by rw[Sl,iy];omega
  refine go ?_;refine az rfl (λh2=>?_) (λh2=>?_)
  ·refine go ?_;refine aZ (rD aa) (xs:=bE) (next:=λ_ _ ln (vl:Value) hl=>?_);have hll:=hnm ln (bI hl);refine go ?_;refine ax (aes (v:=vl) (xs:=ln) (by omega)) (next:=λEy _=>?_);refine go ?_;intro b67;refine go ?_;refine eY (xs:=ln) aa (i:Int) () (by omega) (next:=λad=>?_);refine go ?_;have hl1:ln.length+1=(ln++[(i:Int)]).length:=by simp
   rw[hl1];refine ax (MB (a:=ad) (zs:=ln++[(i:Int)]) rfl (by simp;omega)) (next:=λ_ _=>?_);have hz0:cK (ln++[(i:Int)])≠[]:=λe=>by have:=zu (ln++[(i:Int)]);rw[e]at this;simp at this
   have hfs:=Sk hl;generalize hzz:cK (ln++[(i:Int)])=zs at hfs⊢;refine bC (gy (E:=aa) (v:=.slice ad (ln++[(i:Int)]).length (ln++[(i:Int)]).length) (xs:=zs)) (h:=?_);refine go ?_;intro b73;refine go ?_;refine eY (xs:=j5 (bE.take i)) (aj aa) zs (.slice ad (ln++[(i:Int)]).length (ln++[(i:Int)]).length) (by omega) (next:=λqz=>?_);rw[<- hfs];refine go ?_;exact aQ (i+1,.slice qz ((j5 (bE.take i)).length+1) ((j5 (bE.take i)).length+1)) (by show bE.length - (i+1)<bE.length - i;omega) (by show i+1<=_;omega)
  have hie:i=bE.length:=by omega
  subst hie;rw[bK];refine bC (gy (E:=aj aa) (v:=v4) (xs:=j5 bE)) (h:=?_);refine go ?_;refine kJ (c:=(0:Int)=0) (f:=ah (aj aa) v4 (dm g 5)) (by rw[hf];simp) ?_;exact ae ⟨v4,0⟩ (hv:=rfl) (hp:=⟨λ_=>⟨hg,by omega,by omega⟩,λ_=>rfl⟩)
 refine go ?_;refine az rfl (λhk=>?_) (λhk6=>?_)
 ·subst hk;have hf:dm g 6=gU (bG g):=by simp[dm]
  generalize bG g=bE at hnl hnm hf⊢;have h6:=Eb hnm;refine go ?_;refine gz (aj aa) ?_;refine bi (λy:Nat×Value=>bE.length - y.1) (λy=>[(80,.int .i64 (y.1:Int)),(4,y.2)]) (λy=>[ap (aj aa) y.2 (gU (bE.take y.1))]) (λ_=>[]) (λy=>y.1<=bE.length) (0,.slice none 0 0) (cB _) (hk:=by repeat (first|exact aH.nil|(apply aH.cons;(focus (repeat (first|exact ay.here|apply ay.there)))))) (body:=?_);rintro⟨i,v4⟩ hi;dsimp only at hi⊢;have hil:=h6 i hi;refine go ?_;refine az rfl (λh2=>?_) (λh2=>?_)
  ·refine go ?_;refine aZ (aj aa) (xs:=bE) (next:=λ_ _ ln (vl:Value) hl=>?_);have hll:=hnm ln (bI hl);have hfs:=LU hl;refine aV (E:=aa) (v:=vl) (xs:=ln) (by simp) λa4 c4 e4=>?_;subst e4;refine go ?_;refine bi (λy:Nat×Value=>ln.length - y.1) (λy=>[(87,.int .i64 (y.1:Int)),(4,y.2)]) (λy=>[ap (aj aa) y.2 (gU (bE.take i)++jm i (ln.take y.1))]) (λ_=>[]) (λy=>y.1<=ln.length) (0,v4) (cB _) (hk:=by rw[show gU (bE.take i)++jm i (ln.take 0)=gU (bE.take i)from gK _];repeat (first|exact aH.nil|(apply aH.cons;(focus (repeat (first|exact ay.here|apply ay.there)))))) (body:=?_);rintro⟨j,v5⟩ hj;dsimp only at hj⊢;have hpl:=LQ i (ln.take j);rw[iy]at hpl;have hal:(gU (bE.take i)++jm i (ln.take j)).length<=2000:=by rw[gD];omega
   refine go ?_;refine az rfl (λh3=>?_) (λh3=>?_)
   ·refine go ?_;intro _ _ x hx;have hps:=Sm (i:=i) hx;refine go ?_;refine az rfl (λh4=>?_) (λh4=>?_)
    ·have zM:gU (bE.take i)++jm i (ln.take (j+1))=(gU (bE.take i)++jm i (ln.take j))++[[(i:Int),x]]:=by rw[hps,if_pos (by omega),fq]
     refine go ?_;intro wB MQ;refine bC (A:=pt wB (.cells [.int .i64 (i:Int),.int .i64 x])) (fs:=[ah aa (.slice (some ⟨wB,0,some 0⟩) 2 2) [(i:Int),x]]) (A8 (b:=wB) (f:=0) (c:=2) (xs:=[(i:Int),x])) (h:=?_);refine go ?_;refine eY (xs:=gU (bE.take i)++jm i (ln.take j)) (aj aa) [(i:Int),x] (.slice (some ⟨wB,0,some 0⟩) 2 2) (by omega) (next:=λqz=>?_);rw[<- zM];refine go ?_;exact aQ (j+1,.slice qz ((gU (bE.take i)++jm i (ln.take j)).length+1) ((gU (bE.take i)++jm i (ln.take j)).length+1)) (by show ln.length - (j+1)<ln.length - j;omega) (by show j+1<=_;omega)
    ·have zM:gU (bE.take i)++jm i (ln.take (j+1))=gU (bE.take i)++jm i (ln.take j):=by rw[hps,if_neg (by omega),gK]
     rw[<- zM];refine go ?_;exact aQ (j+1,v5) (by show ln.length - (j+1)<ln.length - j;omega) (by show j+1<=_;omega)
   have jr:j=ln.length:=by omega
   subst jr;rw[bK,<- hfs];refine go ?_;exact aQ (i+1,v5) (by show bE.length - (i+1)<bE.length - i;omega) (by show i+1<=_;omega)
  have hie:i=bE.length:=by omega
  subst hie;rw[bK];refine bC (gy (E:=aj aa) (v:=v4) (xs:=gU bE)) (h:=?_);refine go ?_;refine kJ (c:=(0:Int)=0) (f:=ah (aj aa) v4 (dm g 6)) (by rw[hf];simp) ?_;exact ae ⟨v4,0⟩ (hv:=rfl) (hp:=⟨λ_=>⟨hg,by omega,by omega⟩,λ_=>rfl⟩)
 refine go ?_;refine az rfl (λhk=>?_) (λhk7=>?_)
 ·subst hk;have hf:dm g 7=[upTo' g.cells.length]:=by simp[dm]
  refine go ?_;refine gz aa ?_;refine bi (λy:Nat×Value=>g.cells.length - y.1) (λy=>[(107,.int .i64 (y.1:Int)),(15,y.2)]) (λy=>[ap aa y.2 (upTo' y.1)]) (λ_=>[]) (λy=>y.1<=g.cells.length) (0,.slice none 0 0) (cB _) (hk:=by repeat (first|exact aH.nil|(apply aH.cons;(focus (repeat (first|exact ay.here|apply ay.there)))))) (body:=?_);rintro⟨i,v15⟩ hi;dsimp only at hi⊢;have hil:=rG i;refine go ?_;refine az rfl (λh2=>?_) (λh2=>?_)
  ·refine go ?_;intro aij;refine go ?_;refine eY (xs:=upTo' i) aa (i:Int) () (by omega) (next:=λad=>?_);rw[<- uA];refine go ?_;exact aQ (i+1,.slice ad ((upTo' i).length+1) ((upTo' i).length+1)) (by show g.cells.length - (i+1)<g.cells.length - i;omega) (by show i+1<=_;omega)
  have hie:i=g.cells.length:=by omega
  subst hie;refine bC (gy (E:=aa) (v:=v15) (xs:=upTo' g.cells.length)) (h:=?_);refine aV (E:=aa) (v:=v15) (xs:=upTo' g.cells.length) (by simp) λa4 c4 e4=>?_;subst e4;refine go ?_;intro Iz;refine bC (eH (b:=Iz)) (h:=?_);refine fu (ah (aj aa) (zK Iz 1) [upTo' g.cells.length]) (λw hw=>QF (v:=.slice a4 (upTo' g.cells.length).length c4) (hw _ (by simp)) (hw _ (by simp))) ?_;refine go ?_;refine kJ (c:=(0:Int)=0) (f:=ah (aj aa) (zK Iz 1) (dm g 7)) (by rw[hf];simp) ?_;exact ae ⟨zK Iz 1,0⟩ (hv:=rfl) (hp:=⟨λ_=>⟨hg,by omega,by omega⟩,λ_=>rfl⟩)
 refine go ?_;refine lD (c:=(1:Int)=0) (f:=ah (aj aa) (.slice none 0 0) (dm g k)) (by omega) ?_;exact ae ⟨.slice none 0 0,1⟩ (hv:=rfl) (hp:=⟨(λh=>by cases h),(λh=>by exfalso;obtain⟨_,q1,q2⟩:=h;omega)⟩)
abbrev IA(g:bq)(rs:List (List Int))(y:ME):List aF:=[l5 (y.e=0) (ah (aj aa) y.v (dS g rs))]
theorem TZ{g:bq}{vh vc vr:Value}{rs:List (List Int)}(hS:pK g)(hrl:rs.length<9223372036854775808)(hrs:∀ps∈rs,ps.length<9223372036854775808):
 bz Tryz.prog (.func 155) [.agg ⟨iI g vh vc⟩,vr] [] [] (ah (aj aa) vr rs::je g vh vc) uH (λ_=>[]) (λy=>IA g rs y) (λy=>y.e=0↔eP g/\vZ g rs):=by
 refine aK _ (aP 155) λB w0=>?_;refine aV (E:=aj aa) (v:=vr) (xs:=rs) (by simp) λar cr er=>?_;subst er;refine go ?_;intro b2;refine bC (eH (b:=b2)) (h:=?_);refine go ?_;refine ax (TJ (g:=g) hS) (next:=λe he=>?_);refine go ?_;first|with_reducible refine aL (λh1=>?_) (λh1=>?_)|with_reducible refine aO (λh1=>?_) (λh1=>?_)|with_reducible refine aM (λh1=>?_) (λh1=>?_)
 rotate_left
 ·refine go ?_;refine lD (c:=(130:Int)=0) (f:=ah (aj aa) (.slice none 0 0) (dS g rs)) (by omega) ?_;exact ae ⟨.slice none 0 0,130⟩ (hv:=rfl) (hp:=⟨(λh=>by cases h),λh=>absurd (he.2 h.1) h1⟩)
 have hg:=he.1 (by omega);have hgl:=hg.len;have lV:g.cells.Pairwise (·<·):=by rw[hg.cells];exact LK _ _
 refine go ?_;refine az rfl (λh2=>?_) (λh2=>?_)
 ·refine go ?_;refine lD (c:=(130:Int)=0) (f:=ah (aj aa) (.slice none 0 0) (dS g rs)) (by omega) ?_;exact ae ⟨.slice none 0 0,130⟩ (hv:=rfl) (hp:=⟨(λh=>by cases h),λh=>by exfalso;have:=h.2.len;omega⟩)
 refine go ?_;refine gz (aj aa) ?_;refine bi (λy:Nat×Value=>rs.length - y.1) (λy=>[(24,.int .i64 (y.1:Int)),(4,y.2)]) (λy=>[ap (aj aa) y.2 (dS g (rs.take y.1))]) (λ_=>[]) (λy=>y.1<=rs.length/\∀ps∈rs.take y.1,xS g ps) (0,.slice none 0 0) ⟨cB _,λps h=>by cases h⟩ (hk:=by repeat (first|exact aH.nil|(apply aH.cons;(focus (repeat (first|exact ay.here|apply ay.there)))))) (body:=?_);rintro⟨k,v4⟩ ⟨hk,hall⟩;dsimp only at hk hall⊢;have hkl:(dS g (rs.take k)).length=k:=by unfold dS;rw[bU,iy];omega
 refine go ?_;refine az rfl (λh3=>?_) (λh3=>?_)
 ·refine go ?_;refine aZ (aj aa) (xs:=rs) (next:=λ_ _ ps (vp:Value) hps=>?_);have hpm:=bI hps;have hpl:=hrs ps hpm;have htk:=bX hps;refine aV (E:=aa) (v:=vp) (xs:=ps) (by simp) λa4 c4 e4=>?_;subst e4;refine go ?_;refine xO jq (λbm=>?_);refine go ?_;refine gz aa ?_;refine bi (λy:Nat×Value=>ps.length - y.1) (λy=>[(31,.int .i64 (y.1:Int)),(8,y.2)]) (λy=>[ap aa y.2 (eF g (ps.take y.1)),gI jq bm (xR (eF g (ps.take y.1)))]) (λ_=>[]) (λy=>y.1<=ps.length/\(∀p∈ps.take y.1,p∈g.cells)/\(eF g (ps.take y.1)).Nodup) (0,.slice none 0 0) ⟨cB _,(λp h=>by cases h),tT⟩ (hk:=by repeat (first|exact aH.nil|(apply aH.cons;(focus (repeat (first|exact ay.here|apply ay.there)))))) (body:=?_);rintro⟨j,v8⟩ ⟨hj,hmem,hnd⟩;dsimp only at hj hmem hnd⊢;have hjl:(eF g (ps.take j)).length=j:=by unfold eF;rw[bU,iy];omega
  have hj2:j<=256:=by have:=HY hmem hnd;rw[iy]at this;omega
  refine go ?_;refine az rfl (λh4=>?_) (λh4=>?_)
  ·refine go ?_;intro _ _ x hx;have htx:=bX hx;refine go ?_;refine ax (TF (xs:=g.cells) (z:=x) (by omega) (lV.imp λh=>Int.le_of_lt h)) (next:=λy hy=>?_);have hym:=hy.mem lV;obtain⟨c,ok⟩:=y;dsimp only at hym⊢;cases ok with
   |false=>
    refine go ?_;refine lD (c:=(130:Int)=0) (f:=ah (aj aa) (.slice none 0 0) (dS g rs)) (by omega) ?_;exact ae ⟨.slice none 0 0,130⟩ (hv:=rfl) (hp:=⟨(λh=>by cases h),λh=>by
     have:=hym.2 ((h.2.all ps hpm).mem x (bI hx));cases this⟩)
   |true=>
    have hxm:=hym.1 rfl;have BI:g.cells[c]? =some x:=hy.2.2.2.1 rfl;have hpos:=LV lV BI;have hr1:eF g (ps.take (j+1))=eF g (ps.take j)++[(c:Int)]:=by unfold eF;rw[htx,dY,oh,hpos]
    refine go ?_;refine DT (aX:=jq) (b:=bm) (ai:=xR (eF g (ps.take j))) x8 (c:Int) ?_;rw[abP];refine go ?_;refine az rfl (λh5=>?_) (λh5=>?_)
    ·refine go ?_;refine lD (c:=(130:Int)=0) (f:=ah (aj aa) (.slice none 0 0) (dS g rs)) (by omega) ?_;exact ae ⟨.slice none 0 0,130⟩ (hv:=rfl) (hp:=⟨(λh=>by cases h),λh=>by
      exfalso
      have h6:(eF g ps).Nodup:=(h.2.all ps hpm).nd;have h7:(eF g (ps.take (j+1))).Nodup:=by
       refine h6.sublist ?_;unfold eF;exact(NS _ _).map _
      rw[hr1,iJ]at h7;exact h7.2.2 _ h5 _ (bH.2 rfl) rfl⟩)
    ·refine go ?_;refine vO (aX:=jq) (b:=bm) (v:=.bool true) (ai:=xR (eF g (ps.take j))) x8 (c:Int) ?_;rw[<- Sn,<- hr1];refine go ?_;intro b53;refine go ?_;refine eY (xs:=eF g (ps.take j)) aa (c:Int) () (by omega) (next:=λad=>?_);rw[<- hr1];refine go ?_;refine aQ (j+1,.slice ad ((eF g (ps.take j)).length+1) ((eF g (ps.take j)).length+1)) (by show ps.length - (j+1)<ps.length - j;omega) ⟨by show j+1<=_;omega,?_,?_⟩
     ·show∀p∈ps.take (j+1),p∈g.cells;rw[htx];intro p hp;rcases dX.1 hp with hp|hp
      ·exact hmem p hp
      ·rw[bH.1 hp];exact hxm
     ·show(eF g (ps.take (j+1))).Nodup;rw[hr1,iJ];exact⟨hnd,by simp,λa ha b hb e=>h5 (by rw[bH.1 hb]at e;rw[<- e];exact ha)⟩
  have jr:j=ps.length:=by omega
  subst jr;rw[bK]at hmem hnd⊢;have hrl2:(eF g ps).length=ps.length:=by unfold eF;rw[bU]
  refine oL (E:=aa) (v:=v8) (xs:=eF g ps) λa8 e8=>?_;subst e8;refine go ?_;refine az rfl (λh5=>?_) (λh5=>?_)
  ·refine go ?_;refine lD (c:=(130:Int)=0) (f:=ah (aj aa) (.slice none 0 0) (dS g rs)) (by omega) ?_;exact ae ⟨.slice none 0 0,130⟩ (hv:=rfl) (hp:=⟨(λh=>by cases h),λh=>by
    exfalso
    exact(h.2.all ps hpm).ne (jI.1 (by omega))⟩)
  have hR:xS g ps:=⟨λe=>h5 (by rw[hrl2,e];rfl),hmem,hnd⟩
  have hrr:dS g (rs.take (k+1))=dS g (rs.take k)++[eF g ps]:=by unfold dS;rw[htk,dY,oh]
  refine bC (gy (E:=aa) (v:=.slice a8 (eF g ps).length (eF g ps).length) (xs:=eF g ps)) (h:=?_);refine go ?_;intro b61;refine go ?_;refine eY (xs:=dS g (rs.take k)) (aj aa) (eF g ps) (.slice a8 (eF g ps).length (eF g ps).length) (by omega) (next:=λad=>?_);rw[<- hrr];refine go ?_;refine aQ (k+1,.slice ad ((dS g (rs.take k)).length+1) ((dS g (rs.take k)).length+1)) (by show rs.length - (k+1)<rs.length - k;omega) ⟨by show k+1<=_;omega,?_⟩;show∀qs∈rs.take (k+1),xS g qs;rw[htk];intro qs hq;rcases dX.1 hq with hq|hq
  ·exact hall qs hq
  ·rw[bH.1 hq];exact hR
 have hke:k=rs.length:=by omega
 subst hke;rw[bK]at hall⊢;refine bC (gy (E:=aj aa) (v:=v4) (xs:=dS g rs)) (h:=?_);refine go ?_;refine kJ (c:=(0:Int)=0) (f:=ah (aj aa) v4 (dS g rs)) (by simp) ?_;exact ae ⟨v4,0⟩ (hv:=rfl) (hp:=⟨λ_=>⟨hg,by omega,hall⟩,λ_=>rfl⟩)
