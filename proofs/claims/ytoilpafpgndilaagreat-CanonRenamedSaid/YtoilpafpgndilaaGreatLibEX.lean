/-
  Part LibEX.
-/
import Derived.Test.YtoilpafpgndilaaGreatLibDX
set_option linter.all false
set_option maxRecDepth 10000
set_option maxHeartbeats 4000000
namespace Go.Proofs.YtoilpafpgndilaaGreat
open Go.Ideal Kd
noncomputable def VS:=uE Tryz.prog 94
theorem afR:mO Tryz.prog 94=some VS:=by kernel_rfl
abbrev jF(n:Int):Value:=.int .i64 n
theorem zw:rR Tryz.prog 3 jF:=acS (by kernel_rfl)
theorem afS{bm:Nat}{aj:List (Int×Value)}:bA Tryz.prog (.func 348) [.map (some bm)] [] [] [xM jF bm aj] (λb:Nat=>.func (.func 372) #[] #[ptr' b]) (λ_=>[]) (λb=>[gY b 0 [.map (some bm)],xM jF bm aj]) (λ_=>True):=by
 refine aM _ (aP 348) λB w0=>?_;refine go ?_;intro b1;refine go ?_;refine bn (eX (b:=b1)) (h:=?_);exact ah b1 (hv:=rfl) (hp:=trivial)
theorem afT{b bm:Nat}{aj:List (Int×Value)}:y9 Tryz.prog (λx:Int=>[jF x]) (.func 372) [] [ptr' b] [gY b 0 [.map (some bm)],xM jF bm aj] (λxs=>xs.Perm (aj.map (·.1))):=by
 intro S inv ok step s0 Fb y1 y2 F' h0 hok hy;rw[fV,fV,dY];refine aM _ (aP 372) λB w0=>?_;refine go ?_;refine acV (b:=bm) (aj:=aj) (aX:=jF) (next:=λr=>?_);refine go ?_;refine aU (λy:List (Int×Value)×S=>aj.length - y.1.length) (λy=>[]) (λy=>CL jF r bm aj y.1::inv y.2) (λ_=>[]) (λy=>ok (y.1.map (·.1)) y.2/\(∃rest,(y.1++rest).Perm aj)/\∀rest,mD step s0 (y.1.map (·.1)++rest)=mD step y.2 rest) ([],s0) ⟨h0,⟨aj,.refl _⟩,λ_=>rfl⟩ (body:=?_);rintro⟨kU,s⟩ ⟨hos,_,hrun⟩;dsimp only at hos hrun⊢;refine go ?_;refine acX (b:=bm) (aj:=aj) (kU:=kU) (aX:=jF) (more:=λp rem hp=>?_) (done:=λhp=>?_) adT
 ·have hX:(kU.map (·.1)++p.1::rem.map (·.1)).Perm (aj.map (·.1)):=by
   have:=hp.map (·.1);rw[fP,gL]at this;exact this
  have hlen:=hp.length_eq;rw[iH,oP]at hlen;have Bi:=hy _ s _ _ hos hX;refine go ?_;refine ac4 (aX:=jF) (aj:=aj) (kU:=kU) (p:=p) ?_;refine go ?_;refine ay Bi (next:=λ_ _=>?_);cases hst:(step s p.1).2 with
  |true=>
   have hs1:step s p.1=((step s p.1).1,true):=Prod.ext rfl hst;refine go ?_;refine aN (kU++[p],(step s p.1).1) (by show aj.length - (kU++[p]).length<_;rw[iH,zS];omega) ⟨?_,⟨rem,by show((kU++[p])++rem).Perm aj;rw[List.append_assoc];exact hp⟩,λrest=>?_⟩
   ·show ok ((kU++[p]).map (·.1)) _;rw[fP];exact hok _ s _ _ hos hX hst
   ·show mD step s0 ((kU++[p]).map (·.1)++rest)=_;rw[fP,List.append_assoc,hrun];show mD step s (p.1::rest)=_;rw[mD,hs1]
  |false=>
   have hs1:step s p.1=((step s p.1).1,false):=Prod.ext rfl hst;have hr:=hrun (p.1::rem.map (·.1));rw[mD,hs1]at hr;dsimp only at hr;refine go ?_;exact ah (kU.map (·.1)++p.1::rem.map (·.1)) (hv:=rfl) (hp:=hX) (hk:=by rw[hr];exact aI.self _ _)
 ·refine go ?_;have hr:=hrun [];rw[gU]at hr;exact ah (kU.map (·.1)) (hv:=rfl) (hp:=hp.map (·.1)) (hk:=by rw[hr];apply aI.there;exact aI.all _)
structure Ov where
 v:Value
 xs:List Int
theorem afU{fn:Fn}{first captured:List Value}{F1:List aO}{X:List Int->Prop}(hit:y9 Tryz.prog (λx:Int=>[jF x]) fn first captured F1 X)(hl:∀xs,X xs->xs.length<=1000000):
 bA Tryz.prog (.func 162) [.slice none 0 0,.func fn ⟨first⟩ ⟨captured⟩] [] [] F1 (λy:Ov=>y.v) (λy=>[ap ae y.v y.xs]) (λ_=>[]) (λy=>X y.xs):=by
 refine MM Vj aeY λB w0=>?_;refine go ?_;intro b2;refine gH ae ?_;refine SC (λv:Value=>[pt b2 (.cells [v]),ap ae v ([]:List Int)]) (.slice none 0 0) (h:=?_);refine IV (Z:=Nat) (λ(ys:List Int) (x:Int)=>(ys++[x],Out.normal)) (λys=>[ae4 ae b2 ys]) (λvs ys=>ys=vs) [] _ (λ_ _=>[]) rfl (λvs s x rest hs hX _=>by rw[hs]) hit (by intro s x lo o B w0;refine go ?_;have z0:Nat:=0;exact IU z0 rfl) ?_ ?_ (λ_ _=>trivial)
 ·intro vs s x rest z lo L B w0 hs hx;subst hs;dsimp only[List.cons_append,List.nil_append];have hlen:s.length<=1000000:=by have:=hl _ hx;rw[iH,oP]at this;omega
  refine SB (h:=λv=>?_);refine go ?_;intro b10;refine fB (xs:=s) ae x () (by omega) (next:=λad=>?_);refine go ?_;refine SC (λv:Value=>[pt b2 (.cells [v]),ap ae v (s++[x])]) _ (h:=?_);exact EY () rfl trivial trivial
 ·intro r xs hX;have hrun:∀(ys zs:List Int),pq (λ(ys:List Int) (x:Int)=>(ys++[x],Out.normal)) ys zs=(ys++zs,.normal):=by
   intro ys zs;induction zs generalizing ys with
   |nil=>simp[pq]
   |cons z zs ih=>rw[pq];simp only[ih];simp
  rw[hrun,dY];dsimp only[List.cons_append,List.nil_append];refine SB (h:=λv=>?_);refine go ?_;exact IJ ⟨v,xs⟩ (hv:=rfl) (hp:=hX)
theorem afV{fn:Fn}{first captured:List Value}{F1:List aO}{X:List Int->Prop}(hit:y9 Tryz.prog (λx:Int=>[jF x]) fn first captured F1 X)(hl:∀xs,X xs->xs.length<=1000000):
 bA Tryz.prog (.func 125) [.func fn ⟨first⟩ ⟨captured⟩] [] [] F1 (λy:Ov=>y.v) (λy=>[ap ae y.v y.xs]) (λ_=>[]) (λy=>X y.xs):=by
 refine aM Vk aeZ λB w0=>?_;refine go ?_;refine ay (afU hit hl) (next:=λy hy=>?_);dsimp only[List.cons_append,List.nil_append];refine go ?_;exact ah y (hv:=rfl) (hp:=hy)
theorem VT{fn:Fn}{first captured:List Value}{F1:List aO}{X:List Int->Prop}(hit:y9 Tryz.prog (λx:Int=>[jF x]) fn first captured F1 X)(hl:∀xs,X xs->xs.length<=1000000):
 bA Tryz.prog (.func 94) [.func fn ⟨first⟩ ⟨captured⟩] [] [] F1 (λy:Ov=>y.v) (λy=>[ap ae y.v (bW y.xs)]) (λ_=>[]) (λy=>X y.xs):=by
 refine aM VS afR λB w0=>?_;refine go ?_;refine ay (afV hit hl) (next:=λy hy=>?_);obtain⟨v,xs⟩:=y;dsimp only[List.cons_append,List.nil_append]at hy⊢;have hlen:=hl _ hy;refine pO (E:=ae) (v:=v) (xs:=xs) λa hv=>?_;subst hv;refine go ?_;refine ay (Oq (a:=a) (zs:=xs) rfl (by omega)) (next:=λ_ _=>?_);refine go ?_;exact ah ⟨.slice a xs.length xs.length,xs⟩ (hv:=rfl) (hp:=hy)
theorem FL{g:bz}{vh vc:Value}{fn:Fn}{first captured:List Value}{F1:List aO}{kf:Int×Int->Int×Bool}(hg:fE g)
 (hk:∀p∈bB g,bA Tryz.prog fn (first++[AX p.2]) captured [] F1 (λ_:Unit=>.tuple ⟨[.int .i64 (kf p.2).1,.bool (kf p.2).2]⟩) (λ_=>[]) (λ_=>[]) (λ_=>True)):
 bA Tryz.prog (.func 309) [.agg ⟨iO g vh vc⟩,.func fn ⟨first⟩ ⟨captured⟩] [] [] (ai ae vh g.holes::ai ae vc g.cells::F1) (λv:Value=>v) (λv=>[ap (ak ae) v (jd g kf)]) (λ_=>[]) (λ_=>True):=by
 have hgl:=hg.len;have hsl:=qK g;refine MM _ (aP 309) λB w0=>?_;refine go ?_;intro b2 b3;refine go ?_;refine y8 jF (λbm=>?_);refine go ?_;intro b5;refine adq ae (b:=bm) (aX:=jF) ?_;refine go ?_;refine ay (Ot (g:=g) (vh:=vh) (vc:=vc)) (next:=λbs _=>?_);refine go ?_;refine IV (Z:=Nat) (λ(m:List (Int×List Int)) (x:Int×(Int×Int))=>(xS kf m x,.normal)) (λm=>[Fg jF ae bm m,pt b5 (.cells [.map (some bm)]),pt b3 (.cells [.func fn ⟨first⟩ ⟨captured⟩])]) (λvs m=>m=jN kf vs) [] _ (λx b8=>[pt b8 (.cells [.int .i64 x.2.1,.int .i64 x.2.2])]) rfl (λvs s x rest hs _ _=>by rw[hs,Ji]) (Oo (b1:=bs) (vh:=vh) (vc:=vc) hg) (by intro s x lo o B w0;refine go ?_;intro b8;refine go ?_;exact IU b8 rfl) ?_ ?_ (λ_ _=>trivial)
 ·intro vs s x rest b8 lo L B w0 hs hX;dsimp only[List.cons_append,List.nil_append];obtain⟨hc,hvl,hxm⟩:=Jh hX;have hkx:=hk x hxm;have hin:=Ni kf vs.length vs rfl;rw[<- hs]at hin;have hst:xS kf s x=cond (kf x.2).2 (upd (kf x.2).1 ((dR (kf x.2).1 s).getD []++[x.1]) s) s:=rfl;rw[hst];obtain⟨c,s1,s2⟩:=x;dsimp only at hc hkx hst⊢;subst hc;rcases hq:kf (s1,s2)with⟨kn,kb⟩
  rw[hq]at hkx;dsimp only at hkx⊢;refine go ?_;refine ay hkx (next:=λ_ _=>?_);cases kb with
  |false=>
   dsimp only[cond];refine go ?_;exact EY () rfl trivial trivial
  |true=>
   dsimp only[cond];have hln:=hin.2 kn;refine go ?_;refine adr (aX:=jF) (E:=ae) (b:=bm) (m:=s) kn (h:=λaj v hkeys hv=>?_);refine E9 (b:=bm) (aj:=aj) zw kn ?_;rw[hv];refine go ?_;intro b30;refine go ?_;refine TC (xs:=(dR kn s).getD []) ae (vs.length:Int) () (by omega) (next:=λad=>?_);refine go ?_;refine xN (b:=bm) (v:=.slice ad (((dR kn s).getD []).length+1) (((dR kn s).getD []).length+1)) (aj:=aj) zw kn ?_;refine ads (E:=ae) (v:=.slice ad (((dR kn s).getD []).length+1) (((dR kn s).getD []).length+1)) (xs:=(dR kn s).getD []++[(vs.length:Int)]) kn hkeys ?_;refine go ?_;exact EY () rfl trivial trivial
 ·intro r xs hX;subst hX;rw[JK (xS kf)];dsimp only[List.cons_append,List.nil_append];rw[show(bB g).foldl (xS kf) []=jN kf (bB g)from rfl];have hin:=Ni kf _ (bB g) rfl;rw[hsl]at hin;have hL:jd g kf=(bW ((jN kf (bB g)).map (·.1))).map λn=>(dR n (jN kf (bB g))).getD []:=rfl;generalize hm:jN kf (bB g)=m at hin hL⊢;refine adt (aX:=jF) (E:=ae) (b:=bm) (m:=m) (λaj hkeys=>?_);have hkl:aj.length=m.length:=by have:=congrArg List.length hkeys;simpa using this
  refine bn (CK (aX:=jF) (b:=bm) (aj:=aj)) (h:=?_);refine bn (adu (E:=ae) (aj:=aj) (m:=m) hkeys) (h:=?_);refine bn (eX (b:=b5)) (h:=?_);refine go ?_;refine ay (afS (bm:=bm) (aj:=aj)) (next:=λbk _=>?_);refine go ?_;refine ay (VT (afT (b:=bk) (bm:=bm) (aj:=aj)) (λxs h=>by have:=h.length_eq;rw[bY]at this;omega)) (next:=λy hy=>?_);obtain⟨vk,ks⟩:=y;dsimp only[List.cons_append,List.nil_append]at hy⊢;have hks:bW ks=bW (m.map (·.1)):=Uj (by rw[<- hkeys];exact hy);rw[hks];have hkn:(bW (m.map (·.1))).length=m.length:=by rw[AV,bY]
  have hmem:∀n∈bW (m.map (·.1)),n∈m.map (·.1):=λn h=>uU.1 h;generalize hK:bW (m.map (·.1))=ns at hkn hL hmem⊢;refine bn (gz (E:=ae) (v:=vk) (xs:=ns)) (h:=?_);refine aS (E:=ae) (v:=vk) (xs:=ns) (by simp) λa c e=>?_;subst e;refine go ?_;refine gH (ak ae) ?_;refine aU (λy:Nat×Value=>ns.length - y.1) (λy=>[(36,.int .i64 (y.1:Int)),(4,y.2)]) (λy=>[ap (ak ae) y.2 ((ns.take y.1).map λn=>(dR n m).getD [])]) (λ_=>[]) (λy=>y.1<=ns.length) (0,.slice none 0 0) (bR _) (hk:=by repeat (first|exact aI.nil|(apply aI.cons;(focus (repeat (first|exact az.here|apply az.there)))))) (body:=?_);rintro⟨k,v4⟩ hk2;dsimp only at hk2⊢;refine go ?_;refine aA rfl (λh1=>?_) (λh1=>?_)
  ·refine go ?_;intro _ _ n hn;obtain⟨v,hv⟩:=Fp (a:=n) (l:=aj) (by rw[hkeys];exact hmem n (aZ hn));obtain⟨xs,hxs⟩:=Fp (a:=n) (l:=m) (hmem n (aZ hn));have hlv:kT false (.slice none 0 0) n aj=v:=by unfold kT;rw[hv];rfl
   have htk:(ns.take (k+1)).map (λn=>(dR n m).getD [])=(ns.take k).map (λn=>(dR n m).getD [])++[xs]:=by
    rw[bZ hn,fP,sQ,hxs];rfl
   have hxl:((ns.take k).map (λn=>(dR n m).getD [])).length=k:=by rw[bY,gT];omega
   refine eF (ai ae v xs) (λw hw=>hw (TF ae aj m) (by simp) n v xs hv hxs) ?_;refine aS (E:=ae) (v:=v) (xs:=xs) (by simp) λa2 c2 e2=>?_;subst e2;refine go ?_;refine Tg (aX:=jF) (b:=bm) (aj:=aj) zw n ?_;rw[hlv];refine go ?_;intro VU;refine go ?_;refine fB (xs:=(ns.take k).map λn=>(dR n m).getD []) (ak ae) xs (.slice a2 xs.length c2) (by rw[hxl];omega) (next:=λad=>?_);rw[<- htk];refine go ?_;exact aN (k+1,.slice ad (((ns.take k).map λn=>(dR n m).getD []).length+1) (((ns.take k).map λn=>(dR n m).getD []).length+1)) (by show ns.length - (k+1)<ns.length - k;omega) (by show k+1<=_;omega)
  have hke:k=ns.length:=by omega
  subst hke;rw[bU,<- hL];refine go ?_;exact IJ v4 (hv:=rfl) (hp:=trivial)
abbrev FM(fn:Fn)(first captured:List Value)(F1:List aO)(g:bz)(kf:Int×Int->Int×Bool):Prop:=
 ∀p∈bB g,bA Tryz.prog fn (first++[AX p.2]) captured [] F1 (λ_:Unit=>.tuple ⟨[.int .i64 (kf p.2).1,.bool (kf p.2).2]⟩) (λ_=>[]) (λ_=>[]) (λ_=>True)
theorem afW{g:bz}:FM (.func 310) [] [] [] g (λs=>(s.2,true)):=λp hp=>by
 refine aM _ (aP 310) λB w0=>?_;refine go ?_;intro b1;refine go ?_;exact ah () (hv:=rfl) (hp:=trivial)
theorem afX{g:bz}:FM (.func 311) [] [] [] g (λs=>(s.1,true)):=λp hp=>by
 refine aM _ (aP 311) λB w0=>?_;refine go ?_;intro b1;refine go ?_;exact ah () (hv:=rfl) (hp:=trivial)
theorem afY{g:bz}(hg:fE g):FM (.func 349) [] [] [] g (λs=>(s.1+s.2,true)):=λp hp=>by
 have hb:=Jg hg p hp;obtain⟨c,s1,s2⟩:=p;dsimp only at hb⊢;refine aM _ (aP 349) λB w0=>?_;refine go ?_;intro b1;refine go ?_;exact ah () (hv:=rfl) (hp:=trivial)
theorem afZ{g:bz}(hg:fE g):FM (.func 350) [] [] [] g (λs=>(0,decide (s.1=s.2))):=λp hp=>by
 have hb:=Jg hg p hp;refine aM _ (aP 350) λB w0=>?_;refine go ?_;intro b1;refine go ?_;exact ah () (hv:=rfl) (hp:=trivial)
theorem af0{g:bz}{vh vc:Value}{b:Nat}(hg:fE g):FM (.func 351) [] [ptr' b] [gY b 0 (iO g vh vc)] g (λs=>(0,decide (s.1+s.2=g.w - 1))):=λp hp=>by
 have hb:=Jg hg p hp;obtain⟨c,s1,s2⟩:=p;dsimp only at hb⊢;have hw:=hg.make.wi;refine aM _ (aP 351) λB w0=>?_;refine go ?_;intro b1;refine go ?_;exact ah () (hv:=rfl) (hp:=trivial)
theorem af1{g:bz}{vh vc:Value}(hg:fE g):
 bA Tryz.prog (.func 312) [.agg ⟨iO g vh vc⟩] [] [] (jq g vh vc) (λv:Value=>v) (λv=>[ap (ak ae) v (lY g)]) (λ_=>[]) (λ_=>True):=by
 refine aM _ (aP 312) λB w0=>?_;refine go ?_;intro b1;refine bn (eX (b:=b1)) (h:=?_);refine go ?_;refine aA rfl (λh1=>?_) (λh1=>?_)
 ·refine go ?_;refine ay (FL (kf:=λs=>(s.1+s.2,true)) (vh:=vh) (vc:=vc) hg (afY hg)) (next:=λv _=>?_);refine go ?_;exact ah v (hv:=rfl) (hp:=trivial) (hk:=by unfold lY;rw[if_pos h1];exact aI.all _)
 refine go ?_;refine aA rfl (λh2=>?_) (λh2=>?_)
 ·refine go ?_;refine gH (ak ae) ?_;exact ah (.slice none 0 0) (hv:=rfl) (hp:=trivial) (hk:=by unfold lY;rw[if_neg h1,if_neg h2];exact aI.all _)
 have h2:g.w=g.h:=ic.1 h2;refine go ?_;refine ay (FL (kf:=λs=>(0,decide (s.1=s.2))) (vh:=vh) (vc:=vc) hg (afZ hg)) (next:=λva _=>?_);refine go ?_;refine ay (FL (kf:=λs=>(0,decide (s.1+s.2=g.w - 1))) (vh:=vh) (vc:=vc) hg (af0 (vh:=vh) (vc:=vc) (b:=b1) hg)) (next:=λvb _=>?_);have hA:=Nj hg (λs=>(0,decide (s.1=s.2)));have hB:=Nj hg (λs=>(0,decide (s.1+s.2=g.w - 1)));have hD:lY g=jO (jd g (λs=>(0,decide (s.1=s.2)))) (jd g (λs=>(0,decide (s.1+s.2=g.w - 1)))):=by unfold lY;rw[if_neg h1,if_pos h2]
 generalize jd g (λs=>(0,decide (s.1=s.2)))=la at hA hD⊢;generalize jd g (λs=>(0,decide (s.1+s.2=g.w - 1)))=lb at hB hD⊢;have hF:=Uo hA.2 hB.2;refine bn (gz (E:=ak ae) (v:=vb) (xs:=lb)) (h:=?_);refine aS (E:=ak ae) (v:=vb) (xs:=lb) (by simp) λa c e=>?_;subst e;refine go ?_;refine aU (λy:Nat×Value=>lb.length - y.1) (λy=>[(22,.int .i64 (y.1:Int)),(3,y.2)]) (λy=>[ap (ak ae) y.2 (jO la (lb.take y.1))]) (λ_=>[]) (λy=>y.1<=lb.length) (0,va) (bR _) (hk:=by repeat (first|exact aI.nil|(apply aI.cons;(focus (repeat (first|exact az.here|apply az.there)))))) (body:=?_);rintro⟨k,v3⟩ hk2;dsimp only at hk2⊢;have Ow:=hF k;refine go ?_;refine aA rfl (λh3=>?_) (λh3=>?_)
 ·refine go ?_;refine bi (ak ae) (xs:=lb) (next:=λ_ _ ln (vl:Value) hl=>?_);have hs:=Un (a:=la) hl;have hll:=hB.2 ln (aZ hl);generalize jO la (lb.take k)=acc at Ow hs⊢;refine pO (E:=ak ae) (v:=v3) (xs:=acc) λa3 e3=>?_;subst e3;refine aS (E:=ae) (v:=vl) (xs:=ln) (by simp) λa4 c4 e4=>?_;subst e4;cases acc with
  |nil=>
   have hs2:jO la (lb.take (k+1))=[]++[ln]:=hs;refine go ?_;intro Ox;refine go ?_;refine fB (xs:=([]:List (List Int))) (ak ae) ln (.slice a4 ln.length c4) (by simp) (next:=λad=>?_);rw[<- hs2];refine go ?_;exact aN (k+1,.slice ad (([]:List (List Int)).length+1) (([]:List (List Int)).length+1)) (by show lb.length - (k+1)<lb.length - k;omega) (by show k+1<=_;omega)
  |cons a0 acc=>
   have ha0:=Ow.2 a0 (cB ..);refine go ?_;refine I6 ae 0 a0 rfl (next:=λ_ _ u=>?_);refine go ?_;refine ay (Bf (xs:=a0) (ys:=ln) (by omega)) (next:=λ_ _=>?_);by_cases h4:a0=ln
   rotate_left
   ·rw[aR h4];have hs2:jO la (lb.take (k+1))=(a0::acc)++[ln]:=by rw[hs];unfold uf;rw[if_neg (show¬((a0::acc).head? =some ln)from λe=>h4 (Option.some.inj e))]
    refine go ?_;intro Ox;refine go ?_;refine fB (xs:=a0::acc) (ak ae) ln (.slice a4 ln.length c4) (by have:=Ow.1;omega) (next:=λad=>?_);rw[<- hs2];refine go ?_;exact aN (k+1,.slice ad ((a0::acc).length+1) ((a0::acc).length+1)) (by show lb.length - (k+1)<lb.length - k;omega) (by show k+1<=_;omega)
   ·rw[dK h4];have hs2:jO la (lb.take (k+1))=a0::acc:=by rw[hs];unfold uf;rw[if_pos (by rw[h4];rfl)]
    rw[show ap (ak ae) (Value.slice a3 (a0::acc).length (a0::acc).length) (a0::acc)=ap (ak ae) (Value.slice a3 (a0::acc).length (a0::acc).length) (jO la (lb.take (k+1)))from congrArg _ hs2.symm];refine go ?_;exact aN (k+1,.slice a3 (a0::acc).length (a0::acc).length) (by show lb.length - (k+1)<lb.length - k;omega) (by show k+1<=_;omega)
 have hke:k=lb.length:=by omega
 subst hke;rw[bU,<- hD];refine go ?_;exact ah v3 (hv:=rfl) (hp:=trivial)
theorem af2{c:Nat}:bA Tryz.prog (.func 52) [.slice none 0 c] [] [] [] (λ_:Unit=>.slice none 0 0) (λ_=>[]) (λ_=>[]) (λ_=>True):=by
 refine aM Oh VF λB w0=>?_;refine go ?_;refine(fA rfl rfl (Fe (e:=3) (by kernel_rfl) rfl)).h ?_;refine go ?_;exact ah () (hv:=rfl) (hp:=trivial)
theorem af3{v:Value}{xs:List Int}(hl:xs.length<=4096):bA Tryz.prog (.func 52) [v] [] [] [ai ae v xs,I7 v xs] (λv':Value=>v') (λv'=>[ap ae v' xs]) (λ_=>[]) (λ_=>True):=by
 intro B w s;by_cases hx:xs=[]
 ·have hv:v=.slice none 0 0:=s.facts (I7 v xs) (cO _ (cB ..)) hx;subst hx hv;refine .vT _ (af2 (c:=0) B w ⟨s.agree,s.le,s.gF,s.own,λf hf=>(by cases hf)⟩) ?_;rintro r pm h' ⟨hp,w',y,e1,st,e2,_⟩;obtain⟨S,q1,q2,q3⟩:=st.own;exact⟨hp,w',.slice none 0 0,e1,⟨st.agree,st.le,st.gF,⟨S,⟨[],S,.inl ⟨rfl,rfl,rfl⟩,q1,rfl⟩,q2,q3⟩,st.facts⟩,e2,trivial⟩
 ·obtain⟨aC,h1,h2⟩:=Tn (s.facts (ai ae v xs) (cB ..));have hlen:aC.length=xs.length:=by rw[<- h1,bY]
  refine .vT _ (VH (v:=v) (aC:=aC) (by omega) B w ⟨s.agree,s.le,s.gF,s.own,λf hf=>by rw[bM.1 hf];exact h2⟩) ?_;rintro r pm h' ⟨hp,w',y,e1,st,e2,_⟩;subst h1;exact⟨hp,w',y,e1,st.TQ (by rw[hlen];exact BK.2 hx) (λp hp f hf=>by cases hf),e2,trivial⟩
abbrev JM(g:bz)(k:Int)(y:Ou):List aO:=[jr (y.e=0) (ai (ak ae) y.v (dM g k))]
theorem af4{g:bz}{vh vc:Value}{k:Int}(hS:qP g):
 bA Tryz.prog (.func 210) [.agg ⟨iO g vh vc⟩,.int .i64 k] [] [] (jq g vh vc) wI (λ_=>[]) (λy=>JM g k y) (λy=>y.e=0↔fE g/\0<=k/\k<=7):=by
 refine aM _ (aP 210) λB w0=>?_;refine go ?_;intro b2;refine bn (eX (b:=b2)) (h:=?_);refine go ?_;refine ay (VN (g:=g) (vh:=vh) (vc:=vc) hS) (next:=λy hy=>?_);obtain⟨vn,e⟩:=y;dsimp only at hy⊢;refine go ?_;refine aA rfl (λh1=>?_) (λh1=>?_)
 ·refine go ?_;refine jE (c:=e=0) (f:=ai (ak ae) (.slice none 0 0) (dM g k)) h1 ?_;exact ah ⟨.slice none 0 0,e⟩ (hv:=rfl) (hp:=⟨(λh=>absurd h h1),λh=>absurd (hy.2 h.1) h1⟩)
 have he:e=0:=ic.1 h1;subst he;have hg:=hy.1 rfl;have hgl:=hg.len;have hnl:=wm g;have hnm:=Nq (g:=g);refine eF (ai (tY ae) vn (bJ g)) (λw hw=>hw (jr ((0:Int)=0) (ai (tY ae) vn (bJ g))) (by simp) rfl) ?_;refine eF (ai (ak ae) vn (bJ g)) (λw hw=>TP (hw (ai (tY ae) vn (bJ g)) (by simp))) ?_;refine aS (E:=ak ae) (v:=vn) (xs:=bJ g) (by simp) λan cn en=>?_;subst en;refine go ?_;refine aA rfl (λhk=>?_) (λhk0=>?_)
 ·subst hk;have hf:dM g 0=kW g.cells.length:=by simp[dM]
  refine go ?_;refine gH (ak ae) ?_;refine aU (λy:Nat×Value=>g.cells.length - y.1) (λy=>[(31,.int .i64 (y.1:Int)),(4,y.2)]) (λy=>[ap (ak ae) y.2 (kW y.1)]) (λ_=>[]) (λy=>y.1<=g.cells.length) (0,.slice none 0 0) (bR _) (hk:=by repeat (first|exact aI.nil|(apply aI.cons;(focus (repeat (first|exact az.here|apply az.there)))))) (body:=?_);rintro⟨i,v4⟩ hi;dsimp only at hi⊢;have hil:=Jj i;refine go ?_;refine aA rfl (λh2=>?_) (λh2=>?_)
  ·refine go ?_;intro yj zx;refine bn (A:=pt yj (.cells [.int .i64 (i:Int)])) (fs:=[ai ae (.slice (some ⟨yj,0,some 0⟩) 1 1) [(i:Int)]]) (uR (b:=yj) (f:=0) (c:=1) (xs:=[(i:Int)])) (h:=?_);refine go ?_;refine fB (xs:=kW i) (ak ae) [(i:Int)] (.slice (some ⟨yj,0,some 0⟩) 1 1) (by omega) (next:=λad=>?_);rw[<- Uq];refine go ?_;exact aN (i+1,.slice ad ((kW i).length+1) ((kW i).length+1)) (by show g.cells.length - (i+1)<g.cells.length - i;omega) (by show i+1<=_;omega)
  have hie:i=g.cells.length:=by omega
  subst hie;refine bn (gz (E:=ak ae) (v:=v4) (xs:=kW g.cells.length)) (h:=?_);refine go ?_;refine jP (c:=(0:Int)=0) (f:=ai (ak ae) v4 (dM g 0)) (by rw[hf];simp) ?_;exact ah ⟨v4,0⟩ (hv:=rfl) (hp:=⟨λ_=>⟨hg,by omega,by omega⟩,λ_=>rfl⟩)
 refine go ?_;refine aA rfl (λhk=>?_) (λhk1=>?_)
 ·subst hk;have hf:dM g 1=jd g (λs=>(s.2,true)):=by simp[dM]
  refine go ?_;refine ay (FL (kf:=λs=>(s.2,true)) (vh:=vh) (vc:=vc) hg afW) (next:=λv4 _=>?_);refine bn (gz (E:=ak ae) (v:=v4) (xs:=jd g (λs=>(s.2,true)))) (h:=?_);refine go ?_;refine jP (c:=(0:Int)=0) (f:=ai (ak ae) v4 (dM g 1)) (by rw[hf];simp) ?_;exact ah ⟨v4,0⟩ (hv:=rfl) (hp:=⟨λ_=>⟨hg,by omega,by omega⟩,λ_=>rfl⟩)
 refine go ?_;refine aA rfl (λhk=>?_) (λhk2=>?_)
 ·subst hk;have hf:dM g 2=jd g (λs=>(s.1,true)):=by simp[dM]
  refine go ?_;refine ay (FL (kf:=λs=>(s.1,true)) (vh:=vh) (vc:=vc) hg afX) (next:=λv4 _=>?_);refine bn (gz (E:=ak ae) (v:=v4) (xs:=jd g (λs=>(s.1,true)))) (h:=?_);refine go ?_;refine jP (c:=(0:Int)=0) (f:=ai (ak ae) v4 (dM g 2)) (by rw[hf];simp) ?_;exact ah ⟨v4,0⟩ (hv:=rfl) (hp:=⟨λ_=>⟨hg,by omega,by omega⟩,λ_=>rfl⟩)
 refine go ?_;refine aA rfl (λhk=>?_) (λhk3=>?_)
 ·subst hk;have hf:dM g 3=lY g:=by simp[dM]
  refine go ?_;refine ay (af1 (vh:=vh) (vc:=vc) hg) (next:=λv4 _=>?_);refine bn (gz (E:=ak ae) (v:=v4) (xs:=lY g)) (h:=?_);refine go ?_;refine jP (c:=(0:Int)=0) (f:=ai (ak ae) v4 (dM g 3)) (by rw[hf];simp) ?_;exact ah ⟨v4,0⟩ (hv:=rfl) (hp:=⟨λ_=>⟨hg,by omega,by omega⟩,λ_=>rfl⟩)
 refine go ?_;refine aA rfl (λhk=>?_) (λhk4=>?_)
 ·subst hk;have hf:dM g 4=bJ g:=by simp[dM]
  refine go ?_;refine jP (c:=(0:Int)=0) (f:=ai (ak ae) (.slice an (bJ g).length cn) (dM g 4)) (by rw[hf];simp) ?_;exact ah ⟨.slice an (bJ g).length cn,0⟩ (hv:=rfl) (hp:=⟨λ_=>⟨hg,by omega,by omega⟩,λ_=>rfl⟩)
 refine go ?_;refine aA rfl (λhk=>?_) (λhk5=>?_)
 ·subst hk;have hf:dM g 5=l5 (bJ g):=by simp[dM]
  generalize bJ g=aQ at hnl hnm hf⊢;refine go ?_;refine gH (ak ae) ?_;refine aU (λy:Nat×Value=>aQ.length - y.1) (λy=>[(59,.int .i64 (y.1:Int)),(4,y.2)]) (λy=>[ap (ak ae) y.2 (l5 (aQ.take y.1))]) (λ_=>[]) (λy=>y.1<=aQ.length) (0,.slice none 0 0) (bR _) (hk:=by repeat (first|exact aI.nil|(apply aI.cons;(focus (repeat (first|exact az.here|apply az.there)))))) (body:=?_);rintro⟨i,v4⟩ hi;dsimp only at hi⊢;have hil:(l5 (aQ.take i)).length=i:=by rw[Nk,gT];omega
  refine go ?_;refine aA rfl (λh2=>?_) (λh2=>?_)
  ·refine go ?_;refine bi (tY ae) (xs:=aQ) (next:=λ_ _ ln (vl:Value) hl=>?_);have hll:=hnm ln (aZ hl);refine go ?_;refine ay (af3 (v:=vl) (xs:=ln) (by omega)) (next:=λvc2 _=>?_);refine go ?_;intro b67;refine go ?_;refine fB (xs:=ln) ae (i:Int) () (by omega) (next:=λad=>?_);refine go ?_;have hl1:ln.length+1=(ln++[(i:Int)]).length:=by simp
   rw[hl1];refine ay (Oq (a:=ad) (zs:=ln++[(i:Int)]) rfl (by simp;omega)) (next:=λ_ _=>?_);have hz0:bW (ln++[(i:Int)])≠[]:=λe=>by have:=AV (ln++[(i:Int)]);rw[e]at this;simp at this
   have hfs:=Ur hl;generalize hzz:bW (ln++[(i:Int)])=zs at hfs⊢;refine bn (gz (E:=ae) (v:=.slice ad (ln++[(i:Int)]).length (ln++[(i:Int)]).length) (xs:=zs)) (h:=?_);refine go ?_;intro b73;refine go ?_;refine fB (xs:=l5 (aQ.take i)) (ak ae) zs (.slice ad (ln++[(i:Int)]).length (ln++[(i:Int)]).length) (by omega) (next:=λr9=>?_);rw[<- hfs];refine go ?_;exact aN (i+1,.slice r9 ((l5 (aQ.take i)).length+1) ((l5 (aQ.take i)).length+1)) (by show aQ.length - (i+1)<aQ.length - i;omega) (by show i+1<=_;omega)
  have hie:i=aQ.length:=by omega
  subst hie;rw[bU];refine bn (gz (E:=ak ae) (v:=v4) (xs:=l5 aQ)) (h:=?_);refine go ?_;refine jP (c:=(0:Int)=0) (f:=ai (ak ae) v4 (dM g 5)) (by rw[hf];simp) ?_;exact ah ⟨v4,0⟩ (hv:=rfl) (hp:=⟨λ_=>⟨hg,by omega,by omega⟩,λ_=>rfl⟩)
 refine go ?_;refine aA rfl (λhk=>?_) (λhk6=>?_)
 ·subst hk;have hf:dM g 6=ik (bJ g):=by simp[dM]
  generalize bJ g=aQ at hnl hnm hf⊢;have h6:=Np hnm;refine go ?_;refine gH (ak ae) ?_;refine aU (λy:Nat×Value=>aQ.length - y.1) (λy=>[(80,.int .i64 (y.1:Int)),(4,y.2)]) (λy=>[ap (ak ae) y.2 (ik (aQ.take y.1))]) (λ_=>[]) (λy=>y.1<=aQ.length) (0,.slice none 0 0) (bR _) (hk:=by repeat (first|exact aI.nil|(apply aI.cons;(focus (repeat (first|exact az.here|apply az.there)))))) (body:=?_);rintro⟨i,v4⟩ hi;dsimp only at hi⊢;have hil:=h6 i hi;refine go ?_;refine aA rfl (λh2=>?_) (λh2=>?_)
  ·refine go ?_;refine bi (ak ae) (xs:=aQ) (next:=λ_ _ ln (vl:Value) hl=>?_);have hll:=hnm ln (aZ hl);have hfs:=Nn hl;refine aS (E:=ae) (v:=vl) (xs:=ln) (by simp) λa4 c4 e4=>?_;subst e4;refine go ?_;refine aU (λy:Nat×Value=>ln.length - y.1) (λy=>[(87,.int .i64 (y.1:Int)),(4,y.2)]) (λy=>[ap (ak ae) y.2 (ik (aQ.take i)++jh i (ln.take y.1))]) (λ_=>[]) (λy=>y.1<=ln.length) (0,v4) (bR _) (hk:=by rw[show ik (aQ.take i)++jh i (ln.take 0)=ik (aQ.take i)from gU _];repeat (first|exact aI.nil|(apply aI.cons;(focus (repeat (first|exact az.here|apply az.there)))))) (body:=?_);rintro⟨j,v5⟩ hj;dsimp only at hj⊢;have hpl:=Nl i (ln.take j);rw[gT]at hpl;have hal:(ik (aQ.take i)++jh i (ln.take j)).length<=2000:=by rw[iH];omega
   refine go ?_;refine aA rfl (λh3=>?_) (λh3=>?_)
   ·refine go ?_;intro _ _ x hx;have hps:=Us (i:=i) hx;refine go ?_;refine aA rfl (λh4=>?_) (λh4=>?_)
    ·have Bl:ik (aQ.take i)++jh i (ln.take (j+1))=(ik (aQ.take i)++jh i (ln.take j))++[[(i:Int),x]]:=by rw[hps,if_pos (by omega),List.append_assoc]
     refine go ?_;intro ym b98;refine bn (A:=pt ym (.cells [.int .i64 (i:Int),.int .i64 x])) (fs:=[ai ae (.slice (some ⟨ym,0,some 0⟩) 2 2) [(i:Int),x]]) (uR (b:=ym) (f:=0) (c:=2) (xs:=[(i:Int),x])) (h:=?_);refine go ?_;refine fB (xs:=ik (aQ.take i)++jh i (ln.take j)) (ak ae) [(i:Int),x] (.slice (some ⟨ym,0,some 0⟩) 2 2) (by omega) (next:=λr9=>?_);rw[<- Bl];refine go ?_;exact aN (j+1,.slice r9 ((ik (aQ.take i)++jh i (ln.take j)).length+1) ((ik (aQ.take i)++jh i (ln.take j)).length+1)) (by show ln.length - (j+1)<ln.length - j;omega) (by show j+1<=_;omega)
    ·have Bl:ik (aQ.take i)++jh i (ln.take (j+1))=ik (aQ.take i)++jh i (ln.take j):=by rw[hps,if_neg (by omega),gU]
     rw[<- Bl];refine go ?_;exact aN (j+1,v5) (by show ln.length - (j+1)<ln.length - j;omega) (by show j+1<=_;omega)
   have iR:j=ln.length:=by omega
   subst iR;rw[bU,<- hfs];refine go ?_;exact aN (i+1,v5) (by show aQ.length - (i+1)<aQ.length - i;omega) (by show i+1<=_;omega)
  have hie:i=aQ.length:=by omega
  subst hie;rw[bU];refine bn (gz (E:=ak ae) (v:=v4) (xs:=ik aQ)) (h:=?_);refine go ?_;refine jP (c:=(0:Int)=0) (f:=ai (ak ae) v4 (dM g 6)) (by rw[hf];simp) ?_;exact ah ⟨v4,0⟩ (hv:=rfl) (hp:=⟨λ_=>⟨hg,by omega,by omega⟩,λ_=>rfl⟩)
 refine go ?_;refine aA rfl (λhk=>?_) (λhk7=>?_)
 ·subst hk;have hf:dM g 7=[upTo' g.cells.length]:=by simp[dM]
  refine go ?_;refine gH ae ?_;refine aU (λy:Nat×Value=>g.cells.length - y.1) (λy=>[(107,.int .i64 (y.1:Int)),(15,y.2)]) (λy=>[ap ae y.2 (upTo' y.1)]) (λ_=>[]) (λy=>y.1<=g.cells.length) (0,.slice none 0 0) (bR _) (hk:=by repeat (first|exact aI.nil|(apply aI.cons;(focus (repeat (first|exact az.here|apply az.there)))))) (body:=?_);rintro⟨i,v15⟩ hi;dsimp only at hi⊢;have hil:=lZ i;refine go ?_;refine aA rfl (λh2=>?_) (λh2=>?_)
  ·refine go ?_;intro akL;refine go ?_;refine fB (xs:=upTo' i) ae (i:Int) () (by omega) (next:=λad=>?_);rw[<- wo];refine go ?_;exact aN (i+1,.slice ad ((upTo' i).length+1) ((upTo' i).length+1)) (by show g.cells.length - (i+1)<g.cells.length - i;omega) (by show i+1<=_;omega)
  have hie:i=g.cells.length:=by omega
  subst hie;refine bn (gz (E:=ae) (v:=v15) (xs:=upTo' g.cells.length)) (h:=?_);refine aS (E:=ae) (v:=v15) (xs:=upTo' g.cells.length) (by simp) λa4 c4 e4=>?_;subst e4;refine go ?_;intro JN;refine bn (eX (b:=JN)) (h:=?_);refine eF (ai (ak ae) (Bj JN 1) [upTo' g.cells.length]) (λw hw=>ML (v:=.slice a4 (upTo' g.cells.length).length c4) (hw _ (by simp)) (hw _ (by simp))) ?_;refine go ?_;refine jP (c:=(0:Int)=0) (f:=ai (ak ae) (Bj JN 1) (dM g 7)) (by rw[hf];simp) ?_;exact ah ⟨Bj JN 1,0⟩ (hv:=rfl) (hp:=⟨λ_=>⟨hg,by omega,by omega⟩,λ_=>rfl⟩)
 refine go ?_;refine jE (c:=(1:Int)=0) (f:=ai (ak ae) (.slice none 0 0) (dM g k)) (by omega) ?_;exact ah ⟨.slice none 0 0,1⟩ (hv:=rfl) (hp:=⟨(λh=>by cases h),(λh=>by exfalso;obtain⟨_,q1,q2⟩:=h;omega)⟩)
abbrev JO(g:bz)(rs:List (List Int))(y:Ou):List aO:=[jr (y.e=0) (ai (ak ae) y.v (dW g rs))]
theorem VV{g:bz}{vh vc vr:Value}{rs:List (List Int)}(hS:qP g)(hrl:rs.length<9223372036854775808)(hrs:∀ps∈rs,ps.length<9223372036854775808):
 bA Tryz.prog (.func 211) [.agg ⟨iO g vh vc⟩,vr] [] [] (ai (ak ae) vr rs::jq g vh vc) wI (λ_=>[]) (λy=>JO g rs y) (λy=>y.e=0↔fE g/\CZ g rs):=by
 refine aM _ (aP 211) λB w0=>?_;refine aS (E:=ak ae) (v:=vr) (xs:=rs) (by simp) λar cr er=>?_;subst er;refine go ?_;intro b2;refine bn (eX (b:=b2)) (h:=?_);refine go ?_;refine ay (VK (g:=g) hS) (next:=λe he=>?_);refine go ?_;refine gG (λh1=>?_) (λh1=>?_)
 rotate_left
 ·refine go ?_;refine jE (c:=(130:Int)=0) (f:=ai (ak ae) (.slice none 0 0) (dW g rs)) (by omega) ?_;exact ah ⟨.slice none 0 0,130⟩ (hv:=rfl) (hp:=⟨(λh=>by cases h),λh=>absurd (he.2 h.1) h1⟩)
 have hg:=he.1 (by omega);have hgl:=hg.len;have l6:g.cells.Pairwise (·<·):=by rw[hg.cells];exact Je _ _
 refine go ?_;refine aA rfl (λh2=>?_) (λh2=>?_)
 ·refine go ?_;refine jE (c:=(130:Int)=0) (f:=ai (ak ae) (.slice none 0 0) (dW g rs)) (by omega) ?_;exact ah ⟨.slice none 0 0,130⟩ (hv:=rfl) (hp:=⟨(λh=>by cases h),λh=>by exfalso;have:=h.2.len;omega⟩)
 refine go ?_;refine gH (ak ae) ?_;refine aU (λy:Nat×Value=>rs.length - y.1) (λy=>[(24,.int .i64 (y.1:Int)),(4,y.2)]) (λy=>[ap (ak ae) y.2 (dW g (rs.take y.1))]) (λ_=>[]) (λy=>y.1<=rs.length/\∀ps∈rs.take y.1,zk g ps) (0,.slice none 0 0) ⟨bR _,λps h=>by cases h⟩ (hk:=by repeat (first|exact aI.nil|(apply aI.cons;(focus (repeat (first|exact az.here|apply az.there)))))) (body:=?_);rintro⟨k,v4⟩ ⟨hk,hall⟩;dsimp only at hk hall⊢;have hkl:(dW g (rs.take k)).length=k:=by unfold dW;rw[bY,gT];omega
 refine go ?_;refine aA rfl (λh3=>?_) (λh3=>?_)
 ·refine go ?_;refine bi (ak ae) (xs:=rs) (next:=λ_ _ ps (vp:Value) hps=>?_);have hpm:=aZ hps;have hpl:=hrs ps hpm;have htk:=bZ hps;refine aS (E:=ae) (v:=vp) (xs:=ps) (by simp) λa4 c4 e4=>?_;subst e4;refine go ?_;refine y8 jF (λbm=>?_);refine go ?_;refine gH ae ?_;refine aU (λy:Nat×Value=>ps.length - y.1) (λy=>[(31,.int .i64 (y.1:Int)),(8,y.2)]) (λy=>[ap ae y.2 (eZ g (ps.take y.1)),gP jF bm (zi (eZ g (ps.take y.1)))]) (λ_=>[]) (λy=>y.1<=ps.length/\(∀p∈ps.take y.1,p∈g.cells)/\(eZ g (ps.take y.1)).Nodup) (0,.slice none 0 0) ⟨bR _,(λp h=>by cases h),yE⟩ (hk:=by repeat (first|exact aI.nil|(apply aI.cons;(focus (repeat (first|exact az.here|apply az.there)))))) (body:=?_);rintro⟨j,v8⟩ ⟨hj,hmem,hnd⟩;dsimp only at hj hmem hnd⊢;have hjl:(eZ g (ps.take j)).length=j:=by unfold eZ;rw[bY,gT];omega
  have hj2:j<=256:=by have:=Jl hmem hnd;rw[gT]at this;omega
  refine go ?_;refine aA rfl (λh4=>?_) (λh4=>?_)
  ·refine go ?_;intro _ _ x hx;have htx:=bZ hx;refine go ?_;refine ay (VG (xs:=g.cells) (z:=x) (by omega) (l6.imp λh=>Int.le_of_lt h)) (next:=λy hy=>?_);have hym:=hy.mem l6;obtain⟨c,ok⟩:=y;dsimp only at hym⊢;cases ok with
   |false=>
    refine go ?_;refine jE (c:=(130:Int)=0) (f:=ai (ak ae) (.slice none 0 0) (dW g rs)) (by omega) ?_;exact ah ⟨.slice none 0 0,130⟩ (hv:=rfl) (hp:=⟨(λh=>by cases h),λh=>by
     have:=hym.2 ((h.2.all ps hpm).mem x (aZ hx));cases this⟩)
   |true=>
    have hxm:=hym.1 rfl;have Dg:g.cells[c]? =some x:=hy.2.2.2.1 rfl;have hpos:=Jk l6 Dg;have hr1:eZ g (ps.take (j+1))=eZ g (ps.take j)++[(c:Int)]:=by unfold eZ;rw[htx,fP,sQ,hpos]
    refine go ?_;refine E9 (aX:=jF) (b:=bm) (aj:=zi (eZ g (ps.take j))) zw (c:Int) ?_;rw[adV];refine go ?_;refine aA rfl (λh5=>?_) (λh5=>?_)
    ·refine go ?_;refine jE (c:=(130:Int)=0) (f:=ai (ak ae) (.slice none 0 0) (dW g rs)) (by omega) ?_;exact ah ⟨.slice none 0 0,130⟩ (hv:=rfl) (hp:=⟨(λh=>by cases h),λh=>by
      exfalso
      have h6:(eZ g ps).Nodup:=(h.2.all ps hpm).nd;have h7:(eZ g (ps.take (j+1))).Nodup:=by
       refine h6.sublist ?_;unfold eZ;exact(PX _ _).map _
      rw[hr1,iT]at h7;exact h7.2.2 _ h5 _ (bM.2 rfl) rfl⟩)
    ·refine go ?_;refine xN (aX:=jF) (b:=bm) (v:=.bool true) (aj:=zi (eZ g (ps.take j))) zw (c:Int) ?_;rw[<- Ut,<- hr1];refine go ?_;intro b53;refine go ?_;refine fB (xs:=eZ g (ps.take j)) ae (c:Int) () (by omega) (next:=λad=>?_);rw[<- hr1];refine go ?_;refine aN (j+1,.slice ad ((eZ g (ps.take j)).length+1) ((eZ g (ps.take j)).length+1)) (by show ps.length - (j+1)<ps.length - j;omega) ⟨by show j+1<=_;omega,?_,?_⟩
     ·show∀p∈ps.take (j+1),p∈g.cells;rw[htx];intro p hp;rcases dX.1 hp with hp|hp
      ·exact hmem p hp
      ·rw[bM.1 hp];exact hxm
     ·show(eZ g (ps.take (j+1))).Nodup;rw[hr1,iT];exact⟨hnd,by simp,λa ha b hb e=>h5 (by rw[bM.1 hb]at e;rw[<- e];exact ha)⟩
  have iR:j=ps.length:=by omega
  subst iR;rw[bU]at hmem hnd⊢;have hrl2:(eZ g ps).length=ps.length:=by unfold eZ;rw[bY]
  refine pO (E:=ae) (v:=v8) (xs:=eZ g ps) λa8 e8=>?_;subst e8;refine go ?_;refine aA rfl (λh5=>?_) (λh5=>?_)
  ·refine go ?_;refine jE (c:=(130:Int)=0) (f:=ai (ak ae) (.slice none 0 0) (dW g rs)) (by omega) ?_;exact ah ⟨.slice none 0 0,130⟩ (hv:=rfl) (hp:=⟨(λh=>by cases h),λh=>by
    exfalso
    exact(h.2.all ps hpm).ne (jy.1 (by omega))⟩)
  have hR:zk g ps:=⟨λe=>h5 (by rw[hrl2,e];rfl),hmem,hnd⟩
  have hrr:dW g (rs.take (k+1))=dW g (rs.take k)++[eZ g ps]:=by unfold dW;rw[htk,fP,sQ]
  refine bn (gz (E:=ae) (v:=.slice a8 (eZ g ps).length (eZ g ps).length) (xs:=eZ g ps)) (h:=?_);refine go ?_;intro b61;refine go ?_;refine fB (xs:=dW g (rs.take k)) (ak ae) (eZ g ps) (.slice a8 (eZ g ps).length (eZ g ps).length) (by omega) (next:=λad=>?_);rw[<- hrr];refine go ?_;refine aN (k+1,.slice ad ((dW g (rs.take k)).length+1) ((dW g (rs.take k)).length+1)) (by show rs.length - (k+1)<rs.length - k;omega) ⟨by show k+1<=_;omega,?_⟩;show∀qs∈rs.take (k+1),zk g qs;rw[htk];intro qs hq;rcases dX.1 hq with hq|hq
  ·exact hall qs hq
  ·rw[bM.1 hq];exact hR
 have hke:k=rs.length:=by omega
 subst hke;rw[bU]at hall⊢;refine bn (gz (E:=ak ae) (v:=v4) (xs:=dW g rs)) (h:=?_);refine go ?_;refine jP (c:=(0:Int)=0) (f:=ai (ak ae) v4 (dW g rs)) (by simp) ?_;exact ah ⟨v4,0⟩ (hv:=rfl) (hp:=⟨λ_=>⟨hg,by omega,hall⟩,λ_=>rfl⟩)
