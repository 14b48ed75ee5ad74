/-
  Lines of a grid: cells gathered by a number.
-/
import Derived.Test.YtoohgkkmdnbnfaaGreatDoorLibCE
set_option linter.all false
set_option maxRecDepth 10000
set_option maxHeartbeats 4000000
namespace Go.Proofs.YtoohgkkmdnbnfaaGreatDoor
open Go.Ideal Kd
abbrev iH(n:Int):Value:=.int .i64 n
theorem wF:oO Tryz.prog 3 iH:=YP (by kernel_rfl)
theorem acp{bm:Nat}{ah:List (Int×Value)}:aV Tryz.prog (.func 265) [.map (some bm)] [] [] [qd iH bm ah] (λb:Nat=>.func (.func 301) #[] #[ptr' b]) (λ_=>[]) (λb=>[dF b 0 [.map (some bm)],qd iH bm ah]) (λ_=>True):=by
 refine aS _ (aQ 265) λB w0=>?_;refine go ?_;intro b1;refine go ?_;refine aZ (fo (b:=b1)) (h:=?_);exact aa b1 (hv:=rfl) (hp:=trivial)
theorem acr{b bm:Nat}{ah:List (Int×Value)}:qf Tryz.prog (λx:Int=>[iH x]) (.func 301) [] [ptr' b] [dF b 0 [.map (some bm)],qd iH bm ah] (λxs=>xs.Perm (ah.map (·.1))):=by
 intro S inv ok step s0 sD y1 y2 F' h0 hok hy;rw[dn,dn,di];refine aS _ (aQ 301) λB w0=>?_;refine go ?_;refine Qi (b:=bm) (ah:=ah) (aP:=iH) (next:=λr=>?_);refine go ?_;refine bJ (λy:List (Int×Value)×S=>ah.length - y.1.length) (λy=>[]) (λy=>x8 iH r bm ah y.1::inv y.2) (λ_=>[]) (λy=>ok (y.1.map (·.1)) y.2/\(∃rest,(y.1++rest).Perm ah)/\∀rest,fF step s0 (y.1.map (·.1)++rest)=fF step y.2 rest) ([],s0) ⟨h0,⟨ah,.refl _⟩,λ_=>rfl⟩ (body:=?_);rintro⟨dP,s⟩ ⟨hos,_,hrun⟩;dsimp only at hos hrun⊢;refine go ?_;refine Qj (b:=bm) (ah:=ah) (dP:=dP) (aP:=iH) (more:=λp rem hp=>?_) (done:=λhp=>?_) Z5
 ·have hX:(dP.map (·.1)++p.1::rem.map (·.1)).Perm (ah.map (·.1)):=by
   have:=hp.map (·.1);rw[dM,fG]at this;exact this
  have hlen:=hp.length_eq;rw[fK,nE]at hlen;have l7:=hy _ s _ _ hos hX;refine go ?_;refine Qk (aP:=iH) (ah:=ah) (dP:=dP) (p:=p) ?_;refine go ?_;refine ax l7 (next:=λ_ _=>?_);cases hst:(step s p.1).2 with
  |true=>
   have hs1:step s p.1=((step s p.1).1,true):=Prod.ext rfl hst;refine go ?_;refine bi (dP++[p],(step s p.1).1) (by show ah.length - (dP++[p]).length<_;rw[fK,uR];omega) ⟨?_,⟨rem,by show((dP++[p])++rem).Perm ah;rw[dQ];exact hp⟩,λrest=>?_⟩
   ·show ok ((dP++[p]).map (·.1)) _;rw[dM];exact hok _ s _ _ hos hX hst
   ·show fF step s0 ((dP++[p]).map (·.1)++rest)=_;rw[dM,dQ,hrun];show fF step s (p.1::rest)=_;rw[fF,hs1]
  |false=>
   have hs1:step s p.1=((step s p.1).1,false):=Prod.ext rfl hst;have hr:=hrun (p.1::rem.map (·.1));rw[fF,hs1]at hr;dsimp only at hr;refine go ?_;exact aa (dP.map (·.1)++p.1::rem.map (·.1)) (hv:=rfl) (hp:=hX) (hk:=by rw[hr];exact aM.self _ _)
 ·refine go ?_;have hr:=hrun [];rw[iX]at hr;exact aa (dP.map (·.1)) (hv:=rfl) (hp:=hp.map (·.1)) (hk:=by rw[hr];apply aM.there;exact aM.all _)
structure KG where
 v:Value
 xs:List Int
theorem acs{fn:Fn}{first captured:List Value}{F1:List aB}{X:List Int->Prop}(hit:qf Tryz.prog (λx:Int=>[iH x]) fn first captured F1 X)(hl:∀xs,X xs->xs.length<=1000000):
 aV Tryz.prog (.func 312) [.slice none 0 0,.func fn ⟨first⟩ ⟨captured⟩] [] [] F1 (λy:KG=>y.v) (λy=>[ap ae y.v y.xs]) (λ_=>[]) (λy=>X y.xs):=by
 refine CG Rz aaN λB w0=>?_;refine go ?_;intro b2;refine mE ae ?_;refine r9 (λv:Value=>[pt b2 (.cells [v]),ap ae v ([]:List Int)]) (.slice none 0 0) (h:=?_);refine CR (Z:=Nat) (λ(ys:List Int) (x:Int)=>(ys++[x],Out.normal)) (λys=>[aaP ae b2 ys]) (λvs ys=>ys=vs) [] _ (λ_ _=>[]) rfl (λvs s x rest hs hX _=>by rw[hs]) hit (by intro s x lo o B w0;refine go ?_;have z0:Nat:=0;exact yf z0 rfl) ?_ ?_ (λ_ _=>trivial)
 ·intro vs s x rest z lo L B w0 hs hx;subst hs;dsimp only[List.cons_append,List.nil_append];have hlen:s.length<=1000000:=by have:=hl _ hx;rw[fK,nE]at this;omega
  refine vV (h:=λv=>?_);refine go ?_;intro b10;refine kR (xs:=s) ae x () (by omega) (next:=λad=>?_);refine go ?_;refine r9 (λv:Value=>[pt b2 (.cells [v]),ap ae v (s++[x])]) _ (h:=?_);exact si () rfl trivial trivial
 ·intro r xs hX;have hrun:∀(ys zs:List Int),iy (λ(ys:List Int) (x:Int)=>(ys++[x],Out.normal)) ys zs=(ys++zs,.normal):=by
   intro ys zs;induction zs generalizing ys with
   |nil=>simp[iy]
   |cons z zs ih=>rw[iy];simp only[ih];simp
  rw[hrun,di];dsimp only[List.cons_append,List.nil_append];refine vV (h:=λv=>?_);refine go ?_;exact Al ⟨v,xs⟩ (hv:=rfl) (hp:=hX)
theorem acu{fn:Fn}{first captured:List Value}{F1:List aB}{X:List Int->Prop}(hit:qf Tryz.prog (λx:Int=>[iH x]) fn first captured F1 X)(hl:∀xs,X xs->xs.length<=1000000):
 aV Tryz.prog (.func 289) [.func fn ⟨first⟩ ⟨captured⟩] [] [] F1 (λy:KG=>y.v) (λy=>[ap ae y.v y.xs]) (λ_=>[]) (λy=>X y.xs):=by
 refine aS RA aaO λB w0=>?_;refine go ?_;refine ax (acs hit hl) (next:=λy hy=>?_);dsimp only[List.cons_append,List.nil_append];refine go ?_;exact aa y (hv:=rfl) (hp:=hy)
theorem SI{fn:Fn}{first captured:List Value}{F1:List aB}{X:List Int->Prop}(hit:qf Tryz.prog (λx:Int=>[iH x]) fn first captured F1 X)(hl:∀xs,X xs->xs.length<=1000000):
 aV Tryz.prog (.func 254) [.func fn ⟨first⟩ ⟨captured⟩] [] [] F1 (λy:KG=>y.v) (λy=>[ap ae y.v (bY y.xs)]) (λ_=>[]) (λy=>X y.xs):=by
 refine aS _ (aQ 254) λB w0=>?_;refine go ?_;refine ax (acu hit hl) (next:=λy hy=>?_);obtain⟨v,xs⟩:=y;dsimp only[List.cons_append,List.nil_append]at hy⊢;have hlen:=hl _ hy;refine Dg (E:=ae) (v:=v) (xs:=xs) λa hv=>?_;subst hv;refine go ?_;refine ax (Kq (a:=a) (zs:=xs) rfl (by omega)) (next:=λ_ _=>?_);refine go ?_;exact aa ⟨.slice a xs.length xs.length,xs⟩ (hv:=rfl) (hp:=hy)
theorem Dm{g:bO}{vh vc:Value}{fn:Fn}{first captured:List Value}{F1:List aB}{kf:Int×Int->Int×Bool}(hg:gH g)
 (hk:∀p∈aU g,aV Tryz.prog fn (first++[yj p.2]) captured [] F1 (λ_:Unit=>.tuple ⟨[.int .i64 (kf p.2).1,.bool (kf p.2).2]⟩) (λ_=>[]) (λ_=>[]) (λ_=>True)):
 aV Tryz.prog (.func 233) [.agg ⟨l6 g vh vc⟩,.func fn ⟨first⟩ ⟨captured⟩] [] [] (ai ae vh g.holes::ai ae vc g.cells::F1) (λv:Value=>v) (λv=>[ap (aC ae) v (jN g kf)]) (λ_=>[]) (λ_=>True):=by
 have hgl:=hg.len;have hsl:=nW g;refine CG _ (aQ 233) λB w0=>?_;refine go ?_;intro b2 b3;refine go ?_;refine vY iH (λbm=>?_);refine go ?_;intro b5;refine Zf ae (b:=bm) (aP:=iH) ?_;refine go ?_;refine ax (Kt (g:=g) (vh:=vh) (vc:=vc)) (next:=λbs _=>?_);refine go ?_;refine CR (Z:=Nat) (λ(m:List (Int×List Int)) (x:Int×(Int×Int))=>(uz kf m x,.normal)) (λm=>[CW iH ae bm m,pt b5 (.cells [.map (some bm)]),pt b3 (.cells [.func fn ⟨first⟩ ⟨captured⟩])]) (λvs m=>m=jm kf vs) [] _ (λx b8=>[pt b8 (.cells [.int .i64 x.2.1,.int .i64 x.2.2])]) rfl (λvs s x rest hs _ _=>by rw[hs,Fx]) (Kn (b1:=bs) (vh:=vh) (vc:=vc) hg) (by intro s x lo o B w0;refine go ?_;intro b8;refine go ?_;exact yf b8 rfl) ?_ ?_ (λ_ _=>trivial)
 ·intro vs s x rest b8 lo L B w0 hs hX;dsimp only[List.cons_append,List.nil_append];obtain⟨hc,hvl,hxm⟩:=Fw hX;have hkx:=hk x hxm;have hin:=JQ kf vs.length vs rfl;rw[<- hs]at hin;have hst:uz kf s x=cond (kf x.2).2 (upd (kf x.2).1 ((bW (kf x.2).1 s).getD []++[x.1]) s) s:=rfl;rw[hst];obtain⟨c,s1,s2⟩:=x;dsimp only at hc hkx hst⊢;subst hc;rcases hq:kf (s1,s2)with⟨kn,kb⟩
  rw[hq]at hkx;dsimp only at hkx⊢;refine go ?_;refine ax hkx (next:=λ_ _=>?_);cases kb with
  |false=>
   dsimp only[cond];refine go ?_;exact si () rfl trivial trivial
  |true=>
   dsimp only[cond];have hln:=hin.2 kn;refine go ?_;refine Zg (aP:=iH) (E:=ae) (b:=bm) (m:=s) kn (h:=λah v hkeys hv=>?_);refine CP (b:=bm) (ah:=ah) wF kn ?_;rw[hv];refine go ?_;intro b30;refine go ?_;refine QD (xs:=(bW kn s).getD []) ae (vs.length:Int) () (by omega) (next:=λad=>?_);refine go ?_;refine uo (b:=bm) (v:=.slice ad (((bW kn s).getD []).length+1) (((bW kn s).getD []).length+1)) (ah:=ah) wF kn ?_;refine Zh (E:=ae) (v:=.slice ad (((bW kn s).getD []).length+1) (((bW kn s).getD []).length+1)) (xs:=(bW kn s).getD []++[(vs.length:Int)]) kn hkeys ?_;refine go ?_;exact si () rfl trivial trivial
 ·intro r xs hX;subst hX;rw[FT (uz kf)];dsimp only[List.cons_append,List.nil_append];rw[show(aU g).foldl (uz kf) []=jm kf (aU g)from rfl];have hin:=JQ kf _ (aU g) rfl;rw[hsl]at hin;have hL:jN g kf=(bY ((jm kf (aU g)).map (·.1))).map λn=>(bW n (jm kf (aU g))).getD []:=rfl;generalize hm:jm kf (aU g)=m at hin hL⊢;refine Zi (aP:=iH) (E:=ae) (b:=bm) (m:=m) (λah hkeys=>?_);have hkl:ah.length=m.length:=by have:=congrArg List.length hkeys;simpa using this
  refine aZ (Aq (aP:=iH) (b:=bm) (ah:=ah)) (h:=?_);refine aZ (Zj (E:=ae) (ah:=ah) (m:=m) hkeys) (h:=?_);refine aZ (fo (b:=b5)) (h:=?_);refine go ?_;refine ax (acp (bm:=bm) (ah:=ah)) (next:=λbk _=>?_);refine go ?_;refine ax (SI (acr (b:=bk) (bm:=bm) (ah:=ah)) (λxs h=>by have:=h.length_eq;rw[bT]at this;omega)) (next:=λy hy=>?_);obtain⟨vk,ks⟩:=y;dsimp only[List.cons_append,List.nil_append]at hy⊢;have hks:bY ks=bY (m.map (·.1)):=ZU (by rw[<- hkeys];exact hy);rw[hks];have hkn:(bY (m.map (·.1))).length=m.length:=by rw[x9,bT]
  have hmem:∀n∈bY (m.map (·.1)),n∈m.map (·.1):=λn h=>FB.1 h;generalize hK:bY (m.map (·.1))=ns at hkn hL hmem⊢;refine aZ (kE (E:=ae) (v:=vk) (xs:=ns)) (h:=?_);refine fq (E:=ae) (v:=vk) (xs:=ns) (by simp) λa c e=>?_;subst e;refine go ?_;refine mE (aC ae) ?_;refine bJ (λy:Nat×Value=>ns.length - y.1) (λy=>[(36,.int .i64 (y.1:Int)),(4,y.2)]) (λy=>[ap (aC ae) y.2 ((ns.take y.1).map λn=>(bW n m).getD [])]) (λ_=>[]) (λy=>y.1<=ns.length) (0,.slice none 0 0) (dD _) (hk:=by repeat (first|exact aM.nil|(apply aM.cons;(focus (repeat (first|exact aj.here|apply aj.there)))))) (body:=?_);rintro⟨k,v4⟩ hk2;dsimp only at hk2⊢;refine go ?_;refine aG rfl (λh1=>?_) (λh1=>?_)
  ·refine go ?_;intro _ _ n hn;obtain⟨v,hv⟩:=CZ (a:=n) (l:=ah) (by rw[hkeys];exact hmem n (bG hn));obtain⟨xs,hxs⟩:=CZ (a:=n) (l:=m) (hmem n (bG hn));have hlv:jA false (.slice none 0 0) n ah=v:=by unfold jA;rw[hv];rfl
   have htk:(ns.take (k+1)).map (λn=>(bW n m).getD [])=(ns.take k).map (λn=>(bW n m).getD [])++[xs]:=by
    rw[j4 hn,dM,rP,hxs];rfl
   have hxl:((ns.take k).map (λn=>(bW n m).getD [])).length=k:=by rw[bT,jE];omega
   refine iD (ai ae v xs) (λw hw=>hw (QG ae ah m) (by simp) n v xs hv hxs) ?_;refine fq (E:=ae) (v:=v) (xs:=xs) (by simp) λa2 c2 e2=>?_;subst e2;refine go ?_;refine Qg (aP:=iH) (b:=bm) (ah:=ah) wF n ?_;rw[hlv];refine go ?_;intro b44;refine go ?_;refine kR (xs:=(ns.take k).map λn=>(bW n m).getD []) (aC ae) xs (.slice a2 xs.length c2) (by rw[hxl];omega) (next:=λad=>?_);rw[<- htk];refine go ?_;exact bi (k+1,.slice ad (((ns.take k).map λn=>(bW n m).getD []).length+1) (((ns.take k).map λn=>(bW n m).getD []).length+1)) (by show ns.length - (k+1)<ns.length - k;omega) (by show k+1<=_;omega)
  have hke:k=ns.length:=by omega
  subst hke;rw[eB,<- hL];refine go ?_;exact Al v4 (hv:=rfl) (hp:=trivial)
abbrev Dn(fn:Fn)(first captured:List Value)(F1:List aB)(g:bO)(kf:Int×Int->Int×Bool):Prop:=
 ∀p∈aU g,aV Tryz.prog fn (first++[yj p.2]) captured [] F1 (λ_:Unit=>.tuple ⟨[.int .i64 (kf p.2).1,.bool (kf p.2).2]⟩) (λ_=>[]) (λ_=>[]) (λ_=>True)
theorem acv{g:bO}:Dn (.func 234) [] [] [] g (λs=>(s.2,true)):=λp hp=>by
 refine aS _ (aQ 234) λB w0=>?_;refine go ?_;intro b1;refine go ?_;exact aa () (hv:=rfl) (hp:=trivial)
theorem acw{g:bO}:Dn (.func 235) [] [] [] g (λs=>(s.1,true)):=λp hp=>by
 refine aS _ (aQ 235) λB w0=>?_;refine go ?_;intro b1;refine go ?_;exact aa () (hv:=rfl) (hp:=trivial)
theorem acy{g:bO}(hg:gH g):Dn (.func 266) [] [] [] g (λs=>(s.1+s.2,true)):=λp hp=>by
 have hb:=Fv hg p hp;obtain⟨c,s1,s2⟩:=p;dsimp only at hb⊢;refine aS _ (aQ 266) λB w0=>?_;refine go ?_;intro b1;refine go ?_;exact aa () (hv:=rfl) (hp:=trivial)
theorem acz{g:bO}(hg:gH g):Dn (.func 267) [] [] [] g (λs=>(0,decide (s.1=s.2))):=λp hp=>by
 have hb:=Fv hg p hp;refine aS _ (aQ 267) λB w0=>?_;refine go ?_;intro b1;refine go ?_;exact aa () (hv:=rfl) (hp:=trivial)
theorem acA{g:bO}{vh vc:Value}{b:Nat}(hg:gH g):Dn (.func 268) [] [ptr' b] [dF b 0 (l6 g vh vc)] g (λs=>(0,decide (s.1+s.2=g.w - 1))):=λp hp=>by
 have hb:=Fv hg p hp;obtain⟨c,s1,s2⟩:=p;dsimp only at hb⊢;have hw:=hg.make.wi;refine aS _ (aQ 268) λB w0=>?_;refine go ?_;intro b1;refine go ?_;exact aa () (hv:=rfl) (hp:=trivial)
theorem acB{g:bO}{vh vc:Value}(hg:gH g):
 aV Tryz.prog (.func 236) [.agg ⟨l6 g vh vc⟩] [] [] (oZ g vh vc) (λv:Value=>v) (λv=>[ap (aC ae) v (qZ g)]) (λ_=>[]) (λ_=>True):=by
 refine aS _ (aQ 236) λB w0=>?_;refine go ?_;intro b1;refine aZ (fo (b:=b1)) (h:=?_);refine go ?_;refine aG rfl (λh1=>?_) (λh1=>?_)
 ·refine go ?_;refine ax (Dm (kf:=λs=>(s.1+s.2,true)) (vh:=vh) (vc:=vc) hg (acy hg)) (next:=λv _=>?_);refine go ?_;exact aa v (hv:=rfl) (hp:=trivial) (hk:=by unfold qZ;rw[if_pos h1];exact aM.all _)
 refine go ?_;refine aG rfl (λh2=>?_) (λh2=>?_)
 ·refine go ?_;refine mE (aC ae) ?_;exact aa (.slice none 0 0) (hv:=rfl) (hp:=trivial) (hk:=by unfold qZ;rw[if_neg h1,if_neg h2];exact aM.all _)
 have h2:g.w=g.h:=nG.1 h2;refine go ?_;refine ax (Dm (kf:=λs=>(0,decide (s.1=s.2))) (vh:=vh) (vc:=vc) hg (acz hg)) (next:=λva _=>?_);refine go ?_;refine ax (Dm (kf:=λs=>(0,decide (s.1+s.2=g.w - 1))) (vh:=vh) (vc:=vc) hg (acA (vh:=vh) (vc:=vc) (b:=b1) hg)) (next:=λvb _=>?_);have hA:=Fy hg (λs=>(0,decide (s.1=s.2)));have hB:=Fy hg (λs=>(0,decide (s.1+s.2=g.w - 1)));have hD:qZ g=nu (jN g (λs=>(0,decide (s.1=s.2)))) (jN g (λs=>(0,decide (s.1+s.2=g.w - 1)))):=by unfold qZ;rw[if_neg h1,if_pos h2]
 generalize jN g (λs=>(0,decide (s.1=s.2)))=la at hA hD⊢;generalize jN g (λs=>(0,decide (s.1+s.2=g.w - 1)))=lb at hB hD⊢;have hF:=JR hA.2 hB.2;refine aZ (kE (E:=aC ae) (v:=vb) (xs:=lb)) (h:=?_);refine fq (E:=aC ae) (v:=vb) (xs:=lb) (by simp) λa c e=>?_;subst e;refine go ?_;refine bJ (λy:Nat×Value=>lb.length - y.1) (λy=>[(22,.int .i64 (y.1:Int)),(3,y.2)]) (λy=>[ap (aC ae) y.2 (nu la (lb.take y.1))]) (λ_=>[]) (λy=>y.1<=lb.length) (0,va) (dD _) (hk:=by repeat (first|exact aM.nil|(apply aM.cons;(focus (repeat (first|exact aj.here|apply aj.there)))))) (body:=?_);rintro⟨k,v3⟩ hk2;dsimp only at hk2⊢;have KH:=hF k;refine go ?_;refine aG rfl (λh3=>?_) (λh3=>?_)
 ·refine go ?_;refine dm (aC ae) (xs:=lb) (next:=λ_ _ ln (vl:Value) hl=>?_);have hs:=Q9 (a:=la) hl;have hll:=hB.2 ln (bG hl);generalize nu la (lb.take k)=acc at KH hs⊢;refine Dg (E:=aC ae) (v:=v3) (xs:=acc) λa3 e3=>?_;subst e3;refine fq (E:=ae) (v:=vl) (xs:=ln) (by simp) λa4 c4 e4=>?_;subst e4;cases acc with
  |nil=>
   have hs2:nu la (lb.take (k+1))=[]++[ln]:=hs;refine go ?_;intro b39;refine go ?_;refine kR (xs:=([]:List (List Int))) (aC ae) ln (.slice a4 ln.length c4) (by simp) (next:=λad=>?_);rw[<- hs2];refine go ?_;exact bi (k+1,.slice ad (([]:List (List Int)).length+1) (([]:List (List Int)).length+1)) (by show lb.length - (k+1)<lb.length - k;omega) (by show k+1<=_;omega)
  |cons a0 acc=>
   have ha0:=KH.2 a0 (bF ..);refine go ?_;refine QJ ae 0 a0 rfl (next:=λ_ _ u=>?_);refine go ?_;refine ax (yD (xs:=a0) (ys:=ln) (by omega)) (next:=λ_ _=>?_);by_cases h4:a0=ln
   rotate_left
   ·rw[cO h4];have hs2:nu la (lb.take (k+1))=(a0::acc)++[ln]:=by rw[hs];unfold AU;rw[if_neg (show¬((a0::acc).head? =some ln)from λe=>h4 (Option.some.inj e))]
    refine go ?_;intro b39;refine go ?_;refine kR (xs:=a0::acc) (aC ae) ln (.slice a4 ln.length c4) (by have:=KH.1;omega) (next:=λad=>?_);rw[<- hs2];refine go ?_;exact bi (k+1,.slice ad ((a0::acc).length+1) ((a0::acc).length+1)) (by show lb.length - (k+1)<lb.length - k;omega) (by show k+1<=_;omega)
   ·rw[dU h4];have hs2:nu la (lb.take (k+1))=a0::acc:=by rw[hs];unfold AU;rw[if_pos (by rw[h4];rfl)]
    rw[show ap (aC ae) (Value.slice a3 (a0::acc).length (a0::acc).length) (a0::acc)=ap (aC ae) (Value.slice a3 (a0::acc).length (a0::acc).length) (nu la (lb.take (k+1)))from congrArg _ hs2.symm];refine go ?_;exact bi (k+1,.slice a3 (a0::acc).length (a0::acc).length) (by show lb.length - (k+1)<lb.length - k;omega) (by show k+1<=_;omega)
 have hke:k=lb.length:=by omega
 subst hke;rw[eB,<- hD];refine go ?_;exact aa v3 (hv:=rfl) (hp:=trivial)
theorem acD{c:Nat}:aV Tryz.prog (.func 228) [.slice none 0 c] [] [] [] (λ_:Unit=>.slice none 0 0) (λ_=>[]) (λ_=>[]) (λ_=>True):=by
 refine aS Ki Sm λB w0=>?_;refine go ?_;refine(fP rfl rfl (EZ (e:=3) (by kernel_rfl) rfl)).h ?_;refine go ?_;exact aa () (hv:=rfl) (hp:=trivial)
theorem acE{v:Value}{xs:List Int}(hl:xs.length<=4096):aV Tryz.prog (.func 228) [v] [] [] [ai ae v xs,Fb v xs] (λv':Value=>v') (λv'=>[ap ae v' xs]) (λ_=>[]) (λ_=>True):=by
 intro B w s;by_cases hx:xs=[]
 ·have hv:v=.slice none 0 0:=s.facts (Fb v xs) (bB _ (bF ..)) hx;subst hx hv;refine .oK _ (acD (c:=0) B w ⟨s.agree,s.le,s.dR,s.own,λf hf=>(by cases hf)⟩) ?_;rintro r pm h' ⟨hp,w',y,e1,st,e2,_⟩;obtain⟨S,q1,q2,q3⟩:=st.own;exact⟨hp,w',.slice none 0 0,e1,⟨st.agree,st.le,st.dR,⟨S,⟨[],S,.inl ⟨rfl,rfl,rfl⟩,q1,rfl⟩,q2,q3⟩,st.facts⟩,e2,trivial⟩
 ·obtain⟨aF,h1,h2⟩:=Qp (s.facts (ai ae v xs) (bF ..));have hlen:aF.length=xs.length:=by rw[<- h1,bT]
  refine .oK _ (Sq (v:=v) (aF:=aF) (by omega) B w ⟨s.agree,s.le,s.dR,s.own,λf hf=>by rw[bC.1 hf];exact h2⟩) ?_;rintro r pm h' ⟨hp,w',y,e1,st,e2,_⟩;subst h1;exact⟨hp,w',y,e1,st.Zo (by rw[hlen];exact DI.2 hx) (λp hp f hf=>by cases hf),e2,trivial⟩
abbrev SK(g:bO)(k:Int)(y:Ku):List aB:=[rA (y.e=0) (ai (aC ae) y.v (fJ g k))]
theorem acF{g:bO}{vh vc:Value}{k:Int}(hS:wD g):
 aV Tryz.prog (.func 154) [.agg ⟨l6 g vh vc⟩,.int .i64 k] [] [] (oZ g vh vc) FQ (λ_=>[]) (λy=>SK g k y) (λy=>y.e=0↔gH g/\0<=k/\k<=7):=by
 refine aS _ (aQ 154) λB w0=>?_;refine go ?_;intro b2;refine aZ (fo (b:=b2)) (h:=?_);refine go ?_;refine ax (Sv (g:=g) (vh:=vh) (vc:=vc) hS) (next:=λy hy=>?_);obtain⟨vn,e⟩:=y;dsimp only at hy⊢;refine go ?_;refine aG rfl (λh1=>?_) (λh1=>?_)
 ·refine go ?_;refine wE (c:=e=0) (f:=ai (aC ae) (.slice none 0 0) (fJ g k)) h1 ?_;exact aa ⟨.slice none 0 0,e⟩ (hv:=rfl) (hp:=⟨(λh=>absurd h h1),λh=>absurd (hy.2 h.1) h1⟩)
 have he:e=0:=nG.1 h1;subst he;have hg:=hy.1 rfl;have hgl:=hg.len;have hnl:=yz g;have hnm:=JU (g:=g);refine iD (ai (qj ae) vn (dY g)) (λw hw=>hw (rA ((0:Int)=0) (ai (qj ae) vn (dY g))) (by simp) rfl) ?_;refine iD (ai (aC ae) vn (dY g)) (λw hw=>QS (hw (ai (qj ae) vn (dY g)) (by simp))) ?_;refine fq (E:=aC ae) (v:=vn) (xs:=dY g) (by simp) λan cn en=>?_;subst en;refine go ?_;refine aG rfl (λhk=>?_) (λhk0=>?_)
 ·subst hk;have hf:fJ g 0=lX g.cells.length:=by simp[fJ]
  refine go ?_;refine mE (aC ae) ?_;refine bJ (λy:Nat×Value=>g.cells.length - y.1) (λy=>[(31,.int .i64 (y.1:Int)),(4,y.2)]) (λy=>[ap (aC ae) y.2 (lX y.1)]) (λ_=>[]) (λy=>y.1<=g.cells.length) (0,.slice none 0 0) (dD _) (hk:=by repeat (first|exact aM.nil|(apply aM.cons;(focus (repeat (first|exact aj.here|apply aj.there)))))) (body:=?_);rintro⟨i,v4⟩ hi;dsimp only at hi⊢;have hil:=Z7 i;refine go ?_;refine aG rfl (λh2=>?_) (λh2=>?_)
  ·refine go ?_;intro FY b37;refine aZ (A:=pt FY (.cells [.int .i64 (i:Int)])) (fs:=[ai ae (.slice (some ⟨FY,0,some 0⟩) 1 1) [(i:Int)]]) (EL (b:=FY) (f:=0) (c:=1) (xs:=[(i:Int)])) (h:=?_);refine go ?_;refine kR (xs:=lX i) (aC ae) [(i:Int)] (.slice (some ⟨FY,0,some 0⟩) 1 1) (by omega) (next:=λad=>?_);rw[<- Z6];refine go ?_;exact bi (i+1,.slice ad ((lX i).length+1) ((lX i).length+1)) (by show g.cells.length - (i+1)<g.cells.length - i;omega) (by show i+1<=_;omega)
  have hie:i=g.cells.length:=by omega
  subst hie;refine aZ (kE (E:=aC ae) (v:=v4) (xs:=lX g.cells.length)) (h:=?_);refine go ?_;refine sM (c:=(0:Int)=0) (f:=ai (aC ae) v4 (fJ g 0)) (by rw[hf];simp) ?_;exact aa ⟨v4,0⟩ (hv:=rfl) (hp:=⟨λ_=>⟨hg,by omega,by omega⟩,λ_=>rfl⟩)
 refine go ?_;refine aG rfl (λhk=>?_) (λhk1=>?_)
 ·subst hk;have hf:fJ g 1=jN g (λs=>(s.2,true)):=by simp[fJ]
  refine go ?_;refine ax (Dm (kf:=λs=>(s.2,true)) (vh:=vh) (vc:=vc) hg acv) (next:=λv4 _=>?_);refine aZ (kE (E:=aC ae) (v:=v4) (xs:=jN g (λs=>(s.2,true)))) (h:=?_);refine go ?_;refine sM (c:=(0:Int)=0) (f:=ai (aC ae) v4 (fJ g 1)) (by rw[hf];simp) ?_;exact aa ⟨v4,0⟩ (hv:=rfl) (hp:=⟨λ_=>⟨hg,by omega,by omega⟩,λ_=>rfl⟩)
 refine go ?_;refine aG rfl (λhk=>?_) (λhk2=>?_)
 ·subst hk;have hf:fJ g 2=jN g (λs=>(s.1,true)):=by simp[fJ]
  refine go ?_;refine ax (Dm (kf:=λs=>(s.1,true)) (vh:=vh) (vc:=vc) hg acw) (next:=λv4 _=>?_);refine aZ (kE (E:=aC ae) (v:=v4) (xs:=jN g (λs=>(s.1,true)))) (h:=?_);refine go ?_;refine sM (c:=(0:Int)=0) (f:=ai (aC ae) v4 (fJ g 2)) (by rw[hf];simp) ?_;exact aa ⟨v4,0⟩ (hv:=rfl) (hp:=⟨λ_=>⟨hg,by omega,by omega⟩,λ_=>rfl⟩)
 refine go ?_;refine aG rfl (λhk=>?_) (λhk3=>?_)
 ·subst hk;have hf:fJ g 3=qZ g:=by simp[fJ]
  refine go ?_;refine ax (acB (vh:=vh) (vc:=vc) hg) (next:=λv4 _=>?_);refine aZ (kE (E:=aC ae) (v:=v4) (xs:=qZ g)) (h:=?_);refine go ?_;refine sM (c:=(0:Int)=0) (f:=ai (aC ae) v4 (fJ g 3)) (by rw[hf];simp) ?_;exact aa ⟨v4,0⟩ (hv:=rfl) (hp:=⟨λ_=>⟨hg,by omega,by omega⟩,λ_=>rfl⟩)
 refine go ?_;refine aG rfl (λhk=>?_) (λhk4=>?_)
 ·subst hk;have hf:fJ g 4=dY g:=by simp[fJ]
  refine go ?_;refine sM (c:=(0:Int)=0) (f:=ai (aC ae) (.slice an (dY g).length cn) (fJ g 4)) (by rw[hf];simp) ?_;exact aa ⟨.slice an (dY g).length cn,0⟩ (hv:=rfl) (hp:=⟨λ_=>⟨hg,by omega,by omega⟩,λ_=>rfl⟩)
 refine go ?_;refine aG rfl (λhk=>?_) (λhk5=>?_)
 ·subst hk;have hf:fJ g 5=mJ (dY g):=by simp[fJ]
  generalize dY g=aK at hnl hnm hf⊢;refine go ?_;refine mE (aC ae) ?_;refine bJ (λy:Nat×Value=>aK.length - y.1) (λy=>[(59,.int .i64 (y.1:Int)),(4,y.2)]) (λy=>[ap (aC ae) y.2 (mJ (aK.take y.1))]) (λ_=>[]) (λy=>y.1<=aK.length) (0,.slice none 0 0) (dD _) (hk:=by repeat (first|exact aM.nil|(apply aM.cons;(focus (repeat (first|exact aj.here|apply aj.there)))))) (body:=?_);rintro⟨i,v4⟩ hi;dsimp only at hi⊢;have hil:(mJ (aK.take i)).length=i:=by rw[aaa,jE];omega
  refine go ?_;refine aG rfl (λh2=>?_) (λh2=>?_)
  ·refine go ?_;refine dm (qj ae) (xs:=aK) (next:=λ_ _ ln (vl:Value) hl=>?_);have hll:=hnm ln (bG hl);refine go ?_;refine ax (acE (v:=vl) (xs:=ln) (by omega)) (next:=λqy _=>?_);refine go ?_;intro b67;refine go ?_;refine kR (xs:=ln) ae (i:Int) () (by omega) (next:=λad=>?_);refine go ?_;have hl1:ln.length+1=(ln++[(i:Int)]).length:=by simp
   rw[hl1];refine ax (Kq (a:=ad) (zs:=ln++[(i:Int)]) rfl (by simp;omega)) (next:=λ_ _=>?_);have hz0:bY (ln++[(i:Int)])≠[]:=λe=>by have:=x9 (ln++[(i:Int)]);rw[e]at this;simp at this
   have hfs:=Z9 hl;generalize hzz:bY (ln++[(i:Int)])=zs at hfs⊢;refine aZ (kE (E:=ae) (v:=.slice ad (ln++[(i:Int)]).length (ln++[(i:Int)]).length) (xs:=zs)) (h:=?_);refine go ?_;intro b73;refine go ?_;refine kR (xs:=mJ (aK.take i)) (aC ae) zs (.slice ad (ln++[(i:Int)]).length (ln++[(i:Int)]).length) (by omega) (next:=λKI=>?_);rw[<- hfs];refine go ?_;exact bi (i+1,.slice KI ((mJ (aK.take i)).length+1) ((mJ (aK.take i)).length+1)) (by show aK.length - (i+1)<aK.length - i;omega) (by show i+1<=_;omega)
  have hie:i=aK.length:=by omega
  subst hie;rw[eB];refine aZ (kE (E:=aC ae) (v:=v4) (xs:=mJ aK)) (h:=?_);refine go ?_;refine sM (c:=(0:Int)=0) (f:=ai (aC ae) v4 (fJ g 5)) (by rw[hf];simp) ?_;exact aa ⟨v4,0⟩ (hv:=rfl) (hp:=⟨λ_=>⟨hg,by omega,by omega⟩,λ_=>rfl⟩)
 refine go ?_;refine aG rfl (λhk=>?_) (λhk6=>?_)
 ·subst hk;have hf:fJ g 6=jo (dY g):=by simp[fJ]
  generalize dY g=aK at hnl hnm hf⊢;have h6:=JS hnm;refine go ?_;refine mE (aC ae) ?_;refine bJ (λy:Nat×Value=>aK.length - y.1) (λy=>[(80,.int .i64 (y.1:Int)),(4,y.2)]) (λy=>[ap (aC ae) y.2 (jo (aK.take y.1))]) (λ_=>[]) (λy=>y.1<=aK.length) (0,.slice none 0 0) (dD _) (hk:=by repeat (first|exact aM.nil|(apply aM.cons;(focus (repeat (first|exact aj.here|apply aj.there)))))) (body:=?_);rintro⟨i,v4⟩ hi;dsimp only at hi⊢;have hil:=h6 i hi;refine go ?_;refine aG rfl (λh2=>?_) (λh2=>?_)
  ·refine go ?_;refine dm (aC ae) (xs:=aK) (next:=λ_ _ ln (vl:Value) hl=>?_);have hll:=hnm ln (bG hl);have hfs:=Rb hl;refine fq (E:=ae) (v:=vl) (xs:=ln) (by simp) λa4 c4 e4=>?_;subst e4;refine go ?_;refine bJ (λy:Nat×Value=>ln.length - y.1) (λy=>[(87,.int .i64 (y.1:Int)),(4,y.2)]) (λy=>[ap (aC ae) y.2 (jo (aK.take i)++kS i (ln.take y.1))]) (λ_=>[]) (λy=>y.1<=ln.length) (0,v4) (dD _) (hk:=by rw[show jo (aK.take i)++kS i (ln.take 0)=jo (aK.take i)from iX _];repeat (first|exact aM.nil|(apply aM.cons;(focus (repeat (first|exact aj.here|apply aj.there)))))) (body:=?_);rintro⟨j,v5⟩ hj;dsimp only at hj⊢;have hpl:=Ra i (ln.take j);rw[jE]at hpl;have hal:(jo (aK.take i)++kS i (ln.take j)).length<=2000:=by rw[fK];omega
   refine go ?_;refine aG rfl (λh3=>?_) (λh3=>?_)
   ·refine go ?_;intro _ _ x hx;have hps:=aab (i:=i) hx;refine go ?_;refine aG rfl (λh4=>?_) (λh4=>?_)
    ·have KJ:jo (aK.take i)++kS i (ln.take (j+1))=(jo (aK.take i)++kS i (ln.take j))++[[(i:Int),x]]:=by rw[hps,if_pos (by omega),dQ]
     refine go ?_;intro FZ kJ;refine aZ (A:=pt FZ (.cells [.int .i64 (i:Int),.int .i64 x])) (fs:=[ai ae (.slice (some ⟨FZ,0,some 0⟩) 2 2) [(i:Int),x]]) (EL (b:=FZ) (f:=0) (c:=2) (xs:=[(i:Int),x])) (h:=?_);refine go ?_;refine kR (xs:=jo (aK.take i)++kS i (ln.take j)) (aC ae) [(i:Int),x] (.slice (some ⟨FZ,0,some 0⟩) 2 2) (by omega) (next:=λKI=>?_);rw[<- KJ];refine go ?_;exact bi (j+1,.slice KI ((jo (aK.take i)++kS i (ln.take j)).length+1) ((jo (aK.take i)++kS i (ln.take j)).length+1)) (by show ln.length - (j+1)<ln.length - j;omega) (by show j+1<=_;omega)
    ·have KJ:jo (aK.take i)++kS i (ln.take (j+1))=jo (aK.take i)++kS i (ln.take j):=by rw[hps,if_neg (by omega),iX]
     rw[<- KJ];refine go ?_;exact bi (j+1,v5) (by show ln.length - (j+1)<ln.length - j;omega) (by show j+1<=_;omega)
   have o8:j=ln.length:=by omega
   subst o8;rw[eB,<- hfs];refine go ?_;exact bi (i+1,v5) (by show aK.length - (i+1)<aK.length - i;omega) (by show i+1<=_;omega)
  have hie:i=aK.length:=by omega
  subst hie;rw[eB];refine aZ (kE (E:=aC ae) (v:=v4) (xs:=jo aK)) (h:=?_);refine go ?_;refine sM (c:=(0:Int)=0) (f:=ai (aC ae) v4 (fJ g 6)) (by rw[hf];simp) ?_;exact aa ⟨v4,0⟩ (hv:=rfl) (hp:=⟨λ_=>⟨hg,by omega,by omega⟩,λ_=>rfl⟩)
 refine go ?_;refine aG rfl (λhk=>?_) (λhk7=>?_)
 ·subst hk;have hf:fJ g 7=[upTo' g.cells.length]:=by simp[fJ]
  refine go ?_;refine mE ae ?_;refine bJ (λy:Nat×Value=>g.cells.length - y.1) (λy=>[(107,.int .i64 (y.1:Int)),(15,y.2)]) (λy=>[ap ae y.2 (upTo' y.1)]) (λ_=>[]) (λy=>y.1<=g.cells.length) (0,.slice none 0 0) (dD _) (hk:=by repeat (first|exact aM.nil|(apply aM.cons;(focus (repeat (first|exact aj.here|apply aj.there)))))) (body:=?_);rintro⟨i,v15⟩ hi;dsimp only at hi⊢;have hil:=FC i;refine go ?_;refine aG rfl (λh2=>?_) (λh2=>?_)
  ·refine go ?_;intro afp;refine go ?_;refine kR (xs:=upTo' i) ae (i:Int) () (by omega) (next:=λad=>?_);rw[<- Z8];refine go ?_;exact bi (i+1,.slice ad ((upTo' i).length+1) ((upTo' i).length+1)) (by show g.cells.length - (i+1)<g.cells.length - i;omega) (by show i+1<=_;omega)
  have hie:i=g.cells.length:=by omega
  subst hie;refine aZ (kE (E:=ae) (v:=v15) (xs:=upTo' g.cells.length)) (h:=?_);refine fq (E:=ae) (v:=v15) (xs:=upTo' g.cells.length) (by simp) λa4 c4 e4=>?_;subst e4;refine go ?_;intro F3;refine aZ (fo (b:=F3)) (h:=?_);refine iD (ai (aC ae) (FU F3 1) [upTo' g.cells.length]) (λw hw=>YE (v:=.slice a4 (upTo' g.cells.length).length c4) (hw _ (by simp)) (hw _ (by simp))) ?_;refine go ?_;refine sM (c:=(0:Int)=0) (f:=ai (aC ae) (FU F3 1) (fJ g 7)) (by rw[hf];simp) ?_;exact aa ⟨FU F3 1,0⟩ (hv:=rfl) (hp:=⟨λ_=>⟨hg,by omega,by omega⟩,λ_=>rfl⟩)
 refine go ?_;refine wE (c:=(1:Int)=0) (f:=ai (aC ae) (.slice none 0 0) (fJ g k)) (by omega) ?_;exact aa ⟨.slice none 0 0,1⟩ (hv:=rfl) (hp:=⟨(λh=>by cases h),(λh=>by exfalso;obtain⟨_,q1,q2⟩:=h;omega)⟩)
abbrev SL(g:bO)(rs:List (List Int))(y:Ku):List aB:=[rA (y.e=0) (ai (aC ae) y.v (gI g rs))]
theorem SN{g:bO}{vh vc vr:Value}{rs:List (List Int)}(hS:wD g)(hrl:rs.length<9223372036854775808)(hrs:∀ps∈rs,ps.length<9223372036854775808):
 aV Tryz.prog (.func 155) [.agg ⟨l6 g vh vc⟩,vr] [] [] (ai (aC ae) vr rs::oZ g vh vc) FQ (λ_=>[]) (λy=>SL g rs y) (λy=>y.e=0↔gH g/\yA g rs):=by
 refine aS _ (aQ 155) λB w0=>?_;refine fq (E:=aC ae) (v:=vr) (xs:=rs) (by simp) λar cr er=>?_;subst er;refine go ?_;intro b2;refine aZ (fo (b:=b2)) (h:=?_);refine go ?_;refine ax (Sr (g:=g) hS) (next:=λe he=>?_);refine go ?_;first|with_reducible refine aN (λh1=>?_) (λh1=>?_)|with_reducible refine aO (λh1=>?_) (λh1=>?_)|with_reducible refine aL (λh1=>?_) (λh1=>?_)
 rotate_left
 ·refine go ?_;refine wE (c:=(130:Int)=0) (f:=ai (aC ae) (.slice none 0 0) (gI g rs)) (by omega) ?_;exact aa ⟨.slice none 0 0,130⟩ (hv:=rfl) (hp:=⟨(λh=>by cases h),λh=>absurd (he.2 h.1) h1⟩)
 have hg:=he.1 (by omega);have hgl:=hg.len;have qp:g.cells.Pairwise (·<·):=by rw[hg.cells];exact Q5 _ _
 refine go ?_;refine aG rfl (λh2=>?_) (λh2=>?_)
 ·refine go ?_;refine wE (c:=(130:Int)=0) (f:=ai (aC ae) (.slice none 0 0) (gI g rs)) (by omega) ?_;exact aa ⟨.slice none 0 0,130⟩ (hv:=rfl) (hp:=⟨(λh=>by cases h),λh=>by exfalso;have:=h.2.len;omega⟩)
 refine go ?_;refine mE (aC ae) ?_;refine bJ (λy:Nat×Value=>rs.length - y.1) (λy=>[(24,.int .i64 (y.1:Int)),(4,y.2)]) (λy=>[ap (aC ae) y.2 (gI g (rs.take y.1))]) (λ_=>[]) (λy=>y.1<=rs.length/\∀ps∈rs.take y.1,FD g ps) (0,.slice none 0 0) ⟨dD _,λps h=>by cases h⟩ (hk:=by repeat (first|exact aM.nil|(apply aM.cons;(focus (repeat (first|exact aj.here|apply aj.there)))))) (body:=?_);rintro⟨k,v4⟩ ⟨hk,hall⟩;dsimp only at hk hall⊢;have hkl:(gI g (rs.take k)).length=k:=by unfold gI;rw[bT,jE];omega
 refine go ?_;refine aG rfl (λh3=>?_) (λh3=>?_)
 ·refine go ?_;refine dm (aC ae) (xs:=rs) (next:=λ_ _ ps (vp:Value) hps=>?_);have hpm:=bG hps;have hpl:=hrs ps hpm;have htk:=j4 hps;refine fq (E:=ae) (v:=vp) (xs:=ps) (by simp) λa4 c4 e4=>?_;subst e4;refine go ?_;refine vY iH (λbm=>?_);refine go ?_;refine mE ae ?_;refine bJ (λy:Nat×Value=>ps.length - y.1) (λy=>[(31,.int .i64 (y.1:Int)),(8,y.2)]) (λy=>[ap ae y.2 (gT g (ps.take y.1)),fu iH bm (wu (gT g (ps.take y.1)))]) (λ_=>[]) (λy=>y.1<=ps.length/\(∀p∈ps.take y.1,p∈g.cells)/\(gT g (ps.take y.1)).Nodup) (0,.slice none 0 0) ⟨dD _,(λp h=>by cases h),uS⟩ (hk:=by repeat (first|exact aM.nil|(apply aM.cons;(focus (repeat (first|exact aj.here|apply aj.there)))))) (body:=?_);rintro⟨j,v8⟩ ⟨hj,hmem,hnd⟩;dsimp only at hj hmem hnd⊢;have hjl:(gT g (ps.take j)).length=j:=by unfold gT;rw[bT,jE];omega
  have hj2:j<=256:=by have:=JW hmem hnd;rw[jE]at this;omega
  refine go ?_;refine aG rfl (λh4=>?_) (λh4=>?_)
  ·refine go ?_;intro _ _ x hx;have htx:=j4 hx;refine go ?_;refine ax (Sn (xs:=g.cells) (z:=x) (by omega) (qp.imp λh=>Int.le_of_lt h)) (next:=λy hy=>?_);have hym:=hy.mem qp;obtain⟨c,ok⟩:=y;dsimp only at hym⊢;cases ok with
   |false=>
    refine go ?_;refine wE (c:=(130:Int)=0) (f:=ai (aC ae) (.slice none 0 0) (gI g rs)) (by omega) ?_;exact aa ⟨.slice none 0 0,130⟩ (hv:=rfl) (hp:=⟨(λh=>by cases h),λh=>by
     have:=hym.2 ((h.2.all ps hpm).mem x (bG hx));cases this⟩)
   |true=>
    have hxm:=hym.1 rfl;have A7:g.cells[c]? =some x:=hy.2.2.2.1 rfl;have hpos:=Rc qp A7;have hr1:gT g (ps.take (j+1))=gT g (ps.take j)++[(c:Int)]:=by unfold gT;rw[htx,dM,rP,hpos]
    refine go ?_;refine CP (aP:=iH) (b:=bm) (ah:=wu (gT g (ps.take j))) wF (c:Int) ?_;rw[aad];refine go ?_;refine aG rfl (λh5=>?_) (λh5=>?_)
    ·refine go ?_;refine wE (c:=(130:Int)=0) (f:=ai (aC ae) (.slice none 0 0) (gI g rs)) (by omega) ?_;exact aa ⟨.slice none 0 0,130⟩ (hv:=rfl) (hp:=⟨(λh=>by cases h),λh=>by
      exfalso
      have h6:(gT g ps).Nodup:=(h.2.all ps hpm).nd;have h7:(gT g (ps.take (j+1))).Nodup:=by
       refine h6.sublist ?_;unfold gT;exact(Mc _ _).map _
      rw[hr1,gM]at h7;exact h7.2.2 _ h5 _ (bC.2 rfl) rfl⟩)
    ·refine go ?_;refine uo (aP:=iH) (b:=bm) (v:=.bool true) (ah:=wu (gT g (ps.take j))) wF (c:Int) ?_;rw[<- Re,<- hr1];refine go ?_;intro b53;refine go ?_;refine kR (xs:=gT g (ps.take j)) ae (c:Int) () (by omega) (next:=λad=>?_);rw[<- hr1];refine go ?_;refine bi (j+1,.slice ad ((gT g (ps.take j)).length+1) ((gT g (ps.take j)).length+1)) (by show ps.length - (j+1)<ps.length - j;omega) ⟨by show j+1<=_;omega,?_,?_⟩
     ·show∀p∈ps.take (j+1),p∈g.cells;rw[htx];intro p hp;rcases eZ.1 hp with hp|hp
      ·exact hmem p hp
      ·rw[bC.1 hp];exact hxm
     ·show(gT g (ps.take (j+1))).Nodup;rw[hr1,gM];exact⟨hnd,by simp,λa ha b hb e=>h5 (by rw[bC.1 hb]at e;rw[<- e];exact ha)⟩
  have o8:j=ps.length:=by omega
  subst o8;rw[eB]at hmem hnd⊢;have hrl2:(gT g ps).length=ps.length:=by unfold gT;rw[bT]
  refine Dg (E:=ae) (v:=v8) (xs:=gT g ps) λa8 e8=>?_;subst e8;refine go ?_;refine aG rfl (λh5=>?_) (λh5=>?_)
  ·refine go ?_;refine wE (c:=(130:Int)=0) (f:=ai (aC ae) (.slice none 0 0) (gI g rs)) (by omega) ?_;exact aa ⟨.slice none 0 0,130⟩ (hv:=rfl) (hp:=⟨(λh=>by cases h),λh=>by
    exfalso
    exact(h.2.all ps hpm).ne (kW.1 (by omega))⟩)
  have hR:FD g ps:=⟨λe=>h5 (by rw[hrl2,e];rfl),hmem,hnd⟩
  have hrr:gI g (rs.take (k+1))=gI g (rs.take k)++[gT g ps]:=by unfold gI;rw[htk,dM,rP]
  refine aZ (kE (E:=ae) (v:=.slice a8 (gT g ps).length (gT g ps).length) (xs:=gT g ps)) (h:=?_);refine go ?_;intro b61;refine go ?_;refine kR (xs:=gI g (rs.take k)) (aC ae) (gT g ps) (.slice a8 (gT g ps).length (gT g ps).length) (by omega) (next:=λad=>?_);rw[<- hrr];refine go ?_;refine bi (k+1,.slice ad ((gI g (rs.take k)).length+1) ((gI g (rs.take k)).length+1)) (by show rs.length - (k+1)<rs.length - k;omega) ⟨by show k+1<=_;omega,?_⟩;show∀qs∈rs.take (k+1),FD g qs;rw[htk];intro qs hq;rcases eZ.1 hq with hq|hq
  ·exact hall qs hq
  ·rw[bC.1 hq];exact hR
 have hke:k=rs.length:=by omega
 subst hke;rw[eB]at hall⊢;refine aZ (kE (E:=aC ae) (v:=v4) (xs:=gI g rs)) (h:=?_);refine go ?_;refine sM (c:=(0:Int)=0) (f:=ai (aC ae) v4 (gI g rs)) (by simp) ?_;exact aa ⟨v4,0⟩ (hv:=rfl) (hp:=⟨λ_=>⟨hg,by omega,hall⟩,λ_=>rfl⟩)
