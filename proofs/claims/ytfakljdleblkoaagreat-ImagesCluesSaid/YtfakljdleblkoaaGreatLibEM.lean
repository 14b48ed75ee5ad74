/-
  Lines of a grid: cells gathered by a number.
-/
import Derived.Test.YtfakljdleblkoaaGreatLibDM
set_option linter.all false
set_option maxRecDepth 10000
set_option maxHeartbeats 4000000
namespace Go.Proofs.YtfakljdleblkoaaGreat
open Go.Ideal Kd
noncomputable def PY:=qJ Tryz.prog 69
theorem XZ:lT Tryz.prog 69=some PY:=by kernel_rfl
abbrev ja(n:Int):Value:=.int .i64 n
theorem zX:rY Tryz.prog 3 ja:=aeN (by kernel_rfl)
theorem aiA{bm:Nat}{ax:List (Int×Value)}:aQ Tryz.prog (.func 303) [.map (some bm)] [] [] [xQ ja bm ax] (λb:Nat=>.func (.func 319) #[] #[ptr' b]) (λ_=>[]) (λb=>[bz b 0 [.map (some bm)],xQ ja bm ax]) (λ_=>True):=by
 refine aK _ (aM 303) λB w0=>?_;refine go ?_;intro b1;refine go ?_;refine aZ (dH (b:=b1)) (h:=?_);exact aj b1 (hv:=rfl) (hp:=trivial)
theorem aiB{b bm:Nat}{ax:List (Int×Value)}:zM Tryz.prog (λx:Int=>[ja x]) (.func 319) [] [ptr' b] [bz b 0 [.map (some bm)],xQ ja bm ax] (λxs=>xs.Perm (ax.map (·.1))):=by
 intro S inv ok step s0 ny y1 y2 F' h0 hok hy;rw[bX,bX,bH];refine aK _ (aM 319) λB w0=>?_;refine go ?_;refine aeQ (b:=bm) (ax:=ax) (aY:=ja) (next:=λr=>?_);refine go ?_;refine bQ (λy:List (Int×Value)×S=>ax.length - y.1.length) (λy=>[]) (λy=>Dj ja r bm ax y.1::inv y.2) (λ_=>[]) (λy=>ok (y.1.map (·.1)) y.2/\(∃rest,(y.1++rest).Perm ax)/\∀rest,bS step s0 (y.1.map (·.1)++rest)=bS step y.2 rest) ([],s0) ⟨h0,⟨ax,.refl _⟩,λ_=>rfl⟩ (body:=?_);rintro⟨dx,s⟩ ⟨hos,_,hrun⟩;dsimp only at hos hrun⊢;refine go ?_;refine aeS (b:=bm) (ax:=ax) (dx:=dx) (aY:=ja) (more:=λp rem hp=>?_) (done:=λhp=>?_) age
 ·have hX:(dx.map (·.1)++p.1::rem.map (·.1)).Perm (ax.map (·.1)):=by
   have:=hp.map (·.1);rw[di,fI]at this;exact this
  have hlen:=hp.length_eq;rw[gP,lN]at hlen;have gJ:=hy _ s _ _ hos hX;refine go ?_;refine aeX (aY:=ja) (ax:=ax) (dx:=dx) (p:=p) ?_;refine go ?_;refine ak gJ (next:=λ_ _=>?_);cases hst:(step s p.1).2 with
  |true=>
   have hs1:step s p.1=((step s p.1).1,true):=Prod.ext rfl hst;refine go ?_;refine bi (dx++[p],(step s p.1).1) (by show ax.length - (dx++[p]).length<_;rw[gP,yT];omega) ⟨?_,⟨rem,by show((dx++[p])++rem).Perm ax;rw[ed];exact hp⟩,λrest=>?_⟩
   ·show ok ((dx++[p]).map (·.1)) _;rw[di];exact hok _ s _ _ hos hX hst
   ·show bS step s0 ((dx++[p]).map (·.1)++rest)=_;rw[di,ed,hrun];show bS step s (p.1::rest)=_;rw[bS,hs1]
  |false=>
   have hs1:step s p.1=((step s p.1).1,false):=Prod.ext rfl hst;have hr:=hrun (p.1::rem.map (·.1));rw[bS,hs1]at hr;dsimp only at hr;refine go ?_;exact aj (dx.map (·.1)++p.1::rem.map (·.1)) (hv:=rfl) (hp:=hX) (hk:=by rw[hr];exact aO.self _ _)
 ·refine go ?_;have hr:=hrun [];rw[iK]at hr;exact aj (dx.map (·.1)) (hv:=rfl) (hp:=hp.map (·.1)) (hk:=by rw[hr];apply aO.there;exact aO.all _)
structure DY where
 v:Value
 xs:List Int
theorem aiC{fn:Fn}{first captured:List Value}{F1:List aD}{X:List Int->Prop}(hit:zM Tryz.prog (λx:Int=>[ja x]) fn first captured F1 X)(hl:∀xs,X xs->xs.length<=1000000):
 aQ Tryz.prog (.func 153) [.slice none 0 0,.func fn ⟨first⟩ ⟨captured⟩] [] [] F1 (λy:DY=>y.v) (λy=>[ap ae y.v y.xs]) (λ_=>[]) (λy=>X y.xs):=by
 refine zG KD Ps λB w0=>?_;refine go ?_;intro b2;refine lY ae ?_;refine uZ (λv:Value=>[pt b2 (.cells [v]),ap ae v ([]:List Int)]) (.slice none 0 0) (h:=?_);refine JE (Z:=Nat) (λ(ys:List Int) (x:Int)=>(ys++[x],Out.normal)) (λys=>[Px ae b2 ys]) (λvs ys=>ys=vs) [] _ (λ_ _=>[]) rfl (λvs s x rest hs hX _=>by rw[hs]) hit (by intro s x lo o B w0;refine go ?_;have z0:Nat:=0;exact Bj z0 rfl) ?_ ?_ (λ_ _=>trivial)
 ·intro vs s x rest z lo L B w0 hs hx;subst hs;dsimp only[List.cons_append,List.nil_append];have hlen:s.length<=1000000:=by have:=hl _ hx;rw[gP,lN]at this;omega
  refine zF (h:=λv=>?_);refine go ?_;intro b10;refine jO (xs:=s) ae x () (by omega) (next:=λad=>?_);refine go ?_;refine uZ (λv:Value=>[pt b2 (.cells [v]),ap ae v (s++[x])]) _ (h:=?_);exact qQ () rfl trivial trivial
 ·intro r xs hX;have hrun:∀(ys zs:List Int),fM (λ(ys:List Int) (x:Int)=>(ys++[x],Out.normal)) ys zs=(ys++zs,.normal):=by
   intro ys zs;induction zs generalizing ys with
   |nil=>simp[fM]
   |cons z zs ih=>rw[fM];simp only[ih];simp
  rw[hrun,bH];dsimp only[List.cons_append,List.nil_append];refine zF (h:=λv=>?_);refine go ?_;exact u7 ⟨v,xs⟩ (hv:=rfl) (hp:=hX)
theorem aiD{fn:Fn}{first captured:List Value}{F1:List aD}{X:List Int->Prop}(hit:zM Tryz.prog (λx:Int=>[ja x]) fn first captured F1 X)(hl:∀xs,X xs->xs.length<=1000000):
 aQ Tryz.prog (.func 101) [.func fn ⟨first⟩ ⟨captured⟩] [] [] F1 (λy:DY=>y.v) (λy=>[ap ae y.v y.xs]) (λ_=>[]) (λy=>X y.xs):=by
 refine aK KE Pt λB w0=>?_;refine go ?_;refine ak (aiC hit hl) (next:=λy hy=>?_);dsimp only[List.cons_append,List.nil_append];refine go ?_;exact aj y (hv:=rfl) (hp:=hy)
theorem PZ{fn:Fn}{first captured:List Value}{F1:List aD}{X:List Int->Prop}(hit:zM Tryz.prog (λx:Int=>[ja x]) fn first captured F1 X)(hl:∀xs,X xs->xs.length<=1000000):
 aQ Tryz.prog (.func 69) [.func fn ⟨first⟩ ⟨captured⟩] [] [] F1 (λy:DY=>y.v) (λy=>[ap ae y.v (bD y.xs)]) (λ_=>[]) (λy=>X y.xs):=by
 refine aK PY XZ λB w0=>?_;refine go ?_;refine ak (aiD hit hl) (next:=λy hy=>?_);obtain⟨v,xs⟩:=y;dsimp only[List.cons_append,List.nil_append]at hy⊢;have hlen:=hl _ hy;refine BD (E:=ae) (v:=v) (xs:=xs) λa hv=>?_;subst hv;refine go ?_;refine ak (Gg (a:=a) (zs:=xs) rfl (by omega)) (next:=λ_ _=>?_);refine go ?_;exact aj ⟨.slice a xs.length xs.length,xs⟩ (hv:=rfl) (hp:=hy)
theorem Gi{g:cO}{vh vc:Value}{fn:Fn}{first captured:List Value}{F1:List aD}{kf:Int×Int->Int×Bool}(hg:ik g)
 (hk:∀p∈bA g,aQ Tryz.prog fn (first++[Bl p.2]) captured [] F1 (λ_:Unit=>.tuple ⟨[.int .i64 (kf p.2).1,.bool (kf p.2).2]⟩) (λ_=>[]) (λ_=>[]) (λ_=>True)):
 aQ Tryz.prog (.func 261) [.agg ⟨oV g vh vc⟩,.func fn ⟨first⟩ ⟨captured⟩] [] [] (ah ae vh g.holes::ah ae vc g.cells::F1) (λv:Value=>v) (λv=>[ap (aB ae) v (ku g kf)]) (λ_=>[]) (λ_=>True):=by
 have hgl:=hg.len;have hsl:=qV g;refine zG _ (aM 261) λB w0=>?_;refine go ?_;intro b2 b3;refine go ?_;refine zJ ja (λbm=>?_);refine go ?_;intro b5;refine afg ae (b:=bm) (aY:=ja) ?_;refine go ?_;refine ak (PW (g:=g) (vh:=vh) (vc:=vc)) (next:=λbs _=>?_);refine go ?_;refine JE (Z:=Nat) (λ(m:List (Int×List Int)) (x:Int×(Int×Int))=>(x9 kf m x,.normal)) (λm=>[FW ja ae bm m,pt b5 (.cells [.map (some bm)]),pt b3 (.cells [.func fn ⟨first⟩ ⟨captured⟩])]) (λvs m=>m=jY kf vs) [] _ (λx b8=>[pt b8 (.cells [.int .i64 x.2.1,.int .i64 x.2.2])]) rfl (λvs s x rest hs _ _=>by rw[hs,J4]) (PV (b1:=bs) (vh:=vh) (vc:=vc) hg) (by intro s x lo o B w0;refine go ?_;intro b8;refine go ?_;exact Bj b8 rfl) ?_ ?_ (λ_ _=>trivial)
 ·intro vs s x rest b8 lo L B w0 hs hX;dsimp only[List.cons_append,List.nil_append];obtain⟨hc,hvl,hxm⟩:=J3 hX;have hkx:=hk x hxm;have hin:=OP kf vs.length vs rfl;rw[<- hs]at hin;have hst:x9 kf s x=cond (kf x.2).2 (upd (kf x.2).1 ((dU (kf x.2).1 s).getD []++[x.1]) s) s:=rfl;rw[hst];obtain⟨c,s1,s2⟩:=x;dsimp only at hc hkx hst⊢;subst hc;rcases hq:kf (s1,s2)with⟨kn,kb⟩
  rw[hq]at hkx;dsimp only at hkx⊢;refine go ?_;refine ak hkx (next:=λ_ _=>?_);cases kb with
  |false=>
   dsimp only[cond];refine go ?_;exact qQ () rfl trivial trivial
  |true=>
   dsimp only[cond];have hln:=hin.2 kn;refine go ?_;refine afh (aY:=ja) (E:=ae) (b:=bm) (m:=s) kn (h:=λax v hkeys hv=>?_);refine FO (b:=bm) (ax:=ax) zX kn ?_;rw[hv];refine go ?_;intro b30;refine go ?_;refine Vn (xs:=(dU kn s).getD []) ae (vs.length:Int) () (by omega) (next:=λad=>?_);refine go ?_;refine xR (b:=bm) (v:=.slice ad (((dU kn s).getD []).length+1) (((dU kn s).getD []).length+1)) (ax:=ax) zX kn ?_;refine afi (E:=ae) (v:=.slice ad (((dU kn s).getD []).length+1) (((dU kn s).getD []).length+1)) (xs:=(dU kn s).getD []++[(vs.length:Int)]) kn hkeys ?_;refine go ?_;exact qQ () rfl trivial trivial
 ·intro r xs hX;subst hX;rw[KN (x9 kf)];dsimp only[List.cons_append,List.nil_append];rw[show(bA g).foldl (x9 kf) []=jY kf (bA g)from rfl];have hin:=OP kf _ (bA g) rfl;rw[hsl]at hin;have hL:ku g kf=(bD ((jY kf (bA g)).map (·.1))).map λn=>(dU n (jY kf (bA g))).getD []:=rfl;generalize hm:jY kf (bA g)=m at hin hL⊢;refine afj (aY:=ja) (E:=ae) (b:=bm) (m:=m) (λax hkeys=>?_);have hkl:ax.length=m.length:=by have:=congrArg List.length hkeys;simpa using this
  refine aZ (Di (aY:=ja) (b:=bm) (ax:=ax)) (h:=?_);refine aZ (afk (E:=ae) (ax:=ax) (m:=m) hkeys) (h:=?_);refine aZ (dH (b:=b5)) (h:=?_);refine go ?_;refine ak (aiA (bm:=bm) (ax:=ax)) (next:=λbk _=>?_);refine go ?_;refine ak (PZ (aiB (b:=bk) (bm:=bm) (ax:=ax)) (λxs h=>by have:=h.length_eq;rw[bJ]at this;omega)) (next:=λy hy=>?_);obtain⟨vk,ks⟩:=y;dsimp only[List.cons_append,List.nil_append]at hy⊢;have hks:bD ks=bD (m.map (·.1)):=af6 (by rw[<- hkeys];exact hy);rw[hks];have hkn:(bD (m.map (·.1))).length=m.length:=by rw[xS,bJ]
  have hmem:∀n∈bD (m.map (·.1)),n∈m.map (·.1):=λn h=>Dx.1 h;generalize hK:bD (m.map (·.1))=ns at hkn hL hmem⊢;refine aZ (jk (E:=ae) (v:=vk) (xs:=ns)) (h:=?_);refine bY (E:=ae) (v:=vk) (xs:=ns) (by simp) λa c e=>?_;subst e;refine go ?_;refine lY (aB ae) ?_;refine bQ (λy:Nat×Value=>ns.length - y.1) (λy=>[(36,.int .i64 (y.1:Int)),(4,y.2)]) (λy=>[ap (aB ae) y.2 ((ns.take y.1).map λn=>(dU n m).getD [])]) (λ_=>[]) (λy=>y.1<=ns.length) (0,.slice none 0 0) (dK _) (hk:=by repeat (first|exact aO.nil|(apply aO.cons;(focus (repeat (first|exact az.here|apply az.there)))))) (body:=?_);rintro⟨k,v4⟩ hk2;dsimp only at hk2⊢;refine go ?_;refine aJ rfl (λh1=>?_) (λh1=>?_)
  ·refine go ?_;intro _ _ n hn;obtain⟨v,hv⟩:=F3 (a:=n) (l:=ax) (by rw[hkeys];exact hmem n (aR hn));obtain⟨xs,hxs⟩:=F3 (a:=n) (l:=m) (hmem n (aR hn));have hlv:kU false (.slice none 0 0) n ax=v:=by unfold kU;rw[hv];rfl
   have htk:(ns.take (k+1)).map (λn=>(dU n m).getD [])=(ns.take k).map (λn=>(dU n m).getD [])++[xs]:=by
    rw[gZ hn,di,j5,hxs];rfl
   have hxl:((ns.take k).map (λn=>(dU n m).getD [])).length=k:=by rw[bJ,iL];omega
   refine fO (ah ae v xs) (λw hw=>hw (Vq ae ax m) (by simp) n v xs hv hxs) ?_;refine bY (E:=ae) (v:=v) (xs:=xs) (by simp) λa2 c2 e2=>?_;subst e2;refine go ?_;refine U5 (aY:=ja) (b:=bm) (ax:=ax) zX n ?_;rw[hlv];refine go ?_;intro b44;refine go ?_;refine jO (xs:=(ns.take k).map λn=>(dU n m).getD []) (aB ae) xs (.slice a2 xs.length c2) (by rw[hxl];omega) (next:=λad=>?_);rw[<- htk];refine go ?_;exact bi (k+1,.slice ad (((ns.take k).map λn=>(dU n m).getD []).length+1) (((ns.take k).map λn=>(dU n m).getD []).length+1)) (by show ns.length - (k+1)<ns.length - k;omega) (by show k+1<=_;omega)
  have hke:k=ns.length:=by omega
  subst hke;rw[eH,<- hL];refine go ?_;exact u7 v4 (hv:=rfl) (hp:=trivial)
abbrev Gj(fn:Fn)(first captured:List Value)(F1:List aD)(g:cO)(kf:Int×Int->Int×Bool):Prop:=
 ∀p∈bA g,aQ Tryz.prog fn (first++[Bl p.2]) captured [] F1 (λ_:Unit=>.tuple ⟨[.int .i64 (kf p.2).1,.bool (kf p.2).2]⟩) (λ_=>[]) (λ_=>[]) (λ_=>True)
theorem aiE{g:cO}:Gj (.func 262) [] [] [] g (λs=>(s.2,true)):=λp hp=>by
 refine aK _ (aM 262) λB w0=>?_;refine go ?_;intro b1;refine go ?_;exact aj () (hv:=rfl) (hp:=trivial)
theorem aiF{g:cO}:Gj (.func 263) [] [] [] g (λs=>(s.1,true)):=λp hp=>by
 refine aK _ (aM 263) λB w0=>?_;refine go ?_;intro b1;refine go ?_;exact aj () (hv:=rfl) (hp:=trivial)
theorem aiG{g:cO}(hg:ik g):Gj (.func 304) [] [] [] g (λs=>(s.1+s.2,true)):=λp hp=>by
 have hb:=J2 hg p hp;obtain⟨c,s1,s2⟩:=p;dsimp only at hb⊢;refine aK _ (aM 304) λB w0=>?_;refine go ?_;intro b1;refine go ?_;exact aj () (hv:=rfl) (hp:=trivial)
theorem aiH{g:cO}(hg:ik g):Gj (.func 305) [] [] [] g (λs=>(0,decide (s.1=s.2))):=λp hp=>by
 have hb:=J2 hg p hp;refine aK _ (aM 305) λB w0=>?_;refine go ?_;intro b1;refine go ?_;exact aj () (hv:=rfl) (hp:=trivial)
theorem aiI{g:cO}{vh vc:Value}{b:Nat}(hg:ik g):Gj (.func 306) [] [ptr' b] [bz b 0 (oV g vh vc)] g (λs=>(0,decide (s.1+s.2=g.w - 1))):=λp hp=>by
 have hb:=J2 hg p hp;obtain⟨c,s1,s2⟩:=p;dsimp only at hb⊢;have hw:=hg.make.wi;refine aK _ (aM 306) λB w0=>?_;refine go ?_;intro b1;refine go ?_;exact aj () (hv:=rfl) (hp:=trivial)
theorem aiJ{g:cO}{vh vc:Value}(hg:ik g):
 aQ Tryz.prog (.func 264) [.agg ⟨oV g vh vc⟩] [] [] (sG g vh vc) (λv:Value=>v) (λv=>[ap (aB ae) v (uo g)]) (λ_=>[]) (λ_=>True):=by
 refine aK _ (aM 264) λB w0=>?_;refine go ?_;intro b1;refine aZ (dH (b:=b1)) (h:=?_);refine go ?_;refine aJ rfl (λh1=>?_) (λh1=>?_)
 ·refine go ?_;refine ak (Gi (kf:=λs=>(s.1+s.2,true)) (vh:=vh) (vc:=vc) hg (aiG hg)) (next:=λv _=>?_);refine go ?_;exact aj v (hv:=rfl) (hp:=trivial) (hk:=by unfold uo;rw[if_pos h1];exact aO.all _)
 refine go ?_;refine aJ rfl (λh2=>?_) (λh2=>?_)
 ·refine go ?_;refine lY (aB ae) ?_;exact aj (.slice none 0 0) (hv:=rfl) (hp:=trivial) (hk:=by unfold uo;rw[if_neg h1,if_neg h2];exact aO.all _)
 have h2:g.w=g.h:=jo.1 h2;refine go ?_;refine ak (Gi (kf:=λs=>(0,decide (s.1=s.2))) (vh:=vh) (vc:=vc) hg (aiH hg)) (next:=λva _=>?_);refine go ?_;refine ak (Gi (kf:=λs=>(0,decide (s.1+s.2=g.w - 1))) (vh:=vh) (vc:=vc) hg (aiI (vh:=vh) (vc:=vc) (b:=b1) hg)) (next:=λvb _=>?_);have hA:=J5 hg (λs=>(0,decide (s.1=s.2)));have hB:=J5 hg (λs=>(0,decide (s.1+s.2=g.w - 1)));have hD:uo g=mG (ku g (λs=>(0,decide (s.1=s.2)))) (ku g (λs=>(0,decide (s.1+s.2=g.w - 1)))):=by unfold uo;rw[if_neg h1,if_pos h2]
 generalize ku g (λs=>(0,decide (s.1=s.2)))=la at hA hD⊢;generalize ku g (λs=>(0,decide (s.1+s.2=g.w - 1)))=lb at hB hD⊢;have hF:=OQ hA.2 hB.2;refine aZ (jk (E:=aB ae) (v:=vb) (xs:=lb)) (h:=?_);refine bY (E:=aB ae) (v:=vb) (xs:=lb) (by simp) λa c e=>?_;subst e;refine go ?_;refine bQ (λy:Nat×Value=>lb.length - y.1) (λy=>[(22,.int .i64 (y.1:Int)),(3,y.2)]) (λy=>[ap (aB ae) y.2 (mG la (lb.take y.1))]) (λ_=>[]) (λy=>y.1<=lb.length) (0,va) (dK _) (hk:=by repeat (first|exact aO.nil|(apply aO.cons;(focus (repeat (first|exact az.here|apply az.there)))))) (body:=?_);rintro⟨k,v3⟩ hk2;dsimp only at hk2⊢;have P5:=hF k;refine go ?_;refine aJ rfl (λh3=>?_) (λh3=>?_)
 ·refine go ?_;refine bZ (aB ae) (xs:=lb) (next:=λ_ _ ln (vl:Value) hl=>?_);have hs:=V6 (a:=la) hl;have hll:=hB.2 ln (aR hl);generalize mG la (lb.take k)=acc at P5 hs⊢;refine BD (E:=aB ae) (v:=v3) (xs:=acc) λa3 e3=>?_;subst e3;refine bY (E:=ae) (v:=vl) (xs:=ln) (by simp) λa4 c4 e4=>?_;subst e4;cases acc with
  |nil=>
   have hs2:mG la (lb.take (k+1))=[]++[ln]:=hs;refine go ?_;intro b39;refine go ?_;refine jO (xs:=([]:List (List Int))) (aB ae) ln (.slice a4 ln.length c4) (by simp) (next:=λad=>?_);rw[<- hs2];refine go ?_;exact bi (k+1,.slice ad (([]:List (List Int)).length+1) (([]:List (List Int)).length+1)) (by show lb.length - (k+1)<lb.length - k;omega) (by show k+1<=_;omega)
  |cons a0 acc=>
   have ha0:=P5.2 a0 (bR ..);refine go ?_;refine Vt ae 0 a0 rfl (next:=λ_ _ u=>?_);refine go ?_;refine ak (sF (xs:=a0) (ys:=ln) (by omega)) (next:=λ_ _=>?_);by_cases h4:a0=ln
   rotate_left
   ·rw[dM h4];have hs2:mG la (lb.take (k+1))=(a0::acc)++[ln]:=by rw[hs];unfold yf;rw[if_neg (show¬((a0::acc).head? =some ln)from λe=>h4 (Option.some.inj e))]
    refine go ?_;intro b39;refine go ?_;refine jO (xs:=a0::acc) (aB ae) ln (.slice a4 ln.length c4) (by have:=P5.1;omega) (next:=λad=>?_);rw[<- hs2];refine go ?_;exact bi (k+1,.slice ad ((a0::acc).length+1) ((a0::acc).length+1)) (by show lb.length - (k+1)<lb.length - k;omega) (by show k+1<=_;omega)
   ·rw[fQ h4];have hs2:mG la (lb.take (k+1))=a0::acc:=by rw[hs];unfold yf;rw[if_pos (by rw[h4];rfl)]
    rw[show ap (aB ae) (Value.slice a3 (a0::acc).length (a0::acc).length) (a0::acc)=ap (aB ae) (Value.slice a3 (a0::acc).length (a0::acc).length) (mG la (lb.take (k+1)))from congrArg _ hs2.symm];refine go ?_;exact bi (k+1,.slice a3 (a0::acc).length (a0::acc).length) (by show lb.length - (k+1)<lb.length - k;omega) (by show k+1<=_;omega)
 have hke:k=lb.length:=by omega
 subst hke;rw[eH,<- hD];refine go ?_;exact aj v3 (hv:=rfl) (hp:=trivial)
theorem aiL{c:Nat}:aQ Tryz.prog (.func 44) [.slice none 0 c] [] [] [] (λ_:Unit=>.slice none 0 0) (λ_=>[]) (λ_=>[]) (λ_=>True):=by
 refine aK KM PP λB w0=>?_;refine go ?_;refine(fF rfl rfl (Dk (e:=3) (by kernel_rfl) rfl)).h ?_;refine go ?_;exact aj () (hv:=rfl) (hp:=trivial)
theorem aiM{v:Value}{xs:List Int}(hl:xs.length<=4096):aQ Tryz.prog (.func 44) [v] [] [] [ah ae v xs,JJ v xs] (λv':Value=>v') (λv'=>[ap ae v' xs]) (λ_=>[]) (λ_=>True):=by
 intro B w s;by_cases hx:xs=[]
 ·have hv:v=.slice none 0 0:=s.facts (JJ v xs) (bU _ (bR ..)) hx;subst hx hv;refine .rU _ (aiL (c:=0) B w ⟨s.agree,s.le,s.fE,s.own,λf hf=>(by cases hf)⟩) ?_;rintro r pm h' ⟨hp,w',y,e1,st,e2,_⟩;obtain⟨S,q1,q2,q3⟩:=st.own;exact⟨hp,w',.slice none 0 0,e1,⟨st.agree,st.le,st.fE,⟨S,⟨[],S,.inl ⟨rfl,rfl,rfl⟩,q1,rfl⟩,q2,q3⟩,st.facts⟩,e2,trivial⟩
 ·obtain⟨ay,h1,h2⟩:=Va (s.facts (ah ae v xs) (bR ..));have hlen:ay.length=xs.length:=by rw[<- h1,bJ]
  refine .rU _ (XU (v:=v) (ay:=ay) (by omega) B w ⟨s.agree,s.le,s.fE,s.own,λf hf=>by rw[bO.1 hf];exact h2⟩) ?_;rintro r pm h' ⟨hp,w',y,e1,st,e2,_⟩;subst h1;exact⟨hp,w',y,e1,st.VB (by rw[hlen];exact BZ.2 hx) (λp hp f hf=>by cases hf),e2,trivial⟩
abbrev X0(g:cO)(k:Int)(y:PX):List aD:=[iT (y.e=0) (ah (aB ae) y.v (gN g k))]
theorem aiN{g:cO}{vh vc:Value}{k:Int}(hS:zW g):
 aQ Tryz.prog (.func 176) [.agg ⟨oV g vh vc⟩,.int .i64 k] [] [] (sG g vh vc) DW (λ_=>[]) (λy=>X0 g k y) (λy=>y.e=0↔ik g/\0<=k/\k<=7):=by
 refine aK _ (aM 176) λB w0=>?_;refine go ?_;intro b2;refine aZ (dH (b:=b2)) (h:=?_);refine go ?_;refine ak (XY (g:=g) (vh:=vh) (vc:=vc) hS) (next:=λy hy=>?_);obtain⟨vn,e⟩:=y;dsimp only at hy⊢;refine go ?_;refine aJ rfl (λh1=>?_) (λh1=>?_)
 ·refine go ?_;refine nZ (c:=e=0) (f:=ah (aB ae) (.slice none 0 0) (gN g k)) h1 ?_;exact aj ⟨.slice none 0 0,e⟩ (hv:=rfl) (hp:=⟨(λh=>absurd h h1),λh=>absurd (hy.2 h.1) h1⟩)
 have he:e=0:=jo.1 h1;subst he;have hg:=hy.1 rfl;have hgl:=hg.len;have hnl:=wH g;have hnm:=J6 (g:=g);refine fO (ah (uk ae) vn (fH g)) (λw hw=>hw (iT ((0:Int)=0) (ah (uk ae) vn (fH g))) (by simp) rfl) ?_;refine fO (ah (aB ae) vn (fH g)) (λw hw=>VA (hw (ah (uk ae) vn (fH g)) (by simp))) ?_;refine bY (E:=aB ae) (v:=vn) (xs:=fH g) (by simp) λan cn en=>?_;subst en;refine go ?_;refine aJ rfl (λhk=>?_) (λhk0=>?_)
 ·subst hk;have hf:gN g 0=lH g.cells.length:=by simp[gN]
  refine go ?_;refine lY (aB ae) ?_;refine bQ (λy:Nat×Value=>g.cells.length - y.1) (λy=>[(31,.int .i64 (y.1:Int)),(4,y.2)]) (λy=>[ap (aB ae) y.2 (lH y.1)]) (λ_=>[]) (λy=>y.1<=g.cells.length) (0,.slice none 0 0) (dK _) (hk:=by repeat (first|exact aO.nil|(apply aO.cons;(focus (repeat (first|exact az.here|apply az.there)))))) (body:=?_);rintro⟨i,v4⟩ hi;dsimp only at hi⊢;have hil:=OT i;refine go ?_;refine aJ rfl (λh2=>?_) (λh2=>?_)
  ·refine go ?_;intro KQ b37;refine aZ (A:=pt KQ (.cells [.int .i64 (i:Int)])) (fs:=[ah ae (.slice (some ⟨KQ,0,some 0⟩) 1 1) [(i:Int)]]) (uX (b:=KQ) (f:=0) (c:=1) (xs:=[(i:Int)])) (h:=?_);refine go ?_;refine jO (xs:=lH i) (aB ae) [(i:Int)] (.slice (some ⟨KQ,0,some 0⟩) 1 1) (by omega) (next:=λad=>?_);rw[<- agf];refine go ?_;exact bi (i+1,.slice ad ((lH i).length+1) ((lH i).length+1)) (by show g.cells.length - (i+1)<g.cells.length - i;omega) (by show i+1<=_;omega)
  have hie:i=g.cells.length:=by omega
  subst hie;refine aZ (jk (E:=aB ae) (v:=v4) (xs:=lH g.cells.length)) (h:=?_);refine go ?_;refine qy (c:=(0:Int)=0) (f:=ah (aB ae) v4 (gN g 0)) (by rw[hf];simp) ?_;exact aj ⟨v4,0⟩ (hv:=rfl) (hp:=⟨λ_=>⟨hg,by omega,by omega⟩,λ_=>rfl⟩)
 refine go ?_;refine aJ rfl (λhk=>?_) (λhk1=>?_)
 ·subst hk;have hf:gN g 1=ku g (λs=>(s.2,true)):=by simp[gN]
  refine go ?_;refine ak (Gi (kf:=λs=>(s.2,true)) (vh:=vh) (vc:=vc) hg aiE) (next:=λv4 _=>?_);refine aZ (jk (E:=aB ae) (v:=v4) (xs:=ku g (λs=>(s.2,true)))) (h:=?_);refine go ?_;refine qy (c:=(0:Int)=0) (f:=ah (aB ae) v4 (gN g 1)) (by rw[hf];simp) ?_;exact aj ⟨v4,0⟩ (hv:=rfl) (hp:=⟨λ_=>⟨hg,by omega,by omega⟩,λ_=>rfl⟩)
 refine go ?_;refine aJ rfl (λhk=>?_) (λhk2=>?_)
 ·subst hk;have hf:gN g 2=ku g (λs=>(s.1,true)):=by simp[gN]
  refine go ?_;refine ak (Gi (kf:=λs=>(s.1,true)) (vh:=vh) (vc:=vc) hg aiF) (next:=λv4 _=>?_);refine aZ (jk (E:=aB ae) (v:=v4) (xs:=ku g (λs=>(s.1,true)))) (h:=?_);refine go ?_;refine qy (c:=(0:Int)=0) (f:=ah (aB ae) v4 (gN g 2)) (by rw[hf];simp) ?_;exact aj ⟨v4,0⟩ (hv:=rfl) (hp:=⟨λ_=>⟨hg,by omega,by omega⟩,λ_=>rfl⟩)
 refine go ?_;refine aJ rfl (λhk=>?_) (λhk3=>?_)
 ·subst hk;have hf:gN g 3=uo g:=by simp[gN]
  refine go ?_;refine ak (aiJ (vh:=vh) (vc:=vc) hg) (next:=λv4 _=>?_);refine aZ (jk (E:=aB ae) (v:=v4) (xs:=uo g)) (h:=?_);refine go ?_;refine qy (c:=(0:Int)=0) (f:=ah (aB ae) v4 (gN g 3)) (by rw[hf];simp) ?_;exact aj ⟨v4,0⟩ (hv:=rfl) (hp:=⟨λ_=>⟨hg,by omega,by omega⟩,λ_=>rfl⟩)
 refine go ?_;refine aJ rfl (λhk=>?_) (λhk4=>?_)
 ·subst hk;have hf:gN g 4=fH g:=by simp[gN]
  refine go ?_;refine qy (c:=(0:Int)=0) (f:=ah (aB ae) (.slice an (fH g).length cn) (gN g 4)) (by rw[hf];simp) ?_;exact aj ⟨.slice an (fH g).length cn,0⟩ (hv:=rfl) (hp:=⟨λ_=>⟨hg,by omega,by omega⟩,λ_=>rfl⟩)
 refine go ?_;refine aJ rfl (λhk=>?_) (λhk5=>?_)
 ·subst hk;have hf:gN g 5=pJ (fH g):=by simp[gN]
  generalize fH g=aA at hnl hnm hf⊢;refine go ?_;refine lY (aB ae) ?_;refine bQ (λy:Nat×Value=>aA.length - y.1) (λy=>[(59,.int .i64 (y.1:Int)),(4,y.2)]) (λy=>[ap (aB ae) y.2 (pJ (aA.take y.1))]) (λ_=>[]) (λy=>y.1<=aA.length) (0,.slice none 0 0) (dK _) (hk:=by repeat (first|exact aO.nil|(apply aO.cons;(focus (repeat (first|exact az.here|apply az.there)))))) (body:=?_);rintro⟨i,v4⟩ hi;dsimp only at hi⊢;have hil:(pJ (aA.take i)).length=i:=by rw[V7,iL];omega
  refine go ?_;refine aJ rfl (λh2=>?_) (λh2=>?_)
  ·refine go ?_;refine bZ (uk ae) (xs:=aA) (next:=λ_ _ ln (vl:Value) hl=>?_);have hll:=hnm ln (aR hl);refine go ?_;refine ak (aiM (v:=vl) (xs:=ln) (by omega)) (next:=λP6 _=>?_);refine go ?_;intro b67;refine go ?_;refine jO (xs:=ln) ae (i:Int) () (by omega) (next:=λad=>?_);refine go ?_;have hl1:ln.length+1=(ln++[(i:Int)]).length:=by simp
   rw[hl1];refine ak (Gg (a:=ad) (zs:=ln++[(i:Int)]) rfl (by simp;omega)) (next:=λ_ _=>?_);have hz0:bD (ln++[(i:Int)])≠[]:=λe=>by have:=xS (ln++[(i:Int)]);rw[e]at this;simp at this
   have hfs:=agh hl;generalize hzz:bD (ln++[(i:Int)])=zs at hfs⊢;refine aZ (jk (E:=ae) (v:=.slice ad (ln++[(i:Int)]).length (ln++[(i:Int)]).length) (xs:=zs)) (h:=?_);refine go ?_;intro b73;refine go ?_;refine jO (xs:=pJ (aA.take i)) (aB ae) zs (.slice ad (ln++[(i:Int)]).length (ln++[(i:Int)]).length) (by omega) (next:=λP7=>?_);rw[<- hfs];refine go ?_;exact bi (i+1,.slice P7 ((pJ (aA.take i)).length+1) ((pJ (aA.take i)).length+1)) (by show aA.length - (i+1)<aA.length - i;omega) (by show i+1<=_;omega)
  have hie:i=aA.length:=by omega
  subst hie;rw[eH];refine aZ (jk (E:=aB ae) (v:=v4) (xs:=pJ aA)) (h:=?_);refine go ?_;refine qy (c:=(0:Int)=0) (f:=ah (aB ae) v4 (gN g 5)) (by rw[hf];simp) ?_;exact aj ⟨v4,0⟩ (hv:=rfl) (hp:=⟨λ_=>⟨hg,by omega,by omega⟩,λ_=>rfl⟩)
 refine go ?_;refine aJ rfl (λhk=>?_) (λhk6=>?_)
 ·subst hk;have hf:gN g 6=kF (fH g):=by simp[gN]
  generalize fH g=aA at hnl hnm hf⊢;have h6:=OV hnm;refine go ?_;refine lY (aB ae) ?_;refine bQ (λy:Nat×Value=>aA.length - y.1) (λy=>[(80,.int .i64 (y.1:Int)),(4,y.2)]) (λy=>[ap (aB ae) y.2 (kF (aA.take y.1))]) (λ_=>[]) (λy=>y.1<=aA.length) (0,.slice none 0 0) (dK _) (hk:=by repeat (first|exact aO.nil|(apply aO.cons;(focus (repeat (first|exact az.here|apply az.there)))))) (body:=?_);rintro⟨i,v4⟩ hi;dsimp only at hi⊢;have hil:=h6 i hi;refine go ?_;refine aJ rfl (λh2=>?_) (λh2=>?_)
  ·refine go ?_;refine bZ (aB ae) (xs:=aA) (next:=λ_ _ ln (vl:Value) hl=>?_);have hll:=hnm ln (aR hl);have hfs:=V9 hl;refine bY (E:=ae) (v:=vl) (xs:=ln) (by simp) λa4 c4 e4=>?_;subst e4;refine go ?_;refine bQ (λy:Nat×Value=>ln.length - y.1) (λy=>[(87,.int .i64 (y.1:Int)),(4,y.2)]) (λy=>[ap (aB ae) y.2 (kF (aA.take i)++mH i (ln.take y.1))]) (λ_=>[]) (λy=>y.1<=ln.length) (0,v4) (dK _) (hk:=by rw[show kF (aA.take i)++mH i (ln.take 0)=kF (aA.take i)from iK _];repeat (first|exact aO.nil|(apply aO.cons;(focus (repeat (first|exact az.here|apply az.there)))))) (body:=?_);rintro⟨j,v5⟩ hj;dsimp only at hj⊢;have hpl:=V8 i (ln.take j);rw[iL]at hpl;have hal:(kF (aA.take i)++mH i (ln.take j)).length<=2000:=by rw[gP];omega
   refine go ?_;refine aJ rfl (λh3=>?_) (λh3=>?_)
   ·refine go ?_;intro _ _ x hx;have hps:=agi (i:=i) hx;refine go ?_;refine aJ rfl (λh4=>?_) (λh4=>?_)
    ·have P8:kF (aA.take i)++mH i (ln.take (j+1))=(kF (aA.take i)++mH i (ln.take j))++[[(i:Int),x]]:=by rw[hps,if_pos (by omega),ed]
     refine go ?_;intro KS b98;refine aZ (A:=pt KS (.cells [.int .i64 (i:Int),.int .i64 x])) (fs:=[ah ae (.slice (some ⟨KS,0,some 0⟩) 2 2) [(i:Int),x]]) (uX (b:=KS) (f:=0) (c:=2) (xs:=[(i:Int),x])) (h:=?_);refine go ?_;refine jO (xs:=kF (aA.take i)++mH i (ln.take j)) (aB ae) [(i:Int),x] (.slice (some ⟨KS,0,some 0⟩) 2 2) (by omega) (next:=λP7=>?_);rw[<- P8];refine go ?_;exact bi (j+1,.slice P7 ((kF (aA.take i)++mH i (ln.take j)).length+1) ((kF (aA.take i)++mH i (ln.take j)).length+1)) (by show ln.length - (j+1)<ln.length - j;omega) (by show j+1<=_;omega)
    ·have P8:kF (aA.take i)++mH i (ln.take (j+1))=kF (aA.take i)++mH i (ln.take j):=by rw[hps,if_neg (by omega),iK]
     rw[<- P8];refine go ?_;exact bi (j+1,v5) (by show ln.length - (j+1)<ln.length - j;omega) (by show j+1<=_;omega)
   have iM:j=ln.length:=by omega
   subst iM;rw[eH,<- hfs];refine go ?_;exact bi (i+1,v5) (by show aA.length - (i+1)<aA.length - i;omega) (by show i+1<=_;omega)
  have hie:i=aA.length:=by omega
  subst hie;rw[eH];refine aZ (jk (E:=aB ae) (v:=v4) (xs:=kF aA)) (h:=?_);refine go ?_;refine qy (c:=(0:Int)=0) (f:=ah (aB ae) v4 (gN g 6)) (by rw[hf];simp) ?_;exact aj ⟨v4,0⟩ (hv:=rfl) (hp:=⟨λ_=>⟨hg,by omega,by omega⟩,λ_=>rfl⟩)
 refine go ?_;refine aJ rfl (λhk=>?_) (λhk7=>?_)
 ·subst hk;have hf:gN g 7=[upTo' g.cells.length]:=by simp[gN]
  refine go ?_;refine lY ae ?_;refine bQ (λy:Nat×Value=>g.cells.length - y.1) (λy=>[(107,.int .i64 (y.1:Int)),(15,y.2)]) (λy=>[ap ae y.2 (upTo' y.1)]) (λ_=>[]) (λy=>y.1<=g.cells.length) (0,.slice none 0 0) (dK _) (hk:=by repeat (first|exact aO.nil|(apply aO.cons;(focus (repeat (first|exact az.here|apply az.there)))))) (body:=?_);rintro⟨i,v15⟩ hi;dsimp only at hi⊢;have hil:=wI i;refine go ?_;refine aJ rfl (λh2=>?_) (λh2=>?_)
  ·refine go ?_;intro ank;refine go ?_;refine jO (xs:=upTo' i) ae (i:Int) () (by omega) (next:=λad=>?_);rw[<- OU];refine go ?_;exact bi (i+1,.slice ad ((upTo' i).length+1) ((upTo' i).length+1)) (by show g.cells.length - (i+1)<g.cells.length - i;omega) (by show i+1<=_;omega)
  have hie:i=g.cells.length:=by omega
  subst hie;refine aZ (jk (E:=ae) (v:=v15) (xs:=upTo' g.cells.length)) (h:=?_);refine bY (E:=ae) (v:=v15) (xs:=upTo' g.cells.length) (by simp) λa4 c4 e4=>?_;subst e4;refine go ?_;intro KT;refine aZ (dH (b:=KT)) (h:=?_);refine fO (ah (aB ae) (KP KT 1) [upTo' g.cells.length]) (λw hw=>NV (v:=.slice a4 (upTo' g.cells.length).length c4) (hw _ (by simp)) (hw _ (by simp))) ?_;refine go ?_;refine qy (c:=(0:Int)=0) (f:=ah (aB ae) (KP KT 1) (gN g 7)) (by rw[hf];simp) ?_;exact aj ⟨KP KT 1,0⟩ (hv:=rfl) (hp:=⟨λ_=>⟨hg,by omega,by omega⟩,λ_=>rfl⟩)
 refine go ?_;refine nZ (c:=(1:Int)=0) (f:=ah (aB ae) (.slice none 0 0) (gN g k)) (by omega) ?_;exact aj ⟨.slice none 0 0,1⟩ (hv:=rfl) (hp:=⟨(λh=>by cases h),(λh=>by exfalso;obtain⟨_,q1,q2⟩:=h;omega)⟩)
abbrev X3(g:cO)(rs:List (List Int))(y:PX):List aD:=[iT (y.e=0) (ah (aB ae) y.v (iE g rs))]
theorem X4{g:cO}{vh vc vr:Value}{rs:List (List Int)}(hS:zW g)(hrl:rs.length<9223372036854775808)(hrs:∀ps∈rs,ps.length<9223372036854775808):
 aQ Tryz.prog (.func 177) [.agg ⟨oV g vh vc⟩,vr] [] [] (ah (aB ae) vr rs::sG g vh vc) DW (λ_=>[]) (λy=>X3 g rs y) (λy=>y.e=0↔ik g/\yj g rs):=by
 refine aK _ (aM 177) λB w0=>?_;refine bY (E:=aB ae) (v:=vr) (xs:=rs) (by simp) λar cr er=>?_;subst er;refine go ?_;intro b2;refine aZ (dH (b:=b2)) (h:=?_);refine go ?_;refine ak (XV (g:=g) hS) (next:=λe he=>?_);refine go ?_;refine gG (λh1=>?_) (λh1=>?_)
 rotate_left
 ·refine go ?_;refine nZ (c:=(130:Int)=0) (f:=ah (aB ae) (.slice none 0 0) (iE g rs)) (by omega) ?_;exact aj ⟨.slice none 0 0,130⟩ (hv:=rfl) (hp:=⟨(λh=>by cases h),λh=>absurd (he.2 h.1) h1⟩)
 have hg:=he.1 (by omega);have hgl:=hg.len;have qW:g.cells.Pairwise (·<·):=by rw[hg.cells];exact OL _ _
 refine go ?_;refine aJ rfl (λh2=>?_) (λh2=>?_)
 ·refine go ?_;refine nZ (c:=(130:Int)=0) (f:=ah (aB ae) (.slice none 0 0) (iE g rs)) (by omega) ?_;exact aj ⟨.slice none 0 0,130⟩ (hv:=rfl) (hp:=⟨(λh=>by cases h),λh=>by exfalso;have:=h.2.len;omega⟩)
 refine go ?_;refine lY (aB ae) ?_;refine bQ (λy:Nat×Value=>rs.length - y.1) (λy=>[(24,.int .i64 (y.1:Int)),(4,y.2)]) (λy=>[ap (aB ae) y.2 (iE g (rs.take y.1))]) (λ_=>[]) (λy=>y.1<=rs.length/\∀ps∈rs.take y.1,J7 g ps) (0,.slice none 0 0) ⟨dK _,λps h=>by cases h⟩ (hk:=by repeat (first|exact aO.nil|(apply aO.cons;(focus (repeat (first|exact az.here|apply az.there)))))) (body:=?_);rintro⟨k,v4⟩ ⟨hk,hall⟩;dsimp only at hk hall⊢;have hkl:(iE g (rs.take k)).length=k:=by unfold iE;rw[bJ,iL];omega
 refine go ?_;refine aJ rfl (λh3=>?_) (λh3=>?_)
 ·refine go ?_;refine bZ (aB ae) (xs:=rs) (next:=λ_ _ ps (vp:Value) hps=>?_);have hpm:=aR hps;have hpl:=hrs ps hpm;have htk:=gZ hps;refine bY (E:=ae) (v:=vp) (xs:=ps) (by simp) λa4 c4 e4=>?_;subst e4;refine go ?_;refine zJ ja (λbm=>?_);refine go ?_;refine lY ae ?_;refine bQ (λy:Nat×Value=>ps.length - y.1) (λy=>[(31,.int .i64 (y.1:Int)),(8,y.2)]) (λy=>[ap ae y.2 (iP g (ps.take y.1)),gL ja bm (zQ (iP g (ps.take y.1)))]) (λ_=>[]) (λy=>y.1<=ps.length/\(∀p∈ps.take y.1,p∈g.cells)/\(iP g (ps.take y.1)).Nodup) (0,.slice none 0 0) ⟨dK _,(λp h=>by cases h),yU⟩ (hk:=by repeat (first|exact aO.nil|(apply aO.cons;(focus (repeat (first|exact az.here|apply az.there)))))) (body:=?_);rintro⟨j,v8⟩ ⟨hj,hmem,hnd⟩;dsimp only at hj hmem hnd⊢;have hjl:(iP g (ps.take j)).length=j:=by unfold iP;rw[bJ,iL];omega
  have hj2:j<=256:=by have:=OY hmem hnd;rw[iL]at this;omega
  refine go ?_;refine aJ rfl (λh4=>?_) (λh4=>?_)
  ·refine go ?_;intro _ _ x hx;have htx:=gZ hx;refine go ?_;refine ak (XT (xs:=g.cells) (z:=x) (by omega) (qW.imp λh=>Int.le_of_lt h)) (next:=λy hy=>?_);have hym:=hy.mem qW;obtain⟨c,ok⟩:=y;dsimp only at hym⊢;cases ok with
   |false=>
    refine go ?_;refine nZ (c:=(130:Int)=0) (f:=ah (aB ae) (.slice none 0 0) (iE g rs)) (by omega) ?_;exact aj ⟨.slice none 0 0,130⟩ (hv:=rfl) (hp:=⟨(λh=>by cases h),λh=>by
     have:=hym.2 ((h.2.all ps hpm).mem x (aR hx));cases this⟩)
   |true=>
    have hxm:=hym.1 rfl;have DV:g.cells[c]? =some x:=hy.2.2.2.1 rfl;have hpos:=OW qW DV;have hr1:iP g (ps.take (j+1))=iP g (ps.take j)++[(c:Int)]:=by unfold iP;rw[htx,di,j5,hpos]
    refine go ?_;refine FO (aY:=ja) (b:=bm) (ax:=zQ (iP g (ps.take j))) zX (c:Int) ?_;rw[agk];refine go ?_;refine aJ rfl (λh5=>?_) (λh5=>?_)
    ·refine go ?_;refine nZ (c:=(130:Int)=0) (f:=ah (aB ae) (.slice none 0 0) (iE g rs)) (by omega) ?_;exact aj ⟨.slice none 0 0,130⟩ (hv:=rfl) (hp:=⟨(λh=>by cases h),λh=>by
      exfalso
      have h6:(iP g ps).Nodup:=(h.2.all ps hpm).nd;have h7:(iP g (ps.take (j+1))).Nodup:=by
       refine h6.sublist ?_;unfold iP;exact(LZ _ _).map _
      rw[hr1,iN]at h7;exact h7.2.2 _ h5 _ (bO.2 rfl) rfl⟩)
    ·refine go ?_;refine xR (aY:=ja) (b:=bm) (v:=.bool true) (ax:=zQ (iP g (ps.take j))) zX (c:Int) ?_;rw[<- We,<- hr1];refine go ?_;intro b53;refine go ?_;refine jO (xs:=iP g (ps.take j)) ae (c:Int) () (by omega) (next:=λad=>?_);rw[<- hr1];refine go ?_;refine bi (j+1,.slice ad ((iP g (ps.take j)).length+1) ((iP g (ps.take j)).length+1)) (by show ps.length - (j+1)<ps.length - j;omega) ⟨by show j+1<=_;omega,?_,?_⟩
     ·show∀p∈ps.take (j+1),p∈g.cells;rw[htx];intro p hp;rcases gH.1 hp with hp|hp
      ·exact hmem p hp
      ·rw[bO.1 hp];exact hxm
     ·show(iP g (ps.take (j+1))).Nodup;rw[hr1,iN];exact⟨hnd,by simp,λa ha b hb e=>h5 (by rw[bO.1 hb]at e;rw[<- e];exact ha)⟩
  have iM:j=ps.length:=by omega
  subst iM;rw[eH]at hmem hnd⊢;have hrl2:(iP g ps).length=ps.length:=by unfold iP;rw[bJ]
  refine BD (E:=ae) (v:=v8) (xs:=iP g ps) λa8 e8=>?_;subst e8;refine go ?_;refine aJ rfl (λh5=>?_) (λh5=>?_)
  ·refine go ?_;refine nZ (c:=(130:Int)=0) (f:=ah (aB ae) (.slice none 0 0) (iE g rs)) (by omega) ?_;exact aj ⟨.slice none 0 0,130⟩ (hv:=rfl) (hp:=⟨(λh=>by cases h),λh=>by
    exfalso
    exact(h.2.all ps hpm).ne (lQ.1 (by omega))⟩)
  have hR:J7 g ps:=⟨λe=>h5 (by rw[hrl2,e];rfl),hmem,hnd⟩
  have hrr:iE g (rs.take (k+1))=iE g (rs.take k)++[iP g ps]:=by unfold iE;rw[htk,di,j5]
  refine aZ (jk (E:=ae) (v:=.slice a8 (iP g ps).length (iP g ps).length) (xs:=iP g ps)) (h:=?_);refine go ?_;intro b61;refine go ?_;refine jO (xs:=iE g (rs.take k)) (aB ae) (iP g ps) (.slice a8 (iP g ps).length (iP g ps).length) (by omega) (next:=λad=>?_);rw[<- hrr];refine go ?_;refine bi (k+1,.slice ad ((iE g (rs.take k)).length+1) ((iE g (rs.take k)).length+1)) (by show rs.length - (k+1)<rs.length - k;omega) ⟨by show k+1<=_;omega,?_⟩;show∀qs∈rs.take (k+1),J7 g qs;rw[htk];intro qs hq;rcases gH.1 hq with hq|hq
  ·exact hall qs hq
  ·rw[bO.1 hq];exact hR
 have hke:k=rs.length:=by omega
 subst hke;rw[eH]at hall⊢;refine aZ (jk (E:=aB ae) (v:=v4) (xs:=iE g rs)) (h:=?_);refine go ?_;refine qy (c:=(0:Int)=0) (f:=ah (aB ae) v4 (iE g rs)) (by simp) ?_;exact aj ⟨v4,0⟩ (hv:=rfl) (hp:=⟨λ_=>⟨hg,by omega,hall⟩,λ_=>rfl⟩)
