/-
  Lines of a grid: cells gathered by a number.
-/
import Derived.Test.YtoohgkkmdnbnfaaGreatDoorLibCA
set_option linter.all false
set_option maxRecDepth 10000
set_option maxHeartbeats 4000000
namespace Go.Proofs.YtoohgkkmdnbnfaaGreatDoor
open Go.Ideal Kd
abbrev jG(n:Int):Value:=.int .i64 n
theorem yH:qJ Tryz.prog 3 jG:=abt (by kernel_rfl)
theorem ae7{bm:Nat}{ai:List (Int×Value)}:bi Tryz.prog (.func 265) [.map (some bm)] [] [] [rR jG bm ai] (λb:Nat=>.func (.func 301) #[] #[ptr' b]) (λ_=>[]) (λb=>[eG b 0 [.map (some bm)],rR jG bm ai]) (λ_=>True):=by
 refine aK _ (aP 265) λB w0=>?_;refine go ?_;intro b1;refine go ?_;refine bD (eO (b:=b1)) (h:=?_);exact ae b1 (hv:=rfl) (hp:=trivial)
theorem ae8{b bm:Nat}{ai:List (Int×Value)}:rT Tryz.prog (λx:Int=>[jG x]) (.func 301) [] [ptr' b] [eG b 0 [.map (some bm)],rR jG bm ai] (λxs=>xs.Perm (ai.map (·.1))):=by
 intro S inv ok step s0 uH y1 y2 F' h0 hok hy;rw[dD,dD,bX];refine aK _ (aP 301) λB w0=>?_;refine go ?_;refine RO (b:=bm) (ai:=ai) (aX:=jG) (next:=λr=>?_);refine go ?_;refine aZ (λy:List (Int×Value)×S=>ai.length - y.1.length) (λy=>[]) (λy=>zR jG r bm ai y.1::inv y.2) (λ_=>[]) (λy=>ok (y.1.map (·.1)) y.2/\(∃rest,(y.1++rest).Perm ai)/\∀rest,gT step s0 (y.1.map (·.1)++rest)=gT step y.2 rest) ([],s0) ⟨h0,⟨ai,.refl _⟩,λ_=>rfl⟩ (body:=?_);rintro⟨fI,s⟩ ⟨hos,_,hrun⟩;dsimp only at hos hrun⊢;refine go ?_;refine RP (b:=bm) (ai:=ai) (fI:=fI) (aX:=jG) (more:=λp rem hp=>?_) (done:=λhp=>?_) acI
 ·have hX:(fI.map (·.1)++p.1::rem.map (·.1)).Perm (ai.map (·.1)):=by
   have:=hp.map (·.1);rw[dW,gQ]at this;exact this
  have hlen:=hp.length_eq;rw[fA,nK]at hlen;have nX:=hy _ s _ _ hos hX;refine go ?_;refine RQ (aX:=jG) (ai:=ai) (fI:=fI) (p:=p) ?_;refine go ?_;refine ax nX (next:=λ_ _=>?_);cases hst:(step s p.1).2 with
  |true=>
   have hs1:step s p.1=((step s p.1).1,true):=Prod.ext rfl hst;refine go ?_;refine aQ (fI++[p],(step s p.1).1) (by show ai.length - (fI++[p]).length<_;rw[fA,uY];omega) ⟨?_,⟨rem,by show((fI++[p])++rem).Perm ai;rw[fE];exact hp⟩,λrest=>?_⟩
   ·show ok ((fI++[p]).map (·.1)) _;rw[dW];exact hok _ s _ _ hos hX hst
   ·show gT step s0 ((fI++[p]).map (·.1)++rest)=_;rw[dW,fE,hrun];show gT step s (p.1::rest)=_;rw[gT,hs1]
  |false=>
   have hs1:step s p.1=((step s p.1).1,false):=Prod.ext rfl hst;have hr:=hrun (p.1::rem.map (·.1));rw[gT,hs1]at hr;dsimp only at hr;refine go ?_;exact ae (fI.map (·.1)++p.1::rem.map (·.1)) (hv:=rfl) (hp:=hX) (hk:=by rw[hr];exact aI.self _ _)
 ·refine go ?_;have hr:=hrun [];rw[gy]at hr;exact ae (fI.map (·.1)) (hv:=rfl) (hp:=hp.map (·.1)) (hk:=by rw[hr];apply aI.there;exact aI.all _)
structure Ns where
 v:Value
 xs:List Int
theorem ae9{fn:Fn}{first captured:List Value}{F1:List aH}{X:List Int->Prop}(hit:rT Tryz.prog (λx:Int=>[jG x]) fn first captured F1 X)(hl:∀xs,X xs->xs.length<=1000000):
 bi Tryz.prog (.func 312) [.slice none 0 0,.func fn ⟨first⟩ ⟨captured⟩] [] [] F1 (λy:Ns=>y.v) (λy=>[ap aa y.v y.xs]) (λ_=>[]) (λy=>X y.xs):=by
 refine EU T9 adH λB w0=>?_;refine go ?_;intro b2;refine gI aa ?_;refine uF (λv:Value=>[pt b2 (.cells [v]),ap aa v ([]:List Int)]) (.slice none 0 0) (h:=?_);refine E9 (Z:=Nat) (λ(ys:List Int) (x:Int)=>(ys++[x],Out.normal)) (λys=>[adK aa b2 ys]) (λvs ys=>ys=vs) [] _ (λ_ _=>[]) rfl (λvs s x rest hs hX _=>by rw[hs]) hit (by intro s x lo o B w0;refine go ?_;have z0:Nat:=0;exact zT z0 rfl) ?_ ?_ (λ_ _=>trivial)
 ·intro vs s x rest z lo L B w0 hs hx;subst hs;dsimp only[List.cons_append,List.nil_append];have hlen:s.length<=1000000:=by have:=hl _ hx;rw[fA,nK]at this;omega
  refine x8 (h:=λv=>?_);refine go ?_;intro b10;refine fC (xs:=s) aa x () (by omega) (next:=λad=>?_);refine go ?_;refine uF (λv:Value=>[pt b2 (.cells [v]),ap aa v (s++[x])]) _ (h:=?_);exact uG () rfl trivial trivial
 ·intro r xs hX;have hrun:∀(ys zs:List Int),jr (λ(ys:List Int) (x:Int)=>(ys++[x],Out.normal)) ys zs=(ys++zs,.normal):=by
   intro ys zs;induction zs generalizing ys with
   |nil=>simp[jr]
   |cons z zs ih=>rw[jr];simp only[ih];simp
  rw[hrun,bX];dsimp only[List.cons_append,List.nil_append];refine x8 (h:=λv=>?_);refine go ?_;exact BM ⟨v,xs⟩ (hv:=rfl) (hp:=hX)
theorem afa{fn:Fn}{first captured:List Value}{F1:List aH}{X:List Int->Prop}(hit:rT Tryz.prog (λx:Int=>[jG x]) fn first captured F1 X)(hl:∀xs,X xs->xs.length<=1000000):
 bi Tryz.prog (.func 289) [.func fn ⟨first⟩ ⟨captured⟩] [] [] F1 (λy:Ns=>y.v) (λy=>[ap aa y.v y.xs]) (λ_=>[]) (λy=>X y.xs):=by
 refine aK Ua adI λB w0=>?_;refine go ?_;refine ax (ae9 hit hl) (next:=λy hy=>?_);dsimp only[List.cons_append,List.nil_append];refine go ?_;exact ae y (hv:=rfl) (hp:=hy)
theorem UQ{fn:Fn}{first captured:List Value}{F1:List aH}{X:List Int->Prop}(hit:rT Tryz.prog (λx:Int=>[jG x]) fn first captured F1 X)(hl:∀xs,X xs->xs.length<=1000000):
 bi Tryz.prog (.func 254) [.func fn ⟨first⟩ ⟨captured⟩] [] [] F1 (λy:Ns=>y.v) (λy=>[ap aa y.v (di y.xs)]) (λ_=>[]) (λy=>X y.xs):=by
 refine aK _ (aP 254) λB w0=>?_;refine go ?_;refine ax (afa hit hl) (next:=λy hy=>?_);obtain⟨v,xs⟩:=y;dsimp only[List.cons_append,List.nil_append]at hy⊢;have hlen:=hl _ hy;refine o9 (E:=aa) (v:=v) (xs:=xs) λa hv=>?_;subst hv;refine go ?_;refine ax (Nc (a:=a) (zs:=xs) rfl (by omega)) (next:=λ_ _=>?_);refine go ?_;exact ae ⟨.slice a xs.length xs.length,xs⟩ (hv:=rfl) (hp:=hy)
theorem FP{g:bA}{vh vc:Value}{fn:Fn}{first captured:List Value}{F1:List aH}{kf:Int×Int->Int×Bool}(hg:fq g)
 (hk:∀p∈bB g,bi Tryz.prog fn (first++[zV p.2]) captured [] F1 (λ_:Unit=>.tuple ⟨[.int .i64 (kf p.2).1,.bool (kf p.2).2]⟩) (λ_=>[]) (λ_=>[]) (λ_=>True)):
 bi Tryz.prog (.func 233) [.agg ⟨iM g vh vc⟩,.func fn ⟨first⟩ ⟨captured⟩] [] [] (ah aa vh g.holes::ah aa vc g.cells::F1) (λv:Value=>v) (λv=>[ap (aj aa) v (iJ g kf)]) (λ_=>[]) (λ_=>True):=by
 have hgl:=hg.len;have hsl:=oC g;refine EU _ (aP 233) λB w0=>?_;refine go ?_;intro b2 b3;refine go ?_;refine ym jG (λbm=>?_);refine go ?_;intro b5;refine abR aa (b:=bm) (aX:=jG) ?_;refine go ?_;refine ax (Nf (g:=g) (vh:=vh) (vc:=vc)) (next:=λbs _=>?_);refine go ?_;refine E9 (Z:=Nat) (λ(m:List (Int×List Int)) (x:Int×(Int×Int))=>(uK kf m x,.normal)) (λm=>[Ff jG aa bm m,pt b5 (.cells [.map (some bm)]),pt b3 (.cells [.func fn ⟨first⟩ ⟨captured⟩])]) (λvs m=>m=iZ kf vs) [] _ (λx b8=>[pt b8 (.cells [.int .i64 x.2.1,.int .i64 x.2.2])]) rfl (λvs s x rest hs _ _=>by rw[hs,Fp]) (Na (b1:=bs) (vh:=vh) (vc:=vc) hg) (by intro s x lo o B w0;refine go ?_;intro b8;refine go ?_;exact zT b8 rfl) ?_ ?_ (λ_ _=>trivial)
 ·intro vs s x rest b8 lo L B w0 hs hX;dsimp only[List.cons_append,List.nil_append];obtain⟨hc,hvl,hxm⟩:=Iz hX;have hkx:=hk x hxm;have hin:=IA kf vs.length vs rfl;rw[<- hs]at hin;have hst:uK kf s x=cond (kf x.2).2 (upd (kf x.2).1 ((dJ (kf x.2).1 s).getD []++[x.1]) s) s:=rfl;rw[hst];obtain⟨c,s1,s2⟩:=x;dsimp only at hc hkx hst⊢;subst hc;rcases hq:kf (s1,s2)with⟨kn,kb⟩
  rw[hq]at hkx;dsimp only at hkx⊢;refine go ?_;refine ax hkx (next:=λ_ _=>?_);cases kb with
  |false=>
   dsimp only[cond];refine go ?_;exact uG () rfl trivial trivial
  |true=>
   dsimp only[cond];have hln:=hin.2 kn;refine go ?_;refine abS (aX:=jG) (E:=aa) (b:=bm) (m:=s) kn (h:=λai v hkeys hv=>?_);refine EZ (b:=bm) (ai:=ai) yH kn ?_;rw[hv];refine go ?_;intro b30;refine go ?_;refine Sg (xs:=(dJ kn s).getD []) aa (vs.length:Int) () (by omega) (next:=λad=>?_);refine go ?_;refine vZ (b:=bm) (v:=.slice ad (((dJ kn s).getD []).length+1) (((dJ kn s).getD []).length+1)) (ai:=ai) yH kn ?_;refine abT (E:=aa) (v:=.slice ad (((dJ kn s).getD []).length+1) (((dJ kn s).getD []).length+1)) (xs:=(dJ kn s).getD []++[(vs.length:Int)]) kn hkeys ?_;refine go ?_;exact uG () rfl trivial trivial
 ·intro r xs hX;subst hX;rw[I6 (uK kf)];dsimp only[List.cons_append,List.nil_append];rw[show(bB g).foldl (uK kf) []=iZ kf (bB g)from rfl];have hin:=IA kf _ (bB g) rfl;rw[hsl]at hin;have hL:iJ g kf=(di ((iZ kf (bB g)).map (·.1))).map λn=>(dJ n (iZ kf (bB g))).getD []:=rfl;generalize hm:iZ kf (bB g)=m at hin hL⊢;refine abU (aX:=jG) (E:=aa) (b:=bm) (m:=m) (λai hkeys=>?_);have hkl:ai.length=m.length:=by have:=congrArg List.length hkeys;simpa using this
  refine bD (BS (aX:=jG) (b:=bm) (ai:=ai)) (h:=?_);refine bD (abV (E:=aa) (ai:=ai) (m:=m) hkeys) (h:=?_);refine bD (eO (b:=b5)) (h:=?_);refine go ?_;refine ax (ae7 (bm:=bm) (ai:=ai)) (next:=λbk _=>?_);refine go ?_;refine ax (UQ (ae8 (b:=bk) (bm:=bm) (ai:=ai)) (λxs h=>by have:=h.length_eq;rw[bR]at this;omega)) (next:=λy hy=>?_);obtain⟨vk,ks⟩:=y;dsimp only[List.cons_append,List.nil_append]at hy⊢;have hks:di ks=di (m.map (·.1)):=Td (by rw[<- hkeys];exact hy);rw[hks];have hkn:(di (m.map (·.1))).length=m.length:=by rw[zS,bR]
  have hmem:∀n∈di (m.map (·.1)),n∈m.map (·.1):=λn h=>uL.1 h;generalize hK:di (m.map (·.1))=ns at hkn hL hmem⊢;refine bD (gH (E:=aa) (v:=vk) (xs:=ns)) (h:=?_);refine aS (E:=aa) (v:=vk) (xs:=ns) (by simp) λa c e=>?_;subst e;refine go ?_;refine gI (aj aa) ?_;refine aZ (λy:Nat×Value=>ns.length - y.1) (λy=>[(36,.int .i64 (y.1:Int)),(4,y.2)]) (λy=>[ap (aj aa) y.2 ((ns.take y.1).map λn=>(dJ n m).getD [])]) (λ_=>[]) (λy=>y.1<=ns.length) (0,.slice none 0 0) (cz _) (hk:=by repeat (first|exact aI.nil|(apply aI.cons;(focus (repeat (first|exact ay.here|apply ay.there)))))) (body:=?_);rintro⟨k,v4⟩ hk2;dsimp only at hk2⊢;refine go ?_;refine aA rfl (λh1=>?_) (λh1=>?_)
  ·refine go ?_;intro _ _ n hn;obtain⟨v,hv⟩:=Fj (a:=n) (l:=ai) (by rw[hkeys];exact hmem n (bG hn));obtain⟨xs,hxs⟩:=Fj (a:=n) (l:=m) (hmem n (bG hn));have hlv:kD false (.slice none 0 0) n ai=v:=by unfold kD;rw[hv];rfl
   have htk:(ns.take (k+1)).map (λn=>(dJ n m).getD [])=(ns.take k).map (λn=>(dJ n m).getD [])++[xs]:=by
    rw[bY hn,dW,oK,hxs];rfl
   have hxl:((ns.take k).map (λn=>(dJ n m).getD [])).length=k:=by rw[bR,gM];omega
   refine eX (ah aa v xs) (λw hw=>hw (Sk aa ai m) (by simp) n v xs hv hxs) ?_;refine aS (E:=aa) (v:=v) (xs:=xs) (by simp) λa2 c2 e2=>?_;subst e2;refine go ?_;refine RJ (aX:=jG) (b:=bm) (ai:=ai) yH n ?_;rw[hlv];refine go ?_;intro b44;refine go ?_;refine fC (xs:=(ns.take k).map λn=>(dJ n m).getD []) (aj aa) xs (.slice a2 xs.length c2) (by rw[hxl];omega) (next:=λad=>?_);rw[<- htk];refine go ?_;exact aQ (k+1,.slice ad (((ns.take k).map λn=>(dJ n m).getD []).length+1) (((ns.take k).map λn=>(dJ n m).getD []).length+1)) (by show ns.length - (k+1)<ns.length - k;omega) (by show k+1<=_;omega)
  have hke:k=ns.length:=by omega
  subst hke;rw[bK,<- hL];refine go ?_;exact BM v4 (hv:=rfl) (hp:=trivial)
abbrev FQ(fn:Fn)(first captured:List Value)(F1:List aH)(g:bA)(kf:Int×Int->Int×Bool):Prop:=
 ∀p∈bB g,bi Tryz.prog fn (first++[zV p.2]) captured [] F1 (λ_:Unit=>.tuple ⟨[.int .i64 (kf p.2).1,.bool (kf p.2).2]⟩) (λ_=>[]) (λ_=>[]) (λ_=>True)
theorem afb{g:bA}:FQ (.func 234) [] [] [] g (λs=>(s.2,true)):=λp hp=>by
 refine aK _ (aP 234) λB w0=>?_;refine go ?_;intro b1;refine go ?_;exact ae () (hv:=rfl) (hp:=trivial)
theorem afc{g:bA}:FQ (.func 235) [] [] [] g (λs=>(s.1,true)):=λp hp=>by
 refine aK _ (aP 235) λB w0=>?_;refine go ?_;intro b1;refine go ?_;exact ae () (hv:=rfl) (hp:=trivial)
theorem afd{g:bA}(hg:fq g):FQ (.func 266) [] [] [] g (λs=>(s.1+s.2,true)):=λp hp=>by
 have hb:=Iy hg p hp;obtain⟨c,s1,s2⟩:=p;dsimp only at hb⊢;refine aK _ (aP 266) λB w0=>?_;refine go ?_;intro b1;refine go ?_;exact ae () (hv:=rfl) (hp:=trivial)
theorem afe{g:bA}(hg:fq g):FQ (.func 267) [] [] [] g (λs=>(0,decide (s.1=s.2))):=λp hp=>by
 have hb:=Iy hg p hp;refine aK _ (aP 267) λB w0=>?_;refine go ?_;intro b1;refine go ?_;exact ae () (hv:=rfl) (hp:=trivial)
theorem aff{g:bA}{vh vc:Value}{b:Nat}(hg:fq g):FQ (.func 268) [] [ptr' b] [eG b 0 (iM g vh vc)] g (λs=>(0,decide (s.1+s.2=g.w - 1))):=λp hp=>by
 have hb:=Iy hg p hp;obtain⟨c,s1,s2⟩:=p;dsimp only at hb⊢;have hw:=hg.make.wi;refine aK _ (aP 268) λB w0=>?_;refine go ?_;intro b1;refine go ?_;exact ae () (hv:=rfl) (hp:=trivial)
theorem afg{g:bA}{vh vc:Value}(hg:fq g):
 bi Tryz.prog (.func 236) [.agg ⟨iM g vh vc⟩] [] [] (jy g vh vc) (λv:Value=>v) (λv=>[ap (aj aa) v (kU g)]) (λ_=>[]) (λ_=>True):=by
 refine aK _ (aP 236) λB w0=>?_;refine go ?_;intro b1;refine bD (eO (b:=b1)) (h:=?_);refine go ?_;refine aA rfl (λh1=>?_) (λh1=>?_)
 ·refine go ?_;refine ax (FP (kf:=λs=>(s.1+s.2,true)) (vh:=vh) (vc:=vc) hg (afd hg)) (next:=λv _=>?_);refine go ?_;exact ae v (hv:=rfl) (hp:=trivial) (hk:=by unfold kU;rw[if_pos h1];exact aI.all _)
 refine go ?_;refine aA rfl (λh2=>?_) (λh2=>?_)
 ·refine go ?_;refine gI (aj aa) ?_;exact ae (.slice none 0 0) (hv:=rfl) (hp:=trivial) (hk:=by unfold kU;rw[if_neg h1,if_neg h2];exact aI.all _)
 have h2:g.w=g.h:=iO.1 h2;refine go ?_;refine ax (FP (kf:=λs=>(0,decide (s.1=s.2))) (vh:=vh) (vc:=vc) hg (afe hg)) (next:=λva _=>?_);refine go ?_;refine ax (FP (kf:=λs=>(0,decide (s.1+s.2=g.w - 1))) (vh:=vh) (vc:=vc) hg (aff (vh:=vh) (vc:=vc) (b:=b1) hg)) (next:=λvb _=>?_);have hA:=Fq hg (λs=>(0,decide (s.1=s.2)));have hB:=Fq hg (λs=>(0,decide (s.1+s.2=g.w - 1)));have hD:kU g=lN (iJ g (λs=>(0,decide (s.1=s.2)))) (iJ g (λs=>(0,decide (s.1+s.2=g.w - 1)))):=by unfold kU;rw[if_neg h1,if_pos h2]
 generalize iJ g (λs=>(0,decide (s.1=s.2)))=la at hA hD⊢;generalize iJ g (λs=>(0,decide (s.1+s.2=g.w - 1)))=lb at hB hD⊢;have hF:=IB hA.2 hB.2;refine bD (gH (E:=aj aa) (v:=vb) (xs:=lb)) (h:=?_);refine aS (E:=aj aa) (v:=vb) (xs:=lb) (by simp) λa c e=>?_;subst e;refine go ?_;refine aZ (λy:Nat×Value=>lb.length - y.1) (λy=>[(22,.int .i64 (y.1:Int)),(3,y.2)]) (λy=>[ap (aj aa) y.2 (lN la (lb.take y.1))]) (λ_=>[]) (λy=>y.1<=lb.length) (0,va) (cz _) (hk:=by repeat (first|exact aI.nil|(apply aI.cons;(focus (repeat (first|exact ay.here|apply ay.there)))))) (body:=?_);rintro⟨k,v3⟩ hk2;dsimp only at hk2⊢;have Nt:=hF k;refine go ?_;refine aA rfl (λh3=>?_) (λh3=>?_)
 ·refine go ?_;refine bz (aj aa) (xs:=lb) (next:=λ_ _ ln (vl:Value) hl=>?_);have hs:=Ti (a:=la) hl;have hll:=hB.2 ln (bG hl);generalize lN la (lb.take k)=acc at Nt hs⊢;refine o9 (E:=aj aa) (v:=v3) (xs:=acc) λa3 e3=>?_;subst e3;refine aS (E:=aa) (v:=vl) (xs:=ln) (by simp) λa4 c4 e4=>?_;subst e4;cases acc with
  |nil=>
   have hs2:lN la (lb.take (k+1))=[]++[ln]:=hs;refine go ?_;intro b39;refine go ?_;refine fC (xs:=([]:List (List Int))) (aj aa) ln (.slice a4 ln.length c4) (by simp) (next:=λad=>?_);rw[<- hs2];refine go ?_;exact aQ (k+1,.slice ad (([]:List (List Int)).length+1) (([]:List (List Int)).length+1)) (by show lb.length - (k+1)<lb.length - k;omega) (by show k+1<=_;omega)
  |cons a0 acc=>
   have ha0:=Nt.2 a0 (cZ ..);refine go ?_;refine Ij aa 0 a0 rfl (next:=λ_ _ u=>?_);refine go ?_;refine ax (Af (xs:=a0) (ys:=ln) (by omega)) (next:=λ_ _=>?_);by_cases h4:a0=ln
   rotate_left
   ·rw[aT h4];have hs2:lN la (lb.take (k+1))=(a0::acc)++[ln]:=by rw[hs];unfold wE;rw[if_neg (show¬((a0::acc).head? =some ln)from λe=>h4 (Option.some.inj e))]
    refine go ?_;intro b39;refine go ?_;refine fC (xs:=a0::acc) (aj aa) ln (.slice a4 ln.length c4) (by have:=Nt.1;omega) (next:=λad=>?_);rw[<- hs2];refine go ?_;exact aQ (k+1,.slice ad ((a0::acc).length+1) ((a0::acc).length+1)) (by show lb.length - (k+1)<lb.length - k;omega) (by show k+1<=_;omega)
   ·rw[dZ h4];have hs2:lN la (lb.take (k+1))=a0::acc:=by rw[hs];unfold wE;rw[if_pos (by rw[h4];rfl)]
    rw[show ap (aj aa) (Value.slice a3 (a0::acc).length (a0::acc).length) (a0::acc)=ap (aj aa) (Value.slice a3 (a0::acc).length (a0::acc).length) (lN la (lb.take (k+1)))from congrArg _ hs2.symm];refine go ?_;exact aQ (k+1,.slice a3 (a0::acc).length (a0::acc).length) (by show lb.length - (k+1)<lb.length - k;omega) (by show k+1<=_;omega)
 have hke:k=lb.length:=by omega
 subst hke;rw[bK,<- hD];refine go ?_;exact ae v3 (hv:=rfl) (hp:=trivial)
theorem afi{c:Nat}:bi Tryz.prog (.func 228) [.slice none 0 c] [] [] [] (λ_:Unit=>.slice none 0 0) (λ_=>[]) (λ_=>[]) (λ_=>True):=by
 refine aK M5 Ux λB w0=>?_;refine go ?_;refine(eD rfl rfl (Ie (e:=3) (by kernel_rfl) rfl)).h ?_;refine go ?_;exact ae () (hv:=rfl) (hp:=trivial)
theorem afj{v:Value}{xs:List Int}(hl:xs.length<=4096):bi Tryz.prog (.func 228) [v] [] [] [ah aa v xs,Ik v xs] (λv':Value=>v') (λv'=>[ap aa v' xs]) (λ_=>[]) (λ_=>True):=by
 intro B w s;by_cases hx:xs=[]
 ·have hv:v=.slice none 0 0:=s.facts (Ik v xs) (cO _ (cZ ..)) hx;subst hx hv;refine .qF _ (afi (c:=0) B w ⟨s.agree,s.le,s.fH,s.own,λf hf=>(by cases hf)⟩) ?_;rintro r pm h' ⟨hp,w',y,e1,st,e2,_⟩;obtain⟨S,q1,q2,q3⟩:=st.own;exact⟨hp,w',.slice none 0 0,e1,⟨st.agree,st.le,st.fH,⟨S,⟨[],S,.inl ⟨rfl,rfl,rfl⟩,q1,rfl⟩,q2,q3⟩,st.facts⟩,e2,trivial⟩
 ·obtain⟨az,h1,h2⟩:=RZ (s.facts (ah aa v xs) (cZ ..));have hlen:az.length=xs.length:=by rw[<- h1,bR]
  refine .qF _ (Uz (v:=v) (az:=az) (by omega) B w ⟨s.agree,s.le,s.fH,s.own,λf hf=>by rw[bH.1 hf];exact h2⟩) ?_;rintro r pm h' ⟨hp,w',y,e1,st,e2,_⟩;subst h1;exact⟨hp,w',y,e1,st.Sz (by rw[hlen];exact yX.2 hx) (λp hp f hf=>by cases hf),e2,trivial⟩
abbrev Ja(g:bA)(k:Int)(y:Ng):List aH:=[mF (y.e=0) (ah (aj aa) y.v (dA g k))]
theorem afk{g:bA}{vh vc:Value}{k:Int}(hS:qd g):
 bi Tryz.prog (.func 154) [.agg ⟨iM g vh vc⟩,.int .i64 k] [] [] (jy g vh vc) uT (λ_=>[]) (λy=>Ja g k y) (λy=>y.e=0↔fq g/\0<=k/\k<=7):=by
 refine aK _ (aP 154) λB w0=>?_;refine go ?_;intro b2;refine bD (eO (b:=b2)) (h:=?_);refine go ?_;refine ax (UE (g:=g) (vh:=vh) (vc:=vc) hS) (next:=λy hy=>?_);obtain⟨vn,e⟩:=y;dsimp only at hy⊢;refine go ?_;refine aA rfl (λh1=>?_) (λh1=>?_)
 ·refine go ?_;refine lU (c:=e=0) (f:=ah (aj aa) (.slice none 0 0) (dA g k)) h1 ?_;exact ae ⟨.slice none 0 0,e⟩ (hv:=rfl) (hp:=⟨(λh=>absurd h h1),λh=>absurd (hy.2 h.1) h1⟩)
 have he:e=0:=iO.1 h1;subst he;have hg:=hy.1 rfl;have hgl:=hg.len;have hnl:=wC g;have hnm:=Fu (g:=g);refine eX (ah (rX aa) vn (bI g)) (λw hw=>hw (mF ((0:Int)=0) (ah (rX aa) vn (bI g))) (by simp) rfl) ?_;refine eX (ah (aj aa) vn (bI g)) (λw hw=>Sy (hw (ah (rX aa) vn (bI g)) (by simp))) ?_;refine aS (E:=aj aa) (v:=vn) (xs:=bI g) (by simp) λan cn en=>?_;subst en;refine go ?_;refine aA rfl (λhk=>?_) (λhk0=>?_)
 ·subst hk;have hf:dA g 0=kE g.cells.length:=by simp[dA]
  refine go ?_;refine gI (aj aa) ?_;refine aZ (λy:Nat×Value=>g.cells.length - y.1) (λy=>[(31,.int .i64 (y.1:Int)),(4,y.2)]) (λy=>[ap (aj aa) y.2 (kE y.1)]) (λ_=>[]) (λy=>y.1<=g.cells.length) (0,.slice none 0 0) (cz _) (hk:=by repeat (first|exact aI.nil|(apply aI.cons;(focus (repeat (first|exact ay.here|apply ay.there)))))) (body:=?_);rintro⟨i,v4⟩ hi;dsimp only at hi⊢;have hil:=Tk i;refine go ?_;refine aA rfl (λh2=>?_) (λh2=>?_)
  ·refine go ?_;intro wM yI;refine bD (A:=pt wM (.cells [.int .i64 (i:Int)])) (fs:=[ah aa (.slice (some ⟨wM,0,some 0⟩) 1 1) [(i:Int)]]) (Ej (b:=wM) (f:=0) (c:=1) (xs:=[(i:Int)])) (h:=?_);refine go ?_;refine fC (xs:=kE i) (aj aa) [(i:Int)] (.slice (some ⟨wM,0,some 0⟩) 1 1) (by omega) (next:=λad=>?_);rw[<- Tj];refine go ?_;exact aQ (i+1,.slice ad ((kE i).length+1) ((kE i).length+1)) (by show g.cells.length - (i+1)<g.cells.length - i;omega) (by show i+1<=_;omega)
  have hie:i=g.cells.length:=by omega
  subst hie;refine bD (gH (E:=aj aa) (v:=v4) (xs:=kE g.cells.length)) (h:=?_);refine go ?_;refine kX (c:=(0:Int)=0) (f:=ah (aj aa) v4 (dA g 0)) (by rw[hf];simp) ?_;exact ae ⟨v4,0⟩ (hv:=rfl) (hp:=⟨λ_=>⟨hg,by omega,by omega⟩,λ_=>rfl⟩)
 refine go ?_;refine aA rfl (λhk=>?_) (λhk1=>?_)
 ·subst hk;have hf:dA g 1=iJ g (λs=>(s.2,true)):=by simp[dA]
  refine go ?_;refine ax (FP (kf:=λs=>(s.2,true)) (vh:=vh) (vc:=vc) hg afb) (next:=λv4 _=>?_);refine bD (gH (E:=aj aa) (v:=v4) (xs:=iJ g (λs=>(s.2,true)))) (h:=?_);refine go ?_;refine kX (c:=(0:Int)=0) (f:=ah (aj aa) v4 (dA g 1)) (by rw[hf];simp) ?_;exact ae ⟨v4,0⟩ (hv:=rfl) (hp:=⟨λ_=>⟨hg,by omega,by omega⟩,λ_=>rfl⟩)
 refine go ?_;refine aA rfl (λhk=>?_) (λhk2=>?_)
 ·subst hk;have hf:dA g 2=iJ g (λs=>(s.1,true)):=by simp[dA]
  refine go ?_;refine ax (FP (kf:=λs=>(s.1,true)) (vh:=vh) (vc:=vc) hg afc) (next:=λv4 _=>?_);refine bD (gH (E:=aj aa) (v:=v4) (xs:=iJ g (λs=>(s.1,true)))) (h:=?_);refine go ?_;refine kX (c:=(0:Int)=0) (f:=ah (aj aa) v4 (dA g 2)) (by rw[hf];simp) ?_;exact ae ⟨v4,0⟩ (hv:=rfl) (hp:=⟨λ_=>⟨hg,by omega,by omega⟩,λ_=>rfl⟩)
 refine go ?_;refine aA rfl (λhk=>?_) (λhk3=>?_)
 ·subst hk;have hf:dA g 3=kU g:=by simp[dA]
  refine go ?_;refine ax (afg (vh:=vh) (vc:=vc) hg) (next:=λv4 _=>?_);refine bD (gH (E:=aj aa) (v:=v4) (xs:=kU g)) (h:=?_);refine go ?_;refine kX (c:=(0:Int)=0) (f:=ah (aj aa) v4 (dA g 3)) (by rw[hf];simp) ?_;exact ae ⟨v4,0⟩ (hv:=rfl) (hp:=⟨λ_=>⟨hg,by omega,by omega⟩,λ_=>rfl⟩)
 refine go ?_;refine aA rfl (λhk=>?_) (λhk4=>?_)
 ·subst hk;have hf:dA g 4=bI g:=by simp[dA]
  refine go ?_;refine kX (c:=(0:Int)=0) (f:=ah (aj aa) (.slice an (bI g).length cn) (dA g 4)) (by rw[hf];simp) ?_;exact ae ⟨.slice an (bI g).length cn,0⟩ (hv:=rfl) (hp:=⟨λ_=>⟨hg,by omega,by omega⟩,λ_=>rfl⟩)
 refine go ?_;refine aA rfl (λhk=>?_) (λhk5=>?_)
 ·subst hk;have hf:dA g 5=kF (bI g):=by simp[dA]
  generalize bI g=bn at hnl hnm hf⊢;refine go ?_;refine gI (aj aa) ?_;refine aZ (λy:Nat×Value=>bn.length - y.1) (λy=>[(59,.int .i64 (y.1:Int)),(4,y.2)]) (λy=>[ap (aj aa) y.2 (kF (bn.take y.1))]) (λ_=>[]) (λy=>y.1<=bn.length) (0,.slice none 0 0) (cz _) (hk:=by repeat (first|exact aI.nil|(apply aI.cons;(focus (repeat (first|exact ay.here|apply ay.there)))))) (body:=?_);rintro⟨i,v4⟩ hi;dsimp only at hi⊢;have hil:(kF (bn.take i)).length=i:=by rw[Tn,gM];omega
  refine go ?_;refine aA rfl (λh2=>?_) (λh2=>?_)
  ·refine go ?_;refine bz (rX aa) (xs:=bn) (next:=λ_ _ ln (vl:Value) hl=>?_);have hll:=hnm ln (bG hl);refine go ?_;refine ax (afj (v:=vl) (xs:=ln) (by omega)) (next:=λFT _=>?_);refine go ?_;intro b67;refine go ?_;refine fC (xs:=ln) aa (i:Int) () (by omega) (next:=λad=>?_);refine go ?_;have hl1:ln.length+1=(ln++[(i:Int)]).length:=by simp
   rw[hl1];refine ax (Nc (a:=ad) (zs:=ln++[(i:Int)]) rfl (by simp;omega)) (next:=λ_ _=>?_);have hz0:di (ln++[(i:Int)])≠[]:=λe=>by have:=zS (ln++[(i:Int)]);rw[e]at this;simp at this
   have hfs:=Tm hl;generalize hzz:di (ln++[(i:Int)])=zs at hfs⊢;refine bD (gH (E:=aa) (v:=.slice ad (ln++[(i:Int)]).length (ln++[(i:Int)]).length) (xs:=zs)) (h:=?_);refine go ?_;intro b73;refine go ?_;refine fC (xs:=kF (bn.take i)) (aj aa) zs (.slice ad (ln++[(i:Int)]).length (ln++[(i:Int)]).length) (by omega) (next:=λqO=>?_);rw[<- hfs];refine go ?_;exact aQ (i+1,.slice qO ((kF (bn.take i)).length+1) ((kF (bn.take i)).length+1)) (by show bn.length - (i+1)<bn.length - i;omega) (by show i+1<=_;omega)
  have hie:i=bn.length:=by omega
  subst hie;rw[bK];refine bD (gH (E:=aj aa) (v:=v4) (xs:=kF bn)) (h:=?_);refine go ?_;refine kX (c:=(0:Int)=0) (f:=ah (aj aa) v4 (dA g 5)) (by rw[hf];simp) ?_;exact ae ⟨v4,0⟩ (hv:=rfl) (hp:=⟨λ_=>⟨hg,by omega,by omega⟩,λ_=>rfl⟩)
 refine go ?_;refine aA rfl (λhk=>?_) (λhk6=>?_)
 ·subst hk;have hf:dA g 6=ic (bI g):=by simp[dA]
  generalize bI g=bn at hnl hnm hf⊢;have h6:=Fs hnm;refine go ?_;refine gI (aj aa) ?_;refine aZ (λy:Nat×Value=>bn.length - y.1) (λy=>[(80,.int .i64 (y.1:Int)),(4,y.2)]) (λy=>[ap (aj aa) y.2 (ic (bn.take y.1))]) (λ_=>[]) (λy=>y.1<=bn.length) (0,.slice none 0 0) (cz _) (hk:=by repeat (first|exact aI.nil|(apply aI.cons;(focus (repeat (first|exact ay.here|apply ay.there)))))) (body:=?_);rintro⟨i,v4⟩ hi;dsimp only at hi⊢;have hil:=h6 i hi;refine go ?_;refine aA rfl (λh2=>?_) (λh2=>?_)
  ·refine go ?_;refine bz (aj aa) (xs:=bn) (next:=λ_ _ ln (vl:Value) hl=>?_);have hll:=hnm ln (bG hl);have hfs:=MC hl;refine aS (E:=aa) (v:=vl) (xs:=ln) (by simp) λa4 c4 e4=>?_;subst e4;refine go ?_;refine aZ (λy:Nat×Value=>ln.length - y.1) (λy=>[(87,.int .i64 (y.1:Int)),(4,y.2)]) (λy=>[ap (aj aa) y.2 (ic (bn.take i)++jF i (ln.take y.1))]) (λ_=>[]) (λy=>y.1<=ln.length) (0,v4) (cz _) (hk:=by rw[show ic (bn.take i)++jF i (ln.take 0)=ic (bn.take i)from gy _];repeat (first|exact aI.nil|(apply aI.cons;(focus (repeat (first|exact ay.here|apply ay.there)))))) (body:=?_);rintro⟨j,v5⟩ hj;dsimp only at hj⊢;have hpl:=MB i (ln.take j);rw[gM]at hpl;have hal:(ic (bn.take i)++jF i (ln.take j)).length<=2000:=by rw[fA];omega
   refine go ?_;refine aA rfl (λh3=>?_) (λh3=>?_)
   ·refine go ?_;intro _ _ x hx;have hps:=Tp (i:=i) hx;refine go ?_;refine aA rfl (λh4=>?_) (λh4=>?_)
    ·have Aj:ic (bn.take i)++jF i (ln.take (j+1))=(ic (bn.take i)++jF i (ln.take j))++[[(i:Int),x]]:=by rw[hps,if_pos (by omega),fE]
     refine go ?_;intro wN Nu;refine bD (A:=pt wN (.cells [.int .i64 (i:Int),.int .i64 x])) (fs:=[ah aa (.slice (some ⟨wN,0,some 0⟩) 2 2) [(i:Int),x]]) (Ej (b:=wN) (f:=0) (c:=2) (xs:=[(i:Int),x])) (h:=?_);refine go ?_;refine fC (xs:=ic (bn.take i)++jF i (ln.take j)) (aj aa) [(i:Int),x] (.slice (some ⟨wN,0,some 0⟩) 2 2) (by omega) (next:=λqO=>?_);rw[<- Aj];refine go ?_;exact aQ (j+1,.slice qO ((ic (bn.take i)++jF i (ln.take j)).length+1) ((ic (bn.take i)++jF i (ln.take j)).length+1)) (by show ln.length - (j+1)<ln.length - j;omega) (by show j+1<=_;omega)
    ·have Aj:ic (bn.take i)++jF i (ln.take (j+1))=ic (bn.take i)++jF i (ln.take j):=by rw[hps,if_neg (by omega),gy]
     rw[<- Aj];refine go ?_;exact aQ (j+1,v5) (by show ln.length - (j+1)<ln.length - j;omega) (by show j+1<=_;omega)
   have jO:j=ln.length:=by omega
   subst jO;rw[bK,<- hfs];refine go ?_;exact aQ (i+1,v5) (by show bn.length - (i+1)<bn.length - i;omega) (by show i+1<=_;omega)
  have hie:i=bn.length:=by omega
  subst hie;rw[bK];refine bD (gH (E:=aj aa) (v:=v4) (xs:=ic bn)) (h:=?_);refine go ?_;refine kX (c:=(0:Int)=0) (f:=ah (aj aa) v4 (dA g 6)) (by rw[hf];simp) ?_;exact ae ⟨v4,0⟩ (hv:=rfl) (hp:=⟨λ_=>⟨hg,by omega,by omega⟩,λ_=>rfl⟩)
 refine go ?_;refine aA rfl (λhk=>?_) (λhk7=>?_)
 ·subst hk;have hf:dA g 7=[upTo' g.cells.length]:=by simp[dA]
  refine go ?_;refine gI aa ?_;refine aZ (λy:Nat×Value=>g.cells.length - y.1) (λy=>[(107,.int .i64 (y.1:Int)),(15,y.2)]) (λy=>[ap aa y.2 (upTo' y.1)]) (λ_=>[]) (λy=>y.1<=g.cells.length) (0,.slice none 0 0) (cz _) (hk:=by repeat (first|exact aI.nil|(apply aI.cons;(focus (repeat (first|exact ay.here|apply ay.there)))))) (body:=?_);rintro⟨i,v15⟩ hi;dsimp only at hi⊢;have hil:=r9 i;refine go ?_;refine aA rfl (λh2=>?_) (λh2=>?_)
  ·refine go ?_;intro ajy;refine go ?_;refine fC (xs:=upTo' i) aa (i:Int) () (by omega) (next:=λad=>?_);rw[<- uM];refine go ?_;exact aQ (i+1,.slice ad ((upTo' i).length+1) ((upTo' i).length+1)) (by show g.cells.length - (i+1)<g.cells.length - i;omega) (by show i+1<=_;omega)
  have hie:i=g.cells.length:=by omega
  subst hie;refine bD (gH (E:=aa) (v:=v15) (xs:=upTo' g.cells.length)) (h:=?_);refine aS (E:=aa) (v:=v15) (xs:=upTo' g.cells.length) (by simp) λa4 c4 e4=>?_;subst e4;refine go ?_;intro Jb;refine bD (eO (b:=Jb)) (h:=?_);refine eX (ah (aj aa) (Ai Jb 1) [upTo' g.cells.length]) (λw hw=>Rb (v:=.slice a4 (upTo' g.cells.length).length c4) (hw _ (by simp)) (hw _ (by simp))) ?_;refine go ?_;refine kX (c:=(0:Int)=0) (f:=ah (aj aa) (Ai Jb 1) (dA g 7)) (by rw[hf];simp) ?_;exact ae ⟨Ai Jb 1,0⟩ (hv:=rfl) (hp:=⟨λ_=>⟨hg,by omega,by omega⟩,λ_=>rfl⟩)
 refine go ?_;refine lU (c:=(1:Int)=0) (f:=ah (aj aa) (.slice none 0 0) (dA g k)) (by omega) ?_;exact ae ⟨.slice none 0 0,1⟩ (hv:=rfl) (hp:=⟨(λh=>by cases h),(λh=>by exfalso;obtain⟨_,q1,q2⟩:=h;omega)⟩)
abbrev Jc(g:bA)(rs:List (List Int))(y:Ng):List aH:=[mF (y.e=0) (ah (aj aa) y.v (dU g rs))]
theorem UR{g:bA}{vh vc vr:Value}{rs:List (List Int)}(hS:qd g)(hrl:rs.length<9223372036854775808)(hrs:∀ps∈rs,ps.length<9223372036854775808):
 bi Tryz.prog (.func 155) [.agg ⟨iM g vh vc⟩,vr] [] [] (ah (aj aa) vr rs::jy g vh vc) uT (λ_=>[]) (λy=>Jc g rs y) (λy=>y.e=0↔fq g/\wG g rs):=by
 refine aK _ (aP 155) λB w0=>?_;refine aS (E:=aj aa) (v:=vr) (xs:=rs) (by simp) λar cr er=>?_;subst er;refine go ?_;intro b2;refine bD (eO (b:=b2)) (h:=?_);refine go ?_;refine ax (UC (g:=g) hS) (next:=λe he=>?_);refine go ?_;first|with_reducible refine aN (λh1=>?_) (λh1=>?_)|with_reducible refine aM (λh1=>?_) (λh1=>?_)|with_reducible refine aL (λh1=>?_) (λh1=>?_)
 rotate_left
 ·refine go ?_;refine lU (c:=(130:Int)=0) (f:=ah (aj aa) (.slice none 0 0) (dU g rs)) (by omega) ?_;exact ae ⟨.slice none 0 0,130⟩ (hv:=rfl) (hp:=⟨(λh=>by cases h),λh=>absurd (he.2 h.1) h1⟩)
 have hg:=he.1 (by omega);have hgl:=hg.len;have mo:g.cells.Pairwise (·<·):=by rw[hg.cells];exact Mv _ _
 refine go ?_;refine aA rfl (λh2=>?_) (λh2=>?_)
 ·refine go ?_;refine lU (c:=(130:Int)=0) (f:=ah (aj aa) (.slice none 0 0) (dU g rs)) (by omega) ?_;exact ae ⟨.slice none 0 0,130⟩ (hv:=rfl) (hp:=⟨(λh=>by cases h),λh=>by exfalso;have:=h.2.len;omega⟩)
 refine go ?_;refine gI (aj aa) ?_;refine aZ (λy:Nat×Value=>rs.length - y.1) (λy=>[(24,.int .i64 (y.1:Int)),(4,y.2)]) (λy=>[ap (aj aa) y.2 (dU g (rs.take y.1))]) (λ_=>[]) (λy=>y.1<=rs.length/\∀ps∈rs.take y.1,yA g ps) (0,.slice none 0 0) ⟨cz _,λps h=>by cases h⟩ (hk:=by repeat (first|exact aI.nil|(apply aI.cons;(focus (repeat (first|exact ay.here|apply ay.there)))))) (body:=?_);rintro⟨k,v4⟩ ⟨hk,hall⟩;dsimp only at hk hall⊢;have hkl:(dU g (rs.take k)).length=k:=by unfold dU;rw[bR,gM];omega
 refine go ?_;refine aA rfl (λh3=>?_) (λh3=>?_)
 ·refine go ?_;refine bz (aj aa) (xs:=rs) (next:=λ_ _ ps (vp:Value) hps=>?_);have hpm:=bG hps;have hpl:=hrs ps hpm;have htk:=bY hps;refine aS (E:=aa) (v:=vp) (xs:=ps) (by simp) λa4 c4 e4=>?_;subst e4;refine go ?_;refine ym jG (λbm=>?_);refine go ?_;refine gI aa ?_;refine aZ (λy:Nat×Value=>ps.length - y.1) (λy=>[(31,.int .i64 (y.1:Int)),(8,y.2)]) (λy=>[ap aa y.2 (eY g (ps.take y.1)),gP jG bm (yz (eY g (ps.take y.1)))]) (λ_=>[]) (λy=>y.1<=ps.length/\(∀p∈ps.take y.1,p∈g.cells)/\(eY g (ps.take y.1)).Nodup) (0,.slice none 0 0) ⟨cz _,(λp h=>by cases h),ul⟩ (hk:=by repeat (first|exact aI.nil|(apply aI.cons;(focus (repeat (first|exact ay.here|apply ay.there)))))) (body:=?_);rintro⟨j,v8⟩ ⟨hj,hmem,hnd⟩;dsimp only at hj hmem hnd⊢;have hjl:(eY g (ps.take j)).length=j:=by unfold eY;rw[bR,gM];omega
  have hj2:j<=256:=by have:=IC hmem hnd;rw[gM]at this;omega
  refine go ?_;refine aA rfl (λh4=>?_) (λh4=>?_)
  ·refine go ?_;intro _ _ x hx;have htx:=bY hx;refine go ?_;refine ax (Uy (xs:=g.cells) (z:=x) (by omega) (mo.imp λh=>Int.le_of_lt h)) (next:=λy hy=>?_);have hym:=hy.mem mo;obtain⟨c,ok⟩:=y;dsimp only at hym⊢;cases ok with
   |false=>
    refine go ?_;refine lU (c:=(130:Int)=0) (f:=ah (aj aa) (.slice none 0 0) (dU g rs)) (by omega) ?_;exact ae ⟨.slice none 0 0,130⟩ (hv:=rfl) (hp:=⟨(λh=>by cases h),λh=>by
     have:=hym.2 ((h.2.all ps hpm).mem x (bG hx));cases this⟩)
   |true=>
    have hxm:=hym.1 rfl;have Co:g.cells[c]? =some x:=hy.2.2.2.1 rfl;have hpos:=ME mo Co;have hr1:eY g (ps.take (j+1))=eY g (ps.take j)++[(c:Int)]:=by unfold eY;rw[htx,dW,oK,hpos]
    refine go ?_;refine EZ (aX:=jG) (b:=bm) (ai:=yz (eY g (ps.take j))) yH (c:Int) ?_;rw[acK];refine go ?_;refine aA rfl (λh5=>?_) (λh5=>?_)
    ·refine go ?_;refine lU (c:=(130:Int)=0) (f:=ah (aj aa) (.slice none 0 0) (dU g rs)) (by omega) ?_;exact ae ⟨.slice none 0 0,130⟩ (hv:=rfl) (hp:=⟨(λh=>by cases h),λh=>by
      exfalso
      have h6:(eY g ps).Nodup:=(h.2.all ps hpm).nd;have h7:(eY g (ps.take (j+1))).Nodup:=by
       refine h6.sublist ?_;unfold eY;exact(OC _ _).map _
      rw[hr1,iN]at h7;exact h7.2.2 _ h5 _ (bH.2 rfl) rfl⟩)
    ·refine go ?_;refine vZ (aX:=jG) (b:=bm) (v:=.bool true) (ai:=yz (eY g (ps.take j))) yH (c:Int) ?_;rw[<- Tq,<- hr1];refine go ?_;intro b53;refine go ?_;refine fC (xs:=eY g (ps.take j)) aa (c:Int) () (by omega) (next:=λad=>?_);rw[<- hr1];refine go ?_;refine aQ (j+1,.slice ad ((eY g (ps.take j)).length+1) ((eY g (ps.take j)).length+1)) (by show ps.length - (j+1)<ps.length - j;omega) ⟨by show j+1<=_;omega,?_,?_⟩
     ·show∀p∈ps.take (j+1),p∈g.cells;rw[htx];intro p hp;rcases dV.1 hp with hp|hp
      ·exact hmem p hp
      ·rw[bH.1 hp];exact hxm
     ·show(eY g (ps.take (j+1))).Nodup;rw[hr1,iN];exact⟨hnd,by simp,λa ha b hb e=>h5 (by rw[bH.1 hb]at e;rw[<- e];exact ha)⟩
  have jO:j=ps.length:=by omega
  subst jO;rw[bK]at hmem hnd⊢;have hrl2:(eY g ps).length=ps.length:=by unfold eY;rw[bR]
  refine o9 (E:=aa) (v:=v8) (xs:=eY g ps) λa8 e8=>?_;subst e8;refine go ?_;refine aA rfl (λh5=>?_) (λh5=>?_)
  ·refine go ?_;refine lU (c:=(130:Int)=0) (f:=ah (aj aa) (.slice none 0 0) (dU g rs)) (by omega) ?_;exact ae ⟨.slice none 0 0,130⟩ (hv:=rfl) (hp:=⟨(λh=>by cases h),λh=>by
    exfalso
    exact(h.2.all ps hpm).ne (ji.1 (by omega))⟩)
  have hR:yA g ps:=⟨λe=>h5 (by rw[hrl2,e];rfl),hmem,hnd⟩
  have hrr:dU g (rs.take (k+1))=dU g (rs.take k)++[eY g ps]:=by unfold dU;rw[htk,dW,oK]
  refine bD (gH (E:=aa) (v:=.slice a8 (eY g ps).length (eY g ps).length) (xs:=eY g ps)) (h:=?_);refine go ?_;intro b61;refine go ?_;refine fC (xs:=dU g (rs.take k)) (aj aa) (eY g ps) (.slice a8 (eY g ps).length (eY g ps).length) (by omega) (next:=λad=>?_);rw[<- hrr];refine go ?_;refine aQ (k+1,.slice ad ((dU g (rs.take k)).length+1) ((dU g (rs.take k)).length+1)) (by show rs.length - (k+1)<rs.length - k;omega) ⟨by show k+1<=_;omega,?_⟩;show∀qs∈rs.take (k+1),yA g qs;rw[htk];intro qs hq;rcases dV.1 hq with hq|hq
  ·exact hall qs hq
  ·rw[bH.1 hq];exact hR
 have hke:k=rs.length:=by omega
 subst hke;rw[bK]at hall⊢;refine bD (gH (E:=aj aa) (v:=v4) (xs:=dU g rs)) (h:=?_);refine go ?_;refine kX (c:=(0:Int)=0) (f:=ah (aj aa) v4 (dU g rs)) (by simp) ?_;exact ae ⟨v4,0⟩ (hv:=rfl) (hp:=⟨λ_=>⟨hg,by omega,hall⟩,λ_=>rfl⟩)
