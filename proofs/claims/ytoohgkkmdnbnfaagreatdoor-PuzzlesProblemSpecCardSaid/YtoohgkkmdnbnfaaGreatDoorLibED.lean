/-
  Lines of a grid: cells gathered by a number.
-/
import Derived.Test.YtoohgkkmdnbnfaaGreatDoorLibCD
set_option linter.all false
set_option maxRecDepth 10000
set_option maxHeartbeats 4000000
namespace Go.Proofs.YtoohgkkmdnbnfaaGreatDoor
open Go.Ideal Kd
abbrev jC(n:Int):Value:=.int .i64 n
theorem yx:qB Tryz.prog 3 jC:=aa0 (by kernel_rfl)
theorem aeq{bm:Nat}{ai:List (Int×Value)}:bn Tryz.prog (.func 265) [.map (some bm)] [] [] [rF jC bm ai] (λb:Nat=>.func (.func 301) #[] #[ptr' b]) (λ_=>[]) (λb=>[eH b 0 [.map (some bm)],rF jC bm ai]) (λ_=>True):=by
 refine aI _ (aO 265) λB w0=>?_;refine go ?_;intro b1;refine go ?_;refine bA (eD (b:=b1)) (h:=?_);exact ae b1 (hv:=rfl) (hp:=trivial)
theorem aer{b bm:Nat}{ai:List (Int×Value)}:rG Tryz.prog (λx:Int=>[jC x]) (.func 301) [] [ptr' b] [eH b 0 [.map (some bm)],rF jC bm ai] (λxs=>xs.Perm (ai.map (·.1))):=by
 intro S inv ok step s0 uB y1 y2 F' h0 hok hy;rw[dD,dD,bZ];refine aI _ (aO 301) λB w0=>?_;refine go ?_;refine Rx (b:=bm) (ai:=ai) (aX:=jC) (next:=λr=>?_);refine go ?_;refine aZ (λy:List (Int×Value)×S=>ai.length - y.1.length) (λy=>[]) (λy=>zD jC r bm ai y.1::inv y.2) (λ_=>[]) (λy=>ok (y.1.map (·.1)) y.2/\(∃rest,(y.1++rest).Perm ai)/\∀rest,gQ step s0 (y.1.map (·.1)++rest)=gQ step y.2 rest) ([],s0) ⟨h0,⟨ai,.refl _⟩,λ_=>rfl⟩ (body:=?_);rintro⟨fG,s⟩ ⟨hos,_,hrun⟩;dsimp only at hos hrun⊢;refine go ?_;refine Ry (b:=bm) (ai:=ai) (fG:=fG) (aX:=jC) (more:=λp rem hp=>?_) (done:=λhp=>?_) ab7
 ·have hX:(fG.map (·.1)++p.1::rem.map (·.1)).Perm (ai.map (·.1)):=by
   have:=hp.map (·.1);rw[eB,gT]at this;exact this
  have hlen:=hp.length_eq;rw[gH,o8]at hlen;have nO:=hy _ s _ _ hos hX;refine go ?_;refine Rz (aX:=jC) (ai:=ai) (fG:=fG) (p:=p) ?_;refine go ?_;refine ax nO (next:=λ_ _=>?_);cases hst:(step s p.1).2 with
  |true=>
   have hs1:step s p.1=((step s p.1).1,true):=Prod.ext rfl hst;refine go ?_;refine aP (fG++[p],(step s p.1).1) (by show ai.length - (fG++[p]).length<_;rw[gH,uU];omega) ⟨?_,⟨rem,by show((fG++[p])++rem).Perm ai;rw[fB];exact hp⟩,λrest=>?_⟩
   ·show ok ((fG++[p]).map (·.1)) _;rw[eB];exact hok _ s _ _ hos hX hst
   ·show gQ step s0 ((fG++[p]).map (·.1)++rest)=_;rw[eB,fB,hrun];show gQ step s (p.1::rest)=_;rw[gQ,hs1]
  |false=>
   have hs1:step s p.1=((step s p.1).1,false):=Prod.ext rfl hst;have hr:=hrun (p.1::rem.map (·.1));rw[gQ,hs1]at hr;dsimp only at hr;refine go ?_;exact ae (fG.map (·.1)++p.1::rem.map (·.1)) (hv:=rfl) (hp:=hX) (hk:=by rw[hr];exact aG.self _ _)
 ·refine go ?_;have hr:=hrun [];rw[gN]at hr;exact ae (fG.map (·.1)) (hv:=rfl) (hp:=hp.map (·.1)) (hk:=by rw[hr];apply aG.there;exact aG.all _)
structure Nb where
 v:Value
 xs:List Int
theorem aes{fn:Fn}{first captured:List Value}{F1:List aF}{X:List Int->Prop}(hit:rG Tryz.prog (λx:Int=>[jC x]) fn first captured F1 X)(hl:∀xs,X xs->xs.length<=1000000):
 bn Tryz.prog (.func 312) [.slice none 0 0,.func fn ⟨first⟩ ⟨captured⟩] [] [] F1 (λy:Nb=>y.v) (λy=>[ap aa y.v y.xs]) (λ_=>[]) (λy=>X y.xs):=by
 refine DZ TB acW λB w0=>?_;refine go ?_;intro b2;refine fZ aa ?_;refine uz (λv:Value=>[pt b2 (.cells [v]),ap aa v ([]:List Int)]) (.slice none 0 0) (h:=?_);refine Ea (Z:=Nat) (λ(ys:List Int) (x:Int)=>(ys++[x],Out.normal)) (λys=>[acZ aa b2 ys]) (λvs ys=>ys=vs) [] _ (λ_ _=>[]) rfl (λvs s x rest hs hX _=>by rw[hs]) hit (by intro s x lo o B w0;refine go ?_;have z0:Nat:=0;exact zG z0 rfl) ?_ ?_ (λ_ _=>trivial)
 ·intro vs s x rest z lo L B w0 hs hx;subst hs;dsimp only[List.cons_append,List.nil_append];have hlen:s.length<=1000000:=by have:=hl _ hx;rw[gH,o8]at this;omega
  refine xR (h:=λv=>?_);refine go ?_;intro b10;refine eO (xs:=s) aa x () (by omega) (next:=λad=>?_);refine go ?_;refine uz (λv:Value=>[pt b2 (.cells [v]),ap aa v (s++[x])]) _ (h:=?_);exact uA () rfl trivial trivial
 ·intro r xs hX;have hrun:∀(ys zs:List Int),ji (λ(ys:List Int) (x:Int)=>(ys++[x],Out.normal)) ys zs=(ys++zs,.normal):=by
   intro ys zs;induction zs generalizing ys with
   |nil=>simp[ji]
   |cons z zs ih=>rw[ji];simp only[ih];simp
  rw[hrun,bZ];dsimp only[List.cons_append,List.nil_append];refine xR (h:=λv=>?_);refine go ?_;exact Br ⟨v,xs⟩ (hv:=rfl) (hp:=hX)
theorem aet{fn:Fn}{first captured:List Value}{F1:List aF}{X:List Int->Prop}(hit:rG Tryz.prog (λx:Int=>[jC x]) fn first captured F1 X)(hl:∀xs,X xs->xs.length<=1000000):
 bn Tryz.prog (.func 289) [.func fn ⟨first⟩ ⟨captured⟩] [] [] F1 (λy:Nb=>y.v) (λy=>[ap aa y.v y.xs]) (λ_=>[]) (λy=>X y.xs):=by
 refine aI TC acX λB w0=>?_;refine go ?_;refine ax (aes hit hl) (next:=λy hy=>?_);dsimp only[List.cons_append,List.nil_append];refine go ?_;exact ae y (hv:=rfl) (hp:=hy)
theorem Us{fn:Fn}{first captured:List Value}{F1:List aF}{X:List Int->Prop}(hit:rG Tryz.prog (λx:Int=>[jC x]) fn first captured F1 X)(hl:∀xs,X xs->xs.length<=1000000):
 bn Tryz.prog (.func 254) [.func fn ⟨first⟩ ⟨captured⟩] [] [] F1 (λy:Nb=>y.v) (λy=>[ap aa y.v (dn y.xs)]) (λ_=>[]) (λy=>X y.xs):=by
 refine aI _ (aO 254) λB w0=>?_;refine go ?_;refine ax (aet hit hl) (next:=λy hy=>?_);obtain⟨v,xs⟩:=y;dsimp only[List.cons_append,List.nil_append]at hy⊢;have hlen:=hl _ hy;refine oV (E:=aa) (v:=v) (xs:=xs) λa hv=>?_;subst hv;refine go ?_;refine ax (MW (a:=a) (zs:=xs) rfl (by omega)) (next:=λ_ _=>?_);refine go ?_;exact ae ⟨.slice a xs.length xs.length,xs⟩ (hv:=rfl) (hp:=hy)
theorem EE{g:bC}{vh vc:Value}{fn:Fn}{first captured:List Value}{F1:List aF}{kf:Int×Int->Int×Bool}(hg:fw g)
 (hk:∀p∈bE g,bn Tryz.prog fn (first++[zI p.2]) captured [] F1 (λ_:Unit=>.tuple ⟨[.int .i64 (kf p.2).1,.bool (kf p.2).2]⟩) (λ_=>[]) (λ_=>[]) (λ_=>True)):
 bn Tryz.prog (.func 233) [.agg ⟨iO g vh vc⟩,.func fn ⟨first⟩ ⟨captured⟩] [] [] (ah aa vh g.holes::ah aa vc g.cells::F1) (λv:Value=>v) (λv=>[ap (aj aa) v (iU g kf)]) (λ_=>[]) (λ_=>True):=by
 have hgl:=hg.len;have hsl:=oN g;refine DZ _ (aO 233) λB w0=>?_;refine go ?_;intro b2 b3;refine go ?_;refine xW jC (λbm=>?_);refine go ?_;intro b5;refine abt aa (b:=bm) (aX:=jC) ?_;refine go ?_;refine ax (MX (g:=g) (vh:=vh) (vc:=vc)) (next:=λbs _=>?_);refine go ?_;refine Ea (Z:=Nat) (λ(m:List (Int×List Int)) (x:Int×(Int×Int))=>(uE kf m x,.normal)) (λm=>[Ee jC aa bm m,pt b5 (.cells [.map (some bm)]),pt b3 (.cells [.func fn ⟨first⟩ ⟨captured⟩])]) (λvs m=>m=jo kf vs) [] _ (λx b8=>[pt b8 (.cells [.int .i64 x.2.1,.int .i64 x.2.2])]) rfl (λvs s x rest hs _ _=>by rw[hs,Ei]) (MU (b1:=bs) (vh:=vh) (vc:=vc) hg) (by intro s x lo o B w0;refine go ?_;intro b8;refine go ?_;exact zG b8 rfl) ?_ ?_ (λ_ _=>trivial)
 ·intro vs s x rest b8 lo L B w0 hs hX;dsimp only[List.cons_append,List.nil_append];obtain⟨hc,hvl,hxm⟩:=Ii hX;have hkx:=hk x hxm;have hin:=Mj kf vs.length vs rfl;rw[<- hs]at hin;have hst:uE kf s x=cond (kf x.2).2 (upd (kf x.2).1 ((dG (kf x.2).1 s).getD []++[x.1]) s) s:=rfl;rw[hst];obtain⟨c,s1,s2⟩:=x;dsimp only at hc hkx hst⊢;subst hc;rcases hq:kf (s1,s2)with⟨kn,kb⟩
  rw[hq]at hkx;dsimp only at hkx⊢;refine go ?_;refine ax hkx (next:=λ_ _=>?_);cases kb with
  |false=>
   dsimp only[cond];refine go ?_;exact uA () rfl trivial trivial
  |true=>
   dsimp only[cond];have hln:=hin.2 kn;refine go ?_;refine abu (aX:=jC) (E:=aa) (b:=bm) (m:=s) kn (h:=λai v hkeys hv=>?_);refine D8 (b:=bm) (ai:=ai) yx kn ?_;rw[hv];refine go ?_;intro b30;refine go ?_;refine R4 (xs:=(dG kn s).getD []) aa (vs.length:Int) () (by omega) (next:=λad=>?_);refine go ?_;refine vW (b:=bm) (v:=.slice ad (((dG kn s).getD []).length+1) (((dG kn s).getD []).length+1)) (ai:=ai) yx kn ?_;refine abv (E:=aa) (v:=.slice ad (((dG kn s).getD []).length+1) (((dG kn s).getD []).length+1)) (xs:=(dG kn s).getD []++[(vs.length:Int)]) kn hkeys ?_;refine go ?_;exact uA () rfl trivial trivial
 ·intro r xs hX;subst hX;rw[IP (uE kf)];dsimp only[List.cons_append,List.nil_append];rw[show(bE g).foldl (uE kf) []=jo kf (bE g)from rfl];have hin:=Mj kf _ (bE g) rfl;rw[hsl]at hin;have hL:iU g kf=(dn ((jo kf (bE g)).map (·.1))).map λn=>(dG n (jo kf (bE g))).getD []:=rfl;generalize hm:jo kf (bE g)=m at hin hL⊢;refine abw (aX:=jC) (E:=aa) (b:=bm) (m:=m) (λai hkeys=>?_);have hkl:ai.length=m.length:=by have:=congrArg List.length hkeys;simpa using this
  refine bA (Bw (aX:=jC) (b:=bm) (ai:=ai)) (h:=?_);refine bA (abx (E:=aa) (ai:=ai) (m:=m) hkeys) (h:=?_);refine bA (eD (b:=b5)) (h:=?_);refine go ?_;refine ax (aeq (bm:=bm) (ai:=ai)) (next:=λbk _=>?_);refine go ?_;refine ax (Us (aer (b:=bk) (bm:=bm) (ai:=ai)) (λxs h=>by have:=h.length_eq;rw[cz]at this;omega)) (next:=λy hy=>?_);obtain⟨vk,ks⟩:=y;dsimp only[List.cons_append,List.nil_append]at hy⊢;have hks:dn ks=dn (m.map (·.1)):=SE (by rw[<- hkeys];exact hy);rw[hks];have hkn:(dn (m.map (·.1))).length=m.length:=by rw[zF,cz]
  have hmem:∀n∈dn (m.map (·.1)),n∈m.map (·.1):=λn h=>uF.1 h;generalize hK:dn (m.map (·.1))=ns at hkn hL hmem⊢;refine bA (fV (E:=aa) (v:=vk) (xs:=ns)) (h:=?_);refine aS (E:=aa) (v:=vk) (xs:=ns) (by simp) λa c e=>?_;subst e;refine go ?_;refine fZ (aj aa) ?_;refine aZ (λy:Nat×Value=>ns.length - y.1) (λy=>[(36,.int .i64 (y.1:Int)),(4,y.2)]) (λy=>[ap (aj aa) y.2 ((ns.take y.1).map λn=>(dG n m).getD [])]) (λ_=>[]) (λy=>y.1<=ns.length) (0,.slice none 0 0) (bY _) (hk:=by repeat (first|exact aG.nil|(apply aG.cons;(focus (repeat (first|exact az.here|apply az.there)))))) (body:=?_);rintro⟨k,v4⟩ hk2;dsimp only at hk2⊢;refine go ?_;refine ay rfl (λh1=>?_) (λh1=>?_)
  ·refine go ?_;intro _ _ n hn;obtain⟨v,hv⟩:=Eh (a:=n) (l:=ai) (by rw[hkeys];exact hmem n (bH hn));obtain⟨xs,hxs⟩:=Eh (a:=n) (l:=m) (hmem n (bH hn));have hlv:kv false (.slice none 0 0) n ai=v:=by unfold kv;rw[hv];rfl
   have htk:(ns.take (k+1)).map (λn=>(dG n m).getD [])=(ns.take k).map (λn=>(dG n m).getD [])++[xs]:=by
    rw[bU hn,eB,nV,hxs];rfl
   have hxl:((ns.take k).map (λn=>(dG n m).getD [])).length=k:=by rw[cz,gW];omega
   refine eT (ah aa v xs) (λw hw=>hw (R7 aa ai m) (by simp) n v xs hv hxs) ?_;refine aS (E:=aa) (v:=v) (xs:=xs) (by simp) λa2 c2 e2=>?_;subst e2;refine go ?_;refine Rv (aX:=jC) (b:=bm) (ai:=ai) yx n ?_;rw[hlv];refine go ?_;intro b44;refine go ?_;refine eO (xs:=(ns.take k).map λn=>(dG n m).getD []) (aj aa) xs (.slice a2 xs.length c2) (by rw[hxl];omega) (next:=λad=>?_);rw[<- htk];refine go ?_;exact aP (k+1,.slice ad (((ns.take k).map λn=>(dG n m).getD []).length+1) (((ns.take k).map λn=>(dG n m).getD []).length+1)) (by show ns.length - (k+1)<ns.length - k;omega) (by show k+1<=_;omega)
  have hke:k=ns.length:=by omega
  subst hke;rw[bK,<- hL];refine go ?_;exact Br v4 (hv:=rfl) (hp:=trivial)
abbrev EF(fn:Fn)(first captured:List Value)(F1:List aF)(g:bC)(kf:Int×Int->Int×Bool):Prop:=
 ∀p∈bE g,bn Tryz.prog fn (first++[zI p.2]) captured [] F1 (λ_:Unit=>.tuple ⟨[.int .i64 (kf p.2).1,.bool (kf p.2).2]⟩) (λ_=>[]) (λ_=>[]) (λ_=>True)
theorem aeu{g:bC}:EF (.func 234) [] [] [] g (λs=>(s.2,true)):=λp hp=>by
 refine aI _ (aO 234) λB w0=>?_;refine go ?_;intro b1;refine go ?_;exact ae () (hv:=rfl) (hp:=trivial)
theorem aev{g:bC}:EF (.func 235) [] [] [] g (λs=>(s.1,true)):=λp hp=>by
 refine aI _ (aO 235) λB w0=>?_;refine go ?_;intro b1;refine go ?_;exact ae () (hv:=rfl) (hp:=trivial)
theorem aew{g:bC}(hg:fw g):EF (.func 266) [] [] [] g (λs=>(s.1+s.2,true)):=λp hp=>by
 have hb:=Ih hg p hp;obtain⟨c,s1,s2⟩:=p;dsimp only at hb⊢;refine aI _ (aO 266) λB w0=>?_;refine go ?_;intro b1;refine go ?_;exact ae () (hv:=rfl) (hp:=trivial)
theorem aex{g:bC}(hg:fw g):EF (.func 267) [] [] [] g (λs=>(0,decide (s.1=s.2))):=λp hp=>by
 have hb:=Ih hg p hp;refine aI _ (aO 267) λB w0=>?_;refine go ?_;intro b1;refine go ?_;exact ae () (hv:=rfl) (hp:=trivial)
theorem aey{g:bC}{vh vc:Value}{b:Nat}(hg:fw g):EF (.func 268) [] [ptr' b] [eH b 0 (iO g vh vc)] g (λs=>(0,decide (s.1+s.2=g.w - 1))):=λp hp=>by
 have hb:=Ih hg p hp;obtain⟨c,s1,s2⟩:=p;dsimp only at hb⊢;have hw:=hg.make.wi;refine aI _ (aO 268) λB w0=>?_;refine go ?_;intro b1;refine go ?_;exact ae () (hv:=rfl) (hp:=trivial)
theorem aez{g:bC}{vh vc:Value}(hg:fw g):
 bn Tryz.prog (.func 236) [.agg ⟨iO g vh vc⟩] [] [] (jq g vh vc) (λv:Value=>v) (λv=>[ap (aj aa) v (kW g)]) (λ_=>[]) (λ_=>True):=by
 refine aI _ (aO 236) λB w0=>?_;refine go ?_;intro b1;refine bA (eD (b:=b1)) (h:=?_);refine go ?_;refine ay rfl (λh1=>?_) (λh1=>?_)
 ·refine go ?_;refine ax (EE (kf:=λs=>(s.1+s.2,true)) (vh:=vh) (vc:=vc) hg (aew hg)) (next:=λv _=>?_);refine go ?_;exact ae v (hv:=rfl) (hp:=trivial) (hk:=by unfold kW;rw[if_pos h1];exact aG.all _)
 refine go ?_;refine ay rfl (λh2=>?_) (λh2=>?_)
 ·refine go ?_;refine fZ (aj aa) ?_;exact ae (.slice none 0 0) (hv:=rfl) (hp:=trivial) (hk:=by unfold kW;rw[if_neg h1,if_neg h2];exact aG.all _)
 have h2:g.w=g.h:=iI.1 h2;refine go ?_;refine ax (EE (kf:=λs=>(0,decide (s.1=s.2))) (vh:=vh) (vc:=vc) hg (aex hg)) (next:=λva _=>?_);refine go ?_;refine ax (EE (kf:=λs=>(0,decide (s.1+s.2=g.w - 1))) (vh:=vh) (vc:=vc) hg (aey (vh:=vh) (vc:=vc) (b:=b1) hg)) (next:=λvb _=>?_);have hA:=Ij hg (λs=>(0,decide (s.1=s.2)));have hB:=Ij hg (λs=>(0,decide (s.1+s.2=g.w - 1)));have hD:kW g=lF (iU g (λs=>(0,decide (s.1=s.2)))) (iU g (λs=>(0,decide (s.1+s.2=g.w - 1)))):=by unfold kW;rw[if_neg h1,if_pos h2]
 generalize iU g (λs=>(0,decide (s.1=s.2)))=la at hA hD⊢;generalize iU g (λs=>(0,decide (s.1+s.2=g.w - 1)))=lb at hB hD⊢;have hF:=Mk hA.2 hB.2;refine bA (fV (E:=aj aa) (v:=vb) (xs:=lb)) (h:=?_);refine aS (E:=aj aa) (v:=vb) (xs:=lb) (by simp) λa c e=>?_;subst e;refine go ?_;refine aZ (λy:Nat×Value=>lb.length - y.1) (λy=>[(22,.int .i64 (y.1:Int)),(3,y.2)]) (λy=>[ap (aj aa) y.2 (lF la (lb.take y.1))]) (λ_=>[]) (λy=>y.1<=lb.length) (0,va) (bY _) (hk:=by repeat (first|exact aG.nil|(apply aG.cons;(focus (repeat (first|exact az.here|apply az.there)))))) (body:=?_);rintro⟨k,v3⟩ hk2;dsimp only at hk2⊢;have Nc:=hF k;refine go ?_;refine ay rfl (λh3=>?_) (λh3=>?_)
 ·refine go ?_;refine bi (aj aa) (xs:=lb) (next:=λ_ _ ln (vl:Value) hl=>?_);have hs:=SI (a:=la) hl;have hll:=hB.2 ln (bH hl);generalize lF la (lb.take k)=acc at Nc hs⊢;refine oV (E:=aj aa) (v:=v3) (xs:=acc) λa3 e3=>?_;subst e3;refine aS (E:=aa) (v:=vl) (xs:=ln) (by simp) λa4 c4 e4=>?_;subst e4;cases acc with
  |nil=>
   have hs2:lF la (lb.take (k+1))=[]++[ln]:=hs;refine go ?_;intro b39;refine go ?_;refine eO (xs:=([]:List (List Int))) (aj aa) ln (.slice a4 ln.length c4) (by simp) (next:=λad=>?_);rw[<- hs2];refine go ?_;exact aP (k+1,.slice ad (([]:List (List Int)).length+1) (([]:List (List Int)).length+1)) (by show lb.length - (k+1)<lb.length - k;omega) (by show k+1<=_;omega)
  |cons a0 acc=>
   have ha0:=Nc.2 a0 (dM ..);refine go ?_;refine HZ aa 0 a0 rfl (next:=λ_ _ u=>?_);refine go ?_;refine ax (zT (xs:=a0) (ys:=ln) (by omega)) (next:=λ_ _=>?_);by_cases h4:a0=ln
   rotate_left
   ·rw[aU h4];have hs2:lF la (lb.take (k+1))=(a0::acc)++[ln]:=by rw[hs];unfold wy;rw[if_neg (show¬((a0::acc).head? =some ln)from λe=>h4 (Option.some.inj e))]
    refine go ?_;intro b39;refine go ?_;refine eO (xs:=a0::acc) (aj aa) ln (.slice a4 ln.length c4) (by have:=Nc.1;omega) (next:=λad=>?_);rw[<- hs2];refine go ?_;exact aP (k+1,.slice ad ((a0::acc).length+1) ((a0::acc).length+1)) (by show lb.length - (k+1)<lb.length - k;omega) (by show k+1<=_;omega)
   ·rw[dS h4];have hs2:lF la (lb.take (k+1))=a0::acc:=by rw[hs];unfold wy;rw[if_pos (by rw[h4];rfl)]
    rw[show ap (aj aa) (Value.slice a3 (a0::acc).length (a0::acc).length) (a0::acc)=ap (aj aa) (Value.slice a3 (a0::acc).length (a0::acc).length) (lF la (lb.take (k+1)))from congrArg _ hs2.symm];refine go ?_;exact aP (k+1,.slice a3 (a0::acc).length (a0::acc).length) (by show lb.length - (k+1)<lb.length - k;omega) (by show k+1<=_;omega)
 have hke:k=lb.length:=by omega
 subst hke;rw[bK,<- hD];refine go ?_;exact ae v3 (hv:=rfl) (hp:=trivial)
theorem aeB{c:Nat}:bn Tryz.prog (.func 228) [.slice none 0 c] [] [] [] (λ_:Unit=>.slice none 0 0) (λ_=>[]) (λ_=>[]) (λ_=>True):=by
 refine aI MN T9 λB w0=>?_;refine go ?_;refine(fJ rfl rfl (Hy (e:=3) (by kernel_rfl) rfl)).h ?_;refine go ?_;exact ae () (hv:=rfl) (hp:=trivial)
theorem aeC{v:Value}{xs:List Int}(hl:xs.length<=4096):bn Tryz.prog (.func 228) [v] [] [] [ah aa v xs,H6 v xs] (λv':Value=>v') (λv'=>[ap aa v' xs]) (λ_=>[]) (λ_=>True):=by
 intro B w s;by_cases hx:xs=[]
 ·have hv:v=.slice none 0 0:=s.facts (H6 v xs) (dJ _ (dM ..)) hx;subst hx hv;refine .qy _ (aeB (c:=0) B w ⟨s.agree,s.le,s.fI,s.own,λf hf=>(by cases hf)⟩) ?_;rintro r pm h' ⟨hp,w',y,e1,st,e2,_⟩;obtain⟨S,q1,q2,q3⟩:=st.own;exact⟨hp,w',.slice none 0 0,e1,⟨st.agree,st.le,st.fI,⟨S,⟨[],S,.inl ⟨rfl,rfl,rfl⟩,q1,rfl⟩,q2,q3⟩,st.facts⟩,e2,trivial⟩
 ·obtain⟨aL,h1,h2⟩:=RH (s.facts (ah aa v xs) (dM ..));have hlen:aL.length=xs.length:=by rw[<- h1,cz]
  refine .qy _ (Ub (v:=v) (aL:=aL) (by omega) B w ⟨s.agree,s.le,s.fI,s.own,λf hf=>by rw[bI.1 hf];exact h2⟩) ?_;rintro r pm h' ⟨hp,w',y,e1,st,e2,_⟩;subst h1;exact⟨hp,w',y,e1,st.Sk (by rw[hlen];exact Cv.2 hx) (λp hp f hf=>by cases hf),e2,trivial⟩
abbrev IV(g:bC)(k:Int)(y:MZ):List aF:=[l9 (y.e=0) (ah (aj aa) y.v (dA g k))]
theorem aeD{g:bC}{vh vc:Value}{k:Int}(hS:pV g):
 bn Tryz.prog (.func 154) [.agg ⟨iO g vh vc⟩,.int .i64 k] [] [] (jq g vh vc) uO (λ_=>[]) (λy=>IV g k y) (λy=>y.e=0↔fw g/\0<=k/\k<=7):=by
 refine aI _ (aO 154) λB w0=>?_;refine go ?_;intro b2;refine bA (eD (b:=b2)) (h:=?_);refine go ?_;refine ax (Ug (g:=g) (vh:=vh) (vc:=vc) hS) (next:=λy hy=>?_);obtain⟨vn,e⟩:=y;dsimp only at hy⊢;refine go ?_;refine ay rfl (λh1=>?_) (λh1=>?_)
 ·refine go ?_;refine lK (c:=e=0) (f:=ah (aj aa) (.slice none 0 0) (dA g k)) h1 ?_;exact ae ⟨.slice none 0 0,e⟩ (hv:=rfl) (hp:=⟨(λh=>absurd h h1),λh=>absurd (hy.2 h.1) h1⟩)
 have he:e=0:=iI.1 h1;subst he;have hg:=hy.1 rfl;have hgl:=hg.len;have hnl:=xZ g;have hnm:=Il (g:=g);refine eT (ah (rO aa) vn (bJ g)) (λw hw=>hw (l9 ((0:Int)=0) (ah (rO aa) vn (bJ g))) (by simp) rfl) ?_;refine eT (ah (aj aa) vn (bJ g)) (λw hw=>Sj (hw (ah (rO aa) vn (bJ g)) (by simp))) ?_;refine aS (E:=aj aa) (v:=vn) (xs:=bJ g) (by simp) λan cn en=>?_;subst en;refine go ?_;refine ay rfl (λhk=>?_) (λhk0=>?_)
 ·subst hk;have hf:dA g 0=kN g.cells.length:=by simp[dA]
  refine go ?_;refine fZ (aj aa) ?_;refine aZ (λy:Nat×Value=>g.cells.length - y.1) (λy=>[(31,.int .i64 (y.1:Int)),(4,y.2)]) (λy=>[ap (aj aa) y.2 (kN y.1)]) (λ_=>[]) (λy=>y.1<=g.cells.length) (0,.slice none 0 0) (bY _) (hk:=by repeat (first|exact aG.nil|(apply aG.cons;(focus (repeat (first|exact az.here|apply az.there)))))) (body:=?_);rintro⟨i,v4⟩ hi;dsimp only at hi⊢;have hil:=SL i;refine go ?_;refine ay rfl (λh2=>?_) (λh2=>?_)
  ·refine go ?_;intro wG yz;refine bA (A:=pt wG (.cells [.int .i64 (i:Int)])) (fs:=[ah aa (.slice (some ⟨wG,0,some 0⟩) 1 1) [(i:Int)]]) (zu (b:=wG) (f:=0) (c:=1) (xs:=[(i:Int)])) (h:=?_);refine go ?_;refine eO (xs:=kN i) (aj aa) [(i:Int)] (.slice (some ⟨wG,0,some 0⟩) 1 1) (by omega) (next:=λad=>?_);rw[<- SK];refine go ?_;exact aP (i+1,.slice ad ((kN i).length+1) ((kN i).length+1)) (by show g.cells.length - (i+1)<g.cells.length - i;omega) (by show i+1<=_;omega)
  have hie:i=g.cells.length:=by omega
  subst hie;refine bA (fV (E:=aj aa) (v:=v4) (xs:=kN g.cells.length)) (h:=?_);refine go ?_;refine kQ (c:=(0:Int)=0) (f:=ah (aj aa) v4 (dA g 0)) (by rw[hf];simp) ?_;exact ae ⟨v4,0⟩ (hv:=rfl) (hp:=⟨λ_=>⟨hg,by omega,by omega⟩,λ_=>rfl⟩)
 refine go ?_;refine ay rfl (λhk=>?_) (λhk1=>?_)
 ·subst hk;have hf:dA g 1=iU g (λs=>(s.2,true)):=by simp[dA]
  refine go ?_;refine ax (EE (kf:=λs=>(s.2,true)) (vh:=vh) (vc:=vc) hg aeu) (next:=λv4 _=>?_);refine bA (fV (E:=aj aa) (v:=v4) (xs:=iU g (λs=>(s.2,true)))) (h:=?_);refine go ?_;refine kQ (c:=(0:Int)=0) (f:=ah (aj aa) v4 (dA g 1)) (by rw[hf];simp) ?_;exact ae ⟨v4,0⟩ (hv:=rfl) (hp:=⟨λ_=>⟨hg,by omega,by omega⟩,λ_=>rfl⟩)
 refine go ?_;refine ay rfl (λhk=>?_) (λhk2=>?_)
 ·subst hk;have hf:dA g 2=iU g (λs=>(s.1,true)):=by simp[dA]
  refine go ?_;refine ax (EE (kf:=λs=>(s.1,true)) (vh:=vh) (vc:=vc) hg aev) (next:=λv4 _=>?_);refine bA (fV (E:=aj aa) (v:=v4) (xs:=iU g (λs=>(s.1,true)))) (h:=?_);refine go ?_;refine kQ (c:=(0:Int)=0) (f:=ah (aj aa) v4 (dA g 2)) (by rw[hf];simp) ?_;exact ae ⟨v4,0⟩ (hv:=rfl) (hp:=⟨λ_=>⟨hg,by omega,by omega⟩,λ_=>rfl⟩)
 refine go ?_;refine ay rfl (λhk=>?_) (λhk3=>?_)
 ·subst hk;have hf:dA g 3=kW g:=by simp[dA]
  refine go ?_;refine ax (aez (vh:=vh) (vc:=vc) hg) (next:=λv4 _=>?_);refine bA (fV (E:=aj aa) (v:=v4) (xs:=kW g)) (h:=?_);refine go ?_;refine kQ (c:=(0:Int)=0) (f:=ah (aj aa) v4 (dA g 3)) (by rw[hf];simp) ?_;exact ae ⟨v4,0⟩ (hv:=rfl) (hp:=⟨λ_=>⟨hg,by omega,by omega⟩,λ_=>rfl⟩)
 refine go ?_;refine ay rfl (λhk=>?_) (λhk4=>?_)
 ·subst hk;have hf:dA g 4=bJ g:=by simp[dA]
  refine go ?_;refine kQ (c:=(0:Int)=0) (f:=ah (aj aa) (.slice an (bJ g).length cn) (dA g 4)) (by rw[hf];simp) ?_;exact ae ⟨.slice an (bJ g).length cn,0⟩ (hv:=rfl) (hp:=⟨λ_=>⟨hg,by omega,by omega⟩,λ_=>rfl⟩)
 refine go ?_;refine ay rfl (λhk=>?_) (λhk5=>?_)
 ·subst hk;have hf:dA g 5=kP (bJ g):=by simp[dA]
  generalize bJ g=bq at hnl hnm hf⊢;refine go ?_;refine fZ (aj aa) ?_;refine aZ (λy:Nat×Value=>bq.length - y.1) (λy=>[(59,.int .i64 (y.1:Int)),(4,y.2)]) (λy=>[ap (aj aa) y.2 (kP (bq.take y.1))]) (λ_=>[]) (λy=>y.1<=bq.length) (0,.slice none 0 0) (bY _) (hk:=by repeat (first|exact aG.nil|(apply aG.cons;(focus (repeat (first|exact az.here|apply az.there)))))) (body:=?_);rintro⟨i,v4⟩ hi;dsimp only at hi⊢;have hil:(kP (bq.take i)).length=i:=by rw[SQ,gW];omega
  refine go ?_;refine ay rfl (λh2=>?_) (λh2=>?_)
  ·refine go ?_;refine bi (rO aa) (xs:=bq) (next:=λ_ _ ln (vl:Value) hl=>?_);have hll:=hnm ln (bH hl);refine go ?_;refine ax (aeC (v:=vl) (xs:=ln) (by omega)) (next:=λwH _=>?_);refine go ?_;intro b67;refine go ?_;refine eO (xs:=ln) aa (i:Int) () (by omega) (next:=λad=>?_);refine go ?_;have hl1:ln.length+1=(ln++[(i:Int)]).length:=by simp
   rw[hl1];refine ax (MW (a:=ad) (zs:=ln++[(i:Int)]) rfl (by simp;omega)) (next:=λ_ _=>?_);have hz0:dn (ln++[(i:Int)])≠[]:=λe=>by have:=zF (ln++[(i:Int)]);rw[e]at this;simp at this
   have hfs:=SN hl;generalize hzz:dn (ln++[(i:Int)])=zs at hfs⊢;refine bA (fV (E:=aa) (v:=.slice ad (ln++[(i:Int)]).length (ln++[(i:Int)]).length) (xs:=zs)) (h:=?_);refine go ?_;intro b73;refine go ?_;refine eO (xs:=kP (bq.take i)) (aj aa) zs (.slice ad (ln++[(i:Int)]).length (ln++[(i:Int)]).length) (by omega) (next:=λqG=>?_);rw[<- hfs];refine go ?_;exact aP (i+1,.slice qG ((kP (bq.take i)).length+1) ((kP (bq.take i)).length+1)) (by show bq.length - (i+1)<bq.length - i;omega) (by show i+1<=_;omega)
  have hie:i=bq.length:=by omega
  subst hie;rw[bK];refine bA (fV (E:=aj aa) (v:=v4) (xs:=kP bq)) (h:=?_);refine go ?_;refine kQ (c:=(0:Int)=0) (f:=ah (aj aa) v4 (dA g 5)) (by rw[hf];simp) ?_;exact ae ⟨v4,0⟩ (hv:=rfl) (hp:=⟨λ_=>⟨hg,by omega,by omega⟩,λ_=>rfl⟩)
 refine go ?_;refine ay rfl (λhk=>?_) (λhk6=>?_)
 ·subst hk;have hf:dA g 6=gZ (bJ g):=by simp[dA]
  generalize bJ g=bq at hnl hnm hf⊢;have h6:=Ik hnm;refine go ?_;refine fZ (aj aa) ?_;refine aZ (λy:Nat×Value=>bq.length - y.1) (λy=>[(80,.int .i64 (y.1:Int)),(4,y.2)]) (λy=>[ap (aj aa) y.2 (gZ (bq.take y.1))]) (λ_=>[]) (λy=>y.1<=bq.length) (0,.slice none 0 0) (bY _) (hk:=by repeat (first|exact aG.nil|(apply aG.cons;(focus (repeat (first|exact az.here|apply az.there)))))) (body:=?_);rintro⟨i,v4⟩ hi;dsimp only at hi⊢;have hil:=h6 i hi;refine go ?_;refine ay rfl (λh2=>?_) (λh2=>?_)
  ·refine go ?_;refine bi (aj aa) (xs:=bq) (next:=λ_ _ ln (vl:Value) hl=>?_);have hll:=hnm ln (bH hl);have hfs:=Mm hl;refine aS (E:=aa) (v:=vl) (xs:=ln) (by simp) λa4 c4 e4=>?_;subst e4;refine go ?_;refine aZ (λy:Nat×Value=>ln.length - y.1) (λy=>[(87,.int .i64 (y.1:Int)),(4,y.2)]) (λy=>[ap (aj aa) y.2 (gZ (bq.take i)++jB i (ln.take y.1))]) (λ_=>[]) (λy=>y.1<=ln.length) (0,v4) (bY _) (hk:=by rw[show gZ (bq.take i)++jB i (ln.take 0)=gZ (bq.take i)from gN _];repeat (first|exact aG.nil|(apply aG.cons;(focus (repeat (first|exact az.here|apply az.there)))))) (body:=?_);rintro⟨j,v5⟩ hj;dsimp only at hj⊢;have hpl:=Ml i (ln.take j);rw[gW]at hpl;have hal:(gZ (bq.take i)++jB i (ln.take j)).length<=2000:=by rw[gH];omega
   refine go ?_;refine ay rfl (λh3=>?_) (λh3=>?_)
   ·refine go ?_;intro _ _ x hx;have hps:=SS (i:=i) hx;refine go ?_;refine ay rfl (λh4=>?_) (λh4=>?_)
    ·have zX:gZ (bq.take i)++jB i (ln.take (j+1))=(gZ (bq.take i)++jB i (ln.take j))++[[(i:Int),x]]:=by rw[hps,if_pos (by omega),fB]
     refine go ?_;intro wI Nf;refine bA (A:=pt wI (.cells [.int .i64 (i:Int),.int .i64 x])) (fs:=[ah aa (.slice (some ⟨wI,0,some 0⟩) 2 2) [(i:Int),x]]) (zu (b:=wI) (f:=0) (c:=2) (xs:=[(i:Int),x])) (h:=?_);refine go ?_;refine eO (xs:=gZ (bq.take i)++jB i (ln.take j)) (aj aa) [(i:Int),x] (.slice (some ⟨wI,0,some 0⟩) 2 2) (by omega) (next:=λqG=>?_);rw[<- zX];refine go ?_;exact aP (j+1,.slice qG ((gZ (bq.take i)++jB i (ln.take j)).length+1) ((gZ (bq.take i)++jB i (ln.take j)).length+1)) (by show ln.length - (j+1)<ln.length - j;omega) (by show j+1<=_;omega)
    ·have zX:gZ (bq.take i)++jB i (ln.take (j+1))=gZ (bq.take i)++jB i (ln.take j):=by rw[hps,if_neg (by omega),gN]
     rw[<- zX];refine go ?_;exact aP (j+1,v5) (by show ln.length - (j+1)<ln.length - j;omega) (by show j+1<=_;omega)
   have ig:j=ln.length:=by omega
   subst ig;rw[bK,<- hfs];refine go ?_;exact aP (i+1,v5) (by show bq.length - (i+1)<bq.length - i;omega) (by show i+1<=_;omega)
  have hie:i=bq.length:=by omega
  subst hie;rw[bK];refine bA (fV (E:=aj aa) (v:=v4) (xs:=gZ bq)) (h:=?_);refine go ?_;refine kQ (c:=(0:Int)=0) (f:=ah (aj aa) v4 (dA g 6)) (by rw[hf];simp) ?_;exact ae ⟨v4,0⟩ (hv:=rfl) (hp:=⟨λ_=>⟨hg,by omega,by omega⟩,λ_=>rfl⟩)
 refine go ?_;refine ay rfl (λhk=>?_) (λhk7=>?_)
 ·subst hk;have hf:dA g 7=[upTo' g.cells.length]:=by simp[dA]
  refine go ?_;refine fZ aa ?_;refine aZ (λy:Nat×Value=>g.cells.length - y.1) (λy=>[(107,.int .i64 (y.1:Int)),(15,y.2)]) (λy=>[ap aa y.2 (upTo' y.1)]) (λ_=>[]) (λy=>y.1<=g.cells.length) (0,.slice none 0 0) (bY _) (hk:=by repeat (first|exact aG.nil|(apply aG.cons;(focus (repeat (first|exact az.here|apply az.there)))))) (body:=?_);rintro⟨i,v15⟩ hi;dsimp only at hi⊢;have hil:=rR i;refine go ?_;refine ay rfl (λh2=>?_) (λh2=>?_)
  ·refine go ?_;intro aiK;refine go ?_;refine eO (xs:=upTo' i) aa (i:Int) () (by omega) (next:=λad=>?_);rw[<- uG];refine go ?_;exact aP (i+1,.slice ad ((upTo' i).length+1) ((upTo' i).length+1)) (by show g.cells.length - (i+1)<g.cells.length - i;omega) (by show i+1<=_;omega)
  have hie:i=g.cells.length:=by omega
  subst hie;refine bA (fV (E:=aa) (v:=v15) (xs:=upTo' g.cells.length)) (h:=?_);refine aS (E:=aa) (v:=v15) (xs:=upTo' g.cells.length) (by simp) λa4 c4 e4=>?_;subst e4;refine go ?_;intro IW;refine bA (eD (b:=IW)) (h:=?_);refine eT (ah (aj aa) (zW IW 1) [upTo' g.cells.length]) (λw hw=>Q3 (v:=.slice a4 (upTo' g.cells.length).length c4) (hw _ (by simp)) (hw _ (by simp))) ?_;refine go ?_;refine kQ (c:=(0:Int)=0) (f:=ah (aj aa) (zW IW 1) (dA g 7)) (by rw[hf];simp) ?_;exact ae ⟨zW IW 1,0⟩ (hv:=rfl) (hp:=⟨λ_=>⟨hg,by omega,by omega⟩,λ_=>rfl⟩)
 refine go ?_;refine lK (c:=(1:Int)=0) (f:=ah (aj aa) (.slice none 0 0) (dA g k)) (by omega) ?_;exact ae ⟨.slice none 0 0,1⟩ (hv:=rfl) (hp:=⟨(λh=>by cases h),(λh=>by exfalso;obtain⟨_,q1,q2⟩:=h;omega)⟩)
abbrev IX(g:bC)(rs:List (List Int))(y:MZ):List aF:=[l9 (y.e=0) (ah (aj aa) y.v (dV g rs))]
theorem Ut{g:bC}{vh vc vr:Value}{rs:List (List Int)}(hS:pV g)(hrl:rs.length<9223372036854775808)(hrs:∀ps∈rs,ps.length<9223372036854775808):
 bn Tryz.prog (.func 155) [.agg ⟨iO g vh vc⟩,vr] [] [] (ah (aj aa) vr rs::jq g vh vc) uO (λ_=>[]) (λy=>IX g rs y) (λy=>y.e=0↔fw g/\yf g rs):=by
 refine aI _ (aO 155) λB w0=>?_;refine aS (E:=aj aa) (v:=vr) (xs:=rs) (by simp) λar cr er=>?_;subst er;refine go ?_;intro b2;refine bA (eD (b:=b2)) (h:=?_);refine go ?_;refine ax (Ue (g:=g) hS) (next:=λe he=>?_);refine go ?_;first|with_reducible refine aN (λh1=>?_) (λh1=>?_)|with_reducible refine aM (λh1=>?_) (λh1=>?_)|with_reducible refine aK (λh1=>?_) (λh1=>?_)
 rotate_left
 ·refine go ?_;refine lK (c:=(130:Int)=0) (f:=ah (aj aa) (.slice none 0 0) (dV g rs)) (by omega) ?_;exact ae ⟨.slice none 0 0,130⟩ (hv:=rfl) (hp:=⟨(λh=>by cases h),λh=>absurd (he.2 h.1) h1⟩)
 have hg:=he.1 (by omega);have hgl:=hg.len;have l5:g.cells.Pairwise (·<·):=by rw[hg.cells];exact Mg _ _
 refine go ?_;refine ay rfl (λh2=>?_) (λh2=>?_)
 ·refine go ?_;refine lK (c:=(130:Int)=0) (f:=ah (aj aa) (.slice none 0 0) (dV g rs)) (by omega) ?_;exact ae ⟨.slice none 0 0,130⟩ (hv:=rfl) (hp:=⟨(λh=>by cases h),λh=>by exfalso;have:=h.2.len;omega⟩)
 refine go ?_;refine fZ (aj aa) ?_;refine aZ (λy:Nat×Value=>rs.length - y.1) (λy=>[(24,.int .i64 (y.1:Int)),(4,y.2)]) (λy=>[ap (aj aa) y.2 (dV g (rs.take y.1))]) (λ_=>[]) (λy=>y.1<=rs.length/\∀ps∈rs.take y.1,x9 g ps) (0,.slice none 0 0) ⟨bY _,λps h=>by cases h⟩ (hk:=by repeat (first|exact aG.nil|(apply aG.cons;(focus (repeat (first|exact az.here|apply az.there)))))) (body:=?_);rintro⟨k,v4⟩ ⟨hk,hall⟩;dsimp only at hk hall⊢;have hkl:(dV g (rs.take k)).length=k:=by unfold dV;rw[cz,gW];omega
 refine go ?_;refine ay rfl (λh3=>?_) (λh3=>?_)
 ·refine go ?_;refine bi (aj aa) (xs:=rs) (next:=λ_ _ ps (vp:Value) hps=>?_);have hpm:=bH hps;have hpl:=hrs ps hpm;have htk:=bU hps;refine aS (E:=aa) (v:=vp) (xs:=ps) (by simp) λa4 c4 e4=>?_;subst e4;refine go ?_;refine xW jC (λbm=>?_);refine go ?_;refine fZ aa ?_;refine aZ (λy:Nat×Value=>ps.length - y.1) (λy=>[(31,.int .i64 (y.1:Int)),(8,y.2)]) (λy=>[ap aa y.2 (eU g (ps.take y.1)),gL jC bm (x8 (eU g (ps.take y.1)))]) (λ_=>[]) (λy=>y.1<=ps.length/\(∀p∈ps.take y.1,p∈g.cells)/\(eU g (ps.take y.1)).Nodup) (0,.slice none 0 0) ⟨bY _,(λp h=>by cases h),tZ⟩ (hk:=by repeat (first|exact aG.nil|(apply aG.cons;(focus (repeat (first|exact az.here|apply az.there)))))) (body:=?_);rintro⟨j,v8⟩ ⟨hj,hmem,hnd⟩;dsimp only at hj hmem hnd⊢;have hjl:(eU g (ps.take j)).length=j:=by unfold eU;rw[cz,gW];omega
  have hj2:j<=256:=by have:=Im hmem hnd;rw[gW]at this;omega
  refine go ?_;refine ay rfl (λh4=>?_) (λh4=>?_)
  ·refine go ?_;intro _ _ x hx;have htx:=bU hx;refine go ?_;refine ax (Ua (xs:=g.cells) (z:=x) (by omega) (l5.imp λh=>Int.le_of_lt h)) (next:=λy hy=>?_);have hym:=hy.mem l5;obtain⟨c,ok⟩:=y;dsimp only at hym⊢;cases ok with
   |false=>
    refine go ?_;refine lK (c:=(130:Int)=0) (f:=ah (aj aa) (.slice none 0 0) (dV g rs)) (by omega) ?_;exact ae ⟨.slice none 0 0,130⟩ (hv:=rfl) (hp:=⟨(λh=>by cases h),λh=>by
     have:=hym.2 ((h.2.all ps hpm).mem x (bH hx));cases this⟩)
   |true=>
    have hxm:=hym.1 rfl;have BS:g.cells[c]? =some x:=hy.2.2.2.1 rfl;have hpos:=Mo l5 BS;have hr1:eU g (ps.take (j+1))=eU g (ps.take j)++[(c:Int)]:=by unfold eU;rw[htx,eB,nV,hpos]
    refine go ?_;refine D8 (aX:=jC) (b:=bm) (ai:=x8 (eU g (ps.take j))) yx (c:Int) ?_;rw[ab9];refine go ?_;refine ay rfl (λh5=>?_) (λh5=>?_)
    ·refine go ?_;refine lK (c:=(130:Int)=0) (f:=ah (aj aa) (.slice none 0 0) (dV g rs)) (by omega) ?_;exact ae ⟨.slice none 0 0,130⟩ (hv:=rfl) (hp:=⟨(λh=>by cases h),λh=>by
      exfalso
      have h6:(eU g ps).Nodup:=(h.2.all ps hpm).nd;have h7:(eU g (ps.take (j+1))).Nodup:=by
       refine h6.sublist ?_;unfold eU;exact(Om _ _).map _
      rw[hr1,iP]at h7;exact h7.2.2 _ h5 _ (bI.2 rfl) rfl⟩)
    ·refine go ?_;refine vW (aX:=jC) (b:=bm) (v:=.bool true) (ai:=x8 (eU g (ps.take j))) yx (c:Int) ?_;rw[<- SV,<- hr1];refine go ?_;intro b53;refine go ?_;refine eO (xs:=eU g (ps.take j)) aa (c:Int) () (by omega) (next:=λad=>?_);rw[<- hr1];refine go ?_;refine aP (j+1,.slice ad ((eU g (ps.take j)).length+1) ((eU g (ps.take j)).length+1)) (by show ps.length - (j+1)<ps.length - j;omega) ⟨by show j+1<=_;omega,?_,?_⟩
     ·show∀p∈ps.take (j+1),p∈g.cells;rw[htx];intro p hp;rcases dZ.1 hp with hp|hp
      ·exact hmem p hp
      ·rw[bI.1 hp];exact hxm
     ·show(eU g (ps.take (j+1))).Nodup;rw[hr1,iP];exact⟨hnd,by simp,λa ha b hb e=>h5 (by rw[bI.1 hb]at e;rw[<- e];exact ha)⟩
  have ig:j=ps.length:=by omega
  subst ig;rw[bK]at hmem hnd⊢;have hrl2:(eU g ps).length=ps.length:=by unfold eU;rw[cz]
  refine oV (E:=aa) (v:=v8) (xs:=eU g ps) λa8 e8=>?_;subst e8;refine go ?_;refine ay rfl (λh5=>?_) (λh5=>?_)
  ·refine go ?_;refine lK (c:=(130:Int)=0) (f:=ah (aj aa) (.slice none 0 0) (dV g rs)) (by omega) ?_;exact ae ⟨.slice none 0 0,130⟩ (hv:=rfl) (hp:=⟨(λh=>by cases h),λh=>by
    exfalso
    exact(h.2.all ps hpm).ne (jM.1 (by omega))⟩)
  have hR:x9 g ps:=⟨λe=>h5 (by rw[hrl2,e];rfl),hmem,hnd⟩
  have hrr:dV g (rs.take (k+1))=dV g (rs.take k)++[eU g ps]:=by unfold dV;rw[htk,eB,nV]
  refine bA (fV (E:=aa) (v:=.slice a8 (eU g ps).length (eU g ps).length) (xs:=eU g ps)) (h:=?_);refine go ?_;intro b61;refine go ?_;refine eO (xs:=dV g (rs.take k)) (aj aa) (eU g ps) (.slice a8 (eU g ps).length (eU g ps).length) (by omega) (next:=λad=>?_);rw[<- hrr];refine go ?_;refine aP (k+1,.slice ad ((dV g (rs.take k)).length+1) ((dV g (rs.take k)).length+1)) (by show rs.length - (k+1)<rs.length - k;omega) ⟨by show k+1<=_;omega,?_⟩;show∀qs∈rs.take (k+1),x9 g qs;rw[htk];intro qs hq;rcases dZ.1 hq with hq|hq
  ·exact hall qs hq
  ·rw[bI.1 hq];exact hR
 have hke:k=rs.length:=by omega
 subst hke;rw[bK]at hall⊢;refine bA (fV (E:=aj aa) (v:=v4) (xs:=dV g rs)) (h:=?_);refine go ?_;refine kQ (c:=(0:Int)=0) (f:=ah (aj aa) v4 (dV g rs)) (by simp) ?_;exact ae ⟨v4,0⟩ (hv:=rfl) (hp:=⟨λ_=>⟨hg,by omega,hall⟩,λ_=>rfl⟩)
