/-
  Lines of a grid: cells gathered by a number.
-/
import Derived.Test.YtoohgkkmdnbnfaaGreatDoorLibCB
set_option linter.all false
set_option maxRecDepth 10000
set_option maxHeartbeats 4000000
namespace Go.Proofs.YtoohgkkmdnbnfaaGreatDoor
open Go.Ideal Kd
abbrev jc(n:Int):Value:=.int .i64 n
theorem xk:p9 Tryz.prog 3 jc:=Zd (by kernel_rfl)
theorem acz{bm:Nat}{ai:List (Int×Value)}:aZ Tryz.prog (.func 265) [.map (some bm)] [] [] [qQ jc bm ai] (λb:Nat=>.func (.func 301) #[] #[ptr' b]) (λ_=>[]) (λb=>[gH b 0 [.map (some bm)],qQ jc bm ai]) (λ_=>True):=by
 refine aG _ (aM 265) λB w0=>?_;refine go ?_;intro b1;refine go ?_;refine bB (fG (b:=b1)) (h:=?_);exact aa b1 (hv:=rfl) (hp:=trivial)
theorem acA{b bm:Nat}{ai:List (Int×Value)}:qR Tryz.prog (λx:Int=>[jc x]) (.func 301) [] [ptr' b] [gH b 0 [.map (some bm)],qQ jc bm ai] (λxs=>xs.Perm (ai.map (·.1))):=by
 intro S inv ok step s0 Ar y1 y2 F' h0 hok hy;rw[eU,eU,dH];refine aG _ (aM 301) λB w0=>?_;refine go ?_;refine PT (b:=bm) (ai:=ai) (aV:=jc) (next:=λr=>?_);refine go ?_;refine aX (λy:List (Int×Value)×S=>ai.length - y.1.length) (λy=>[]) (λy=>yO jc r bm ai y.1::inv y.2) (λ_=>[]) (λy=>ok (y.1.map (·.1)) y.2/\(∃rest,(y.1++rest).Perm ai)/\∀rest,jr step s0 (y.1.map (·.1)++rest)=jr step y.2 rest) ([],s0) ⟨h0,⟨ai,.refl _⟩,λ_=>rfl⟩ (body:=?_);rintro⟨ic,s⟩ ⟨hos,_,hrun⟩;dsimp only at hos hrun⊢;refine go ?_;refine PU (b:=bm) (ai:=ai) (ic:=ic) (aV:=jc) (more:=λp rem hp=>?_) (done:=λhp=>?_) aar
 ·have hX:(ic.map (·.1)++p.1::rem.map (·.1)).Perm (ai.map (·.1)):=by
   have:=hp.map (·.1);rw[eX,gY]at this;exact this
  have hlen:=hp.length_eq;rw[gB,oq]at hlen;have vF:=hy _ s _ _ hos hX;refine go ?_;refine PV (aV:=jc) (ai:=ai) (ic:=ic) (p:=p) ?_;refine go ?_;refine ak vF (next:=λ_ _=>?_);cases hst:(step s p.1).2 with
  |true=>
   have hs1:step s p.1=((step s p.1).1,true):=Prod.ext rfl hst;refine go ?_;refine aO (ic++[p],(step s p.1).1) (by show ai.length - (ic++[p]).length<_;rw[gB,uk];omega) ⟨?_,⟨rem,by show((ic++[p])++rem).Perm ai;rw[fE];exact hp⟩,λrest=>?_⟩
   ·show ok ((ic++[p]).map (·.1)) _;rw[eX];exact hok _ s _ _ hos hX hst
   ·show jr step s0 ((ic++[p]).map (·.1)++rest)=_;rw[eX,fE,hrun];show jr step s (p.1::rest)=_;rw[jr,hs1]
  |false=>
   have hs1:step s p.1=((step s p.1).1,false):=Prod.ext rfl hst;have hr:=hrun (p.1::rem.map (·.1));rw[jr,hs1]at hr;dsimp only at hr;refine go ?_;exact aa (ic.map (·.1)++p.1::rem.map (·.1)) (hv:=rfl) (hp:=hX) (hk:=by rw[hr];exact aH.self _ _)
 ·refine go ?_;have hr:=hrun [];rw[gD]at hr;exact aa (ic.map (·.1)) (hv:=rfl) (hp:=hp.map (·.1)) (hk:=by rw[hr];apply aH.there;exact aH.all _)
structure Ls where
 v:Value
 xs:List Int
theorem acB{fn:Fn}{first captured:List Value}{F1:List aJ}{X:List Int->Prop}(hit:qR Tryz.prog (λx:Int=>[jc x]) fn first captured F1 X)(hl:∀xs,X xs->xs.length<=1000000):
 aZ Tryz.prog (.func 312) [.slice none 0 0,.func fn ⟨first⟩ ⟨captured⟩] [] [] F1 (λy:Ls=>y.v) (λy=>[ap ae y.v y.xs]) (λ_=>[]) (λy=>X y.xs):=by
 refine FT Rp aaY λB w0=>?_;refine go ?_;intro b2;refine gq ae ?_;refine FQ (λv:Value=>[pt b2 (.cells [v]),ap ae v ([]:List Int)]) (.slice none 0 0) (h:=?_);refine DJ (Z:=Nat) (λ(ys:List Int) (x:Int)=>(ys++[x],Out.normal)) (λys=>[aa4 ae b2 ys]) (λvs ys=>ys=vs) [] _ (λ_ _=>[]) rfl (λvs s x rest hs hX _=>by rw[hs]) hit (by intro s x lo o B w0;refine go ?_;have z0:Nat:=0;exact DI z0 rfl) ?_ ?_ (λ_ _=>trivial)
 ·intro vs s x rest z lo L B w0 hs hx;subst hs;dsimp only[List.cons_append,List.nil_append];have hlen:s.length<=1000000:=by have:=hl _ hx;rw[gB,oq]at this;omega
  refine FP (h:=λv=>?_);refine go ?_;intro b10;refine fe (xs:=s) ae x () (by omega) (next:=λad=>?_);refine go ?_;refine FQ (λv:Value=>[pt b2 (.cells [v]),ap ae v (s++[x])]) _ (h:=?_);exact Am () rfl trivial trivial
 ·intro r xs hX;have hrun:∀(ys zs:List Int),lT (λ(ys:List Int) (x:Int)=>(ys++[x],Out.normal)) ys zs=(ys++zs,.normal):=by
   intro ys zs;induction zs generalizing ys with
   |nil=>simp[lT]
   |cons z zs ih=>rw[lT];simp only[ih];simp
  rw[hrun,dH];dsimp only[List.cons_append,List.nil_append];refine FP (h:=λv=>?_);refine go ?_;exact Dw ⟨v,xs⟩ (hv:=rfl) (hp:=hX)
theorem acC{fn:Fn}{first captured:List Value}{F1:List aJ}{X:List Int->Prop}(hit:qR Tryz.prog (λx:Int=>[jc x]) fn first captured F1 X)(hl:∀xs,X xs->xs.length<=1000000):
 aZ Tryz.prog (.func 289) [.func fn ⟨first⟩ ⟨captured⟩] [] [] F1 (λy:Ls=>y.v) (λy=>[ap ae y.v y.xs]) (λ_=>[]) (λy=>X y.xs):=by
 refine aG Rq aaZ λB w0=>?_;refine go ?_;refine ak (acB hit hl) (next:=λy hy=>?_);dsimp only[List.cons_append,List.nil_append];refine go ?_;exact aa y (hv:=rfl) (hp:=hy)
theorem Sg{fn:Fn}{first captured:List Value}{F1:List aJ}{X:List Int->Prop}(hit:qR Tryz.prog (λx:Int=>[jc x]) fn first captured F1 X)(hl:∀xs,X xs->xs.length<=1000000):
 aZ Tryz.prog (.func 254) [.func fn ⟨first⟩ ⟨captured⟩] [] [] F1 (λy:Ls=>y.v) (λy=>[ap ae y.v (cO y.xs)]) (λ_=>[]) (λy=>X y.xs):=by
 refine aG _ (aM 254) λB w0=>?_;refine go ?_;refine ak (acC hit hl) (next:=λy hy=>?_);obtain⟨v,xs⟩:=y;dsimp only[List.cons_append,List.nil_append]at hy⊢;have hlen:=hl _ hy;refine nX (E:=ae) (v:=v) (xs:=xs) λa hv=>?_;subst hv;refine go ?_;refine ak (Lb (a:=a) (zs:=xs) rfl (by omega)) (next:=λ_ _=>?_);refine go ?_;exact aa ⟨.slice a xs.length xs.length,xs⟩ (hv:=rfl) (hp:=hy)
theorem Ee{g:bz}{vh vc:Value}{fn:Fn}{first captured:List Value}{F1:List aJ}{kf:Int×Int->Int×Bool}(hg:fV g)
 (hk:∀p∈bn g,aZ Tryz.prog fn (first++[yR p.2]) captured [] F1 (λ_:Unit=>.tuple ⟨[.int .i64 (kf p.2).1,.bool (kf p.2).2]⟩) (λ_=>[]) (λ_=>[]) (λ_=>True)):
 aZ Tryz.prog (.func 233) [.agg ⟨iw g vh vc⟩,.func fn ⟨first⟩ ⟨captured⟩] [] [] (ah ae vh g.holes::ah ae vc g.cells::F1) (λv:Value=>v) (λv=>[ap (aj ae) v (jk g kf)]) (λ_=>[]) (λ_=>True):=by
 have hgl:=hg.len;have hsl:=oP g;refine FT _ (aM 233) λB w0=>?_;refine go ?_;intro b2 b3;refine go ?_;refine wS jc (λbm=>?_);refine go ?_;intro b5;refine ZG ae (b:=bm) (aV:=jc) ?_;refine go ?_;refine ak (Lc (g:=g) (vh:=vh) (vc:=vc)) (next:=λbs _=>?_);refine go ?_;refine DJ (Z:=Nat) (λ(m:List (Int×List Int)) (x:Int×(Int×Int))=>(wW kf m x,.normal)) (λm=>[DR jc ae bm m,pt b5 (.cells [.map (some bm)]),pt b3 (.cells [.func fn ⟨first⟩ ⟨captured⟩])]) (λvs m=>m=kg kf vs) [] _ (λx b8=>[pt b8 (.cells [.int .i64 x.2.1,.int .i64 x.2.2])]) rfl (λvs s x rest hs _ _=>by rw[hs,Ku]) (K9 (b1:=bs) (vh:=vh) (vc:=vc) hg) (by intro s x lo o B w0;refine go ?_;intro b8;refine go ?_;exact DI b8 rfl) ?_ ?_ (λ_ _=>trivial)
 ·intro vs s x rest b8 lo L B w0 hs hX;dsimp only[List.cons_append,List.nil_append];obtain⟨hc,hvl,hxm⟩:=Gl hX;have hkx:=hk x hxm;have hin:=Kv kf vs.length vs rfl;rw[<- hs]at hin;have hst:wW kf s x=cond (kf x.2).2 (upd (kf x.2).1 ((dN (kf x.2).1 s).getD []++[x.1]) s) s:=rfl;rw[hst];obtain⟨c,s1,s2⟩:=x;dsimp only at hc hkx hst⊢;subst hc;rcases hq:kf (s1,s2)with⟨kn,kb⟩
  rw[hq]at hkx;dsimp only at hkx⊢;refine go ?_;refine ak hkx (next:=λ_ _=>?_);cases kb with
  |false=>
   dsimp only[cond];refine go ?_;exact Am () rfl trivial trivial
  |true=>
   dsimp only[cond];have hln:=hin.2 kn;refine go ?_;refine ZH (aV:=jc) (E:=ae) (b:=bm) (m:=s) kn (h:=λai v hkeys hv=>?_);refine DC (b:=bm) (ai:=ai) xk kn ?_;rw[hv];refine go ?_;intro b30;refine go ?_;refine Qf (xs:=(dN kn s).getD []) ae (vs.length:Int) () (by omega) (next:=λad=>?_);refine go ?_;refine uU (b:=bm) (v:=.slice ad (((dN kn s).getD []).length+1) (((dN kn s).getD []).length+1)) (ai:=ai) xk kn ?_;refine ZI (E:=ae) (v:=.slice ad (((dN kn s).getD []).length+1) (((dN kn s).getD []).length+1)) (xs:=(dN kn s).getD []++[(vs.length:Int)]) kn hkeys ?_;refine go ?_;exact Am () rfl trivial trivial
 ·intro r xs hX;subst hX;rw[Gy (wW kf)];dsimp only[List.cons_append,List.nil_append];rw[show(bn g).foldl (wW kf) []=kg kf (bn g)from rfl];have hin:=Kv kf _ (bn g) rfl;rw[hsl]at hin;have hL:jk g kf=(cO ((kg kf (bn g)).map (·.1))).map λn=>(dN n (kg kf (bn g))).getD []:=rfl;generalize hm:kg kf (bn g)=m at hin hL⊢;refine ZJ (aV:=jc) (E:=ae) (b:=bm) (m:=m) (λai hkeys=>?_);have hkl:ai.length=m.length:=by have:=congrArg List.length hkeys;simpa using this
  refine bB (Aq (aV:=jc) (b:=bm) (ai:=ai)) (h:=?_);refine bB (ZK (E:=ae) (ai:=ai) (m:=m) hkeys) (h:=?_);refine bB (fG (b:=b5)) (h:=?_);refine go ?_;refine ak (acz (bm:=bm) (ai:=ai)) (next:=λbk _=>?_);refine go ?_;refine ak (Sg (acA (b:=bk) (bm:=bm) (ai:=ai)) (λxs h=>by have:=h.length_eq;rw[di]at this;omega)) (next:=λy hy=>?_);obtain⟨vk,ks⟩:=y;dsimp only[List.cons_append,List.nil_append]at hy⊢;have hks:cO ks=cO (m.map (·.1)):=QM (by rw[<- hkeys];exact hy);rw[hks];have hkn:(cO (m.map (·.1))).length=m.length:=by rw[yP,di]
  have hmem:∀n∈cO (m.map (·.1)),n∈m.map (·.1):=λn h=>vw.1 h;generalize hK:cO (m.map (·.1))=ns at hkn hL hmem⊢;refine bB (gp (E:=ae) (v:=vk) (xs:=ns)) (h:=?_);refine aT (E:=ae) (v:=vk) (xs:=ns) (by simp) λa c e=>?_;subst e;refine go ?_;refine gq (aj ae) ?_;refine aX (λy:Nat×Value=>ns.length - y.1) (λy=>[(36,.int .i64 (y.1:Int)),(4,y.2)]) (λy=>[ap (aj ae) y.2 ((ns.take y.1).map λn=>(dN n m).getD [])]) (λ_=>[]) (λy=>y.1<=ns.length) (0,.slice none 0 0) (bX _) (hk:=by repeat (first|exact aH.nil|(apply aH.cons;(focus (repeat (first|exact ay.here|apply ay.there)))))) (body:=?_);rintro⟨k,v4⟩ hk2;dsimp only at hk2⊢;refine go ?_;refine az rfl (λh1=>?_) (λh1=>?_)
  ·refine go ?_;intro _ _ n hn;obtain⟨v,hv⟩:=DW (a:=n) (l:=ai) (by rw[hkeys];exact hmem n (bJ hn));obtain⟨xs,hxs⟩:=DW (a:=n) (l:=m) (hmem n (bJ hn));have hlv:jU false (.slice none 0 0) n ai=v:=by unfold jU;rw[hv];rfl
   have htk:(ns.take (k+1)).map (λn=>(dN n m).getD [])=(ns.take k).map (λn=>(dN n m).getD [])++[xs]:=by
    rw[bV hn,eX,sS,hxs];rfl
   have hxl:((ns.take k).map (λn=>(dN n m).getD [])).length=k:=by rw[di,gM];omega
   refine eO (ah ae v xs) (λw hw=>hw (Qi ae ai m) (by simp) n v xs hv hxs) ?_;refine aT (E:=ae) (v:=v) (xs:=xs) (by simp) λa2 c2 e2=>?_;subst e2;refine go ?_;refine PR (aV:=jc) (b:=bm) (ai:=ai) xk n ?_;rw[hlv];refine go ?_;intro b44;refine go ?_;refine fe (xs:=(ns.take k).map λn=>(dN n m).getD []) (aj ae) xs (.slice a2 xs.length c2) (by rw[hxl];omega) (next:=λad=>?_);rw[<- htk];refine go ?_;exact aO (k+1,.slice ad (((ns.take k).map λn=>(dN n m).getD []).length+1) (((ns.take k).map λn=>(dN n m).getD []).length+1)) (by show ns.length - (k+1)<ns.length - k;omega) (by show k+1<=_;omega)
  have hke:k=ns.length:=by omega
  subst hke;rw[bK,<- hL];refine go ?_;exact Dw v4 (hv:=rfl) (hp:=trivial)
abbrev Ef(fn:Fn)(first captured:List Value)(F1:List aJ)(g:bz)(kf:Int×Int->Int×Bool):Prop:=
 ∀p∈bn g,aZ Tryz.prog fn (first++[yR p.2]) captured [] F1 (λ_:Unit=>.tuple ⟨[.int .i64 (kf p.2).1,.bool (kf p.2).2]⟩) (λ_=>[]) (λ_=>[]) (λ_=>True)
theorem acD{g:bz}:Ef (.func 234) [] [] [] g (λs=>(s.2,true)):=λp hp=>by
 refine aG _ (aM 234) λB w0=>?_;refine go ?_;intro b1;refine go ?_;exact aa () (hv:=rfl) (hp:=trivial)
theorem acE{g:bz}:Ef (.func 235) [] [] [] g (λs=>(s.1,true)):=λp hp=>by
 refine aG _ (aM 235) λB w0=>?_;refine go ?_;intro b1;refine go ?_;exact aa () (hv:=rfl) (hp:=trivial)
theorem acF{g:bz}(hg:fV g):Ef (.func 266) [] [] [] g (λs=>(s.1+s.2,true)):=λp hp=>by
 have hb:=Gj hg p hp;obtain⟨c,s1,s2⟩:=p;dsimp only at hb⊢;refine aG _ (aM 266) λB w0=>?_;refine go ?_;intro b1;refine go ?_;exact aa () (hv:=rfl) (hp:=trivial)
theorem acG{g:bz}(hg:fV g):Ef (.func 267) [] [] [] g (λs=>(0,decide (s.1=s.2))):=λp hp=>by
 have hb:=Gj hg p hp;refine aG _ (aM 267) λB w0=>?_;refine go ?_;intro b1;refine go ?_;exact aa () (hv:=rfl) (hp:=trivial)
theorem acH{g:bz}{vh vc:Value}{b:Nat}(hg:fV g):Ef (.func 268) [] [ptr' b] [gH b 0 (iw g vh vc)] g (λs=>(0,decide (s.1+s.2=g.w - 1))):=λp hp=>by
 have hb:=Gj hg p hp;obtain⟨c,s1,s2⟩:=p;dsimp only at hb⊢;have hw:=hg.make.wi;refine aG _ (aM 268) λB w0=>?_;refine go ?_;intro b1;refine go ?_;exact aa () (hv:=rfl) (hp:=trivial)
theorem acI{g:bz}{vh vc:Value}(hg:fV g):
 aZ Tryz.prog (.func 236) [.agg ⟨iw g vh vc⟩] [] [] (iV g vh vc) (λv:Value=>v) (λv=>[ap (aj ae) v (lW g)]) (λ_=>[]) (λ_=>True):=by
 refine aG _ (aM 236) λB w0=>?_;refine go ?_;intro b1;refine bB (fG (b:=b1)) (h:=?_);refine go ?_;refine az rfl (λh1=>?_) (λh1=>?_)
 ·refine go ?_;refine ak (Ee (kf:=λs=>(s.1+s.2,true)) (vh:=vh) (vc:=vc) hg (acF hg)) (next:=λv _=>?_);refine go ?_;exact aa v (hv:=rfl) (hp:=trivial) (hk:=by unfold lW;rw[if_pos h1];exact aH.all _)
 refine go ?_;refine az rfl (λh2=>?_) (λh2=>?_)
 ·refine go ?_;refine gq (aj ae) ?_;exact aa (.slice none 0 0) (hv:=rfl) (hp:=trivial) (hk:=by unfold lW;rw[if_neg h1,if_neg h2];exact aH.all _)
 have h2:g.w=g.h:=iF.1 h2;refine go ?_;refine ak (Ee (kf:=λs=>(0,decide (s.1=s.2))) (vh:=vh) (vc:=vc) hg (acG hg)) (next:=λva _=>?_);refine go ?_;refine ak (Ee (kf:=λs=>(0,decide (s.1+s.2=g.w - 1))) (vh:=vh) (vc:=vc) hg (acH (vh:=vh) (vc:=vc) (b:=b1) hg)) (next:=λvb _=>?_);have hA:=QS hg (λs=>(0,decide (s.1=s.2)));have hB:=QS hg (λs=>(0,decide (s.1+s.2=g.w - 1)));have hD:lW g=kM (jk g (λs=>(0,decide (s.1=s.2)))) (jk g (λs=>(0,decide (s.1+s.2=g.w - 1)))):=by unfold lW;rw[if_neg h1,if_pos h2]
 generalize jk g (λs=>(0,decide (s.1=s.2)))=la at hA hD⊢;generalize jk g (λs=>(0,decide (s.1+s.2=g.w - 1)))=lb at hB hD⊢;have hF:=QU hA.2 hB.2;refine bB (gp (E:=aj ae) (v:=vb) (xs:=lb)) (h:=?_);refine aT (E:=aj ae) (v:=vb) (xs:=lb) (by simp) λa c e=>?_;subst e;refine go ?_;refine aX (λy:Nat×Value=>lb.length - y.1) (λy=>[(22,.int .i64 (y.1:Int)),(3,y.2)]) (λy=>[ap (aj ae) y.2 (kM la (lb.take y.1))]) (λ_=>[]) (λy=>y.1<=lb.length) (0,va) (bX _) (hk:=by repeat (first|exact aH.nil|(apply aH.cons;(focus (repeat (first|exact ay.here|apply ay.there)))))) (body:=?_);rintro⟨k,v3⟩ hk2;dsimp only at hk2⊢;have Lt:=hF k;refine go ?_;refine az rfl (λh3=>?_) (λh3=>?_)
 ·refine go ?_;refine aY (aj ae) (xs:=lb) (next:=λ_ _ ln (vl:Value) hl=>?_);have hs:=QT (a:=la) hl;have hll:=hB.2 ln (bJ hl);generalize kM la (lb.take k)=acc at Lt hs⊢;refine nX (E:=aj ae) (v:=v3) (xs:=acc) λa3 e3=>?_;subst e3;refine aT (E:=ae) (v:=vl) (xs:=ln) (by simp) λa4 c4 e4=>?_;subst e4;cases acc with
  |nil=>
   have hs2:kM la (lb.take (k+1))=[]++[ln]:=hs;refine go ?_;intro b39;refine go ?_;refine fe (xs:=([]:List (List Int))) (aj ae) ln (.slice a4 ln.length c4) (by simp) (next:=λad=>?_);rw[<- hs2];refine go ?_;exact aO (k+1,.slice ad (([]:List (List Int)).length+1) (([]:List (List Int)).length+1)) (by show lb.length - (k+1)<lb.length - k;omega) (by show k+1<=_;omega)
  |cons a0 acc=>
   have ha0:=Lt.2 a0 (dx ..);refine go ?_;refine F7 ae 0 a0 rfl (next:=λ_ _ u=>?_);refine go ?_;refine ak (y5 (xs:=a0) (ys:=ln) (by omega)) (next:=λ_ _=>?_);by_cases h4:a0=ln
   rotate_left
   ·rw[aR h4];have hs2:kM la (lb.take (k+1))=(a0::acc)++[ln]:=by rw[hs];unfold vo;rw[if_neg (show¬((a0::acc).head? =some ln)from λe=>h4 (Option.some.inj e))]
    refine go ?_;intro b39;refine go ?_;refine fe (xs:=a0::acc) (aj ae) ln (.slice a4 ln.length c4) (by have:=Lt.1;omega) (next:=λad=>?_);rw[<- hs2];refine go ?_;exact aO (k+1,.slice ad ((a0::acc).length+1) ((a0::acc).length+1)) (by show lb.length - (k+1)<lb.length - k;omega) (by show k+1<=_;omega)
   ·rw[eB h4];have hs2:kM la (lb.take (k+1))=a0::acc:=by rw[hs];unfold vo;rw[if_pos (by rw[h4];rfl)]
    rw[show ap (aj ae) (Value.slice a3 (a0::acc).length (a0::acc).length) (a0::acc)=ap (aj ae) (Value.slice a3 (a0::acc).length (a0::acc).length) (kM la (lb.take (k+1)))from congrArg _ hs2.symm];refine go ?_;exact aO (k+1,.slice a3 (a0::acc).length (a0::acc).length) (by show lb.length - (k+1)<lb.length - k;omega) (by show k+1<=_;omega)
 have hke:k=lb.length:=by omega
 subst hke;rw[bK,<- hD];refine go ?_;exact aa v3 (hv:=rfl) (hp:=trivial)
theorem acK{c:Nat}:aZ Tryz.prog (.func 228) [.slice none 0 c] [] [] [] (λ_:Unit=>.slice none 0 0) (λ_=>[]) (λ_=>[]) (λ_=>True):=by
 refine aG K4 RP λB w0=>?_;refine go ?_;refine(fq rfl rfl (F3 (e:=3) (by kernel_rfl) rfl)).h ?_;refine go ?_;exact aa () (hv:=rfl) (hp:=trivial)
theorem acL{v:Value}{xs:List Int}(hl:xs.length<=4096):aZ Tryz.prog (.func 228) [v] [] [] [ah ae v xs,F8 v xs] (λv':Value=>v') (λv'=>[ap ae v' xs]) (λ_=>[]) (λ_=>True):=by
 intro B w s;by_cases hx:xs=[]
 ·have hv:v=.slice none 0 0:=s.facts (F8 v xs) (dA _ (dx ..)) hx;subst hx hv;refine .qL _ (acK (c:=0) B w ⟨s.agree,s.le,s.fM,s.own,λf hf=>(by cases hf)⟩) ?_;rintro r pm h' ⟨hp,w',y,e1,st,e2,_⟩;obtain⟨S,q1,q2,q3⟩:=st.own;exact⟨hp,w',.slice none 0 0,e1,⟨st.agree,st.le,st.fM,⟨S,⟨[],S,.inl ⟨rfl,rfl,rfl⟩,q1,rfl⟩,q2,q3⟩,st.facts⟩,e2,trivial⟩
 ·obtain⟨ax,h1,h2⟩:=PZ (s.facts (ah ae v xs) (dx ..));have hlen:ax.length=xs.length:=by rw[<- h1,di]
  refine .qL _ (RU (v:=v) (ax:=ax) (by omega) B w ⟨s.agree,s.le,s.fM,s.own,λf hf=>by rw[bG.1 hf];exact h2⟩) ?_;rintro r pm h' ⟨hp,w',y,e1,st,e2,_⟩;subst h1;exact⟨hp,w',y,e1,st.Qs (by rw[hlen];exact xI.2 hx) (λp hp f hf=>by cases hf),e2,trivial⟩
abbrev GG(g:bz)(k:Int)(y:Ld):List aJ:=[lG (y.e=0) (ah (aj ae) y.v (dM g k))]
theorem acM{g:bz}{vh vc:Value}{k:Int}(hS:oV g):
 aZ Tryz.prog (.func 154) [.agg ⟨iw g vh vc⟩,.int .i64 k] [] [] (iV g vh vc) tV (λ_=>[]) (λy=>GG g k y) (λy=>y.e=0↔fV g/\0<=k/\k<=7):=by
 refine aG _ (aM 154) λB w0=>?_;refine go ?_;intro b2;refine bB (fG (b:=b2)) (h:=?_);refine go ?_;refine ak (R3 (g:=g) (vh:=vh) (vc:=vc) hS) (next:=λy hy=>?_);obtain⟨vn,e⟩:=y;dsimp only at hy⊢;refine go ?_;refine az rfl (λh1=>?_) (λh1=>?_)
 ·refine go ?_;refine kR (c:=e=0) (f:=ah (aj ae) (.slice none 0 0) (dM g k)) h1 ?_;exact aa ⟨.slice none 0 0,e⟩ (hv:=rfl) (hp:=⟨(λh=>absurd h h1),λh=>absurd (hy.2 h.1) h1⟩)
 have he:e=0:=iF.1 h1;subst he;have hg:=hy.1 rfl;have hgl:=hg.len;have hnl:=AP g;have hnm:=Q0 (g:=g);refine eO (ah (qX ae) vn (bD g)) (λw hw=>hw (lG ((0:Int)=0) (ah (qX ae) vn (bD g))) (by simp) rfl) ?_;refine eO (ah (aj ae) vn (bD g)) (λw hw=>Qr (hw (ah (qX ae) vn (bD g)) (by simp))) ?_;refine aT (E:=aj ae) (v:=vn) (xs:=bD g) (by simp) λan cn en=>?_;subst en;refine go ?_;refine az rfl (λhk=>?_) (λhk0=>?_)
 ·subst hk;have hf:dM g 0=mo g.cells.length:=by simp[dM]
  refine go ?_;refine gq (aj ae) ?_;refine aX (λy:Nat×Value=>g.cells.length - y.1) (λy=>[(31,.int .i64 (y.1:Int)),(4,y.2)]) (λy=>[ap (aj ae) y.2 (mo y.1)]) (λ_=>[]) (λy=>y.1<=g.cells.length) (0,.slice none 0 0) (bX _) (hk:=by repeat (first|exact aH.nil|(apply aH.cons;(focus (repeat (first|exact ay.here|apply ay.there)))))) (body:=?_);rintro⟨i,v4⟩ hi;dsimp only at hi⊢;have hil:=QW i;refine go ?_;refine az rfl (λh2=>?_) (λh2=>?_)
  ·refine go ?_;intro vH xm;refine bB (A:=pt vH (.cells [.int .i64 (i:Int)])) (fs:=[ah ae (.slice (some ⟨vH,0,some 0⟩) 1 1) [(i:Int)]]) (yF (b:=vH) (f:=0) (c:=1) (xs:=[(i:Int)])) (h:=?_);refine go ?_;refine fe (xs:=mo i) (aj ae) [(i:Int)] (.slice (some ⟨vH,0,some 0⟩) 1 1) (by omega) (next:=λad=>?_);rw[<- QV];refine go ?_;exact aO (i+1,.slice ad ((mo i).length+1) ((mo i).length+1)) (by show g.cells.length - (i+1)<g.cells.length - i;omega) (by show i+1<=_;omega)
  have hie:i=g.cells.length:=by omega
  subst hie;refine bB (gp (E:=aj ae) (v:=v4) (xs:=mo g.cells.length)) (h:=?_);refine go ?_;refine ku (c:=(0:Int)=0) (f:=ah (aj ae) v4 (dM g 0)) (by rw[hf];simp) ?_;exact aa ⟨v4,0⟩ (hv:=rfl) (hp:=⟨λ_=>⟨hg,by omega,by omega⟩,λ_=>rfl⟩)
 refine go ?_;refine az rfl (λhk=>?_) (λhk1=>?_)
 ·subst hk;have hf:dM g 1=jk g (λs=>(s.2,true)):=by simp[dM]
  refine go ?_;refine ak (Ee (kf:=λs=>(s.2,true)) (vh:=vh) (vc:=vc) hg acD) (next:=λv4 _=>?_);refine bB (gp (E:=aj ae) (v:=v4) (xs:=jk g (λs=>(s.2,true)))) (h:=?_);refine go ?_;refine ku (c:=(0:Int)=0) (f:=ah (aj ae) v4 (dM g 1)) (by rw[hf];simp) ?_;exact aa ⟨v4,0⟩ (hv:=rfl) (hp:=⟨λ_=>⟨hg,by omega,by omega⟩,λ_=>rfl⟩)
 refine go ?_;refine az rfl (λhk=>?_) (λhk2=>?_)
 ·subst hk;have hf:dM g 2=jk g (λs=>(s.1,true)):=by simp[dM]
  refine go ?_;refine ak (Ee (kf:=λs=>(s.1,true)) (vh:=vh) (vc:=vc) hg acE) (next:=λv4 _=>?_);refine bB (gp (E:=aj ae) (v:=v4) (xs:=jk g (λs=>(s.1,true)))) (h:=?_);refine go ?_;refine ku (c:=(0:Int)=0) (f:=ah (aj ae) v4 (dM g 2)) (by rw[hf];simp) ?_;exact aa ⟨v4,0⟩ (hv:=rfl) (hp:=⟨λ_=>⟨hg,by omega,by omega⟩,λ_=>rfl⟩)
 refine go ?_;refine az rfl (λhk=>?_) (λhk3=>?_)
 ·subst hk;have hf:dM g 3=lW g:=by simp[dM]
  refine go ?_;refine ak (acI (vh:=vh) (vc:=vc) hg) (next:=λv4 _=>?_);refine bB (gp (E:=aj ae) (v:=v4) (xs:=lW g)) (h:=?_);refine go ?_;refine ku (c:=(0:Int)=0) (f:=ah (aj ae) v4 (dM g 3)) (by rw[hf];simp) ?_;exact aa ⟨v4,0⟩ (hv:=rfl) (hp:=⟨λ_=>⟨hg,by omega,by omega⟩,λ_=>rfl⟩)
 refine go ?_;refine az rfl (λhk=>?_) (λhk4=>?_)
 ·subst hk;have hf:dM g 4=bD g:=by simp[dM]
  refine go ?_;refine ku (c:=(0:Int)=0) (f:=ah (aj ae) (.slice an (bD g).length cn) (dM g 4)) (by rw[hf];simp) ?_;exact aa ⟨.slice an (bD g).length cn,0⟩ (hv:=rfl) (hp:=⟨λ_=>⟨hg,by omega,by omega⟩,λ_=>rfl⟩)
 refine go ?_;refine az rfl (λhk=>?_) (λhk5=>?_)
 ·subst hk;have hf:dM g 5=lq (bD g):=by simp[dM]
  generalize bD g=bR at hnl hnm hf⊢;refine go ?_;refine gq (aj ae) ?_;refine aX (λy:Nat×Value=>bR.length - y.1) (λy=>[(59,.int .i64 (y.1:Int)),(4,y.2)]) (λy=>[ap (aj ae) y.2 (lq (bR.take y.1))]) (λ_=>[]) (λy=>y.1<=bR.length) (0,.slice none 0 0) (bX _) (hk:=by repeat (first|exact aH.nil|(apply aH.cons;(focus (repeat (first|exact ay.here|apply ay.there)))))) (body:=?_);rintro⟨i,v4⟩ hi;dsimp only at hi⊢;have hil:(lq (bR.take i)).length=i:=by rw[QY,gM];omega
  refine go ?_;refine az rfl (λh2=>?_) (λh2=>?_)
  ·refine go ?_;refine aY (qX ae) (xs:=bR) (next:=λ_ _ ln (vl:Value) hl=>?_);have hll:=hnm ln (bJ hl);refine go ?_;refine ak (acL (v:=vl) (xs:=ln) (by omega)) (next:=λvc2 _=>?_);refine go ?_;intro b67;refine go ?_;refine fe (xs:=ln) ae (i:Int) () (by omega) (next:=λad=>?_);refine go ?_;have hl1:ln.length+1=(ln++[(i:Int)]).length:=by simp
   rw[hl1];refine ak (Lb (a:=ad) (zs:=ln++[(i:Int)]) rfl (by simp;omega)) (next:=λ_ _=>?_);have hz0:cO (ln++[(i:Int)])≠[]:=λe=>by have:=yP (ln++[(i:Int)]);rw[e]at this;simp at this
   have hfs:=QX hl;generalize hzz:cO (ln++[(i:Int)])=zs at hfs⊢;refine bB (gp (E:=ae) (v:=.slice ad (ln++[(i:Int)]).length (ln++[(i:Int)]).length) (xs:=zs)) (h:=?_);refine go ?_;intro b73;refine go ?_;refine fe (xs:=lq (bR.take i)) (aj ae) zs (.slice ad (ln++[(i:Int)]).length (ln++[(i:Int)]).length) (by omega) (next:=λqf=>?_);rw[<- hfs];refine go ?_;exact aO (i+1,.slice qf ((lq (bR.take i)).length+1) ((lq (bR.take i)).length+1)) (by show bR.length - (i+1)<bR.length - i;omega) (by show i+1<=_;omega)
  have hie:i=bR.length:=by omega
  subst hie;rw[bK];refine bB (gp (E:=aj ae) (v:=v4) (xs:=lq bR)) (h:=?_);refine go ?_;refine ku (c:=(0:Int)=0) (f:=ah (aj ae) v4 (dM g 5)) (by rw[hf];simp) ?_;exact aa ⟨v4,0⟩ (hv:=rfl) (hp:=⟨λ_=>⟨hg,by omega,by omega⟩,λ_=>rfl⟩)
 refine go ?_;refine az rfl (λhk=>?_) (λhk6=>?_)
 ·subst hk;have hf:dM g 6=iD (bD g):=by simp[dM]
  generalize bD g=bR at hnl hnm hf⊢;have h6:=Kz hnm;refine go ?_;refine gq (aj ae) ?_;refine aX (λy:Nat×Value=>bR.length - y.1) (λy=>[(80,.int .i64 (y.1:Int)),(4,y.2)]) (λy=>[ap (aj ae) y.2 (iD (bR.take y.1))]) (λ_=>[]) (λy=>y.1<=bR.length) (0,.slice none 0 0) (bX _) (hk:=by repeat (first|exact aH.nil|(apply aH.cons;(focus (repeat (first|exact ay.here|apply ay.there)))))) (body:=?_);rintro⟨i,v4⟩ hi;dsimp only at hi⊢;have hil:=h6 i hi;refine go ?_;refine az rfl (λh2=>?_) (λh2=>?_)
  ·refine go ?_;refine aY (aj ae) (xs:=bR) (next:=λ_ _ ln (vl:Value) hl=>?_);have hll:=hnm ln (bJ hl);have hfs:=Ky hl;refine aT (E:=ae) (v:=vl) (xs:=ln) (by simp) λa4 c4 e4=>?_;subst e4;refine go ?_;refine aX (λy:Nat×Value=>ln.length - y.1) (λy=>[(87,.int .i64 (y.1:Int)),(4,y.2)]) (λy=>[ap (aj ae) y.2 (iD (bR.take i)++jv i (ln.take y.1))]) (λ_=>[]) (λy=>y.1<=ln.length) (0,v4) (bX _) (hk:=by rw[show iD (bR.take i)++jv i (ln.take 0)=iD (bR.take i)from gD _];repeat (first|exact aH.nil|(apply aH.cons;(focus (repeat (first|exact ay.here|apply ay.there)))))) (body:=?_);rintro⟨j,v5⟩ hj;dsimp only at hj⊢;have hpl:=Kw i (ln.take j);rw[gM]at hpl;have hal:(iD (bR.take i)++jv i (ln.take j)).length<=2000:=by rw[gB];omega
   refine go ?_;refine az rfl (λh3=>?_) (λh3=>?_)
   ·refine go ?_;intro _ _ x hx;have hps:=QZ (i:=i) hx;refine go ?_;refine az rfl (λh4=>?_) (λh4=>?_)
    ·have za:iD (bR.take i)++jv i (ln.take (j+1))=(iD (bR.take i)++jv i (ln.take j))++[[(i:Int),x]]:=by rw[hps,if_pos (by omega),fE]
     refine go ?_;intro vI b98;refine bB (A:=pt vI (.cells [.int .i64 (i:Int),.int .i64 x])) (fs:=[ah ae (.slice (some ⟨vI,0,some 0⟩) 2 2) [(i:Int),x]]) (yF (b:=vI) (f:=0) (c:=2) (xs:=[(i:Int),x])) (h:=?_);refine go ?_;refine fe (xs:=iD (bR.take i)++jv i (ln.take j)) (aj ae) [(i:Int),x] (.slice (some ⟨vI,0,some 0⟩) 2 2) (by omega) (next:=λqf=>?_);rw[<- za];refine go ?_;exact aO (j+1,.slice qf ((iD (bR.take i)++jv i (ln.take j)).length+1) ((iD (bR.take i)++jv i (ln.take j)).length+1)) (by show ln.length - (j+1)<ln.length - j;omega) (by show j+1<=_;omega)
    ·have za:iD (bR.take i)++jv i (ln.take (j+1))=iD (bR.take i)++jv i (ln.take j):=by rw[hps,if_neg (by omega),gD]
     rw[<- za];refine go ?_;exact aO (j+1,v5) (by show ln.length - (j+1)<ln.length - j;omega) (by show j+1<=_;omega)
   have jM:j=ln.length:=by omega
   subst jM;rw[bK,<- hfs];refine go ?_;exact aO (i+1,v5) (by show bR.length - (i+1)<bR.length - i;omega) (by show i+1<=_;omega)
  have hie:i=bR.length:=by omega
  subst hie;rw[bK];refine bB (gp (E:=aj ae) (v:=v4) (xs:=iD bR)) (h:=?_);refine go ?_;refine ku (c:=(0:Int)=0) (f:=ah (aj ae) v4 (dM g 6)) (by rw[hf];simp) ?_;exact aa ⟨v4,0⟩ (hv:=rfl) (hp:=⟨λ_=>⟨hg,by omega,by omega⟩,λ_=>rfl⟩)
 refine go ?_;refine az rfl (λhk=>?_) (λhk7=>?_)
 ·subst hk;have hf:dM g 7=[upTo' g.cells.length]:=by simp[dM]
  refine go ?_;refine gq ae ?_;refine aX (λy:Nat×Value=>g.cells.length - y.1) (λy=>[(107,.int .i64 (y.1:Int)),(15,y.2)]) (λy=>[ap ae y.2 (upTo' y.1)]) (λ_=>[]) (λy=>y.1<=g.cells.length) (0,.slice none 0 0) (bX _) (hk:=by repeat (first|exact aH.nil|(apply aH.cons;(focus (repeat (first|exact ay.here|apply ay.there)))))) (body:=?_);rintro⟨i,v15⟩ hi;dsimp only at hi⊢;have hil:=sG i;refine go ?_;refine az rfl (λh2=>?_) (λh2=>?_)
  ·refine go ?_;intro agv;refine go ?_;refine fe (xs:=upTo' i) ae (i:Int) () (by omega) (next:=λad=>?_);rw[<- tK];refine go ?_;exact aO (i+1,.slice ad ((upTo' i).length+1) ((upTo' i).length+1)) (by show g.cells.length - (i+1)<g.cells.length - i;omega) (by show i+1<=_;omega)
  have hie:i=g.cells.length:=by omega
  subst hie;refine bB (gp (E:=ae) (v:=v15) (xs:=upTo' g.cells.length)) (h:=?_);refine aT (E:=ae) (v:=v15) (xs:=upTo' g.cells.length) (by simp) λa4 c4 e4=>?_;subst e4;refine go ?_;intro GH;refine bB (fG (b:=GH)) (h:=?_);refine eO (ah (aj ae) (y9 GH 1) [upTo' g.cells.length]) (λw hw=>Pj (v:=.slice a4 (upTo' g.cells.length).length c4) (hw _ (by simp)) (hw _ (by simp))) ?_;refine go ?_;refine ku (c:=(0:Int)=0) (f:=ah (aj ae) (y9 GH 1) (dM g 7)) (by rw[hf];simp) ?_;exact aa ⟨y9 GH 1,0⟩ (hv:=rfl) (hp:=⟨λ_=>⟨hg,by omega,by omega⟩,λ_=>rfl⟩)
 refine go ?_;refine kR (c:=(1:Int)=0) (f:=ah (aj ae) (.slice none 0 0) (dM g k)) (by omega) ?_;exact aa ⟨.slice none 0 0,1⟩ (hv:=rfl) (hp:=⟨(λh=>by cases h),(λh=>by exfalso;obtain⟨_,q1,q2⟩:=h;omega)⟩)
abbrev GI(g:bz)(rs:List (List Int))(y:Ld):List aJ:=[lG (y.e=0) (ah (aj ae) y.v (dP g rs))]
theorem Si{g:bz}{vh vc vr:Value}{rs:List (List Int)}(hS:oV g)(hrl:rs.length<9223372036854775808)(hrs:∀ps∈rs,ps.length<9223372036854775808):
 aZ Tryz.prog (.func 155) [.agg ⟨iw g vh vc⟩,vr] [] [] (ah (aj ae) vr rs::iV g vh vc) tV (λ_=>[]) (λy=>GI g rs y) (λy=>y.e=0↔fV g/\KC g rs):=by
 refine aG _ (aM 155) λB w0=>?_;refine aT (E:=aj ae) (v:=vr) (xs:=rs) (by simp) λar cr er=>?_;subst er;refine go ?_;intro b2;refine bB (fG (b:=b2)) (h:=?_);refine go ?_;refine ak (RY (g:=g) hS) (next:=λe he=>?_);refine go ?_;first|with_reducible refine aL (λh1=>?_) (λh1=>?_)|with_reducible refine aK (λh1=>?_) (λh1=>?_)|with_reducible refine aI (λh1=>?_) (λh1=>?_)
 rotate_left
 ·refine go ?_;refine kR (c:=(130:Int)=0) (f:=ah (aj ae) (.slice none 0 0) (dP g rs)) (by omega) ?_;exact aa ⟨.slice none 0 0,130⟩ (hv:=rfl) (hp:=⟨(λh=>by cases h),λh=>absurd (he.2 h.1) h1⟩)
 have hg:=he.1 (by omega);have hgl:=hg.len;have lu:g.cells.Pairwise (·<·):=by rw[hg.cells];exact Ko _ _
 refine go ?_;refine az rfl (λh2=>?_) (λh2=>?_)
 ·refine go ?_;refine kR (c:=(130:Int)=0) (f:=ah (aj ae) (.slice none 0 0) (dP g rs)) (by omega) ?_;exact aa ⟨.slice none 0 0,130⟩ (hv:=rfl) (hp:=⟨(λh=>by cases h),λh=>by exfalso;have:=h.2.len;omega⟩)
 refine go ?_;refine gq (aj ae) ?_;refine aX (λy:Nat×Value=>rs.length - y.1) (λy=>[(24,.int .i64 (y.1:Int)),(4,y.2)]) (λy=>[ap (aj ae) y.2 (dP g (rs.take y.1))]) (λ_=>[]) (λy=>y.1<=rs.length/\∀ps∈rs.take y.1,wY g ps) (0,.slice none 0 0) ⟨bX _,λps h=>by cases h⟩ (hk:=by repeat (first|exact aH.nil|(apply aH.cons;(focus (repeat (first|exact ay.here|apply ay.there)))))) (body:=?_);rintro⟨k,v4⟩ ⟨hk,hall⟩;dsimp only at hk hall⊢;have hkl:(dP g (rs.take k)).length=k:=by unfold dP;rw[di,gM];omega
 refine go ?_;refine az rfl (λh3=>?_) (λh3=>?_)
 ·refine go ?_;refine aY (aj ae) (xs:=rs) (next:=λ_ _ ps (vp:Value) hps=>?_);have hpm:=bJ hps;have hpl:=hrs ps hpm;have htk:=bV hps;refine aT (E:=ae) (v:=vp) (xs:=ps) (by simp) λa4 c4 e4=>?_;subst e4;refine go ?_;refine wS jc (λbm=>?_);refine go ?_;refine gq ae ?_;refine aX (λy:Nat×Value=>ps.length - y.1) (λy=>[(31,.int .i64 (y.1:Int)),(8,y.2)]) (λy=>[ap ae y.2 (eF g (ps.take y.1)),gy jc bm (wX (eF g (ps.take y.1)))]) (λ_=>[]) (λy=>y.1<=ps.length/\(∀p∈ps.take y.1,p∈g.cells)/\(eF g (ps.take y.1)).Nodup) (0,.slice none 0 0) ⟨bX _,(λp h=>by cases h),um⟩ (hk:=by repeat (first|exact aH.nil|(apply aH.cons;(focus (repeat (first|exact ay.here|apply ay.there)))))) (body:=?_);rintro⟨j,v8⟩ ⟨hj,hmem,hnd⟩;dsimp only at hj hmem hnd⊢;have hjl:(eF g (ps.take j)).length=j:=by unfold eF;rw[di,gM];omega
  have hj2:j<=256:=by have:=KD hmem hnd;rw[gM]at this;omega
  refine go ?_;refine az rfl (λh4=>?_) (λh4=>?_)
  ·refine go ?_;intro _ _ x hx;have htx:=bV hx;refine go ?_;refine ak (RQ (xs:=g.cells) (z:=x) (by omega) (lu.imp λh=>Int.le_of_lt h)) (next:=λy hy=>?_);have hym:=hy.mem lu;obtain⟨c,ok⟩:=y;dsimp only at hym⊢;cases ok with
   |false=>
    refine go ?_;refine kR (c:=(130:Int)=0) (f:=ah (aj ae) (.slice none 0 0) (dP g rs)) (by omega) ?_;exact aa ⟨.slice none 0 0,130⟩ (hv:=rfl) (hp:=⟨(λh=>by cases h),λh=>by
     have:=hym.2 ((h.2.all ps hpm).mem x (bJ hx));cases this⟩)
   |true=>
    have hxm:=hym.1 rfl;have AX:g.cells[c]? =some x:=hy.2.2.2.1 rfl;have hpos:=KA lu AX;have hr1:eF g (ps.take (j+1))=eF g (ps.take j)++[(c:Int)]:=by unfold eF;rw[htx,eX,sS,hpos]
    refine go ?_;refine DC (aV:=jc) (b:=bm) (ai:=wX (eF g (ps.take j))) xk (c:Int) ?_;rw[aat];refine go ?_;refine az rfl (λh5=>?_) (λh5=>?_)
    ·refine go ?_;refine kR (c:=(130:Int)=0) (f:=ah (aj ae) (.slice none 0 0) (dP g rs)) (by omega) ?_;exact aa ⟨.slice none 0 0,130⟩ (hv:=rfl) (hp:=⟨(λh=>by cases h),λh=>by
      exfalso
      have h6:(eF g ps).Nodup:=(h.2.all ps hpm).nd;have h7:(eF g (ps.take (j+1))).Nodup:=by
       refine h6.sublist ?_;unfold eF;exact(MG _ _).map _
      rw[hr1,iA]at h7;exact h7.2.2 _ h5 _ (bG.2 rfl) rfl⟩)
    ·refine go ?_;refine uU (aV:=jc) (b:=bm) (v:=.bool true) (ai:=wX (eF g (ps.take j))) xk (c:Int) ?_;rw[<- Q4,<- hr1];refine go ?_;intro b53;refine go ?_;refine fe (xs:=eF g (ps.take j)) ae (c:Int) () (by omega) (next:=λad=>?_);rw[<- hr1];refine go ?_;refine aO (j+1,.slice ad ((eF g (ps.take j)).length+1) ((eF g (ps.take j)).length+1)) (by show ps.length - (j+1)<ps.length - j;omega) ⟨by show j+1<=_;omega,?_,?_⟩
     ·show∀p∈ps.take (j+1),p∈g.cells;rw[htx];intro p hp;rcases dZ.1 hp with hp|hp
      ·exact hmem p hp
      ·rw[bG.1 hp];exact hxm
     ·show(eF g (ps.take (j+1))).Nodup;rw[hr1,iA];exact⟨hnd,by simp,λa ha b hb e=>h5 (by rw[bG.1 hb]at e;rw[<- e];exact ha)⟩
  have jM:j=ps.length:=by omega
  subst jM;rw[bK]at hmem hnd⊢;have hrl2:(eF g ps).length=ps.length:=by unfold eF;rw[di]
  refine nX (E:=ae) (v:=v8) (xs:=eF g ps) λa8 e8=>?_;subst e8;refine go ?_;refine az rfl (λh5=>?_) (λh5=>?_)
  ·refine go ?_;refine kR (c:=(130:Int)=0) (f:=ah (aj ae) (.slice none 0 0) (dP g rs)) (by omega) ?_;exact aa ⟨.slice none 0 0,130⟩ (hv:=rfl) (hp:=⟨(λh=>by cases h),λh=>by
    exfalso
    exact(h.2.all ps hpm).ne (jl.1 (by omega))⟩)
  have hR:wY g ps:=⟨λe=>h5 (by rw[hrl2,e];rfl),hmem,hnd⟩
  have hrr:dP g (rs.take (k+1))=dP g (rs.take k)++[eF g ps]:=by unfold dP;rw[htk,eX,sS]
  refine bB (gp (E:=ae) (v:=.slice a8 (eF g ps).length (eF g ps).length) (xs:=eF g ps)) (h:=?_);refine go ?_;intro b61;refine go ?_;refine fe (xs:=dP g (rs.take k)) (aj ae) (eF g ps) (.slice a8 (eF g ps).length (eF g ps).length) (by omega) (next:=λad=>?_);rw[<- hrr];refine go ?_;refine aO (k+1,.slice ad ((dP g (rs.take k)).length+1) ((dP g (rs.take k)).length+1)) (by show rs.length - (k+1)<rs.length - k;omega) ⟨by show k+1<=_;omega,?_⟩;show∀qs∈rs.take (k+1),wY g qs;rw[htk];intro qs hq;rcases dZ.1 hq with hq|hq
  ·exact hall qs hq
  ·rw[bG.1 hq];exact hR
 have hke:k=rs.length:=by omega
 subst hke;rw[bK]at hall⊢;refine bB (gp (E:=aj ae) (v:=v4) (xs:=dP g rs)) (h:=?_);refine go ?_;refine ku (c:=(0:Int)=0) (f:=ah (aj ae) v4 (dP g rs)) (by simp) ?_;exact aa ⟨v4,0⟩ (hv:=rfl) (hp:=⟨λ_=>⟨hg,by omega,hall⟩,λ_=>rfl⟩)
